/-
  Each function that the law reaches is as its plain model says. No condition.
-/
import Derived.Test.YtinnndploiloeaaGreatDoorQu
set_option linter.all false
set_option maxRecDepth 100000
namespace Go.Proofs.SeatO
open Go.Dn Go.Md Go.Proofs

def anns_kit_IsName : List (Nat × Ann) := []

noncomputable def sp_kit_IsName : FSpec := ⟨[.val .str], [.val .bool], fun x => kit_IsName x.1⟩

noncomputable def cx_kit_IsName : Cx := ⟨Tryz.prog, [(106, sp_strings_Trim)]⟩

theorem den_kit_IsName : ∀ x, denF cx_kit_IsName anns_kit_IsName none Tryz.f71 sp_kit_IsName x = sp_kit_IsName.m x := by intro x; kernel_rfl

theorem hb_kit_IsName : HasBody Tryz.prog 71 := has_body (fn := Tryz.f71) (by kernel_rfl) rfl (by decide)

theorem ok_kit_IsName : FunOk Tryz.prog 71 sp_kit_IsName := fun_ok (X := cx_kit_IsName) (.cons ok_strings_Trim hb_strings_Trim (.nil _)) (by kernel_rfl) sp_kit_IsName anns_kit_IsName none (by kernel_rfl) (fun x y h => (den_kit_IsName x).trans h)

def anns_kit_Outside : List (Nat × Ann) := []

noncomputable def sp_kit_Outside : FSpec := ⟨[.val tI, .val tI, .val tI], [.val .bool], fun x => kit_Outside x.1 x.2.1 x.2.2.1⟩

noncomputable def cx_kit_Outside : Cx := ⟨Tryz.prog, []⟩

theorem den_kit_Outside : ∀ x, denF cx_kit_Outside anns_kit_Outside none Tryz.f19 sp_kit_Outside x = sp_kit_Outside.m x := by intro x; kernel_rfl

theorem hb_kit_Outside : HasBody Tryz.prog 19 := has_body (fn := Tryz.f19) (by kernel_rfl) rfl (by decide)

theorem ok_kit_Outside : FunOk Tryz.prog 19 sp_kit_Outside := fun_ok (X := cx_kit_Outside) (.nil _) (by kernel_rfl) sp_kit_Outside anns_kit_Outside none (by kernel_rfl) (fun x y h => (den_kit_Outside x).trans h)

def anns_kit_IsDay : List (Nat × Ann) := []

noncomputable def sp_kit_IsDay : FSpec := ⟨[.val tI], [.val .bool], fun x => kit_IsDay x.1⟩

noncomputable def cx_kit_IsDay : Cx := ⟨Tryz.prog, [(19, sp_kit_Outside)]⟩

theorem den_kit_IsDay : ∀ x, denF cx_kit_IsDay anns_kit_IsDay none Tryz.f43 sp_kit_IsDay x = sp_kit_IsDay.m x := by intro x; kernel_rfl

theorem hb_kit_IsDay : HasBody Tryz.prog 43 := has_body (fn := Tryz.f43) (by kernel_rfl) rfl (by decide)

theorem ok_kit_IsDay : FunOk Tryz.prog 43 sp_kit_IsDay := fun_ok (X := cx_kit_IsDay) (.cons ok_kit_Outside hb_kit_Outside (.nil _)) (by kernel_rfl) sp_kit_IsDay anns_kit_IsDay none (by kernel_rfl) (fun x y h => (den_kit_IsDay x).trans h)

def anns_amount_CheckDecimal : List (Nat × Ann) := []

noncomputable def sp_amount_CheckDecimal : FSpec := ⟨[.val t_api_Decimal], [.val tI], fun x => amount_CheckDecimal x.1⟩

noncomputable def cx_amount_CheckDecimal : Cx := ⟨Tryz.prog, [(19, sp_kit_Outside)]⟩

theorem den_amount_CheckDecimal : ∀ x, denF cx_amount_CheckDecimal anns_amount_CheckDecimal none Tryz.f143 sp_amount_CheckDecimal x = sp_amount_CheckDecimal.m x := by intro x; kernel_rfl

theorem hb_amount_CheckDecimal : HasBody Tryz.prog 143 := has_body (fn := Tryz.f143) (by kernel_rfl) rfl (by decide)

theorem ok_amount_CheckDecimal : FunOk Tryz.prog 143 sp_amount_CheckDecimal := fun_ok (X := cx_amount_CheckDecimal) (.cons ok_kit_Outside hb_kit_Outside (.nil _)) (by kernel_rfl) sp_amount_CheckDecimal anns_amount_CheckDecimal none (by kernel_rfl) (fun x y h => (den_amount_CheckDecimal x).trans h)

def anns_order_power : List (Nat × Ann) := [(3, ⟨[(3, .val tI), (4, .val tI), (5, .val tI)], [], [], fuelOf _⟩),
  (200003, ⟨[(3, .val tI)], [], [], fun _ => 0⟩)]

noncomputable def sp_order_power : FSpec := ⟨[.val tI], [.val tI], fun x => order_power x.1⟩

noncomputable def cx_order_power : Cx := ⟨Tryz.prog, []⟩

theorem den_order_power : ∀ x, denF cx_order_power anns_order_power none Tryz.f73 sp_order_power x = sp_order_power.m x := by intro x; kernel_rfl

theorem hb_order_power : HasBody Tryz.prog 73 := has_body (fn := Tryz.f73) (by kernel_rfl) rfl (by decide)

theorem ok_order_power : FunOk Tryz.prog 73 sp_order_power := fun_ok (X := cx_order_power) (.nil _) (by kernel_rfl) sp_order_power anns_order_power none (by kernel_rfl) (fun x y h => (den_order_power x).trans h)

def anns_order_within : List (Nat × Ann) := []

noncomputable def sp_order_within : FSpec := ⟨[.val t_api_Decimal, .val tI, .val tI], [.val .bool], fun x => order_within x.1 x.2.1 x.2.2.1⟩

noncomputable def cx_order_within : Cx := ⟨Tryz.prog, [(73, sp_order_power)]⟩

theorem den_order_within : ∀ x, denF cx_order_within anns_order_within none Tryz.f144 sp_order_within x = sp_order_within.m x := by intro x; kernel_rfl

theorem hb_order_within : HasBody Tryz.prog 144 := has_body (fn := Tryz.f144) (by kernel_rfl) rfl (by decide)

theorem ok_order_within : FunOk Tryz.prog 144 sp_order_within := fun_ok (X := cx_order_within) (.cons ok_order_power hb_order_power (.nil _)) (by kernel_rfl) sp_order_within anns_order_within none (by kernel_rfl) (fun x y h => (den_order_within x).trans h)

def anns_order_QuantityFault : List (Nat × Ann) := []

noncomputable def sp_order_QuantityFault : FSpec := ⟨[.val t_api_Decimal, .val .bool], [.val tI], fun x => order_QuantityFault x.1 x.2.1⟩

noncomputable def cx_order_QuantityFault : Cx := ⟨Tryz.prog, [(143, sp_amount_CheckDecimal), (144, sp_order_within)]⟩

theorem den_order_QuantityFault : ∀ x, denF cx_order_QuantityFault anns_order_QuantityFault none Tryz.f107 sp_order_QuantityFault x = sp_order_QuantityFault.m x := by intro x; kernel_rfl

theorem hb_order_QuantityFault : HasBody Tryz.prog 107 := has_body (fn := Tryz.f107) (by kernel_rfl) rfl (by decide)

theorem ok_order_QuantityFault : FunOk Tryz.prog 107 sp_order_QuantityFault := fun_ok (X := cx_order_QuantityFault) (.cons ok_amount_CheckDecimal hb_amount_CheckDecimal (.cons ok_order_within hb_order_within (.nil _))) (by kernel_rfl) sp_order_QuantityFault anns_order_QuantityFault none (by kernel_rfl) (fun x y h => (den_order_QuantityFault x).trans h)

def anns_order_PriceFault : List (Nat × Ann) := []

noncomputable def sp_order_PriceFault : FSpec := ⟨[.val t_api_Decimal], [.val tI], fun x => order_PriceFault x.1⟩

noncomputable def cx_order_PriceFault : Cx := ⟨Tryz.prog, [(143, sp_amount_CheckDecimal), (144, sp_order_within)]⟩

theorem den_order_PriceFault : ∀ x, denF cx_order_PriceFault anns_order_PriceFault none Tryz.f108 sp_order_PriceFault x = sp_order_PriceFault.m x := by intro x; kernel_rfl

theorem hb_order_PriceFault : HasBody Tryz.prog 108 := has_body (fn := Tryz.f108) (by kernel_rfl) rfl (by decide)

theorem ok_order_PriceFault : FunOk Tryz.prog 108 sp_order_PriceFault := fun_ok (X := cx_order_PriceFault) (.cons ok_amount_CheckDecimal hb_amount_CheckDecimal (.cons ok_order_within hb_order_within (.nil _))) (by kernel_rfl) sp_order_PriceFault anns_order_PriceFault none (by kernel_rfl) (fun x y h => (den_order_PriceFault x).trans h)

def anns_order_isSellers : List (Nat × Ann) := []

noncomputable def sp_order_isSellers : FSpec := ⟨[.val tI], [.val .bool], fun x => order_isSellers x.1⟩

noncomputable def cx_order_isSellers : Cx := ⟨Tryz.prog, []⟩

theorem den_order_isSellers : ∀ x, denF cx_order_isSellers anns_order_isSellers none Tryz.f80 sp_order_isSellers x = sp_order_isSellers.m x := by intro x; kernel_rfl

theorem hb_order_isSellers : HasBody Tryz.prog 80 := has_body (fn := Tryz.f80) (by kernel_rfl) rfl (by decide)

theorem ok_order_isSellers : FunOk Tryz.prog 80 sp_order_isSellers := fun_ok (X := cx_order_isSellers) (.nil _) (by kernel_rfl) sp_order_isSellers anns_order_isSellers none (by kernel_rfl) (fun x y h => (den_order_isSellers x).trans h)

def anns_order_usesOf : List (Nat × Ann) := []

noncomputable def sp_order_usesOf : FSpec := ⟨[.val tI], [.val t_order_uses], fun x => order_usesOf x.1⟩

noncomputable def cx_order_usesOf : Cx := ⟨Tryz.prog, []⟩

theorem den_order_usesOf : ∀ x, denF cx_order_usesOf anns_order_usesOf none Tryz.f63 sp_order_usesOf x = sp_order_usesOf.m x := by intro x; kernel_rfl

theorem hb_order_usesOf : HasBody Tryz.prog 63 := has_body (fn := Tryz.f63) (by kernel_rfl) rfl (by decide)

theorem ok_order_usesOf : FunOk Tryz.prog 63 sp_order_usesOf := fun_ok (X := cx_order_usesOf) (.nil _) (by kernel_rfl) sp_order_usesOf anns_order_usesOf none (by kernel_rfl) (fun x y h => (den_order_usesOf x).trans h)

def anns_order_usedFault : List (Nat × Ann) := [(100003, ⟨[(1, .ref 1 0), (3, .ref 3 0)], [(1, [.val tI, .val tI, .val tI, .val tI, .val tI, .val .str, .val tI, .val tI, .val .str, .val tI, .val tI, .val tI, .val tI]), (3, [.val .bool, .val .bool, .val .bool, .val .bool, .val .bool, .val .bool])], [], fun _ => 0⟩),
  (100007, ⟨[(1, .ref 1 0), (3, .ref 3 0)], [(1, [.val tI, .val tI, .val tI, .val tI, .val tI, .val .str, .val tI, .val tI, .val .str, .val tI, .val tI, .val tI, .val tI]), (3, [.val .bool, .val .bool, .val .bool, .val .bool, .val .bool, .val .bool])], [], fun _ => 0⟩),
  (300011, ⟨[(30, .val .bool)], [], [], fun _ => 0⟩),
  (300013, ⟨[(39, .val .bool)], [], [], fun _ => 0⟩),
  (300015, ⟨[(58, .val .bool)], [], [], fun _ => 0⟩),
  (300017, ⟨[(66, .val .bool)], [], [], fun _ => 0⟩)]

noncomputable def sp_order_usedFault : FSpec := ⟨[.val t_api_Deed], [.val tI], fun x => order_usedFault x.1⟩

noncomputable def cx_order_usedFault : Cx := ⟨Tryz.prog, [(19, sp_kit_Outside), (43, sp_kit_IsDay), (63, sp_order_usesOf), (71, sp_kit_IsName), (107, sp_order_QuantityFault), (108, sp_order_PriceFault)]⟩

theorem den_order_usedFault : ∀ x, denF cx_order_usedFault anns_order_usedFault none Tryz.f83 sp_order_usedFault x = sp_order_usedFault.m x := by intro x; kernel_rfl

theorem hb_order_usedFault : HasBody Tryz.prog 83 := has_body (fn := Tryz.f83) (by kernel_rfl) rfl (by decide)

theorem ok_order_usedFault : FunOk Tryz.prog 83 sp_order_usedFault := fun_ok (X := cx_order_usedFault) (.cons ok_kit_Outside hb_kit_Outside (.cons ok_kit_IsDay hb_kit_IsDay (.cons ok_order_usesOf hb_order_usesOf (.cons ok_kit_IsName hb_kit_IsName (.cons ok_order_QuantityFault hb_order_QuantityFault (.cons ok_order_PriceFault hb_order_PriceFault (.nil _))))))) (by kernel_rfl) sp_order_usedFault anns_order_usedFault none (by kernel_rfl) (fun x y h => (den_order_usedFault x).trans h)

def anns_order_deedFault : List (Nat × Ann) := []

noncomputable def sp_order_deedFault : FSpec := ⟨[.val t_api_Deed], [.val tI], fun x => order_deedFault x.1⟩

noncomputable def cx_order_deedFault : Cx := ⟨Tryz.prog, [(19, sp_kit_Outside), (43, sp_kit_IsDay), (80, sp_order_isSellers), (83, sp_order_usedFault)]⟩

theorem den_order_deedFault : ∀ x, denF cx_order_deedFault anns_order_deedFault none Tryz.f47 sp_order_deedFault x = sp_order_deedFault.m x := by intro x; kernel_rfl

theorem hb_order_deedFault : HasBody Tryz.prog 47 := has_body (fn := Tryz.f47) (by kernel_rfl) rfl (by decide)

theorem ok_order_deedFault : FunOk Tryz.prog 47 sp_order_deedFault := fun_ok (X := cx_order_deedFault) (.cons ok_kit_Outside hb_kit_Outside (.cons ok_kit_IsDay hb_kit_IsDay (.cons ok_order_isSellers hb_order_isSellers (.cons ok_order_usedFault hb_order_usedFault (.nil _))))) (by kernel_rfl) sp_order_deedFault anns_order_deedFault none (by kernel_rfl) (fun x y h => (den_order_deedFault x).trans h)

def anns_order_compareDeeds : List (Nat × Ann) := [(2, ⟨[(22, .rowR 22), (23, .val tI), (24, .val tI)], [], [.rowC 22 3 tI], fuelOf _⟩),
  (200002, ⟨[], [], [], fun _ => 0⟩)]

noncomputable def sp_order_compareDeeds : FSpec := ⟨[.val t_api_Deed, .val t_api_Deed], [.val tI], fun x => order_compareDeeds x.1 x.2.1⟩

noncomputable def cx_order_compareDeeds : Cx := ⟨Tryz.prog, []⟩

theorem den_order_compareDeeds : ∀ x, denF cx_order_compareDeeds anns_order_compareDeeds none Tryz.f35 sp_order_compareDeeds x = sp_order_compareDeeds.m x := by intro x; kernel_rfl

theorem hb_order_compareDeeds : HasBody Tryz.prog 35 := has_body (fn := Tryz.f35) (by kernel_rfl) rfl (by decide)

theorem ok_order_compareDeeds : FunOk Tryz.prog 35 sp_order_compareDeeds := fun_ok (X := cx_order_compareDeeds) (.nil _) (by kernel_rfl) sp_order_compareDeeds anns_order_compareDeeds none (by kernel_rfl) (fun x y h => (den_order_compareDeeds x).trans h)

def anns_order_CheckDeeds : List (Nat × Ann) := [(5, ⟨[(0, .val (.slice t_api_Deed)), (3, .ref 3 0), (11, .val (.slice t_api_Deed)), (12, .val tI), (13, .val tI)], [(3, [.val tI, .val tI, .val tI])], [], fuelOf _⟩),
  (200005, ⟨[], [], [], fun _ => 0⟩),
  (300010, ⟨[(34, .val .bool)], [], [], fun _ => 0⟩)]

noncomputable def sp_order_CheckDeeds : FSpec := ⟨[.val (.slice t_api_Deed)], [.val tI], fun x => order_CheckDeeds x.1⟩

noncomputable def cx_order_CheckDeeds : Cx := ⟨Tryz.prog, [(35, sp_order_compareDeeds), (47, sp_order_deedFault)]⟩

theorem den_order_CheckDeeds : ∀ x, denF cx_order_CheckDeeds anns_order_CheckDeeds none Tryz.f26 sp_order_CheckDeeds x = sp_order_CheckDeeds.m x := by intro x; kernel_rfl

theorem hb_order_CheckDeeds : HasBody Tryz.prog 26 := has_body (fn := Tryz.f26) (by kernel_rfl) rfl (by decide)

theorem ok_order_CheckDeeds : FunOk Tryz.prog 26 sp_order_CheckDeeds := fun_ok (X := cx_order_CheckDeeds) (.cons ok_order_compareDeeds hb_order_compareDeeds (.cons ok_order_deedFault hb_order_deedFault (.nil _))) (by kernel_rfl) sp_order_CheckDeeds anns_order_CheckDeeds none (by kernel_rfl) (fun x y h => (den_order_CheckDeeds x).trans h)

def anns_whole_trimmed : List (Nat × Ann) := [(1, ⟨[(0, .val (.slice (.int .u32)))], [], [], fuelOf _⟩),
  (200001, ⟨[(0, .val (.slice (.int .u32)))], [], [], fun _ => 0⟩)]

noncomputable def sp_whole_trimmed : FSpec := ⟨[.val (.slice (.int .u32))], [.val (.slice (.int .u32))], fun x => whole_trimmed x.1⟩

noncomputable def cx_whole_trimmed : Cx := ⟨Tryz.prog, []⟩

theorem den_whole_trimmed : ∀ x, denF cx_whole_trimmed anns_whole_trimmed none Tryz.f146 sp_whole_trimmed x = sp_whole_trimmed.m x := by intro x; kernel_rfl

theorem hb_whole_trimmed : HasBody Tryz.prog 146 := has_body (fn := Tryz.f146) (by kernel_rfl) rfl (by decide)

theorem ok_whole_trimmed : FunOk Tryz.prog 146 sp_whole_trimmed := fun_ok (X := cx_whole_trimmed) (.nil _) (by kernel_rfl) sp_whole_trimmed anns_whole_trimmed none (by kernel_rfl) (fun x y h => (den_whole_trimmed x).trans h)

def anns_whole_made : List (Nat × Ann) := []

noncomputable def sp_whole_made : FSpec := ⟨[.val .bool, .val (.slice (.int .u32))], [.val t_whole_Int], fun x => whole_made x.1 x.2.1⟩

noncomputable def cx_whole_made : Cx := ⟨Tryz.prog, [(146, sp_whole_trimmed)]⟩

theorem den_whole_made : ∀ x, denF cx_whole_made anns_whole_made none Tryz.f113 sp_whole_made x = sp_whole_made.m x := by intro x; kernel_rfl

theorem hb_whole_made : HasBody Tryz.prog 113 := has_body (fn := Tryz.f113) (by kernel_rfl) rfl (by decide)

theorem ok_whole_made : FunOk Tryz.prog 113 sp_whole_made := fun_ok (X := cx_whole_made) (.cons ok_whole_trimmed hb_whole_trimmed (.nil _)) (by kernel_rfl) sp_whole_made anns_whole_made none (by kernel_rfl) (fun x y h => (den_whole_made x).trans h)

def anns_whole_Of : List (Nat × Ann) := [(100003, ⟨[(0, .val tI), (2, .ref 2 0), (3, .val (.int .u64))], [(2, [.val .bool, .own 149 (.int .u32)])], [], fun _ => 0⟩)]

noncomputable def sp_whole_Of : FSpec := ⟨[.val tI], [.val t_whole_Int], fun x => whole_Of x.1⟩

noncomputable def cx_whole_Of : Cx := ⟨Tryz.prog, [(113, sp_whole_made)]⟩

theorem den_whole_Of : ∀ x, denF cx_whole_Of anns_whole_Of none Tryz.f82 sp_whole_Of x = sp_whole_Of.m x := by intro x; kernel_rfl

theorem hb_whole_Of : HasBody Tryz.prog 82 := has_body (fn := Tryz.f82) (by kernel_rfl) rfl (by decide)

theorem ok_whole_Of : FunOk Tryz.prog 82 sp_whole_Of := fun_ok (X := cx_whole_Of) (.cons ok_whole_made hb_whole_made (.nil _)) (by kernel_rfl) sp_whole_Of anns_whole_Of none (by kernel_rfl) (fun x y h => (den_whole_Of x).trans h)

def anns_whole_sum_v : List (Nat × Ann) := [(6, ⟨[(1, .val (.slice (.int .u32))), (5, .own 149 (.int .u32)), (6, .val (.int .u64)), (20, .val (.slice (.int .u32))), (21, .val tI), (22, .val tI)], [], [], fuelOf _⟩),
  (100002, ⟨[(0, .val (.slice (.int .u32))), (1, .val (.slice (.int .u32)))], [], [], fun _ => 0⟩),
  (100010, ⟨[(1, .val (.slice (.int .u32))), (5, .own 149 (.int .u32)), (6, .val (.int .u64)), (20, .val (.slice (.int .u32))), (21, .val tI), (22, .val tI)], [], [], fun _ => 0⟩),
  (200006, ⟨[(5, .own 149 (.int .u32)), (6, .val (.int .u64))], [], [], fun _ => 0⟩)]

noncomputable def sp_whole_sum_v : FSpec := ⟨[.val (.slice (.int .u32)), .val (.slice (.int .u32))], [.val (.slice (.int .u32))], fun x => whole_sum_v x.1 x.2.1⟩

noncomputable def cx_whole_sum_v : Cx := ⟨Tryz.prog, []⟩

theorem den_whole_sum_v : ∀ x, denF cx_whole_sum_v anns_whole_sum_v none Tryz.f145 sp_whole_sum_v x = sp_whole_sum_v.m x := by intro x; kernel_rfl

theorem hb_whole_sum_v : HasBody Tryz.prog 145 := has_body (fn := Tryz.f145) (by kernel_rfl) rfl (by decide)

theorem ok_whole_sum_v : FunOk Tryz.prog 145 sp_whole_sum_v := fun_ok (X := cx_whole_sum_v) (.nil _) (by kernel_rfl) sp_whole_sum_v anns_whole_sum_v none (by kernel_rfl) (fun x y h => (den_whole_sum_v x).trans h)

def anns_whole_compare : List (Nat × Ann) := [(4, ⟨[(0, .val (.slice (.int .u32))), (1, .val (.slice (.int .u32))), (5, .val tI)], [], [], fuelOf _⟩),
  (200004, ⟨[], [], [], fun _ => 0⟩)]

noncomputable def sp_whole_compare : FSpec := ⟨[.val (.slice (.int .u32)), .val (.slice (.int .u32))], [.val tI], fun x => whole_compare x.1 x.2.1⟩

noncomputable def cx_whole_compare : Cx := ⟨Tryz.prog, []⟩

theorem den_whole_compare : ∀ x, denF cx_whole_compare anns_whole_compare none Tryz.f147 sp_whole_compare x = sp_whole_compare.m x := by intro x; kernel_rfl

theorem hb_whole_compare : HasBody Tryz.prog 147 := has_body (fn := Tryz.f147) (by kernel_rfl) rfl (by decide)

theorem ok_whole_compare : FunOk Tryz.prog 147 sp_whole_compare := fun_ok (X := cx_whole_compare) (.nil _) (by kernel_rfl) sp_whole_compare anns_whole_compare none (by kernel_rfl) (fun x y h => (den_whole_compare x).trans h)

def anns_whole_less : List (Nat × Ann) := [(4, ⟨[(1, .val (.slice (.int .u32))), (5, .own 149 (.int .u32)), (6, .val (.int .u64)), (13, .val (.slice (.int .u32))), (14, .val tI), (15, .val tI)], [], [], fuelOf _⟩),
  (100008, ⟨[(1, .val (.slice (.int .u32))), (5, .own 149 (.int .u32)), (9, .val (.int .u64)), (13, .val (.slice (.int .u32))), (14, .val tI), (15, .val tI)], [], [], fun _ => 0⟩),
  (200004, ⟨[(5, .own 149 (.int .u32))], [], [], fun _ => 0⟩)]

noncomputable def sp_whole_less : FSpec := ⟨[.val (.slice (.int .u32)), .val (.slice (.int .u32))], [.val (.slice (.int .u32))], fun x => whole_less x.1 x.2.1⟩

noncomputable def cx_whole_less : Cx := ⟨Tryz.prog, [(146, sp_whole_trimmed)]⟩

theorem den_whole_less : ∀ x, denF cx_whole_less anns_whole_less none Tryz.f148 sp_whole_less x = sp_whole_less.m x := by intro x; kernel_rfl

theorem hb_whole_less : HasBody Tryz.prog 148 := has_body (fn := Tryz.f148) (by kernel_rfl) rfl (by decide)

theorem ok_whole_less : FunOk Tryz.prog 148 sp_whole_less := fun_ok (X := cx_whole_less) (.cons ok_whole_trimmed hb_whole_trimmed (.nil _)) (by kernel_rfl) sp_whole_less anns_whole_less none (by kernel_rfl) (fun x y h => (den_whole_less x).trans h)

def anns_whole_Int_Sign : List (Nat × Ann) := []

noncomputable def sp_whole_Int_Sign : FSpec := ⟨[.val t_whole_Int], [.val tI], fun x => whole_Int_Sign x.1⟩

noncomputable def cx_whole_Int_Sign : Cx := ⟨Tryz.prog, []⟩

theorem den_whole_Int_Sign : ∀ x, denF cx_whole_Int_Sign anns_whole_Int_Sign none Tryz.f110 sp_whole_Int_Sign x = sp_whole_Int_Sign.m x := by intro x; kernel_rfl

theorem hb_whole_Int_Sign : HasBody Tryz.prog 110 := has_body (fn := Tryz.f110) (by kernel_rfl) rfl (by decide)

theorem ok_whole_Int_Sign : FunOk Tryz.prog 110 sp_whole_Int_Sign := fun_ok (X := cx_whole_Int_Sign) (.nil _) (by kernel_rfl) sp_whole_Int_Sign anns_whole_Int_Sign none (by kernel_rfl) (fun x y h => (den_whole_Int_Sign x).trans h)

def anns_whole_Int_Minus : List (Nat × Ann) := []

noncomputable def sp_whole_Int_Minus : FSpec := ⟨[.val t_whole_Int], [.val t_whole_Int], fun x => whole_Int_Minus x.1⟩

noncomputable def cx_whole_Int_Minus : Cx := ⟨Tryz.prog, [(113, sp_whole_made)]⟩

theorem den_whole_Int_Minus : ∀ x, denF cx_whole_Int_Minus anns_whole_Int_Minus none Tryz.f111 sp_whole_Int_Minus x = sp_whole_Int_Minus.m x := by intro x; kernel_rfl

theorem hb_whole_Int_Minus : HasBody Tryz.prog 111 := has_body (fn := Tryz.f111) (by kernel_rfl) rfl (by decide)

theorem ok_whole_Int_Minus : FunOk Tryz.prog 111 sp_whole_Int_Minus := fun_ok (X := cx_whole_Int_Minus) (.cons ok_whole_made hb_whole_made (.nil _)) (by kernel_rfl) sp_whole_Int_Minus anns_whole_Int_Minus none (by kernel_rfl) (fun x y h => (den_whole_Int_Minus x).trans h)

def anns_whole_Int_Int : List (Nat × Ann) := [(5, ⟨[(1, .val tI), (2, .ref 2 0), (6, .val (.int .u64)), (14, .val (.slice (.int .u32))), (15, .val tI), (16, .val tI)], [(2, [.val .bool, .val (.slice (.int .u32))])], [], fuelOf _⟩),
  (200005, ⟨[(1, .val tI), (2, .ref 2 0), (6, .val (.int .u64))], [(2, [.val .bool, .val (.slice (.int .u32))])], [], fun _ => 0⟩)]

noncomputable def sp_whole_Int_Int : FSpec := ⟨[.val t_whole_Int, .val tI], [.val tI, .val .bool], fun x => whole_Int_Int x.1 x.2.1⟩

noncomputable def cx_whole_Int_Int : Cx := ⟨Tryz.prog, []⟩

theorem den_whole_Int_Int : ∀ x, denF cx_whole_Int_Int anns_whole_Int_Int none Tryz.f149 sp_whole_Int_Int x = sp_whole_Int_Int.m x := by intro x; kernel_rfl

theorem hb_whole_Int_Int : HasBody Tryz.prog 149 := has_body (fn := Tryz.f149) (by kernel_rfl) rfl (by decide)

theorem ok_whole_Int_Int : FunOk Tryz.prog 149 sp_whole_Int_Int := fun_ok (X := cx_whole_Int_Int) (.nil _) (by kernel_rfl) sp_whole_Int_Int anns_whole_Int_Int none (by kernel_rfl) (fun x y h => (den_whole_Int_Int x).trans h)

def anns_amount_Made : List (Nat × Ann) := []

noncomputable def sp_amount_Made : FSpec := ⟨[.val t_whole_Int, .val tI], [.val t_api_Decimal, .val tI], fun x => amount_Made x.1 x.2.1⟩

noncomputable def cx_amount_Made : Cx := ⟨Tryz.prog, [(149, sp_whole_Int_Int)]⟩

theorem den_amount_Made : ∀ x, denF cx_amount_Made anns_amount_Made none Tryz.f112 sp_amount_Made x = sp_amount_Made.m x := by intro x; kernel_rfl

theorem hb_amount_Made : HasBody Tryz.prog 112 := has_body (fn := Tryz.f112) (by kernel_rfl) rfl (by decide)

theorem ok_amount_Made : FunOk Tryz.prog 112 sp_amount_Made := fun_ok (X := cx_amount_Made) (.cons ok_whole_Int_Int hb_whole_Int_Int (.nil _)) (by kernel_rfl) sp_amount_Made anns_amount_Made none (by kernel_rfl) (fun x y h => (den_amount_Made x).trans h)

def anns_internal_stringslite_HasSuffix : List (Nat × Ann) := []

noncomputable def sp_internal_stringslite_HasSuffix : FSpec := ⟨[.val .str, .val .str], [.val .bool], fun x => internal_stringslite_HasSuffix x.1 x.2.1⟩

noncomputable def cx_internal_stringslite_HasSuffix : Cx := ⟨Tryz.prog, []⟩

theorem den_internal_stringslite_HasSuffix : ∀ x, denF cx_internal_stringslite_HasSuffix anns_internal_stringslite_HasSuffix none Tryz.f121 sp_internal_stringslite_HasSuffix x = sp_internal_stringslite_HasSuffix.m x := by intro x; kernel_rfl

theorem hb_internal_stringslite_HasSuffix : HasBody Tryz.prog 121 := has_body (fn := Tryz.f121) (by kernel_rfl) rfl (by decide)

theorem ok_internal_stringslite_HasSuffix : FunOk Tryz.prog 121 sp_internal_stringslite_HasSuffix := fun_ok (X := cx_internal_stringslite_HasSuffix) (.nil _) (by kernel_rfl) sp_internal_stringslite_HasSuffix anns_internal_stringslite_HasSuffix none (by kernel_rfl) (fun x y h => (den_internal_stringslite_HasSuffix x).trans h)

def anns_internal_stringslite_CutSuffix : List (Nat × Ann) := []

noncomputable def sp_internal_stringslite_CutSuffix : FSpec := ⟨[.val .str, .val .str], [.val .str, .val .bool], fun x => internal_stringslite_CutSuffix x.1 x.2.1⟩

noncomputable def cx_internal_stringslite_CutSuffix : Cx := ⟨Tryz.prog, [(121, sp_internal_stringslite_HasSuffix)]⟩

theorem den_internal_stringslite_CutSuffix : ∀ x, denF cx_internal_stringslite_CutSuffix anns_internal_stringslite_CutSuffix none Tryz.f99 sp_internal_stringslite_CutSuffix x = sp_internal_stringslite_CutSuffix.m x := by intro x; kernel_rfl

theorem hb_internal_stringslite_CutSuffix : HasBody Tryz.prog 99 := has_body (fn := Tryz.f99) (by kernel_rfl) rfl (by decide)

theorem ok_internal_stringslite_CutSuffix : FunOk Tryz.prog 99 sp_internal_stringslite_CutSuffix := fun_ok (X := cx_internal_stringslite_CutSuffix) (.cons ok_internal_stringslite_HasSuffix hb_internal_stringslite_HasSuffix (.nil _)) (by kernel_rfl) sp_internal_stringslite_CutSuffix anns_internal_stringslite_CutSuffix none (by kernel_rfl) (fun x y h => (den_internal_stringslite_CutSuffix x).trans h)

def anns_strings_CutSuffix : List (Nat × Ann) := []

noncomputable def sp_strings_CutSuffix : FSpec := ⟨[.val .str, .val .str], [.val .str, .val .bool], fun x => strings_CutSuffix x.1 x.2.1⟩

noncomputable def cx_strings_CutSuffix : Cx := ⟨Tryz.prog, [(99, sp_internal_stringslite_CutSuffix)]⟩

theorem den_strings_CutSuffix : ∀ x, denF cx_strings_CutSuffix anns_strings_CutSuffix none Tryz.f56 sp_strings_CutSuffix x = sp_strings_CutSuffix.m x := by intro x; kernel_rfl

theorem hb_strings_CutSuffix : HasBody Tryz.prog 56 := has_body (fn := Tryz.f56) (by kernel_rfl) rfl (by decide)

theorem ok_strings_CutSuffix : FunOk Tryz.prog 56 sp_strings_CutSuffix := fun_ok (X := cx_strings_CutSuffix) (.cons ok_internal_stringslite_CutSuffix hb_internal_stringslite_CutSuffix (.nil _)) (by kernel_rfl) sp_strings_CutSuffix anns_strings_CutSuffix none (by kernel_rfl) (fun x y h => (den_strings_CutSuffix x).trans h)

def anns_kit_Lines : List (Nat × Ann) := []

noncomputable def sp_kit_Lines : FSpec := ⟨[.val .str], [.val (.slice .str), .val .bool], fun x => kit_Lines x.1⟩

noncomputable def cx_kit_Lines : Cx := ⟨Tryz.prog, [(56, sp_strings_CutSuffix), (57, sp_strings_Split)]⟩

theorem den_kit_Lines : ∀ x, denF cx_kit_Lines anns_kit_Lines none Tryz.f36 sp_kit_Lines x = sp_kit_Lines.m x := by intro x; kernel_rfl

theorem hb_kit_Lines : HasBody Tryz.prog 36 := has_body (fn := Tryz.f36) (by kernel_rfl) rfl (by decide)

theorem ok_kit_Lines : FunOk Tryz.prog 36 sp_kit_Lines := fun_ok (X := cx_kit_Lines) (.cons ok_strings_CutSuffix hb_strings_CutSuffix (.cons ok_strings_Split hb_strings_Split (.nil _))) (by kernel_rfl) sp_kit_Lines anns_kit_Lines none (by kernel_rfl) (fun x y h => (den_kit_Lines x).trans h)

def anns_kit_Words : List (Nat × Ann) := [(3, ⟨[(4, .rowR 27920), (9, .rowR 27920), (10, .val tI), (11, .val tI)], [], [.rowC 27920 9 .str], fuelOf _⟩),
  (200003, ⟨[(4, .rowR 27920)], [], [.rowC 27920 9 .str], fun _ => 0⟩)]

noncomputable def sp_kit_Words : FSpec := ⟨[.val .str], [.val (.slice .str), .val .bool], fun x => kit_Words x.1⟩

noncomputable def cx_kit_Words : Cx := ⟨Tryz.prog, [(57, sp_strings_Split)]⟩

theorem den_kit_Words : ∀ x, denF cx_kit_Words anns_kit_Words none Tryz.f58 sp_kit_Words x = sp_kit_Words.m x := by intro x; kernel_rfl

theorem hb_kit_Words : HasBody Tryz.prog 58 := has_body (fn := Tryz.f58) (by kernel_rfl) rfl (by decide)

theorem ok_kit_Words : FunOk Tryz.prog 58 sp_kit_Words := fun_ok (X := cx_kit_Words) (.cons ok_strings_Split hb_strings_Split (.nil _)) (by kernel_rfl) sp_kit_Words anns_kit_Words none (by kernel_rfl) (fun x y h => (den_kit_Words x).trans h)

def anns_order_words_next : List (Nat × Ann) := []

noncomputable def sp_order_words_next : FSpec := ⟨[.box [.val (.slice .str), .val .bool]], [.val .str], fun x => order_words_next x.1⟩

noncomputable def cx_order_words_next : Cx := ⟨Tryz.prog, []⟩

theorem den_order_words_next : ∀ x, denF cx_order_words_next anns_order_words_next none Tryz.f64 sp_order_words_next x = sp_order_words_next.m x := by intro x; kernel_rfl

theorem hb_order_words_next : HasBody Tryz.prog 64 := has_body (fn := Tryz.f64) (by kernel_rfl) rfl (by decide)

theorem ok_order_words_next : FunOk Tryz.prog 64 sp_order_words_next := fun_ok (X := cx_order_words_next) (.nil _) (by kernel_rfl) sp_order_words_next anns_order_words_next none (by kernel_rfl) (fun x y h => (den_order_words_next x).trans h)

def anns_order_words_number : List (Nat × Ann) := []

noncomputable def sp_order_words_number : FSpec := ⟨[.box [.val (.slice .str), .val .bool]], [.val tI], fun x => order_words_number x.1⟩

noncomputable def cx_order_words_number : Cx := ⟨Tryz.prog, [(64, sp_order_words_next), (101, sp_kit_Number)]⟩

theorem den_order_words_number : ∀ x, denF cx_order_words_number anns_order_words_number none Tryz.f59 sp_order_words_number x = sp_order_words_number.m x := by intro x; kernel_rfl

theorem hb_order_words_number : HasBody Tryz.prog 59 := has_body (fn := Tryz.f59) (by kernel_rfl) rfl (by decide)

theorem ok_order_words_number : FunOk Tryz.prog 59 sp_order_words_number := fun_ok (X := cx_order_words_number) (.cons ok_order_words_next hb_order_words_next (.cons ok_kit_Number hb_kit_Number (.nil _))) (by kernel_rfl) sp_order_words_number anns_order_words_number none (by kernel_rfl) (fun x y h => (den_order_words_number x).trans h)

def anns_order_byWords : List (Nat × Ann) := []

noncomputable def sp_order_byWords : FSpec := ⟨[], [.val (.slice .str)], fun x => order_byWords ⟩

noncomputable def cx_order_byWords : Cx := ⟨Tryz.prog, []⟩

theorem den_order_byWords : ∀ x, denF cx_order_byWords anns_order_byWords none Tryz.f61 sp_order_byWords x = sp_order_byWords.m x := by intro x; kernel_rfl

theorem hb_order_byWords : HasBody Tryz.prog 61 := has_body (fn := Tryz.f61) (by kernel_rfl) rfl (by decide)

theorem ok_order_byWords : FunOk Tryz.prog 61 sp_order_byWords := fun_ok (X := cx_order_byWords) (.nil _) (by kernel_rfl) sp_order_byWords anns_order_byWords none (by kernel_rfl) (fun x y h => (den_order_byWords x).trans h)

def anns_slices_Index_string : List (Nat × Ann) := [(2, ⟨[(0, .val (.slice .str)), (1, .val .str), (7, .val tI), (8, .val tI)], [], [], fuelOf _⟩),
  (200002, ⟨[], [], [], fun _ => 0⟩)]

noncomputable def sp_slices_Index_string : FSpec := ⟨[.val (.slice .str), .val .str], [.val tI], fun x => slices_Index_string x.1 x.2.1⟩

noncomputable def cx_slices_Index_string : Cx := ⟨Tryz.prog, []⟩

theorem den_slices_Index_string : ∀ x, denF cx_slices_Index_string anns_slices_Index_string none Tryz.f69 sp_slices_Index_string x = sp_slices_Index_string.m x := by intro x; kernel_rfl

theorem hb_slices_Index_string : HasBody Tryz.prog 69 := has_body (fn := Tryz.f69) (by kernel_rfl) rfl (by decide)

theorem ok_slices_Index_string : FunOk Tryz.prog 69 sp_slices_Index_string := fun_ok (X := cx_slices_Index_string) (.nil _) (by kernel_rfl) sp_slices_Index_string anns_slices_Index_string none (by kernel_rfl) (fun x y h => (den_slices_Index_string x).trans h)

def anns_order_words_index : List (Nat × Ann) := []

noncomputable def sp_order_words_index : FSpec := ⟨[.box [.val (.slice .str), .val .bool], .val (.slice .str)], [.val tI], fun x => order_words_index x.1 x.2.1⟩

noncomputable def cx_order_words_index : Cx := ⟨Tryz.prog, [(64, sp_order_words_next), (69, sp_slices_Index_string)]⟩

theorem den_order_words_index : ∀ x, denF cx_order_words_index anns_order_words_index none Tryz.f60 sp_order_words_index x = sp_order_words_index.m x := by intro x; kernel_rfl

theorem hb_order_words_index : HasBody Tryz.prog 60 := has_body (fn := Tryz.f60) (by kernel_rfl) rfl (by decide)

theorem ok_order_words_index : FunOk Tryz.prog 60 sp_order_words_index := fun_ok (X := cx_order_words_index) (.cons ok_order_words_next hb_order_words_next (.cons ok_slices_Index_string hb_slices_Index_string (.nil _))) (by kernel_rfl) sp_order_words_index anns_order_words_index none (by kernel_rfl) (fun x y h => (den_order_words_index x).trans h)

def anns_order_kindWords : List (Nat × Ann) := []

noncomputable def sp_order_kindWords : FSpec := ⟨[], [.val (.slice .str)], fun x => order_kindWords ⟩

noncomputable def cx_order_kindWords : Cx := ⟨Tryz.prog, []⟩

theorem den_order_kindWords : ∀ x, denF cx_order_kindWords anns_order_kindWords none Tryz.f62 sp_order_kindWords x = sp_order_kindWords.m x := by intro x; kernel_rfl

theorem hb_order_kindWords : HasBody Tryz.prog 62 := has_body (fn := Tryz.f62) (by kernel_rfl) rfl (by decide)

theorem ok_order_kindWords : FunOk Tryz.prog 62 sp_order_kindWords := fun_ok (X := cx_order_kindWords) (.nil _) (by kernel_rfl) sp_order_kindWords anns_order_kindWords none (by kernel_rfl) (fun x y h => (den_order_kindWords x).trans h)

def anns_internal_stringslite_HasPrefix : List (Nat × Ann) := []

noncomputable def sp_internal_stringslite_HasPrefix : FSpec := ⟨[.val .str, .val .str], [.val .bool], fun x => internal_stringslite_HasPrefix x.1 x.2.1⟩

noncomputable def cx_internal_stringslite_HasPrefix : Cx := ⟨Tryz.prog, []⟩

theorem den_internal_stringslite_HasPrefix : ∀ x, denF cx_internal_stringslite_HasPrefix anns_internal_stringslite_HasPrefix none Tryz.f180 sp_internal_stringslite_HasPrefix x = sp_internal_stringslite_HasPrefix.m x := by intro x; kernel_rfl

theorem hb_internal_stringslite_HasPrefix : HasBody Tryz.prog 180 := has_body (fn := Tryz.f180) (by kernel_rfl) rfl (by decide)

theorem ok_internal_stringslite_HasPrefix : FunOk Tryz.prog 180 sp_internal_stringslite_HasPrefix := fun_ok (X := cx_internal_stringslite_HasPrefix) (.nil _) (by kernel_rfl) sp_internal_stringslite_HasPrefix anns_internal_stringslite_HasPrefix none (by kernel_rfl) (fun x y h => (den_internal_stringslite_HasPrefix x).trans h)

def anns_internal_stringslite_CutPrefix : List (Nat × Ann) := []

noncomputable def sp_internal_stringslite_CutPrefix : FSpec := ⟨[.val .str, .val .str], [.val .str, .val .bool], fun x => internal_stringslite_CutPrefix x.1 x.2.1⟩

noncomputable def cx_internal_stringslite_CutPrefix : Cx := ⟨Tryz.prog, [(180, sp_internal_stringslite_HasPrefix)]⟩

theorem den_internal_stringslite_CutPrefix : ∀ x, denF cx_internal_stringslite_CutPrefix anns_internal_stringslite_CutPrefix none Tryz.f163 sp_internal_stringslite_CutPrefix x = sp_internal_stringslite_CutPrefix.m x := by intro x; kernel_rfl

theorem hb_internal_stringslite_CutPrefix : HasBody Tryz.prog 163 := has_body (fn := Tryz.f163) (by kernel_rfl) rfl (by decide)

theorem ok_internal_stringslite_CutPrefix : FunOk Tryz.prog 163 sp_internal_stringslite_CutPrefix := fun_ok (X := cx_internal_stringslite_CutPrefix) (.cons ok_internal_stringslite_HasPrefix hb_internal_stringslite_HasPrefix (.nil _)) (by kernel_rfl) sp_internal_stringslite_CutPrefix anns_internal_stringslite_CutPrefix none (by kernel_rfl) (fun x y h => (den_internal_stringslite_CutPrefix x).trans h)

def anns_strings_CutPrefix : List (Nat × Ann) := []

noncomputable def sp_strings_CutPrefix : FSpec := ⟨[.val .str, .val .str], [.val .str, .val .bool], fun x => strings_CutPrefix x.1 x.2.1⟩

noncomputable def cx_strings_CutPrefix : Cx := ⟨Tryz.prog, [(163, sp_internal_stringslite_CutPrefix)]⟩

theorem den_strings_CutPrefix : ∀ x, denF cx_strings_CutPrefix anns_strings_CutPrefix none Tryz.f127 sp_strings_CutPrefix x = sp_strings_CutPrefix.m x := by intro x; kernel_rfl

theorem hb_strings_CutPrefix : HasBody Tryz.prog 127 := has_body (fn := Tryz.f127) (by kernel_rfl) rfl (by decide)

theorem ok_strings_CutPrefix : FunOk Tryz.prog 127 sp_strings_CutPrefix := fun_ok (X := cx_strings_CutPrefix) (.cons ok_internal_stringslite_CutPrefix hb_internal_stringslite_CutPrefix (.nil _)) (by kernel_rfl) sp_strings_CutPrefix anns_strings_CutPrefix none (by kernel_rfl) (fun x y h => (den_strings_CutPrefix x).trans h)

def anns_internal_stringslite_Index : List (Nat × Ann) := []

noncomputable def sp_internal_stringslite_Index : FSpec := ⟨[.val .str, .val .str], [.val tI], fun x => internal_stringslite_Index x.1 x.2.1⟩

noncomputable def cx_internal_stringslite_Index : Cx := ⟨Tryz.prog, [(130, sp_internal_stringslite_IndexByte)]⟩

theorem den_internal_stringslite_Index : ∀ x, denF cx_internal_stringslite_Index anns_internal_stringslite_Index none Tryz.f103 sp_internal_stringslite_Index x = sp_internal_stringslite_Index.m x := by intro x; kernel_rfl

theorem hb_internal_stringslite_Index : HasBody Tryz.prog 103 := has_body (fn := Tryz.f103) (by kernel_rfl) rfl (by decide)

theorem ok_internal_stringslite_Index : FunOk Tryz.prog 103 sp_internal_stringslite_Index := fun_ok (X := cx_internal_stringslite_Index) (.cons ok_internal_stringslite_IndexByte hb_internal_stringslite_IndexByte (.nil _)) (by kernel_rfl) sp_internal_stringslite_Index anns_internal_stringslite_Index none (by kernel_rfl) (fun x y h => (den_internal_stringslite_Index x).trans h)

def anns_internal_stringslite_Cut : List (Nat × Ann) := []

noncomputable def sp_internal_stringslite_Cut : FSpec := ⟨[.val .str, .val .str], [.val .str, .val .str, .val .bool], fun x => internal_stringslite_Cut x.1 x.2.1⟩

noncomputable def cx_internal_stringslite_Cut : Cx := ⟨Tryz.prog, [(103, sp_internal_stringslite_Index)]⟩

theorem den_internal_stringslite_Cut : ∀ x, denF cx_internal_stringslite_Cut anns_internal_stringslite_Cut none Tryz.f66 sp_internal_stringslite_Cut x = sp_internal_stringslite_Cut.m x := by intro x; kernel_rfl

theorem hb_internal_stringslite_Cut : HasBody Tryz.prog 66 := has_body (fn := Tryz.f66) (by kernel_rfl) rfl (by decide)

theorem ok_internal_stringslite_Cut : FunOk Tryz.prog 66 sp_internal_stringslite_Cut := fun_ok (X := cx_internal_stringslite_Cut) (.cons ok_internal_stringslite_Index hb_internal_stringslite_Index (.nil _)) (by kernel_rfl) sp_internal_stringslite_Cut anns_internal_stringslite_Cut none (by kernel_rfl) (fun x y h => (den_internal_stringslite_Cut x).trans h)

def anns_strings_Cut : List (Nat × Ann) := []

noncomputable def sp_strings_Cut : FSpec := ⟨[.val .str, .val .str], [.val .str, .val .str, .val .bool], fun x => strings_Cut x.1 x.2.1⟩

noncomputable def cx_strings_Cut : Cx := ⟨Tryz.prog, [(66, sp_internal_stringslite_Cut)]⟩

theorem den_strings_Cut : ∀ x, denF cx_strings_Cut anns_strings_Cut none Tryz.f38 sp_strings_Cut x = sp_strings_Cut.m x := by intro x; kernel_rfl

theorem hb_strings_Cut : HasBody Tryz.prog 38 := has_body (fn := Tryz.f38) (by kernel_rfl) rfl (by decide)

theorem ok_strings_Cut : FunOk Tryz.prog 38 sp_strings_Cut := fun_ok (X := cx_strings_Cut) (.cons ok_internal_stringslite_Cut hb_internal_stringslite_Cut (.nil _)) (by kernel_rfl) sp_strings_Cut anns_strings_Cut none (by kernel_rfl) (fun x y h => (den_strings_Cut x).trans h)

def anns_amount_isWhole : List (Nat × Ann) := [(300001, ⟨[(2, .val .bool)], [], [], fun _ => 0⟩)]

noncomputable def sp_amount_isWhole : FSpec := ⟨[.val .str], [.val .bool], fun x => amount_isWhole x.1⟩

noncomputable def cx_amount_isWhole : Cx := ⟨Tryz.prog, [(125, sp_kit_IsDigits)]⟩

theorem den_amount_isWhole : ∀ x, denF cx_amount_isWhole anns_amount_isWhole none Tryz.f128 sp_amount_isWhole x = sp_amount_isWhole.m x := by intro x; kernel_rfl

theorem hb_amount_isWhole : HasBody Tryz.prog 128 := has_body (fn := Tryz.f128) (by kernel_rfl) rfl (by decide)

theorem ok_amount_isWhole : FunOk Tryz.prog 128 sp_amount_isWhole := fun_ok (X := cx_amount_isWhole) (.cons ok_kit_IsDigits hb_kit_IsDigits (.nil _)) (by kernel_rfl) sp_amount_isWhole anns_amount_isWhole none (by kernel_rfl) (fun x y h => (den_amount_isWhole x).trans h)

def anns_whole_Int_Times : List (Nat × Ann) := [(3, ⟨[(2, .ref 2 0), (3, .ref 3 0), (4, .ref 4 0), (5, .rowR 18), (20, .val (.slice (.int .u32))), (21, .val tI), (22, .val tI)], [(2, [.val .bool, .val (.slice (.int .u32))]), (3, [.val .bool, .val (.slice (.int .u32))]), (4, [.val .bool, .own 149 (.int .u32)])], [.rowC 18 149 (.int .u32)], fuelOf _⟩),
  (7, ⟨[(2, .ref 2 0), (3, .ref 3 0), (4, .ref 4 0), (5, .rowR 18), (6, .val tI), (7, .val (.int .u32)), (8, .val (.int .u64)), (20, .val (.slice (.int .u32))), (21, .val tI), (22, .val tI), (28, .val (.slice (.int .u32))), (29, .val tI), (30, .val tI)], [(2, [.val .bool, .val (.slice (.int .u32))]), (3, [.val .bool, .val (.slice (.int .u32))]), (4, [.val .bool, .own 149 (.int .u32)])], [.rowC 18 149 (.int .u32)], fuelOf _⟩),
  (200003, ⟨[(2, .ref 2 0), (3, .ref 3 0), (4, .ref 4 0), (5, .rowR 18)], [(2, [.val .bool, .val (.slice (.int .u32))]), (3, [.val .bool, .val (.slice (.int .u32))]), (4, [.val .bool, .own 149 (.int .u32)])], [.rowC 18 149 (.int .u32)], fun _ => 0⟩),
  (200007, ⟨[(2, .ref 2 0), (3, .ref 3 0), (4, .ref 4 0), (5, .rowR 18), (6, .val tI), (8, .val (.int .u64)), (20, .val (.slice (.int .u32))), (21, .val tI), (22, .val tI)], [(2, [.val .bool, .val (.slice (.int .u32))]), (3, [.val .bool, .val (.slice (.int .u32))]), (4, [.val .bool, .own 149 (.int .u32)])], [.rowC 18 149 (.int .u32)], fun _ => 0⟩)]

noncomputable def sp_whole_Int_Times : FSpec := ⟨[.val t_whole_Int, .val t_whole_Int], [.val t_whole_Int], fun x => whole_Int_Times x.1 x.2.1⟩

noncomputable def cx_whole_Int_Times : Cx := ⟨Tryz.prog, [(113, sp_whole_made)]⟩

theorem den_whole_Int_Times : ∀ x, denF cx_whole_Int_Times anns_whole_Int_Times none Tryz.f164 sp_whole_Int_Times x = sp_whole_Int_Times.m x := by intro x; kernel_rfl

theorem hb_whole_Int_Times : HasBody Tryz.prog 164 := has_body (fn := Tryz.f164) (by kernel_rfl) rfl (by decide)

theorem ok_whole_Int_Times : FunOk Tryz.prog 164 sp_whole_Int_Times := fun_ok (X := cx_whole_Int_Times) (.cons ok_whole_made hb_whole_made (.nil _)) (by kernel_rfl) sp_whole_Int_Times anns_whole_Int_Times none (by kernel_rfl) (fun x y h => (den_whole_Int_Times x).trans h)

def anns_whole_Int_Plus : List (Nat × Ann) := []

noncomputable def sp_whole_Int_Plus : FSpec := ⟨[.val t_whole_Int, .val t_whole_Int], [.val t_whole_Int], fun x => whole_Int_Plus x.1 x.2.1⟩

noncomputable def cx_whole_Int_Plus : Cx := ⟨Tryz.prog, [(113, sp_whole_made), (145, sp_whole_sum_v), (147, sp_whole_compare), (148, sp_whole_less)]⟩

theorem den_whole_Int_Plus : ∀ x, denF cx_whole_Int_Plus anns_whole_Int_Plus none Tryz.f165 sp_whole_Int_Plus x = sp_whole_Int_Plus.m x := by intro x; kernel_rfl

theorem hb_whole_Int_Plus : HasBody Tryz.prog 165 := has_body (fn := Tryz.f165) (by kernel_rfl) rfl (by decide)

theorem ok_whole_Int_Plus : FunOk Tryz.prog 165 sp_whole_Int_Plus := fun_ok (X := cx_whole_Int_Plus) (.cons ok_whole_made hb_whole_made (.cons ok_whole_sum_v hb_whole_sum_v (.cons ok_whole_compare hb_whole_compare (.cons ok_whole_less hb_whole_less (.nil _))))) (by kernel_rfl) sp_whole_Int_Plus anns_whole_Int_Plus none (by kernel_rfl) (fun x y h => (den_whole_Int_Plus x).trans h)

def anns_amount_read : List (Nat × Ann) := [(3, ⟨[(0, .val .bool), (1, .val .str), (2, .val .str), (6, .ref 6 0), (8, .ref 8 0), (14, .val tI), (15, .val tI)], [(6, [.val tI, .val tI]), (8, [.val .bool, .val (.slice (.int .u32))])], [], fuelOf _⟩),
  (200003, ⟨[(0, .val .bool), (2, .val .str), (6, .ref 6 0), (8, .ref 8 0)], [(6, [.val tI, .val tI]), (8, [.val .bool, .val (.slice (.int .u32))])], [], fun _ => 0⟩)]

noncomputable def sp_amount_read : FSpec := ⟨[.val .bool, .val .str, .val .str], [.val t_api_Decimal, .val tI], fun x => amount_read x.1 x.2.1 x.2.2.1⟩

noncomputable def cx_amount_read : Cx := ⟨Tryz.prog, [(82, sp_whole_Of), (110, sp_whole_Int_Sign), (111, sp_whole_Int_Minus), (112, sp_amount_Made), (164, sp_whole_Int_Times), (165, sp_whole_Int_Plus)]⟩

theorem den_amount_read : ∀ x, denF cx_amount_read anns_amount_read none Tryz.f129 sp_amount_read x = sp_amount_read.m x := by intro x; kernel_rfl

theorem hb_amount_read : HasBody Tryz.prog 129 := has_body (fn := Tryz.f129) (by kernel_rfl) rfl (by decide)

theorem ok_amount_read : FunOk Tryz.prog 129 sp_amount_read := fun_ok (X := cx_amount_read) (.cons ok_whole_Of hb_whole_Of (.cons ok_whole_Int_Sign hb_whole_Int_Sign (.cons ok_whole_Int_Minus hb_whole_Int_Minus (.cons ok_amount_Made hb_amount_Made (.cons ok_whole_Int_Times hb_whole_Int_Times (.cons ok_whole_Int_Plus hb_whole_Int_Plus (.nil _))))))) (by kernel_rfl) sp_amount_read anns_amount_read none (by kernel_rfl) (fun x y h => (den_amount_read x).trans h)

def anns_amount_ReadText : List (Nat × Ann) := [(300003, ⟨[(40, .val .bool)], [], [], fun _ => 0⟩)]

noncomputable def sp_amount_ReadText : FSpec := ⟨[.val .str], [.val t_api_Decimal, .val tI], fun x => amount_ReadText x.1⟩

noncomputable def cx_amount_ReadText : Cx := ⟨Tryz.prog, [(38, sp_strings_Cut), (125, sp_kit_IsDigits), (127, sp_strings_CutPrefix), (128, sp_amount_isWhole), (129, sp_amount_read)]⟩

theorem den_amount_ReadText : ∀ x, denF cx_amount_ReadText anns_amount_ReadText none Tryz.f102 sp_amount_ReadText x = sp_amount_ReadText.m x := by intro x; kernel_rfl

theorem hb_amount_ReadText : HasBody Tryz.prog 102 := has_body (fn := Tryz.f102) (by kernel_rfl) rfl (by decide)

theorem ok_amount_ReadText : FunOk Tryz.prog 102 sp_amount_ReadText := fun_ok (X := cx_amount_ReadText) (.cons ok_strings_Cut hb_strings_Cut (.cons ok_kit_IsDigits hb_kit_IsDigits (.cons ok_strings_CutPrefix hb_strings_CutPrefix (.cons ok_amount_isWhole hb_amount_isWhole (.cons ok_amount_read hb_amount_read (.nil _)))))) (by kernel_rfl) sp_amount_ReadText anns_amount_ReadText none (by kernel_rfl) (fun x y h => (den_amount_ReadText x).trans h)

def anns_order_words_decimal : List (Nat × Ann) := []

noncomputable def sp_order_words_decimal : FSpec := ⟨[.box [.val (.slice .str), .val .bool]], [.val t_api_Decimal], fun x => order_words_decimal x.1⟩

noncomputable def cx_order_words_decimal : Cx := ⟨Tryz.prog, [(64, sp_order_words_next), (102, sp_amount_ReadText)]⟩

theorem den_order_words_decimal : ∀ x, denF cx_order_words_decimal anns_order_words_decimal none Tryz.f65 sp_order_words_decimal x = sp_order_words_decimal.m x := by intro x; kernel_rfl

theorem hb_order_words_decimal : HasBody Tryz.prog 65 := has_body (fn := Tryz.f65) (by kernel_rfl) rfl (by decide)

theorem ok_order_words_decimal : FunOk Tryz.prog 65 sp_order_words_decimal := fun_ok (X := cx_order_words_decimal) (.cons ok_order_words_next hb_order_words_next (.cons ok_amount_ReadText hb_amount_ReadText (.nil _))) (by kernel_rfl) sp_order_words_decimal anns_order_words_decimal none (by kernel_rfl) (fun x y h => (den_order_words_decimal x).trans h)

def anns_order_readDeed : List (Nat × Ann) := [(100008, ⟨[(2, .ref 2 0), (6, .ref 19 0), (7, .ref 7 0), (8, .ref 8 0)], [(2, [.val tI, .val tI, .val tI, .val tI, .val tI, .val .str, .val tI, .val tI, .val .str, .val tI, .val tI, .val tI, .val tI]), (7, [.val tI, .val tI, .val tI, .val tI, .val tI, .val .str, .val tI, .val tI, .val .str, .val tI, .val tI, .val tI, .val tI]), (8, [.val .bool, .val .bool, .val .bool, .val .bool, .val .bool, .val .bool]), (19, [.val (.slice .str), .val .bool])], [], fun _ => 0⟩),
  (100010, ⟨[(2, .ref 2 0), (6, .ref 19 0), (7, .ref 7 0), (8, .ref 8 0)], [(2, [.val tI, .val tI, .val tI, .val tI, .val tI, .val .str, .val tI, .val tI, .val .str, .val tI, .val tI, .val tI, .val tI]), (7, [.val tI, .val tI, .val tI, .val tI, .val tI, .val .str, .val tI, .val tI, .val .str, .val tI, .val tI, .val tI, .val tI]), (8, [.val .bool, .val .bool, .val .bool, .val .bool, .val .bool, .val .bool]), (19, [.val (.slice .str), .val .bool])], [], fun _ => 0⟩),
  (100012, ⟨[(2, .ref 2 0), (6, .ref 19 0), (7, .ref 7 0), (8, .ref 8 0)], [(2, [.val tI, .val tI, .val tI, .val tI, .val tI, .val .str, .val tI, .val tI, .val .str, .val tI, .val tI, .val tI, .val tI]), (7, [.val tI, .val tI, .val tI, .val tI, .val tI, .val .str, .val tI, .val tI, .val .str, .val tI, .val tI, .val tI, .val tI]), (8, [.val .bool, .val .bool, .val .bool, .val .bool, .val .bool, .val .bool]), (19, [.val (.slice .str), .val .bool])], [], fun _ => 0⟩),
  (100014, ⟨[(2, .ref 2 0), (6, .ref 19 0), (7, .ref 7 0), (8, .ref 8 0)], [(2, [.val tI, .val tI, .val tI, .val tI, .val tI, .val .str, .val tI, .val tI, .val .str, .val tI, .val tI, .val tI, .val tI]), (7, [.val tI, .val tI, .val tI, .val tI, .val tI, .val .str, .val tI, .val tI, .val .str, .val tI, .val tI, .val tI, .val tI]), (8, [.val .bool, .val .bool, .val .bool, .val .bool, .val .bool, .val .bool]), (19, [.val (.slice .str), .val .bool])], [], fun _ => 0⟩),
  (100016, ⟨[(2, .ref 2 0), (6, .ref 19 0), (7, .ref 7 0), (8, .ref 8 0)], [(2, [.val tI, .val tI, .val tI, .val tI, .val tI, .val .str, .val tI, .val tI, .val .str, .val tI, .val tI, .val tI, .val tI]), (7, [.val tI, .val tI, .val tI, .val tI, .val tI, .val .str, .val tI, .val tI, .val .str, .val tI, .val tI, .val tI, .val tI]), (8, [.val .bool, .val .bool, .val .bool, .val .bool, .val .bool, .val .bool]), (19, [.val (.slice .str), .val .bool])], [], fun _ => 0⟩),
  (100018, ⟨[(2, .ref 2 0), (6, .ref 19 0), (7, .ref 7 0)], [(2, [.val tI, .val tI, .val tI, .val tI, .val tI, .val .str, .val tI, .val tI, .val .str, .val tI, .val tI, .val tI, .val tI]), (7, [.val tI, .val tI, .val tI, .val tI, .val tI, .val .str, .val tI, .val tI, .val .str, .val tI, .val tI, .val tI, .val tI]), (19, [.val (.slice .str), .val .bool])], [], fun _ => 0⟩)]

noncomputable def sp_order_readDeed : FSpec := ⟨[.val .str], [.val t_api_Deed, .val .bool], fun x => order_readDeed x.1⟩

noncomputable def cx_order_readDeed : Cx := ⟨Tryz.prog, [(58, sp_kit_Words), (59, sp_order_words_number), (60, sp_order_words_index), (61, sp_order_byWords), (62, sp_order_kindWords), (63, sp_order_usesOf), (64, sp_order_words_next), (65, sp_order_words_decimal)]⟩

theorem den_order_readDeed : ∀ x, denF cx_order_readDeed anns_order_readDeed none Tryz.f37 sp_order_readDeed x = sp_order_readDeed.m x := by intro x; kernel_rfl

theorem hb_order_readDeed : HasBody Tryz.prog 37 := has_body (fn := Tryz.f37) (by kernel_rfl) rfl (by decide)

theorem ok_order_readDeed : FunOk Tryz.prog 37 sp_order_readDeed := fun_ok (X := cx_order_readDeed) (.cons ok_kit_Words hb_kit_Words (.cons ok_order_words_number hb_order_words_number (.cons ok_order_words_index hb_order_words_index (.cons ok_order_byWords hb_order_byWords (.cons ok_order_kindWords hb_order_kindWords (.cons ok_order_usesOf hb_order_usesOf (.cons ok_order_words_next hb_order_words_next (.cons ok_order_words_decimal hb_order_words_decimal (.nil _))))))))) (by kernel_rfl) sp_order_readDeed anns_order_readDeed none (by kernel_rfl) (fun x y h => (den_order_readDeed x).trans h)

def anns_order_Read : List (Nat × Ann) := [(6, ⟨[(5, .val (.slice .str)), (6, .val .bool), (7, .own 40 t_api_Deed), (21, .val (.slice .str)), (22, .val tI), (23, .val tI)], [], [], fuelOf _⟩),
  (200006, ⟨[(7, .own 40 t_api_Deed)], [], [], fun _ => 0⟩),
  (300009, ⟨[(45, .val .bool)], [], [], fun _ => 0⟩)]

noncomputable def sp_order_Read : FSpec := ⟨[.val .str], [.row 40 t_api_Deed, .val tI, .val tI], fun x => order_Read x.1⟩

noncomputable def cx_order_Read : Cx := ⟨Tryz.prog, [(26, sp_order_CheckDeeds), (36, sp_kit_Lines), (37, sp_order_readDeed)]⟩

theorem den_order_Read : ∀ x, denF cx_order_Read anns_order_Read none Tryz.f16 sp_order_Read x = sp_order_Read.m x := by intro x; kernel_rfl

theorem hb_order_Read : HasBody Tryz.prog 16 := has_body (fn := Tryz.f16) (by kernel_rfl) rfl (by decide)

theorem ok_order_Read : FunOk Tryz.prog 16 sp_order_Read := fun_ok (X := cx_order_Read) (.cons ok_order_CheckDeeds hb_order_CheckDeeds (.cons ok_kit_Lines hb_kit_Lines (.cons ok_order_readDeed hb_order_readDeed (.nil _)))) (by kernel_rfl) sp_order_Read anns_order_Read none (by kernel_rfl) (fun x y h => (den_order_Read x).trans h)

def anns_l9_awake : List (Nat × Ann) := [(300002, ⟨[(0, .val .bool)], [], [], fun _ => 0⟩)]

noncomputable def sp_l9_awake : FSpec := ⟨[], [.val .bool], fun x => l9_awake ⟩

noncomputable def cx_l9_awake : Cx := ⟨Tryz.prog, [(16, sp_order_Read)]⟩

theorem den_l9_awake : ∀ x, denF cx_l9_awake anns_l9_awake none Tryz.f8 sp_l9_awake x = sp_l9_awake.m x := by intro x; kernel_rfl

theorem hb_l9_awake : HasBody Tryz.prog 8 := has_body (fn := Tryz.f8) (by kernel_rfl) rfl (by decide)

theorem ok_l9_awake : FunOk Tryz.prog 8 sp_l9_awake := fun_ok (X := cx_l9_awake) (.cons ok_order_Read hb_order_Read (.nil _)) (by kernel_rfl) sp_l9_awake anns_l9_awake none (by kernel_rfl) (fun x y h => (den_l9_awake x).trans h)

def anns_slices_Equal_api_Deed : List (Nat × Ann) := [(4, ⟨[(0, .val (.slice t_api_Deed)), (1, .val (.slice t_api_Deed)), (12, .val tI), (13, .val tI)], [], [], fuelOf _⟩),
  (200004, ⟨[], [], [], fun _ => 0⟩)]

noncomputable def sp_slices_Equal_api_Deed : FSpec := ⟨[.val (.slice t_api_Deed), .val (.slice t_api_Deed)], [.val .bool], fun x => slices_Equal_api_Deed x.1 x.2.1⟩

noncomputable def cx_slices_Equal_api_Deed : Cx := ⟨Tryz.prog, []⟩

theorem den_slices_Equal_api_Deed : ∀ x, denF cx_slices_Equal_api_Deed anns_slices_Equal_api_Deed none Tryz.f11 sp_slices_Equal_api_Deed x = sp_slices_Equal_api_Deed.m x := by intro x; kernel_rfl

theorem hb_slices_Equal_api_Deed : HasBody Tryz.prog 11 := has_body (fn := Tryz.f11) (by kernel_rfl) rfl (by decide)

theorem ok_slices_Equal_api_Deed : FunOk Tryz.prog 11 sp_slices_Equal_api_Deed := fun_ok (X := cx_slices_Equal_api_Deed) (.nil _) (by kernel_rfl) sp_slices_Equal_api_Deed anns_slices_Equal_api_Deed none (by kernel_rfl) (fun x y h => (den_slices_Equal_api_Deed x).trans h)

end Go.Proofs.SeatO
