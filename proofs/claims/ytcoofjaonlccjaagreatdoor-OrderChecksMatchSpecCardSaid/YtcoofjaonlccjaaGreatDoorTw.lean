/-
 Each function that the law reaches is as its plain model says. No condition.
-/
import Derived.Test.YtcoofjaonlccjaaGreatDoorTv
set_option linter.all false
set_option maxRecDepth 100000
namespace Go.Proofs.SeatA
open Go.Dn Go.Md Go.Proofs

def anns_kit_IsName : List (Nat × Ann) := []

noncomputable def sp_kit_IsName : FSpec := ⟨[.val .str], [.val .bool], fun x => kit_IsName x.1⟩

noncomputable def cx_kit_IsName : Cx := ⟨Tryz.prog, [(71, sp_strings_Trim)], []⟩

theorem den_kit_IsName : ∀ x, denF cx_kit_IsName anns_kit_IsName none Tryz.f36 sp_kit_IsName x = sp_kit_IsName.m x := by intro x; kernel_rfl

theorem hb_kit_IsName : HasBody Tryz.prog 36 := has_body (fn := Tryz.f36) (by kernel_rfl) rfl (by decide)

theorem ok_kit_IsName : FunOk Tryz.prog 36 sp_kit_IsName := fun_ok (X := cx_kit_IsName) (.cons ok_strings_Trim hb_strings_Trim (.nil _)) (by kernel_rfl) sp_kit_IsName anns_kit_IsName none (by kernel_rfl) (fun x y h => (den_kit_IsName x).trans h)

def anns_kit_Outside : List (Nat × Ann) := []

noncomputable def sp_kit_Outside : FSpec := ⟨[.val tI, .val tI, .val tI], [.val .bool], fun x => kit_Outside x.1 x.2.1 x.2.2.1⟩

noncomputable def cx_kit_Outside : Cx := ⟨Tryz.prog, [], []⟩

theorem den_kit_Outside : ∀ x, denF cx_kit_Outside anns_kit_Outside none Tryz.f38 sp_kit_Outside x = sp_kit_Outside.m x := by intro x; kernel_rfl

theorem hb_kit_Outside : HasBody Tryz.prog 38 := has_body (fn := Tryz.f38) (by kernel_rfl) rfl (by decide)

theorem ok_kit_Outside : FunOk Tryz.prog 38 sp_kit_Outside := fun_ok (X := cx_kit_Outside) (.nil _) (by kernel_rfl) sp_kit_Outside anns_kit_Outside none (by kernel_rfl) (fun x y h => (den_kit_Outside x).trans h)

def anns_kit_IsDay : List (Nat × Ann) := []

noncomputable def sp_kit_IsDay : FSpec := ⟨[.val tI], [.val .bool], fun x => kit_IsDay x.1⟩

noncomputable def cx_kit_IsDay : Cx := ⟨Tryz.prog, [(38, sp_kit_Outside)], []⟩

theorem den_kit_IsDay : ∀ x, denF cx_kit_IsDay anns_kit_IsDay none Tryz.f37 sp_kit_IsDay x = sp_kit_IsDay.m x := by intro x; kernel_rfl

theorem hb_kit_IsDay : HasBody Tryz.prog 37 := has_body (fn := Tryz.f37) (by kernel_rfl) rfl (by decide)

theorem ok_kit_IsDay : FunOk Tryz.prog 37 sp_kit_IsDay := fun_ok (X := cx_kit_IsDay) (.cons ok_kit_Outside hb_kit_Outside (.nil _)) (by kernel_rfl) sp_kit_IsDay anns_kit_IsDay none (by kernel_rfl) (fun x y h => (den_kit_IsDay x).trans h)

def anns_amount_CheckDecimal : List (Nat × Ann) := []

noncomputable def sp_amount_CheckDecimal : FSpec := ⟨[.val t_api_Decimal], [.val tI], fun x => amount_CheckDecimal x.1⟩

noncomputable def cx_amount_CheckDecimal : Cx := ⟨Tryz.prog, [(38, sp_kit_Outside)], []⟩

theorem den_amount_CheckDecimal : ∀ x, denF cx_amount_CheckDecimal anns_amount_CheckDecimal none Tryz.f116 sp_amount_CheckDecimal x = sp_amount_CheckDecimal.m x := by intro x; kernel_rfl

theorem hb_amount_CheckDecimal : HasBody Tryz.prog 116 := has_body (fn := Tryz.f116) (by kernel_rfl) rfl (by decide)

theorem ok_amount_CheckDecimal : FunOk Tryz.prog 116 sp_amount_CheckDecimal := fun_ok (X := cx_amount_CheckDecimal) (.cons ok_kit_Outside hb_kit_Outside (.nil _)) (by kernel_rfl) sp_amount_CheckDecimal anns_amount_CheckDecimal none (by kernel_rfl) (fun x y h => (den_amount_CheckDecimal x).trans h)

def anns_order_power : List (Nat × Ann) := [(3, ⟨[(3, .val tI), (4, .val tI), (5, .val tI)], [], [], fuelOf _⟩),
 (200003, ⟨[(3, .val tI)], [], [], fun _ => 0⟩)]

noncomputable def sp_order_power : FSpec := ⟨[.val tI], [.val tI], fun x => order_power x.1⟩

noncomputable def cx_order_power : Cx := ⟨Tryz.prog, [], []⟩

theorem den_order_power : ∀ x, denF cx_order_power anns_order_power none Tryz.f130 sp_order_power x = sp_order_power.m x := by intro x; kernel_rfl

theorem hb_order_power : HasBody Tryz.prog 130 := has_body (fn := Tryz.f130) (by kernel_rfl) rfl (by decide)

theorem ok_order_power : FunOk Tryz.prog 130 sp_order_power := fun_ok (X := cx_order_power) (.nil _) (by kernel_rfl) sp_order_power anns_order_power none (by kernel_rfl) (fun x y h => (den_order_power x).trans h)

def anns_order_within : List (Nat × Ann) := []

noncomputable def sp_order_within : FSpec := ⟨[.val t_api_Decimal, .val tI, .val tI], [.val .bool], fun x => order_within x.1 x.2.1 x.2.2.1⟩

noncomputable def cx_order_within : Cx := ⟨Tryz.prog, [(130, sp_order_power)], []⟩

theorem den_order_within : ∀ x, denF cx_order_within anns_order_within none Tryz.f117 sp_order_within x = sp_order_within.m x := by intro x; kernel_rfl

theorem hb_order_within : HasBody Tryz.prog 117 := has_body (fn := Tryz.f117) (by kernel_rfl) rfl (by decide)

theorem ok_order_within : FunOk Tryz.prog 117 sp_order_within := fun_ok (X := cx_order_within) (.cons ok_order_power hb_order_power (.nil _)) (by kernel_rfl) sp_order_within anns_order_within none (by kernel_rfl) (fun x y h => (den_order_within x).trans h)

def anns_order_QuantityFault : List (Nat × Ann) := []

noncomputable def sp_order_QuantityFault : FSpec := ⟨[.val t_api_Decimal, .val .bool], [.val tI], fun x => order_QuantityFault x.1 x.2.1⟩

noncomputable def cx_order_QuantityFault : Cx := ⟨Tryz.prog, [(116, sp_amount_CheckDecimal), (117, sp_order_within)], []⟩

theorem den_order_QuantityFault : ∀ x, denF cx_order_QuantityFault anns_order_QuantityFault none Tryz.f72 sp_order_QuantityFault x = sp_order_QuantityFault.m x := by intro x; kernel_rfl

theorem hb_order_QuantityFault : HasBody Tryz.prog 72 := has_body (fn := Tryz.f72) (by kernel_rfl) rfl (by decide)

theorem ok_order_QuantityFault : FunOk Tryz.prog 72 sp_order_QuantityFault := fun_ok (X := cx_order_QuantityFault) (.cons ok_amount_CheckDecimal hb_amount_CheckDecimal (.cons ok_order_within hb_order_within (.nil _))) (by kernel_rfl) sp_order_QuantityFault anns_order_QuantityFault none (by kernel_rfl) (fun x y h => (den_order_QuantityFault x).trans h)

def anns_order_PriceFault : List (Nat × Ann) := []

noncomputable def sp_order_PriceFault : FSpec := ⟨[.val t_api_Decimal], [.val tI], fun x => order_PriceFault x.1⟩

noncomputable def cx_order_PriceFault : Cx := ⟨Tryz.prog, [(116, sp_amount_CheckDecimal), (117, sp_order_within)], []⟩

theorem den_order_PriceFault : ∀ x, denF cx_order_PriceFault anns_order_PriceFault none Tryz.f73 sp_order_PriceFault x = sp_order_PriceFault.m x := by intro x; kernel_rfl

theorem hb_order_PriceFault : HasBody Tryz.prog 73 := has_body (fn := Tryz.f73) (by kernel_rfl) rfl (by decide)

theorem ok_order_PriceFault : FunOk Tryz.prog 73 sp_order_PriceFault := fun_ok (X := cx_order_PriceFault) (.cons ok_amount_CheckDecimal hb_amount_CheckDecimal (.cons ok_order_within hb_order_within (.nil _))) (by kernel_rfl) sp_order_PriceFault anns_order_PriceFault none (by kernel_rfl) (fun x y h => (den_order_PriceFault x).trans h)

def anns_order_lineFault : List (Nat × Ann) := [(300004, ⟨[(17, .val .bool)], [], [], fun _ => 0⟩)]

noncomputable def sp_order_lineFault : FSpec := ⟨[.val t_api_Order, .val tI], [.val tI], fun x => order_lineFault x.1 x.2.1⟩

noncomputable def cx_order_lineFault : Cx := ⟨Tryz.prog, [(36, sp_kit_IsName), (38, sp_kit_Outside), (72, sp_order_QuantityFault), (73, sp_order_PriceFault)], []⟩

theorem den_order_lineFault : ∀ x, denF cx_order_lineFault anns_order_lineFault none Tryz.f39 sp_order_lineFault x = sp_order_lineFault.m x := by intro x; kernel_rfl

theorem hb_order_lineFault : HasBody Tryz.prog 39 := has_body (fn := Tryz.f39) (by kernel_rfl) rfl (by decide)

theorem ok_order_lineFault : FunOk Tryz.prog 39 sp_order_lineFault := fun_ok (X := cx_order_lineFault) (.cons ok_kit_IsName hb_kit_IsName (.cons ok_kit_Outside hb_kit_Outside (.cons ok_order_QuantityFault hb_order_QuantityFault (.cons ok_order_PriceFault hb_order_PriceFault (.nil _))))) (by kernel_rfl) sp_order_lineFault anns_order_lineFault none (by kernel_rfl) (fun x y h => (den_order_lineFault x).trans h)

def anns_order_CheckOrder : List (Nat × Ann) := [(12, ⟨[(1, .ref 1 0), (50, .val tI), (51, .val tI)], [(1, [.val .str, .val .str, .val .str, .val tI, .val tI, .val (.slice t_api_Line)])], [], fuelOf _⟩),
 (200012, ⟨[], [], [], fun _ => 0⟩)]

noncomputable def sp_order_CheckOrder : FSpec := ⟨[.val t_api_Order], [.val tI], fun x => order_CheckOrder x.1⟩

noncomputable def cx_order_CheckOrder : Cx := ⟨Tryz.prog, [(36, sp_kit_IsName), (37, sp_kit_IsDay), (38, sp_kit_Outside), (39, sp_order_lineFault)], []⟩

theorem den_order_CheckOrder : ∀ x, denF cx_order_CheckOrder anns_order_CheckOrder none Tryz.f11 sp_order_CheckOrder x = sp_order_CheckOrder.m x := by intro x; kernel_rfl

theorem hb_order_CheckOrder : HasBody Tryz.prog 11 := has_body (fn := Tryz.f11) (by kernel_rfl) rfl (by decide)

theorem ok_order_CheckOrder : FunOk Tryz.prog 11 sp_order_CheckOrder := fun_ok (X := cx_order_CheckOrder) (.cons ok_kit_IsName hb_kit_IsName (.cons ok_kit_IsDay hb_kit_IsDay (.cons ok_kit_Outside hb_kit_Outside (.cons ok_order_lineFault hb_order_lineFault (.nil _))))) (by kernel_rfl) sp_order_CheckOrder anns_order_CheckOrder none (by kernel_rfl) (fun x y h => (den_order_CheckOrder x).trans h)

def anns_order_isSellers : List (Nat × Ann) := []

noncomputable def sp_order_isSellers : FSpec := ⟨[.val tI], [.val .bool], fun x => order_isSellers x.1⟩

noncomputable def cx_order_isSellers : Cx := ⟨Tryz.prog, [], []⟩

theorem den_order_isSellers : ∀ x, denF cx_order_isSellers anns_order_isSellers none Tryz.f78 sp_order_isSellers x = sp_order_isSellers.m x := by intro x; kernel_rfl

theorem hb_order_isSellers : HasBody Tryz.prog 78 := has_body (fn := Tryz.f78) (by kernel_rfl) rfl (by decide)

theorem ok_order_isSellers : FunOk Tryz.prog 78 sp_order_isSellers := fun_ok (X := cx_order_isSellers) (.nil _) (by kernel_rfl) sp_order_isSellers anns_order_isSellers none (by kernel_rfl) (fun x y h => (den_order_isSellers x).trans h)

def anns_order_usesOf : List (Nat × Ann) := []

noncomputable def sp_order_usesOf : FSpec := ⟨[.val tI], [.val t_order_uses], fun x => order_usesOf x.1⟩

noncomputable def cx_order_usesOf : Cx := ⟨Tryz.prog, [], []⟩

theorem den_order_usesOf : ∀ x, denF cx_order_usesOf anns_order_usesOf none Tryz.f63 sp_order_usesOf x = sp_order_usesOf.m x := by intro x; kernel_rfl

theorem hb_order_usesOf : HasBody Tryz.prog 63 := has_body (fn := Tryz.f63) (by kernel_rfl) rfl (by decide)

theorem ok_order_usesOf : FunOk Tryz.prog 63 sp_order_usesOf := fun_ok (X := cx_order_usesOf) (.nil _) (by kernel_rfl) sp_order_usesOf anns_order_usesOf none (by kernel_rfl) (fun x y h => (den_order_usesOf x).trans h)

def anns_order_usedFault : List (Nat × Ann) := [(100003, ⟨[(1, .ref 1 0), (3, .ref 3 0)], [(1, [.val tI, .val tI, .val tI, .val tI, .val tI, .val .str, .val tI, .val tI, .val .str, .val tI, .val tI, .val tI, .val tI]), (3, [.val .bool, .val .bool, .val .bool, .val .bool, .val .bool, .val .bool])], [], fun _ => 0⟩),
 (100007, ⟨[(1, .ref 1 0), (3, .ref 3 0)], [(1, [.val tI, .val tI, .val tI, .val tI, .val tI, .val .str, .val tI, .val tI, .val .str, .val tI, .val tI, .val tI, .val tI]), (3, [.val .bool, .val .bool, .val .bool, .val .bool, .val .bool, .val .bool])], [], fun _ => 0⟩),
 (300011, ⟨[(30, .val .bool)], [], [], fun _ => 0⟩),
 (300013, ⟨[(39, .val .bool)], [], [], fun _ => 0⟩),
 (300015, ⟨[(58, .val .bool)], [], [], fun _ => 0⟩),
 (300017, ⟨[(66, .val .bool)], [], [], fun _ => 0⟩)]

noncomputable def sp_order_usedFault : FSpec := ⟨[.val t_api_Deed], [.val tI], fun x => order_usedFault x.1⟩

noncomputable def cx_order_usedFault : Cx := ⟨Tryz.prog, [(36, sp_kit_IsName), (37, sp_kit_IsDay), (38, sp_kit_Outside), (63, sp_order_usesOf), (72, sp_order_QuantityFault), (73, sp_order_PriceFault)], []⟩

theorem den_order_usedFault : ∀ x, denF cx_order_usedFault anns_order_usedFault none Tryz.f79 sp_order_usedFault x = sp_order_usedFault.m x := by intro x; kernel_rfl

theorem hb_order_usedFault : HasBody Tryz.prog 79 := has_body (fn := Tryz.f79) (by kernel_rfl) rfl (by decide)

theorem ok_order_usedFault : FunOk Tryz.prog 79 sp_order_usedFault := fun_ok (X := cx_order_usedFault) (.cons ok_kit_IsName hb_kit_IsName (.cons ok_kit_IsDay hb_kit_IsDay (.cons ok_kit_Outside hb_kit_Outside (.cons ok_order_usesOf hb_order_usesOf (.cons ok_order_QuantityFault hb_order_QuantityFault (.cons ok_order_PriceFault hb_order_PriceFault (.nil _))))))) (by kernel_rfl) sp_order_usedFault anns_order_usedFault none (by kernel_rfl) (fun x y h => (den_order_usedFault x).trans h)

def anns_order_deedFault : List (Nat × Ann) := []

noncomputable def sp_order_deedFault : FSpec := ⟨[.val t_api_Deed], [.val tI], fun x => order_deedFault x.1⟩

noncomputable def cx_order_deedFault : Cx := ⟨Tryz.prog, [(37, sp_kit_IsDay), (38, sp_kit_Outside), (78, sp_order_isSellers), (79, sp_order_usedFault)], []⟩

theorem den_order_deedFault : ∀ x, denF cx_order_deedFault anns_order_deedFault none Tryz.f44 sp_order_deedFault x = sp_order_deedFault.m x := by intro x; kernel_rfl

theorem hb_order_deedFault : HasBody Tryz.prog 44 := has_body (fn := Tryz.f44) (by kernel_rfl) rfl (by decide)

theorem ok_order_deedFault : FunOk Tryz.prog 44 sp_order_deedFault := fun_ok (X := cx_order_deedFault) (.cons ok_kit_IsDay hb_kit_IsDay (.cons ok_kit_Outside hb_kit_Outside (.cons ok_order_isSellers hb_order_isSellers (.cons ok_order_usedFault hb_order_usedFault (.nil _))))) (by kernel_rfl) sp_order_deedFault anns_order_deedFault none (by kernel_rfl) (fun x y h => (den_order_deedFault x).trans h)

def anns_order_compareDeeds : List (Nat × Ann) := [(2, ⟨[(22, .rowR 22), (23, .val tI), (24, .val tI)], [], [.rowC 22 3 tI], fuelOf _⟩),
 (200002, ⟨[], [], [], fun _ => 0⟩)]

noncomputable def sp_order_compareDeeds : FSpec := ⟨[.val t_api_Deed, .val t_api_Deed], [.val tI], fun x => order_compareDeeds x.1 x.2.1⟩

noncomputable def cx_order_compareDeeds : Cx := ⟨Tryz.prog, [], []⟩

theorem den_order_compareDeeds : ∀ x, denF cx_order_compareDeeds anns_order_compareDeeds none Tryz.f32 sp_order_compareDeeds x = sp_order_compareDeeds.m x := by intro x; kernel_rfl

theorem hb_order_compareDeeds : HasBody Tryz.prog 32 := has_body (fn := Tryz.f32) (by kernel_rfl) rfl (by decide)

theorem ok_order_compareDeeds : FunOk Tryz.prog 32 sp_order_compareDeeds := fun_ok (X := cx_order_compareDeeds) (.nil _) (by kernel_rfl) sp_order_compareDeeds anns_order_compareDeeds none (by kernel_rfl) (fun x y h => (den_order_compareDeeds x).trans h)

def anns_order_CheckDeeds : List (Nat × Ann) := [(5, ⟨[(0, .val (.slice t_api_Deed)), (3, .ref 3 0), (11, .val (.slice t_api_Deed)), (12, .val tI), (13, .val tI)], [(3, [.val tI, .val tI, .val tI])], [], fuelOf _⟩),
 (200005, ⟨[], [], [], fun _ => 0⟩),
 (300010, ⟨[(34, .val .bool)], [], [], fun _ => 0⟩)]

noncomputable def sp_order_CheckDeeds : FSpec := ⟨[.val (.slice t_api_Deed)], [.val tI], fun x => order_CheckDeeds x.1⟩

noncomputable def cx_order_CheckDeeds : Cx := ⟨Tryz.prog, [(32, sp_order_compareDeeds), (44, sp_order_deedFault)], []⟩

theorem den_order_CheckDeeds : ∀ x, denF cx_order_CheckDeeds anns_order_CheckDeeds none Tryz.f13 sp_order_CheckDeeds x = sp_order_CheckDeeds.m x := by intro x; kernel_rfl

theorem hb_order_CheckDeeds : HasBody Tryz.prog 13 := has_body (fn := Tryz.f13) (by kernel_rfl) rfl (by decide)

theorem ok_order_CheckDeeds : FunOk Tryz.prog 13 sp_order_CheckDeeds := fun_ok (X := cx_order_CheckDeeds) (.cons ok_order_compareDeeds hb_order_compareDeeds (.cons ok_order_deedFault hb_order_deedFault (.nil _))) (by kernel_rfl) sp_order_CheckDeeds anns_order_CheckDeeds none (by kernel_rfl) (fun x y h => (den_order_CheckDeeds x).trans h)

def anns_whole_trimmed : List (Nat × Ann) := [(1, ⟨[(0, .val (.slice (.int .u32)))], [], [], fuelOf _⟩),
 (200001, ⟨[(0, .val (.slice (.int .u32)))], [], [], fun _ => 0⟩)]

noncomputable def sp_whole_trimmed : FSpec := ⟨[.val (.slice (.int .u32))], [.val (.slice (.int .u32))], fun x => whole_trimmed x.1⟩

noncomputable def cx_whole_trimmed : Cx := ⟨Tryz.prog, [], []⟩

theorem den_whole_trimmed : ∀ x, denF cx_whole_trimmed anns_whole_trimmed none Tryz.f208 sp_whole_trimmed x = sp_whole_trimmed.m x := by intro x; kernel_rfl

theorem hb_whole_trimmed : HasBody Tryz.prog 208 := has_body (fn := Tryz.f208) (by kernel_rfl) rfl (by decide)

theorem ok_whole_trimmed : FunOk Tryz.prog 208 sp_whole_trimmed := fun_ok (X := cx_whole_trimmed) (.nil _) (by kernel_rfl) sp_whole_trimmed anns_whole_trimmed none (by kernel_rfl) (fun x y h => (den_whole_trimmed x).trans h)

def anns_whole_made : List (Nat × Ann) := []

noncomputable def sp_whole_made : FSpec := ⟨[.val .bool, .val (.slice (.int .u32))], [.val t_whole_Int], fun x => whole_made x.1 x.2.1⟩

noncomputable def cx_whole_made : Cx := ⟨Tryz.prog, [(208, sp_whole_trimmed)], []⟩

theorem den_whole_made : ∀ x, denF cx_whole_made anns_whole_made none Tryz.f184 sp_whole_made x = sp_whole_made.m x := by intro x; kernel_rfl

theorem hb_whole_made : HasBody Tryz.prog 184 := has_body (fn := Tryz.f184) (by kernel_rfl) rfl (by decide)

theorem ok_whole_made : FunOk Tryz.prog 184 sp_whole_made := fun_ok (X := cx_whole_made) (.cons ok_whole_trimmed hb_whole_trimmed (.nil _)) (by kernel_rfl) sp_whole_made anns_whole_made none (by kernel_rfl) (fun x y h => (den_whole_made x).trans h)

def anns_whole_Of : List (Nat × Ann) := [(100003, ⟨[(0, .val tI), (2, .ref 2 0), (3, .val (.int .u64))], [(2, [.val .bool, .own 163 (.int .u32)])], [], fun _ => 0⟩)]

noncomputable def sp_whole_Of : FSpec := ⟨[.val tI], [.val t_whole_Int], fun x => whole_Of x.1⟩

noncomputable def cx_whole_Of : Cx := ⟨Tryz.prog, [(184, sp_whole_made)], []⟩

theorem den_whole_Of : ∀ x, denF cx_whole_Of anns_whole_Of none Tryz.f146 sp_whole_Of x = sp_whole_Of.m x := by intro x; kernel_rfl

theorem hb_whole_Of : HasBody Tryz.prog 146 := has_body (fn := Tryz.f146) (by kernel_rfl) rfl (by decide)

theorem ok_whole_Of : FunOk Tryz.prog 146 sp_whole_Of := fun_ok (X := cx_whole_Of) (.cons ok_whole_made hb_whole_made (.nil _)) (by kernel_rfl) sp_whole_Of anns_whole_Of none (by kernel_rfl) (fun x y h => (den_whole_Of x).trans h)

def anns_whole_sum_v : List (Nat × Ann) := [(6, ⟨[(1, .val (.slice (.int .u32))), (5, .own 163 (.int .u32)), (6, .val (.int .u64)), (20, .val (.slice (.int .u32))), (21, .val tI), (22, .val tI)], [], [], fuelOf _⟩),
 (100002, ⟨[(0, .val (.slice (.int .u32))), (1, .val (.slice (.int .u32)))], [], [], fun _ => 0⟩),
 (100010, ⟨[(1, .val (.slice (.int .u32))), (5, .own 163 (.int .u32)), (6, .val (.int .u64)), (20, .val (.slice (.int .u32))), (21, .val tI), (22, .val tI)], [], [], fun _ => 0⟩),
 (200006, ⟨[(5, .own 163 (.int .u32)), (6, .val (.int .u64))], [], [], fun _ => 0⟩)]

noncomputable def sp_whole_sum_v : FSpec := ⟨[.val (.slice (.int .u32)), .val (.slice (.int .u32))], [.val (.slice (.int .u32))], fun x => whole_sum_v x.1 x.2.1⟩

noncomputable def cx_whole_sum_v : Cx := ⟨Tryz.prog, [], []⟩

theorem den_whole_sum_v : ∀ x, denF cx_whole_sum_v anns_whole_sum_v none Tryz.f207 sp_whole_sum_v x = sp_whole_sum_v.m x := by intro x; kernel_rfl

theorem hb_whole_sum_v : HasBody Tryz.prog 207 := has_body (fn := Tryz.f207) (by kernel_rfl) rfl (by decide)

theorem ok_whole_sum_v : FunOk Tryz.prog 207 sp_whole_sum_v := fun_ok (X := cx_whole_sum_v) (.nil _) (by kernel_rfl) sp_whole_sum_v anns_whole_sum_v none (by kernel_rfl) (fun x y h => (den_whole_sum_v x).trans h)

def anns_whole_compare : List (Nat × Ann) := [(4, ⟨[(0, .val (.slice (.int .u32))), (1, .val (.slice (.int .u32))), (5, .val tI)], [], [], fuelOf _⟩),
 (200004, ⟨[], [], [], fun _ => 0⟩)]

noncomputable def sp_whole_compare : FSpec := ⟨[.val (.slice (.int .u32)), .val (.slice (.int .u32))], [.val tI], fun x => whole_compare x.1 x.2.1⟩

noncomputable def cx_whole_compare : Cx := ⟨Tryz.prog, [], []⟩

theorem den_whole_compare : ∀ x, denF cx_whole_compare anns_whole_compare none Tryz.f209 sp_whole_compare x = sp_whole_compare.m x := by intro x; kernel_rfl

theorem hb_whole_compare : HasBody Tryz.prog 209 := has_body (fn := Tryz.f209) (by kernel_rfl) rfl (by decide)

theorem ok_whole_compare : FunOk Tryz.prog 209 sp_whole_compare := fun_ok (X := cx_whole_compare) (.nil _) (by kernel_rfl) sp_whole_compare anns_whole_compare none (by kernel_rfl) (fun x y h => (den_whole_compare x).trans h)

def anns_whole_less : List (Nat × Ann) := [(4, ⟨[(1, .val (.slice (.int .u32))), (5, .own 163 (.int .u32)), (6, .val (.int .u64)), (13, .val (.slice (.int .u32))), (14, .val tI), (15, .val tI)], [], [], fuelOf _⟩),
 (100008, ⟨[(1, .val (.slice (.int .u32))), (5, .own 163 (.int .u32)), (9, .val (.int .u64)), (13, .val (.slice (.int .u32))), (14, .val tI), (15, .val tI)], [], [], fun _ => 0⟩),
 (200004, ⟨[(5, .own 163 (.int .u32))], [], [], fun _ => 0⟩)]

noncomputable def sp_whole_less : FSpec := ⟨[.val (.slice (.int .u32)), .val (.slice (.int .u32))], [.val (.slice (.int .u32))], fun x => whole_less x.1 x.2.1⟩

noncomputable def cx_whole_less : Cx := ⟨Tryz.prog, [(208, sp_whole_trimmed)], []⟩

theorem den_whole_less : ∀ x, denF cx_whole_less anns_whole_less none Tryz.f210 sp_whole_less x = sp_whole_less.m x := by intro x; kernel_rfl

theorem hb_whole_less : HasBody Tryz.prog 210 := has_body (fn := Tryz.f210) (by kernel_rfl) rfl (by decide)

theorem ok_whole_less : FunOk Tryz.prog 210 sp_whole_less := fun_ok (X := cx_whole_less) (.cons ok_whole_trimmed hb_whole_trimmed (.nil _)) (by kernel_rfl) sp_whole_less anns_whole_less none (by kernel_rfl) (fun x y h => (den_whole_less x).trans h)

def anns_whole_Int_Sign : List (Nat × Ann) := []

noncomputable def sp_whole_Int_Sign : FSpec := ⟨[.val t_whole_Int], [.val tI], fun x => whole_Int_Sign x.1⟩

noncomputable def cx_whole_Int_Sign : Cx := ⟨Tryz.prog, [], []⟩

theorem den_whole_Int_Sign : ∀ x, denF cx_whole_Int_Sign anns_whole_Int_Sign none Tryz.f181 sp_whole_Int_Sign x = sp_whole_Int_Sign.m x := by intro x; kernel_rfl

theorem hb_whole_Int_Sign : HasBody Tryz.prog 181 := has_body (fn := Tryz.f181) (by kernel_rfl) rfl (by decide)

theorem ok_whole_Int_Sign : FunOk Tryz.prog 181 sp_whole_Int_Sign := fun_ok (X := cx_whole_Int_Sign) (.nil _) (by kernel_rfl) sp_whole_Int_Sign anns_whole_Int_Sign none (by kernel_rfl) (fun x y h => (den_whole_Int_Sign x).trans h)

def anns_whole_Int_Minus : List (Nat × Ann) := []

noncomputable def sp_whole_Int_Minus : FSpec := ⟨[.val t_whole_Int], [.val t_whole_Int], fun x => whole_Int_Minus x.1⟩

noncomputable def cx_whole_Int_Minus : Cx := ⟨Tryz.prog, [(184, sp_whole_made)], []⟩

theorem den_whole_Int_Minus : ∀ x, denF cx_whole_Int_Minus anns_whole_Int_Minus none Tryz.f182 sp_whole_Int_Minus x = sp_whole_Int_Minus.m x := by intro x; kernel_rfl

theorem hb_whole_Int_Minus : HasBody Tryz.prog 182 := has_body (fn := Tryz.f182) (by kernel_rfl) rfl (by decide)

theorem ok_whole_Int_Minus : FunOk Tryz.prog 182 sp_whole_Int_Minus := fun_ok (X := cx_whole_Int_Minus) (.cons ok_whole_made hb_whole_made (.nil _)) (by kernel_rfl) sp_whole_Int_Minus anns_whole_Int_Minus none (by kernel_rfl) (fun x y h => (den_whole_Int_Minus x).trans h)

def anns_whole_Int_Int : List (Nat × Ann) := [(5, ⟨[(1, .val tI), (2, .ref 2 0), (6, .val (.int .u64)), (14, .val (.slice (.int .u32))), (15, .val tI), (16, .val tI)], [(2, [.val .bool, .val (.slice (.int .u32))])], [], fuelOf _⟩),
 (200005, ⟨[(1, .val tI), (2, .ref 2 0), (6, .val (.int .u64))], [(2, [.val .bool, .val (.slice (.int .u32))])], [], fun _ => 0⟩)]

noncomputable def sp_whole_Int_Int : FSpec := ⟨[.val t_whole_Int, .val tI], [.val tI, .val .bool], fun x => whole_Int_Int x.1 x.2.1⟩

noncomputable def cx_whole_Int_Int : Cx := ⟨Tryz.prog, [], []⟩

theorem den_whole_Int_Int : ∀ x, denF cx_whole_Int_Int anns_whole_Int_Int none Tryz.f211 sp_whole_Int_Int x = sp_whole_Int_Int.m x := by intro x; kernel_rfl

theorem hb_whole_Int_Int : HasBody Tryz.prog 211 := has_body (fn := Tryz.f211) (by kernel_rfl) rfl (by decide)

theorem ok_whole_Int_Int : FunOk Tryz.prog 211 sp_whole_Int_Int := fun_ok (X := cx_whole_Int_Int) (.nil _) (by kernel_rfl) sp_whole_Int_Int anns_whole_Int_Int none (by kernel_rfl) (fun x y h => (den_whole_Int_Int x).trans h)

def anns_amount_Made : List (Nat × Ann) := []

noncomputable def sp_amount_Made : FSpec := ⟨[.val t_whole_Int, .val tI], [.val t_api_Decimal, .val tI], fun x => amount_Made x.1 x.2.1⟩

noncomputable def cx_amount_Made : Cx := ⟨Tryz.prog, [(211, sp_whole_Int_Int)], []⟩

theorem den_amount_Made : ∀ x, denF cx_amount_Made anns_amount_Made none Tryz.f183 sp_amount_Made x = sp_amount_Made.m x := by intro x; kernel_rfl

theorem hb_amount_Made : HasBody Tryz.prog 183 := has_body (fn := Tryz.f183) (by kernel_rfl) rfl (by decide)

theorem ok_amount_Made : FunOk Tryz.prog 183 sp_amount_Made := fun_ok (X := cx_amount_Made) (.cons ok_whole_Int_Int hb_whole_Int_Int (.nil _)) (by kernel_rfl) sp_amount_Made anns_amount_Made none (by kernel_rfl) (fun x y h => (den_amount_Made x).trans h)

end Go.Proofs.SeatA
