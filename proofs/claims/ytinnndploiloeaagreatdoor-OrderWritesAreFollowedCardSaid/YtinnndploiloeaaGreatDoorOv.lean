/-
  Each function that the law reaches is as its plain model says. No condition.
-/
import Derived.Test.YtinnndploiloeaaGreatDoorOu
set_option linter.all false
set_option maxRecDepth 100000
namespace Go.Proofs.SeatO
open Go.Dn Go.Md Go.Proofs

def anns_kit_IsName : List (Nat × Ann) := []

noncomputable def sp_kit_IsName : FSpec := ⟨[.val .str], [.val .bool], fun x => kit_IsName x.1⟩

noncomputable def cx_kit_IsName : Cx := ⟨Tryz.prog, [(106, sp_strings_Trim)]⟩

theorem den_kit_IsName : ∀ x, denF cx_kit_IsName anns_kit_IsName none Tryz.f71 sp_kit_IsName x = sp_kit_IsName.m x := by intro x; kernel_rfl

theorem hb_kit_IsName : HasBody Tryz.prog 71 := has_body (fn := Tryz.f71) (by kernel_rfl) rfl (by decide)

theorem ok_kit_IsName : FunOk Tryz.prog 71 sp_kit_IsName := fun_ok (X := cx_kit_IsName) (.cons ok_strings_Trim hb_strings_Trim (.nil _)) (by kernel_rfl) sp_kit_IsName anns_kit_IsName none (by kernel_rfl) (fun x y h => (den_kit_IsName x).trans h)

def anns_kit_Outside : List (Nat × Ann) := []

noncomputable def sp_kit_Outside : FSpec := ⟨[.val tI, .val tI, .val tI], [.val .bool], fun x => kit_Outside x.1 x.2.1 x.2.2.1⟩

noncomputable def cx_kit_Outside : Cx := ⟨Tryz.prog, []⟩

theorem den_kit_Outside : ∀ x, denF cx_kit_Outside anns_kit_Outside none Tryz.f19 sp_kit_Outside x = sp_kit_Outside.m x := by intro x; kernel_rfl

theorem hb_kit_Outside : HasBody Tryz.prog 19 := has_body (fn := Tryz.f19) (by kernel_rfl) rfl (by decide)

theorem ok_kit_Outside : FunOk Tryz.prog 19 sp_kit_Outside := fun_ok (X := cx_kit_Outside) (.nil _) (by kernel_rfl) sp_kit_Outside anns_kit_Outside none (by kernel_rfl) (fun x y h => (den_kit_Outside x).trans h)

def anns_kit_IsDay : List (Nat × Ann) := []

noncomputable def sp_kit_IsDay : FSpec := ⟨[.val tI], [.val .bool], fun x => kit_IsDay x.1⟩

noncomputable def cx_kit_IsDay : Cx := ⟨Tryz.prog, [(19, sp_kit_Outside)]⟩

theorem den_kit_IsDay : ∀ x, denF cx_kit_IsDay anns_kit_IsDay none Tryz.f43 sp_kit_IsDay x = sp_kit_IsDay.m x := by intro x; kernel_rfl

theorem hb_kit_IsDay : HasBody Tryz.prog 43 := has_body (fn := Tryz.f43) (by kernel_rfl) rfl (by decide)

theorem ok_kit_IsDay : FunOk Tryz.prog 43 sp_kit_IsDay := fun_ok (X := cx_kit_IsDay) (.cons ok_kit_Outside hb_kit_Outside (.nil _)) (by kernel_rfl) sp_kit_IsDay anns_kit_IsDay none (by kernel_rfl) (fun x y h => (den_kit_IsDay x).trans h)

def anns_amount_CheckDecimal : List (Nat × Ann) := []

noncomputable def sp_amount_CheckDecimal : FSpec := ⟨[.val t_api_Decimal], [.val tI], fun x => amount_CheckDecimal x.1⟩

noncomputable def cx_amount_CheckDecimal : Cx := ⟨Tryz.prog, [(19, sp_kit_Outside)]⟩

theorem den_amount_CheckDecimal : ∀ x, denF cx_amount_CheckDecimal anns_amount_CheckDecimal none Tryz.f143 sp_amount_CheckDecimal x = sp_amount_CheckDecimal.m x := by intro x; kernel_rfl

theorem hb_amount_CheckDecimal : HasBody Tryz.prog 143 := has_body (fn := Tryz.f143) (by kernel_rfl) rfl (by decide)

theorem ok_amount_CheckDecimal : FunOk Tryz.prog 143 sp_amount_CheckDecimal := fun_ok (X := cx_amount_CheckDecimal) (.cons ok_kit_Outside hb_kit_Outside (.nil _)) (by kernel_rfl) sp_amount_CheckDecimal anns_amount_CheckDecimal none (by kernel_rfl) (fun x y h => (den_amount_CheckDecimal x).trans h)

def anns_order_power : List (Nat × Ann) := [(3, ⟨[(3, .val tI), (4, .val tI), (5, .val tI)], [], [], fuelOf _⟩),
  (200003, ⟨[(3, .val tI)], [], [], fun _ => 0⟩)]

noncomputable def sp_order_power : FSpec := ⟨[.val tI], [.val tI], fun x => order_power x.1⟩

noncomputable def cx_order_power : Cx := ⟨Tryz.prog, []⟩

theorem den_order_power : ∀ x, denF cx_order_power anns_order_power none Tryz.f73 sp_order_power x = sp_order_power.m x := by intro x; kernel_rfl

theorem hb_order_power : HasBody Tryz.prog 73 := has_body (fn := Tryz.f73) (by kernel_rfl) rfl (by decide)

theorem ok_order_power : FunOk Tryz.prog 73 sp_order_power := fun_ok (X := cx_order_power) (.nil _) (by kernel_rfl) sp_order_power anns_order_power none (by kernel_rfl) (fun x y h => (den_order_power x).trans h)

def anns_order_within : List (Nat × Ann) := []

noncomputable def sp_order_within : FSpec := ⟨[.val t_api_Decimal, .val tI, .val tI], [.val .bool], fun x => order_within x.1 x.2.1 x.2.2.1⟩

noncomputable def cx_order_within : Cx := ⟨Tryz.prog, [(73, sp_order_power)]⟩

theorem den_order_within : ∀ x, denF cx_order_within anns_order_within none Tryz.f144 sp_order_within x = sp_order_within.m x := by intro x; kernel_rfl

theorem hb_order_within : HasBody Tryz.prog 144 := has_body (fn := Tryz.f144) (by kernel_rfl) rfl (by decide)

theorem ok_order_within : FunOk Tryz.prog 144 sp_order_within := fun_ok (X := cx_order_within) (.cons ok_order_power hb_order_power (.nil _)) (by kernel_rfl) sp_order_within anns_order_within none (by kernel_rfl) (fun x y h => (den_order_within x).trans h)

def anns_order_QuantityFault : List (Nat × Ann) := []

noncomputable def sp_order_QuantityFault : FSpec := ⟨[.val t_api_Decimal, .val .bool], [.val tI], fun x => order_QuantityFault x.1 x.2.1⟩

noncomputable def cx_order_QuantityFault : Cx := ⟨Tryz.prog, [(143, sp_amount_CheckDecimal), (144, sp_order_within)]⟩

theorem den_order_QuantityFault : ∀ x, denF cx_order_QuantityFault anns_order_QuantityFault none Tryz.f107 sp_order_QuantityFault x = sp_order_QuantityFault.m x := by intro x; kernel_rfl

theorem hb_order_QuantityFault : HasBody Tryz.prog 107 := has_body (fn := Tryz.f107) (by kernel_rfl) rfl (by decide)

theorem ok_order_QuantityFault : FunOk Tryz.prog 107 sp_order_QuantityFault := fun_ok (X := cx_order_QuantityFault) (.cons ok_amount_CheckDecimal hb_amount_CheckDecimal (.cons ok_order_within hb_order_within (.nil _))) (by kernel_rfl) sp_order_QuantityFault anns_order_QuantityFault none (by kernel_rfl) (fun x y h => (den_order_QuantityFault x).trans h)

def anns_order_PriceFault : List (Nat × Ann) := []

noncomputable def sp_order_PriceFault : FSpec := ⟨[.val t_api_Decimal], [.val tI], fun x => order_PriceFault x.1⟩

noncomputable def cx_order_PriceFault : Cx := ⟨Tryz.prog, [(143, sp_amount_CheckDecimal), (144, sp_order_within)]⟩

theorem den_order_PriceFault : ∀ x, denF cx_order_PriceFault anns_order_PriceFault none Tryz.f108 sp_order_PriceFault x = sp_order_PriceFault.m x := by intro x; kernel_rfl

theorem hb_order_PriceFault : HasBody Tryz.prog 108 := has_body (fn := Tryz.f108) (by kernel_rfl) rfl (by decide)

theorem ok_order_PriceFault : FunOk Tryz.prog 108 sp_order_PriceFault := fun_ok (X := cx_order_PriceFault) (.cons ok_amount_CheckDecimal hb_amount_CheckDecimal (.cons ok_order_within hb_order_within (.nil _))) (by kernel_rfl) sp_order_PriceFault anns_order_PriceFault none (by kernel_rfl) (fun x y h => (den_order_PriceFault x).trans h)

def anns_order_lineFault : List (Nat × Ann) := [(300004, ⟨[(17, .val .bool)], [], [], fun _ => 0⟩)]

noncomputable def sp_order_lineFault : FSpec := ⟨[.val t_api_Order, .val tI], [.val tI], fun x => order_lineFault x.1 x.2.1⟩

noncomputable def cx_order_lineFault : Cx := ⟨Tryz.prog, [(19, sp_kit_Outside), (71, sp_kit_IsName), (107, sp_order_QuantityFault), (108, sp_order_PriceFault)]⟩

theorem den_order_lineFault : ∀ x, denF cx_order_lineFault anns_order_lineFault none Tryz.f72 sp_order_lineFault x = sp_order_lineFault.m x := by intro x; kernel_rfl

theorem hb_order_lineFault : HasBody Tryz.prog 72 := has_body (fn := Tryz.f72) (by kernel_rfl) rfl (by decide)

theorem ok_order_lineFault : FunOk Tryz.prog 72 sp_order_lineFault := fun_ok (X := cx_order_lineFault) (.cons ok_kit_Outside hb_kit_Outside (.cons ok_kit_IsName hb_kit_IsName (.cons ok_order_QuantityFault hb_order_QuantityFault (.cons ok_order_PriceFault hb_order_PriceFault (.nil _))))) (by kernel_rfl) sp_order_lineFault anns_order_lineFault none (by kernel_rfl) (fun x y h => (den_order_lineFault x).trans h)

def anns_order_CheckOrder : List (Nat × Ann) := [(12, ⟨[(1, .ref 1 0), (50, .val tI), (51, .val tI)], [(1, [.val .str, .val .str, .val .str, .val tI, .val tI, .val (.slice t_api_Line)])], [], fuelOf _⟩),
  (200012, ⟨[], [], [], fun _ => 0⟩)]

noncomputable def sp_order_CheckOrder : FSpec := ⟨[.val t_api_Order], [.val tI], fun x => order_CheckOrder x.1⟩

noncomputable def cx_order_CheckOrder : Cx := ⟨Tryz.prog, [(19, sp_kit_Outside), (43, sp_kit_IsDay), (71, sp_kit_IsName), (72, sp_order_lineFault)]⟩

theorem den_order_CheckOrder : ∀ x, denF cx_order_CheckOrder anns_order_CheckOrder none Tryz.f40 sp_order_CheckOrder x = sp_order_CheckOrder.m x := by intro x; kernel_rfl

theorem hb_order_CheckOrder : HasBody Tryz.prog 40 := has_body (fn := Tryz.f40) (by kernel_rfl) rfl (by decide)

theorem ok_order_CheckOrder : FunOk Tryz.prog 40 sp_order_CheckOrder := fun_ok (X := cx_order_CheckOrder) (.cons ok_kit_Outside hb_kit_Outside (.cons ok_kit_IsDay hb_kit_IsDay (.cons ok_kit_IsName hb_kit_IsName (.cons ok_order_lineFault hb_order_lineFault (.nil _))))) (by kernel_rfl) sp_order_CheckOrder anns_order_CheckOrder none (by kernel_rfl) (fun x y h => (den_order_CheckOrder x).trans h)

def anns_order_isSellers : List (Nat × Ann) := []

noncomputable def sp_order_isSellers : FSpec := ⟨[.val tI], [.val .bool], fun x => order_isSellers x.1⟩

noncomputable def cx_order_isSellers : Cx := ⟨Tryz.prog, []⟩

theorem den_order_isSellers : ∀ x, denF cx_order_isSellers anns_order_isSellers none Tryz.f80 sp_order_isSellers x = sp_order_isSellers.m x := by intro x; kernel_rfl

theorem hb_order_isSellers : HasBody Tryz.prog 80 := has_body (fn := Tryz.f80) (by kernel_rfl) rfl (by decide)

theorem ok_order_isSellers : FunOk Tryz.prog 80 sp_order_isSellers := fun_ok (X := cx_order_isSellers) (.nil _) (by kernel_rfl) sp_order_isSellers anns_order_isSellers none (by kernel_rfl) (fun x y h => (den_order_isSellers x).trans h)

def anns_order_usesOf : List (Nat × Ann) := []

noncomputable def sp_order_usesOf : FSpec := ⟨[.val tI], [.val t_order_uses], fun x => order_usesOf x.1⟩

noncomputable def cx_order_usesOf : Cx := ⟨Tryz.prog, []⟩

theorem den_order_usesOf : ∀ x, denF cx_order_usesOf anns_order_usesOf none Tryz.f63 sp_order_usesOf x = sp_order_usesOf.m x := by intro x; kernel_rfl

theorem hb_order_usesOf : HasBody Tryz.prog 63 := has_body (fn := Tryz.f63) (by kernel_rfl) rfl (by decide)

theorem ok_order_usesOf : FunOk Tryz.prog 63 sp_order_usesOf := fun_ok (X := cx_order_usesOf) (.nil _) (by kernel_rfl) sp_order_usesOf anns_order_usesOf none (by kernel_rfl) (fun x y h => (den_order_usesOf x).trans h)

def anns_order_usedFault : List (Nat × Ann) := [(100003, ⟨[(1, .ref 1 0), (3, .ref 3 0)], [(1, [.val tI, .val tI, .val tI, .val tI, .val tI, .val .str, .val tI, .val tI, .val .str, .val tI, .val tI, .val tI, .val tI]), (3, [.val .bool, .val .bool, .val .bool, .val .bool, .val .bool, .val .bool])], [], fun _ => 0⟩),
  (100007, ⟨[(1, .ref 1 0), (3, .ref 3 0)], [(1, [.val tI, .val tI, .val tI, .val tI, .val tI, .val .str, .val tI, .val tI, .val .str, .val tI, .val tI, .val tI, .val tI]), (3, [.val .bool, .val .bool, .val .bool, .val .bool, .val .bool, .val .bool])], [], fun _ => 0⟩),
  (300011, ⟨[(30, .val .bool)], [], [], fun _ => 0⟩),
  (300013, ⟨[(39, .val .bool)], [], [], fun _ => 0⟩),
  (300015, ⟨[(58, .val .bool)], [], [], fun _ => 0⟩),
  (300017, ⟨[(66, .val .bool)], [], [], fun _ => 0⟩)]

noncomputable def sp_order_usedFault : FSpec := ⟨[.val t_api_Deed], [.val tI], fun x => order_usedFault x.1⟩

noncomputable def cx_order_usedFault : Cx := ⟨Tryz.prog, [(19, sp_kit_Outside), (43, sp_kit_IsDay), (63, sp_order_usesOf), (71, sp_kit_IsName), (107, sp_order_QuantityFault), (108, sp_order_PriceFault)]⟩

theorem den_order_usedFault : ∀ x, denF cx_order_usedFault anns_order_usedFault none Tryz.f83 sp_order_usedFault x = sp_order_usedFault.m x := by intro x; kernel_rfl

theorem hb_order_usedFault : HasBody Tryz.prog 83 := has_body (fn := Tryz.f83) (by kernel_rfl) rfl (by decide)

theorem ok_order_usedFault : FunOk Tryz.prog 83 sp_order_usedFault := fun_ok (X := cx_order_usedFault) (.cons ok_kit_Outside hb_kit_Outside (.cons ok_kit_IsDay hb_kit_IsDay (.cons ok_order_usesOf hb_order_usesOf (.cons ok_kit_IsName hb_kit_IsName (.cons ok_order_QuantityFault hb_order_QuantityFault (.cons ok_order_PriceFault hb_order_PriceFault (.nil _))))))) (by kernel_rfl) sp_order_usedFault anns_order_usedFault none (by kernel_rfl) (fun x y h => (den_order_usedFault x).trans h)

def anns_order_deedFault : List (Nat × Ann) := []

noncomputable def sp_order_deedFault : FSpec := ⟨[.val t_api_Deed], [.val tI], fun x => order_deedFault x.1⟩

noncomputable def cx_order_deedFault : Cx := ⟨Tryz.prog, [(19, sp_kit_Outside), (43, sp_kit_IsDay), (80, sp_order_isSellers), (83, sp_order_usedFault)]⟩

theorem den_order_deedFault : ∀ x, denF cx_order_deedFault anns_order_deedFault none Tryz.f47 sp_order_deedFault x = sp_order_deedFault.m x := by intro x; kernel_rfl

theorem hb_order_deedFault : HasBody Tryz.prog 47 := has_body (fn := Tryz.f47) (by kernel_rfl) rfl (by decide)

theorem ok_order_deedFault : FunOk Tryz.prog 47 sp_order_deedFault := fun_ok (X := cx_order_deedFault) (.cons ok_kit_Outside hb_kit_Outside (.cons ok_kit_IsDay hb_kit_IsDay (.cons ok_order_isSellers hb_order_isSellers (.cons ok_order_usedFault hb_order_usedFault (.nil _))))) (by kernel_rfl) sp_order_deedFault anns_order_deedFault none (by kernel_rfl) (fun x y h => (den_order_deedFault x).trans h)

def anns_order_compareDeeds : List (Nat × Ann) := [(2, ⟨[(22, .rowR 22), (23, .val tI), (24, .val tI)], [], [.rowC 22 3 tI], fuelOf _⟩),
  (200002, ⟨[], [], [], fun _ => 0⟩)]

noncomputable def sp_order_compareDeeds : FSpec := ⟨[.val t_api_Deed, .val t_api_Deed], [.val tI], fun x => order_compareDeeds x.1 x.2.1⟩

noncomputable def cx_order_compareDeeds : Cx := ⟨Tryz.prog, []⟩

theorem den_order_compareDeeds : ∀ x, denF cx_order_compareDeeds anns_order_compareDeeds none Tryz.f35 sp_order_compareDeeds x = sp_order_compareDeeds.m x := by intro x; kernel_rfl

theorem hb_order_compareDeeds : HasBody Tryz.prog 35 := has_body (fn := Tryz.f35) (by kernel_rfl) rfl (by decide)

theorem ok_order_compareDeeds : FunOk Tryz.prog 35 sp_order_compareDeeds := fun_ok (X := cx_order_compareDeeds) (.nil _) (by kernel_rfl) sp_order_compareDeeds anns_order_compareDeeds none (by kernel_rfl) (fun x y h => (den_order_compareDeeds x).trans h)

def anns_order_CheckDeeds : List (Nat × Ann) := [(5, ⟨[(0, .val (.slice t_api_Deed)), (3, .ref 3 0), (11, .val (.slice t_api_Deed)), (12, .val tI), (13, .val tI)], [(3, [.val tI, .val tI, .val tI])], [], fuelOf _⟩),
  (200005, ⟨[], [], [], fun _ => 0⟩),
  (300010, ⟨[(34, .val .bool)], [], [], fun _ => 0⟩)]

noncomputable def sp_order_CheckDeeds : FSpec := ⟨[.val (.slice t_api_Deed)], [.val tI], fun x => order_CheckDeeds x.1⟩

noncomputable def cx_order_CheckDeeds : Cx := ⟨Tryz.prog, [(35, sp_order_compareDeeds), (47, sp_order_deedFault)]⟩

theorem den_order_CheckDeeds : ∀ x, denF cx_order_CheckDeeds anns_order_CheckDeeds none Tryz.f26 sp_order_CheckDeeds x = sp_order_CheckDeeds.m x := by intro x; kernel_rfl

theorem hb_order_CheckDeeds : HasBody Tryz.prog 26 := has_body (fn := Tryz.f26) (by kernel_rfl) rfl (by decide)

theorem ok_order_CheckDeeds : FunOk Tryz.prog 26 sp_order_CheckDeeds := fun_ok (X := cx_order_CheckDeeds) (.cons ok_order_compareDeeds hb_order_compareDeeds (.cons ok_order_deedFault hb_order_deedFault (.nil _))) (by kernel_rfl) sp_order_CheckDeeds anns_order_CheckDeeds none (by kernel_rfl) (fun x y h => (den_order_CheckDeeds x).trans h)

def anns_order_checked : List (Nat × Ann) := []

noncomputable def sp_order_checked : FSpec := ⟨[.val t_api_Order, .val (.slice t_api_Deed)], [.val tI], fun x => order_checked x.1 x.2.1⟩

noncomputable def cx_order_checked : Cx := ⟨Tryz.prog, [(26, sp_order_CheckDeeds), (40, sp_order_CheckOrder)]⟩

theorem den_order_checked : ∀ x, denF cx_order_checked anns_order_checked none Tryz.f18 sp_order_checked x = sp_order_checked.m x := by intro x; kernel_rfl

theorem hb_order_checked : HasBody Tryz.prog 18 := has_body (fn := Tryz.f18) (by kernel_rfl) rfl (by decide)

theorem ok_order_checked : FunOk Tryz.prog 18 sp_order_checked := fun_ok (X := cx_order_checked) (.cons ok_order_CheckDeeds hb_order_CheckDeeds (.cons ok_order_CheckOrder hb_order_CheckOrder (.nil _))) (by kernel_rfl) sp_order_checked anns_order_checked none (by kernel_rfl) (fun x y h => (den_order_checked x).trans h)

def anns_order_units : List (Nat × Ann) := []

noncomputable def sp_order_units : FSpec := ⟨[.val t_api_Decimal], [.val tI], fun x => order_units x.1⟩

noncomputable def cx_order_units : Cx := ⟨Tryz.prog, [(73, sp_order_power)]⟩

theorem den_order_units : ∀ x, denF cx_order_units anns_order_units none Tryz.f41 sp_order_units x = sp_order_units.m x := by intro x; kernel_rfl

theorem hb_order_units : HasBody Tryz.prog 41 := has_body (fn := Tryz.f41) (by kernel_rfl) rfl (by decide)

theorem ok_order_units : FunOk Tryz.prog 41 sp_order_units := fun_ok (X := cx_order_units) (.cons ok_order_power hb_order_power (.nil _)) (by kernel_rfl) sp_order_units anns_order_units none (by kernel_rfl) (fun x y h => (den_order_units x).trans h)

def anns_order_newFollower : List (Nat × Ann) := [(3, ⟨[(5, .ref 12 0), (14, .val (.slice t_api_Line)), (15, .val tI), (16, .val tI)], [(12, [.val .str, .val .str, .val .str, .val tI, .val tI, .val (.slice t_api_Line), .val (.slice t_api_Deed), .mapR 10, .own 50 t_api_Decimal, .own 38 t_api_Point, .val tI])], [.mapC 10 tI .hnd, .ar t_order_line], fuelOf _⟩),
  (200003, ⟨[(5, .ref 12 0)], [(12, [.val .str, .val .str, .val .str, .val tI, .val tI, .val (.slice t_api_Line), .val (.slice t_api_Deed), .mapR 10, .own 50 t_api_Decimal, .own 38 t_api_Point, .val tI])], [.mapC 10 tI .hnd, .ar t_order_line], fun _ => 0⟩)]

noncomputable def sp_order_newFollower : FSpec := ⟨[.val t_api_Order, .val (.slice t_api_Deed), .ar t_order_line], [.box [.val t_api_Order, .val (.slice t_api_Deed), .map tI .hnd, .row 50 t_api_Decimal, .row 38 t_api_Point, .val tI]], fun x => order_newFollower x.1 x.2.1 x.2.2.1⟩

noncomputable def cx_order_newFollower : Cx := ⟨Tryz.prog, [(41, sp_order_units)]⟩

theorem den_order_newFollower : ∀ x, denF cx_order_newFollower anns_order_newFollower none Tryz.f20 sp_order_newFollower x = sp_order_newFollower.m x := by intro x; kernel_rfl

theorem hb_order_newFollower : HasBody Tryz.prog 20 := has_body (fn := Tryz.f20) (by kernel_rfl) rfl (by decide)

theorem ok_order_newFollower : FunOk Tryz.prog 20 sp_order_newFollower := fun_ok (X := cx_order_newFollower) (.cons ok_order_units hb_order_units (.nil _)) (by kernel_rfl) sp_order_newFollower anns_order_newFollower none (by kernel_rfl) (fun x y h => (den_order_newFollower x).trans h)

def anns_order_follower_add : List (Nat × Ann) := []

noncomputable def sp_order_follower_add : FSpec := ⟨[.box [.val t_api_Order, .val (.slice t_api_Deed), .map tI .hnd, .row 50 t_api_Decimal, .row 38 t_api_Point, .val tI], .val tI, .ar t_order_line], [.val tI], fun x => order_follower_add x.1 x.2.1 x.2.2.1⟩

noncomputable def cx_order_follower_add : Cx := ⟨Tryz.prog, []⟩

theorem den_order_follower_add : ∀ x, denF cx_order_follower_add anns_order_follower_add none Tryz.f74 sp_order_follower_add x = sp_order_follower_add.m x := by intro x; kernel_rfl

theorem hb_order_follower_add : HasBody Tryz.prog 74 := has_body (fn := Tryz.f74) (by kernel_rfl) rfl (by decide)

theorem ok_order_follower_add : FunOk Tryz.prog 74 sp_order_follower_add := fun_ok (X := cx_order_follower_add) (.nil _) (by kernel_rfl) sp_order_follower_add anns_order_follower_add none (by kernel_rfl) (fun x y h => (den_order_follower_add x).trans h)

def anns_order_follower_wish : List (Nat × Ann) := [(300002, ⟨[(27, .val .bool)], [], [], fun _ => 0⟩)]

noncomputable def sp_order_follower_wish : FSpec := ⟨[.box [.val t_api_Order, .val (.slice t_api_Deed), .map tI .hnd, .row 50 t_api_Decimal, .row 38 t_api_Point, .val tI], .val .hnd, .val tI, .ar t_order_line], [.val tI], fun x => order_follower_wish x.1 x.2.1 x.2.2.1 x.2.2.2.1⟩

noncomputable def cx_order_follower_wish : Cx := ⟨Tryz.prog, []⟩

theorem den_order_follower_wish : ∀ x, denF cx_order_follower_wish anns_order_follower_wish none Tryz.f75 sp_order_follower_wish x = sp_order_follower_wish.m x := by intro x; kernel_rfl

theorem hb_order_follower_wish : HasBody Tryz.prog 75 := has_body (fn := Tryz.f75) (by kernel_rfl) rfl (by decide)

theorem ok_order_follower_wish : FunOk Tryz.prog 75 sp_order_follower_wish := fun_ok (X := cx_order_follower_wish) (.nil _) (by kernel_rfl) sp_order_follower_wish anns_order_follower_wish none (by kernel_rfl) (fun x y h => (den_order_follower_wish x).trans h)

def anns_order_follower_answer : List (Nat × Ann) := []

noncomputable def sp_order_follower_answer : FSpec := ⟨[.box [.val t_api_Order, .val (.slice t_api_Deed), .map tI .hnd, .row 50 t_api_Decimal, .row 38 t_api_Point, .val tI], .val .hnd, .val t_api_Deed, .ar t_order_line], [.val tI], fun x => order_follower_answer x.1 x.2.1 x.2.2.1 x.2.2.2.1⟩

noncomputable def cx_order_follower_answer : Cx := ⟨Tryz.prog, [(41, sp_order_units)]⟩

theorem den_order_follower_answer : ∀ x, denF cx_order_follower_answer anns_order_follower_answer none Tryz.f76 sp_order_follower_answer x = sp_order_follower_answer.m x := by intro x; kernel_rfl

theorem hb_order_follower_answer : HasBody Tryz.prog 76 := has_body (fn := Tryz.f76) (by kernel_rfl) rfl (by decide)

theorem ok_order_follower_answer : FunOk Tryz.prog 76 sp_order_follower_answer := fun_ok (X := cx_order_follower_answer) (.cons ok_order_units hb_order_units (.nil _)) (by kernel_rfl) sp_order_follower_answer anns_order_follower_answer none (by kernel_rfl) (fun x y h => (den_order_follower_answer x).trans h)

def anns_order_line_open : List (Nat × Ann) := []

noncomputable def sp_order_line_open : FSpec := ⟨[.val .hnd, .arR t_order_line], [.val tI], fun x => order_line_open x.1 x.2.1⟩

noncomputable def cx_order_line_open : Cx := ⟨Tryz.prog, []⟩

theorem den_order_line_open : ∀ x, denF cx_order_line_open anns_order_line_open none Tryz.f46 sp_order_line_open x = sp_order_line_open.m x := by intro x; kernel_rfl

theorem hb_order_line_open : HasBody Tryz.prog 46 := has_body (fn := Tryz.f46) (by kernel_rfl) rfl (by decide)

theorem ok_order_line_open : FunOk Tryz.prog 46 sp_order_line_open := fun_ok (X := cx_order_line_open) (.nil _) (by kernel_rfl) sp_order_line_open anns_order_line_open none (by kernel_rfl) (fun x y h => (den_order_line_open x).trans h)

def anns_order_follower_offered : List (Nat × Ann) := []

noncomputable def sp_order_follower_offered : FSpec := ⟨[.box [.val t_api_Order, .val (.slice t_api_Deed), .map tI .hnd, .row 50 t_api_Decimal, .row 38 t_api_Point, .val tI], .val .hnd, .val t_api_Deed, .ar t_order_line], [.val tI], fun x => order_follower_offered x.1 x.2.1 x.2.2.1 x.2.2.2.1⟩

noncomputable def cx_order_follower_offered : Cx := ⟨Tryz.prog, [(41, sp_order_units), (46, sp_order_line_open)]⟩

theorem den_order_follower_offered : ∀ x, denF cx_order_follower_offered anns_order_follower_offered none Tryz.f77 sp_order_follower_offered x = sp_order_follower_offered.m x := by intro x; kernel_rfl

theorem hb_order_follower_offered : HasBody Tryz.prog 77 := has_body (fn := Tryz.f77) (by kernel_rfl) rfl (by decide)

theorem ok_order_follower_offered : FunOk Tryz.prog 77 sp_order_follower_offered := fun_ok (X := cx_order_follower_offered) (.cons ok_order_units hb_order_units (.cons ok_order_line_open hb_order_line_open (.nil _))) (by kernel_rfl) sp_order_follower_offered anns_order_follower_offered none (by kernel_rfl) (fun x y h => (den_order_follower_offered x).trans h)

def anns_order_follower_take : List (Nat × Ann) := []

noncomputable def sp_order_follower_take : FSpec := ⟨[.box [.val t_api_Order, .val (.slice t_api_Deed), .map tI .hnd, .row 50 t_api_Decimal, .row 38 t_api_Point, .val tI], .val .hnd, .val t_api_Deed, .ar t_order_line], [.val tI], fun x => order_follower_take x.1 x.2.1 x.2.2.1 x.2.2.2.1⟩

noncomputable def cx_order_follower_take : Cx := ⟨Tryz.prog, []⟩

theorem den_order_follower_take : ∀ x, denF cx_order_follower_take anns_order_follower_take none Tryz.f78 sp_order_follower_take x = sp_order_follower_take.m x := by intro x; kernel_rfl

theorem hb_order_follower_take : HasBody Tryz.prog 78 := has_body (fn := Tryz.f78) (by kernel_rfl) rfl (by decide)

theorem ok_order_follower_take : FunOk Tryz.prog 78 sp_order_follower_take := fun_ok (X := cx_order_follower_take) (.nil _) (by kernel_rfl) sp_order_follower_take anns_order_follower_take none (by kernel_rfl) (fun x y h => (den_order_follower_take x).trans h)

def anns_order_follower_move : List (Nat × Ann) := []

noncomputable def sp_order_follower_move : FSpec := ⟨[.box [.val t_api_Order, .val (.slice t_api_Deed), .map tI .hnd, .row 50 t_api_Decimal, .row 38 t_api_Point, .val tI], .val .hnd, .val t_api_Deed, .ar t_order_line], [.val tI], fun x => order_follower_move x.1 x.2.1 x.2.2.1 x.2.2.2.1⟩

noncomputable def cx_order_follower_move : Cx := ⟨Tryz.prog, [(41, sp_order_units)]⟩

theorem den_order_follower_move : ∀ x, denF cx_order_follower_move anns_order_follower_move none Tryz.f79 sp_order_follower_move x = sp_order_follower_move.m x := by intro x; kernel_rfl

theorem hb_order_follower_move : HasBody Tryz.prog 79 := has_body (fn := Tryz.f79) (by kernel_rfl) rfl (by decide)

theorem ok_order_follower_move : FunOk Tryz.prog 79 sp_order_follower_move := fun_ok (X := cx_order_follower_move) (.cons ok_order_units hb_order_units (.nil _)) (by kernel_rfl) sp_order_follower_move anns_order_follower_move none (by kernel_rfl) (fun x y h => (den_order_follower_move x).trans h)

def anns_order_follower_deed : List (Nat × Ann) := [(100011, ⟨[(0, .ref 2000 0), (1, .val tI), (5, .ref 5 0), (6, .val .hnd), (31, .val tI), (36, .val .bool)], [(5, [.val tI, .val tI, .val tI, .val tI, .val tI, .val .str, .val tI, .val tI, .val .str, .val tI, .val tI, .val tI, .val tI]), (2000, [.val .str, .val .str, .val .str, .val tI, .val tI, .val (.slice t_api_Line), .val (.slice t_api_Deed), .mapR 10250003, .rowR 10250004, .rowR 10250005, .val tI])], [.rowC 10250004 50 t_api_Decimal, .rowC 10250005 38 t_api_Point, .mapC 10250003 tI .hnd, .ar t_order_line], fun _ => 0⟩),
  (100015, ⟨[(0, .ref 2000 0), (5, .ref 5 0), (6, .val .hnd), (31, .val tI), (44, .val .bool)], [(5, [.val tI, .val tI, .val tI, .val tI, .val tI, .val .str, .val tI, .val tI, .val .str, .val tI, .val tI, .val tI, .val tI]), (2000, [.val .str, .val .str, .val .str, .val tI, .val tI, .val (.slice t_api_Line), .val (.slice t_api_Deed), .mapR 10250003, .rowR 10250004, .rowR 10250005, .val tI])], [.rowC 10250004 50 t_api_Decimal, .rowC 10250005 38 t_api_Point, .mapC 10250003 tI .hnd, .ar t_order_line], fun _ => 0⟩),
  (100017, ⟨[(5, .ref 5 0), (6, .val .hnd), (7, .val tI)], [(5, [.val tI, .val tI, .val tI, .val tI, .val tI, .val .str, .val tI, .val tI, .val .str, .val tI, .val tI, .val tI, .val tI]), (2000, [.val .str, .val .str, .val .str, .val tI, .val tI, .val (.slice t_api_Line), .val (.slice t_api_Deed), .map tI .hnd, .own 50 t_api_Decimal, .own 38 t_api_Point, .val tI])], [.ar t_order_line], fun _ => 0⟩),
  (300021, ⟨[(69, .val .bool)], [], [], fun _ => 0⟩)]

noncomputable def sp_order_follower_deed : FSpec := ⟨[.box [.val t_api_Order, .val (.slice t_api_Deed), .map tI .hnd, .row 50 t_api_Decimal, .row 38 t_api_Point, .val tI], .val tI, .ar t_order_line], [.val tI], fun x => order_follower_deed x.1 x.2.1 x.2.2.1⟩

noncomputable def cx_order_follower_deed : Cx := ⟨Tryz.prog, [(41, sp_order_units), (74, sp_order_follower_add), (75, sp_order_follower_wish), (76, sp_order_follower_answer), (77, sp_order_follower_offered), (78, sp_order_follower_take), (79, sp_order_follower_move), (80, sp_order_isSellers)]⟩

theorem den_order_follower_deed : ∀ x, denF cx_order_follower_deed anns_order_follower_deed none Tryz.f42 sp_order_follower_deed x = sp_order_follower_deed.m x := by intro x; kernel_rfl

theorem hb_order_follower_deed : HasBody Tryz.prog 42 := has_body (fn := Tryz.f42) (by kernel_rfl) rfl (by decide)

theorem ok_order_follower_deed : FunOk Tryz.prog 42 sp_order_follower_deed := fun_ok (X := cx_order_follower_deed) (.cons ok_order_units hb_order_units (.cons ok_order_follower_add hb_order_follower_add (.cons ok_order_follower_wish hb_order_follower_wish (.cons ok_order_follower_answer hb_order_follower_answer (.cons ok_order_follower_offered hb_order_follower_offered (.cons ok_order_follower_take hb_order_follower_take (.cons ok_order_follower_move hb_order_follower_move (.cons ok_order_isSellers hb_order_isSellers (.nil _))))))))) (by kernel_rfl) sp_order_follower_deed anns_order_follower_deed none (by kernel_rfl) (fun x y h => (den_order_follower_deed x).trans h)

def anns_whole_trimmed : List (Nat × Ann) := [(1, ⟨[(0, .val (.slice (.int .u32)))], [], [], fuelOf _⟩),
  (200001, ⟨[(0, .val (.slice (.int .u32)))], [], [], fun _ => 0⟩)]

noncomputable def sp_whole_trimmed : FSpec := ⟨[.val (.slice (.int .u32))], [.val (.slice (.int .u32))], fun x => whole_trimmed x.1⟩

noncomputable def cx_whole_trimmed : Cx := ⟨Tryz.prog, []⟩

theorem den_whole_trimmed : ∀ x, denF cx_whole_trimmed anns_whole_trimmed none Tryz.f146 sp_whole_trimmed x = sp_whole_trimmed.m x := by intro x; kernel_rfl

theorem hb_whole_trimmed : HasBody Tryz.prog 146 := has_body (fn := Tryz.f146) (by kernel_rfl) rfl (by decide)

theorem ok_whole_trimmed : FunOk Tryz.prog 146 sp_whole_trimmed := fun_ok (X := cx_whole_trimmed) (.nil _) (by kernel_rfl) sp_whole_trimmed anns_whole_trimmed none (by kernel_rfl) (fun x y h => (den_whole_trimmed x).trans h)

def anns_whole_made : List (Nat × Ann) := []

noncomputable def sp_whole_made : FSpec := ⟨[.val .bool, .val (.slice (.int .u32))], [.val t_whole_Int], fun x => whole_made x.1 x.2.1⟩

noncomputable def cx_whole_made : Cx := ⟨Tryz.prog, [(146, sp_whole_trimmed)]⟩

theorem den_whole_made : ∀ x, denF cx_whole_made anns_whole_made none Tryz.f113 sp_whole_made x = sp_whole_made.m x := by intro x; kernel_rfl

theorem hb_whole_made : HasBody Tryz.prog 113 := has_body (fn := Tryz.f113) (by kernel_rfl) rfl (by decide)

theorem ok_whole_made : FunOk Tryz.prog 113 sp_whole_made := fun_ok (X := cx_whole_made) (.cons ok_whole_trimmed hb_whole_trimmed (.nil _)) (by kernel_rfl) sp_whole_made anns_whole_made none (by kernel_rfl) (fun x y h => (den_whole_made x).trans h)

def anns_whole_Of : List (Nat × Ann) := [(100003, ⟨[(0, .val tI), (2, .ref 2 0), (3, .val (.int .u64))], [(2, [.val .bool, .own 149 (.int .u32)])], [], fun _ => 0⟩)]

noncomputable def sp_whole_Of : FSpec := ⟨[.val tI], [.val t_whole_Int], fun x => whole_Of x.1⟩

noncomputable def cx_whole_Of : Cx := ⟨Tryz.prog, [(113, sp_whole_made)]⟩

theorem den_whole_Of : ∀ x, denF cx_whole_Of anns_whole_Of none Tryz.f82 sp_whole_Of x = sp_whole_Of.m x := by intro x; kernel_rfl

theorem hb_whole_Of : HasBody Tryz.prog 82 := has_body (fn := Tryz.f82) (by kernel_rfl) rfl (by decide)

theorem ok_whole_Of : FunOk Tryz.prog 82 sp_whole_Of := fun_ok (X := cx_whole_Of) (.cons ok_whole_made hb_whole_made (.nil _)) (by kernel_rfl) sp_whole_Of anns_whole_Of none (by kernel_rfl) (fun x y h => (den_whole_Of x).trans h)

def anns_whole_sum : List (Nat × Ann) := [(6, ⟨[(1, .val (.slice (.int .u32))), (5, .own 149 (.int .u32)), (6, .val (.int .u64)), (20, .val (.slice (.int .u32))), (21, .val tI), (22, .val tI)], [], [], fuelOf _⟩),
  (100002, ⟨[(0, .val (.slice (.int .u32))), (1, .val (.slice (.int .u32)))], [], [], fun _ => 0⟩),
  (100010, ⟨[(1, .val (.slice (.int .u32))), (5, .own 149 (.int .u32)), (6, .val (.int .u64)), (20, .val (.slice (.int .u32))), (21, .val tI), (22, .val tI)], [], [], fun _ => 0⟩),
  (200006, ⟨[(5, .own 149 (.int .u32)), (6, .val (.int .u64))], [], [], fun _ => 0⟩)]

noncomputable def sp_whole_sum : FSpec := ⟨[.val (.slice (.int .u32)), .val (.slice (.int .u32))], [.row 149 (.int .u32)], fun x => whole_sum x.1 x.2.1⟩

noncomputable def cx_whole_sum : Cx := ⟨Tryz.prog, []⟩

theorem den_whole_sum : ∀ x, denF cx_whole_sum anns_whole_sum none Tryz.f145 sp_whole_sum x = sp_whole_sum.m x := by intro x; kernel_rfl

theorem hb_whole_sum : HasBody Tryz.prog 145 := has_body (fn := Tryz.f145) (by kernel_rfl) rfl (by decide)

theorem ok_whole_sum : FunOk Tryz.prog 145 sp_whole_sum := fun_ok (X := cx_whole_sum) (.nil _) (by kernel_rfl) sp_whole_sum anns_whole_sum none (by kernel_rfl) (fun x y h => (den_whole_sum x).trans h)

def anns_whole_sum_v : List (Nat × Ann) := [(6, ⟨[(1, .val (.slice (.int .u32))), (5, .own 149 (.int .u32)), (6, .val (.int .u64)), (20, .val (.slice (.int .u32))), (21, .val tI), (22, .val tI)], [], [], fuelOf _⟩),
  (100002, ⟨[(0, .val (.slice (.int .u32))), (1, .val (.slice (.int .u32)))], [], [], fun _ => 0⟩),
  (100010, ⟨[(1, .val (.slice (.int .u32))), (5, .own 149 (.int .u32)), (6, .val (.int .u64)), (20, .val (.slice (.int .u32))), (21, .val tI), (22, .val tI)], [], [], fun _ => 0⟩),
  (200006, ⟨[(5, .own 149 (.int .u32)), (6, .val (.int .u64))], [], [], fun _ => 0⟩)]

noncomputable def sp_whole_sum_v : FSpec := ⟨[.val (.slice (.int .u32)), .val (.slice (.int .u32))], [.val (.slice (.int .u32))], fun x => whole_sum_v x.1 x.2.1⟩

noncomputable def cx_whole_sum_v : Cx := ⟨Tryz.prog, []⟩

theorem den_whole_sum_v : ∀ x, denF cx_whole_sum_v anns_whole_sum_v none Tryz.f145 sp_whole_sum_v x = sp_whole_sum_v.m x := by intro x; kernel_rfl

theorem hb_whole_sum_v : HasBody Tryz.prog 145 := has_body (fn := Tryz.f145) (by kernel_rfl) rfl (by decide)

theorem ok_whole_sum_v : FunOk Tryz.prog 145 sp_whole_sum_v := fun_ok (X := cx_whole_sum_v) (.nil _) (by kernel_rfl) sp_whole_sum_v anns_whole_sum_v none (by kernel_rfl) (fun x y h => (den_whole_sum_v x).trans h)

def anns_whole_compare : List (Nat × Ann) := [(4, ⟨[(0, .val (.slice (.int .u32))), (1, .val (.slice (.int .u32))), (5, .val tI)], [], [], fuelOf _⟩),
  (200004, ⟨[], [], [], fun _ => 0⟩)]

noncomputable def sp_whole_compare : FSpec := ⟨[.val (.slice (.int .u32)), .val (.slice (.int .u32))], [.val tI], fun x => whole_compare x.1 x.2.1⟩

noncomputable def cx_whole_compare : Cx := ⟨Tryz.prog, []⟩

theorem den_whole_compare : ∀ x, denF cx_whole_compare anns_whole_compare none Tryz.f147 sp_whole_compare x = sp_whole_compare.m x := by intro x; kernel_rfl

theorem hb_whole_compare : HasBody Tryz.prog 147 := has_body (fn := Tryz.f147) (by kernel_rfl) rfl (by decide)

theorem ok_whole_compare : FunOk Tryz.prog 147 sp_whole_compare := fun_ok (X := cx_whole_compare) (.nil _) (by kernel_rfl) sp_whole_compare anns_whole_compare none (by kernel_rfl) (fun x y h => (den_whole_compare x).trans h)

def anns_whole_less : List (Nat × Ann) := [(4, ⟨[(1, .val (.slice (.int .u32))), (5, .own 149 (.int .u32)), (6, .val (.int .u64)), (13, .val (.slice (.int .u32))), (14, .val tI), (15, .val tI)], [], [], fuelOf _⟩),
  (100008, ⟨[(1, .val (.slice (.int .u32))), (5, .own 149 (.int .u32)), (9, .val (.int .u64)), (13, .val (.slice (.int .u32))), (14, .val tI), (15, .val tI)], [], [], fun _ => 0⟩),
  (200004, ⟨[(5, .own 149 (.int .u32))], [], [], fun _ => 0⟩)]

noncomputable def sp_whole_less : FSpec := ⟨[.val (.slice (.int .u32)), .val (.slice (.int .u32))], [.val (.slice (.int .u32))], fun x => whole_less x.1 x.2.1⟩

noncomputable def cx_whole_less : Cx := ⟨Tryz.prog, [(146, sp_whole_trimmed)]⟩

theorem den_whole_less : ∀ x, denF cx_whole_less anns_whole_less none Tryz.f148 sp_whole_less x = sp_whole_less.m x := by intro x; kernel_rfl

theorem hb_whole_less : HasBody Tryz.prog 148 := has_body (fn := Tryz.f148) (by kernel_rfl) rfl (by decide)

theorem ok_whole_less : FunOk Tryz.prog 148 sp_whole_less := fun_ok (X := cx_whole_less) (.cons ok_whole_trimmed hb_whole_trimmed (.nil _)) (by kernel_rfl) sp_whole_less anns_whole_less none (by kernel_rfl) (fun x y h => (den_whole_less x).trans h)

def anns_whole_Int_By : List (Nat × Ann) := [(4, ⟨[(2, .ref 2 0), (3, .ref 3 0), (4, .ref 4 0), (5, .ref 5 0), (6, .rowR 12), (7, .val (.slice (.int .u32))), (8, .val tI)], [(2, [.val .bool, .val (.slice (.int .u32))]), (3, [.val .bool, .val (.slice (.int .u32))]), (4, [.val .bool, .own 149 (.int .u32)]), (5, [.val .bool, .own 149 (.int .u32)])], [.rowC 12 149 (.int .u32)], fuelOf _⟩),
  (200004, ⟨[(4, .ref 4 0), (5, .ref 5 0), (6, .rowR 12), (7, .val (.slice (.int .u32)))], [(4, [.val .bool, .own 149 (.int .u32)]), (5, [.val .bool, .own 149 (.int .u32)])], [.rowC 12 149 (.int .u32)], fun _ => 0⟩)]

noncomputable def sp_whole_Int_By : FSpec := ⟨[.val t_whole_Int, .val t_whole_Int], [.val t_whole_Int, .val t_whole_Int], fun x => whole_Int_By x.1 x.2.1⟩

noncomputable def cx_whole_Int_By : Cx := ⟨Tryz.prog, [(113, sp_whole_made), (145, sp_whole_sum), (146, sp_whole_trimmed), (147, sp_whole_compare), (148, sp_whole_less)]⟩

theorem den_whole_Int_By : ∀ x, denF cx_whole_Int_By anns_whole_Int_By none Tryz.f109 sp_whole_Int_By x = sp_whole_Int_By.m x := by intro x; kernel_rfl

theorem hb_whole_Int_By : HasBody Tryz.prog 109 := has_body (fn := Tryz.f109) (by kernel_rfl) rfl (by decide)

theorem ok_whole_Int_By : FunOk Tryz.prog 109 sp_whole_Int_By := fun_ok (X := cx_whole_Int_By) (.cons ok_whole_made hb_whole_made (.cons ok_whole_sum hb_whole_sum (.cons ok_whole_trimmed hb_whole_trimmed (.cons ok_whole_compare hb_whole_compare (.cons ok_whole_less hb_whole_less (.nil _)))))) (by kernel_rfl) sp_whole_Int_By anns_whole_Int_By none (by kernel_rfl) (fun x y h => (den_whole_Int_By x).trans h)

def anns_whole_Int_Sign : List (Nat × Ann) := []

noncomputable def sp_whole_Int_Sign : FSpec := ⟨[.val t_whole_Int], [.val tI], fun x => whole_Int_Sign x.1⟩

noncomputable def cx_whole_Int_Sign : Cx := ⟨Tryz.prog, []⟩

theorem den_whole_Int_Sign : ∀ x, denF cx_whole_Int_Sign anns_whole_Int_Sign none Tryz.f110 sp_whole_Int_Sign x = sp_whole_Int_Sign.m x := by intro x; kernel_rfl

theorem hb_whole_Int_Sign : HasBody Tryz.prog 110 := has_body (fn := Tryz.f110) (by kernel_rfl) rfl (by decide)

theorem ok_whole_Int_Sign : FunOk Tryz.prog 110 sp_whole_Int_Sign := fun_ok (X := cx_whole_Int_Sign) (.nil _) (by kernel_rfl) sp_whole_Int_Sign anns_whole_Int_Sign none (by kernel_rfl) (fun x y h => (den_whole_Int_Sign x).trans h)

def anns_whole_Int_Minus : List (Nat × Ann) := []

noncomputable def sp_whole_Int_Minus : FSpec := ⟨[.val t_whole_Int], [.val t_whole_Int], fun x => whole_Int_Minus x.1⟩

noncomputable def cx_whole_Int_Minus : Cx := ⟨Tryz.prog, [(113, sp_whole_made)]⟩

theorem den_whole_Int_Minus : ∀ x, denF cx_whole_Int_Minus anns_whole_Int_Minus none Tryz.f111 sp_whole_Int_Minus x = sp_whole_Int_Minus.m x := by intro x; kernel_rfl

theorem hb_whole_Int_Minus : HasBody Tryz.prog 111 := has_body (fn := Tryz.f111) (by kernel_rfl) rfl (by decide)

theorem ok_whole_Int_Minus : FunOk Tryz.prog 111 sp_whole_Int_Minus := fun_ok (X := cx_whole_Int_Minus) (.cons ok_whole_made hb_whole_made (.nil _)) (by kernel_rfl) sp_whole_Int_Minus anns_whole_Int_Minus none (by kernel_rfl) (fun x y h => (den_whole_Int_Minus x).trans h)

def anns_whole_Int_Int : List (Nat × Ann) := [(5, ⟨[(1, .val tI), (2, .ref 2 0), (6, .val (.int .u64)), (14, .val (.slice (.int .u32))), (15, .val tI), (16, .val tI)], [(2, [.val .bool, .val (.slice (.int .u32))])], [], fuelOf _⟩),
  (200005, ⟨[(1, .val tI), (2, .ref 2 0), (6, .val (.int .u64))], [(2, [.val .bool, .val (.slice (.int .u32))])], [], fun _ => 0⟩)]

noncomputable def sp_whole_Int_Int : FSpec := ⟨[.val t_whole_Int, .val tI], [.val tI, .val .bool], fun x => whole_Int_Int x.1 x.2.1⟩

noncomputable def cx_whole_Int_Int : Cx := ⟨Tryz.prog, []⟩

theorem den_whole_Int_Int : ∀ x, denF cx_whole_Int_Int anns_whole_Int_Int none Tryz.f149 sp_whole_Int_Int x = sp_whole_Int_Int.m x := by intro x; kernel_rfl

theorem hb_whole_Int_Int : HasBody Tryz.prog 149 := has_body (fn := Tryz.f149) (by kernel_rfl) rfl (by decide)

theorem ok_whole_Int_Int : FunOk Tryz.prog 149 sp_whole_Int_Int := fun_ok (X := cx_whole_Int_Int) (.nil _) (by kernel_rfl) sp_whole_Int_Int anns_whole_Int_Int none (by kernel_rfl) (fun x y h => (den_whole_Int_Int x).trans h)

def anns_amount_Made : List (Nat × Ann) := []

noncomputable def sp_amount_Made : FSpec := ⟨[.val t_whole_Int, .val tI], [.val t_api_Decimal, .val tI], fun x => amount_Made x.1 x.2.1⟩

noncomputable def cx_amount_Made : Cx := ⟨Tryz.prog, [(149, sp_whole_Int_Int)]⟩

theorem den_amount_Made : ∀ x, denF cx_amount_Made anns_amount_Made none Tryz.f112 sp_amount_Made x = sp_amount_Made.m x := by intro x; kernel_rfl

theorem hb_amount_Made : HasBody Tryz.prog 112 := has_body (fn := Tryz.f112) (by kernel_rfl) rfl (by decide)

theorem ok_amount_Made : FunOk Tryz.prog 112 sp_amount_Made := fun_ok (X := cx_amount_Made) (.cons ok_whole_Int_Int hb_whole_Int_Int (.nil _)) (by kernel_rfl) sp_amount_Made anns_amount_Made none (by kernel_rfl) (fun x y h => (den_amount_Made x).trans h)

def anns_amount_Fewest : List (Nat × Ann) := [(2, ⟨[(1, .val tI), (2, .ref 2 0), (4, .ref 4 0), (6, .ref 6 0)], [(2, [.val .bool, .val (.slice (.int .u32))]), (4, [.val tI, .val tI]), (6, [.val .bool, .val (.slice (.int .u32))])], [], fuelOf _⟩),
  (200002, ⟨[(1, .val tI), (2, .ref 2 0), (4, .ref 4 0)], [(2, [.val .bool, .val (.slice (.int .u32))]), (4, [.val tI, .val tI])], [], fun _ => 0⟩)]

noncomputable def sp_amount_Fewest : FSpec := ⟨[.val t_whole_Int, .val tI], [.val t_api_Decimal, .val tI], fun x => amount_Fewest x.1 x.2.1⟩

noncomputable def cx_amount_Fewest : Cx := ⟨Tryz.prog, [(82, sp_whole_Of), (109, sp_whole_Int_By), (110, sp_whole_Int_Sign), (111, sp_whole_Int_Minus), (112, sp_amount_Made)]⟩

theorem den_amount_Fewest : ∀ x, denF cx_amount_Fewest anns_amount_Fewest none Tryz.f81 sp_amount_Fewest x = sp_amount_Fewest.m x := by intro x; kernel_rfl

theorem hb_amount_Fewest : HasBody Tryz.prog 81 := has_body (fn := Tryz.f81) (by kernel_rfl) rfl (by decide)

theorem ok_amount_Fewest : FunOk Tryz.prog 81 sp_amount_Fewest := fun_ok (X := cx_amount_Fewest) (.cons ok_whole_Of hb_whole_Of (.cons ok_whole_Int_By hb_whole_Int_By (.cons ok_whole_Int_Sign hb_whole_Int_Sign (.cons ok_whole_Int_Minus hb_whole_Int_Minus (.cons ok_amount_Made hb_amount_Made (.nil _)))))) (by kernel_rfl) sp_amount_Fewest anns_amount_Fewest none (by kernel_rfl) (fun x y h => (den_amount_Fewest x).trans h)

def anns_order_told : List (Nat × Ann) := []

noncomputable def sp_order_told : FSpec := ⟨[.val tI], [.val t_api_Decimal], fun x => order_told x.1⟩

noncomputable def cx_order_told : Cx := ⟨Tryz.prog, [(81, sp_amount_Fewest), (82, sp_whole_Of)]⟩

theorem den_order_told : ∀ x, denF cx_order_told anns_order_told none Tryz.f44 sp_order_told x = sp_order_told.m x := by intro x; kernel_rfl

theorem hb_order_told : HasBody Tryz.prog 44 := has_body (fn := Tryz.f44) (by kernel_rfl) rfl (by decide)

theorem ok_order_told : FunOk Tryz.prog 44 sp_order_told := fun_ok (X := cx_order_told) (.cons ok_amount_Fewest hb_amount_Fewest (.cons ok_whole_Of hb_whole_Of (.nil _))) (by kernel_rfl) sp_order_told anns_order_told none (by kernel_rfl) (fun x y h => (den_order_told x).trans h)

def anns_amount_Least : List (Nat × Ann) := [(1, ⟨[(1, .ref 1 0), (2, .ref 2 0)], [(1, [.val tI, .val tI]), (2, [.val tI, .val tI])], [], fuelOf _⟩),
  (200001, ⟨[(1, .ref 1 0), (2, .ref 2 0)], [(1, [.val tI, .val tI]), (2, [.val tI, .val tI])], [], fun _ => 0⟩),
  (300001, ⟨[(11, .val .bool)], [], [], fun _ => 0⟩)]

noncomputable def sp_amount_Least : FSpec := ⟨[.val t_api_Decimal], [.val t_api_Decimal], fun x => amount_Least x.1⟩

noncomputable def cx_amount_Least : Cx := ⟨Tryz.prog, []⟩

theorem den_amount_Least : ∀ x, denF cx_amount_Least anns_amount_Least none Tryz.f45 sp_amount_Least x = sp_amount_Least.m x := by intro x; kernel_rfl

theorem hb_amount_Least : HasBody Tryz.prog 45 := has_body (fn := Tryz.f45) (by kernel_rfl) rfl (by decide)

theorem ok_amount_Least : FunOk Tryz.prog 45 sp_amount_Least := fun_ok (X := cx_amount_Least) (.nil _) (by kernel_rfl) sp_amount_Least anns_amount_Least none (by kernel_rfl) (fun x y h => (den_amount_Least x).trans h)

def anns_order_line_state : List (Nat × Ann) := []

noncomputable def sp_order_line_state : FSpec := ⟨[.val .hnd, .arR t_order_line], [.val t_api_State], fun x => order_line_state x.1 x.2.1⟩

noncomputable def cx_order_line_state : Cx := ⟨Tryz.prog, [(44, sp_order_told), (45, sp_amount_Least), (46, sp_order_line_open)]⟩

theorem den_order_line_state : ∀ x, denF cx_order_line_state anns_order_line_state none Tryz.f23 sp_order_line_state x = sp_order_line_state.m x := by intro x; kernel_rfl

theorem hb_order_line_state : HasBody Tryz.prog 23 := has_body (fn := Tryz.f23) (by kernel_rfl) rfl (by decide)

theorem ok_order_line_state : FunOk Tryz.prog 23 sp_order_line_state := fun_ok (X := cx_order_line_state) (.cons ok_order_told hb_order_told (.cons ok_amount_Least hb_amount_Least (.cons ok_order_line_open hb_order_line_open (.nil _)))) (by kernel_rfl) sp_order_line_state anns_order_line_state none (by kernel_rfl) (fun x y h => (den_order_line_state x).trans h)

def anns_order_follower_run : List (Nat × Ann) := [(1, ⟨[(0, .ref 2000 0), (1, .val tI), (10, .val (.slice t_api_Deed)), (11, .val tI), (12, .val tI)], [(2000, [.val .str, .val .str, .val .str, .val tI, .val tI, .val (.slice t_api_Line), .val (.slice t_api_Deed), .map tI .hnd, .own 50 t_api_Decimal, .own 38 t_api_Point, .val tI])], [.ar t_order_line], fuelOf _⟩),
  (200001, ⟨[], [(2000, [.val .str, .val .str, .val .str, .val tI, .val tI, .val (.slice t_api_Line), .val (.slice t_api_Deed), .map tI .hnd, .own 50 t_api_Decimal, .own 38 t_api_Point, .val tI])], [.ar t_order_line], fun _ => 0⟩)]

noncomputable def sp_order_follower_run : FSpec := ⟨[.box [.val t_api_Order, .val (.slice t_api_Deed), .map tI .hnd, .row 50 t_api_Decimal, .row 38 t_api_Point, .val tI], .val tI, .ar t_order_line], [], fun x => order_follower_run x.1 x.2.1 x.2.2.1⟩

noncomputable def cx_order_follower_run : Cx := ⟨Tryz.prog, [(23, sp_order_line_state), (42, sp_order_follower_deed)]⟩

theorem den_order_follower_run : ∀ x, denF cx_order_follower_run anns_order_follower_run none Tryz.f21 sp_order_follower_run x = sp_order_follower_run.m x := by intro x; kernel_rfl

theorem hb_order_follower_run : HasBody Tryz.prog 21 := has_body (fn := Tryz.f21) (by kernel_rfl) rfl (by decide)

theorem ok_order_follower_run : FunOk Tryz.prog 21 sp_order_follower_run := fun_ok (X := cx_order_follower_run) (.cons ok_order_line_state hb_order_line_state (.cons ok_order_follower_deed hb_order_follower_deed (.nil _))) (by kernel_rfl) sp_order_follower_run anns_order_follower_run none (by kernel_rfl) (fun x y h => (den_order_follower_run x).trans h)

def anns_order_History : List (Nat × Ann) := []

noncomputable def sp_order_History : FSpec := ⟨[.val t_api_Order, .val (.slice t_api_Deed), .val tI], [.row 38 t_api_Point, .val tI], fun x => order_History x.1 x.2.1 x.2.2.1⟩

noncomputable def cx_order_History : Cx := ⟨Tryz.prog, [(18, sp_order_checked), (19, sp_kit_Outside), (20, sp_order_newFollower), (21, sp_order_follower_run)]⟩

theorem den_order_History : ∀ x, denF cx_order_History anns_order_History (some t_order_line) Tryz.f7 sp_order_History x = sp_order_History.m x := by intro x; kernel_rfl

theorem hb_order_History : HasBody Tryz.prog 7 := has_body (fn := Tryz.f7) (by kernel_rfl) rfl (by decide)

theorem ok_order_History : FunOk Tryz.prog 7 sp_order_History := fun_ok (X := cx_order_History) (.cons ok_order_checked hb_order_checked (.cons ok_kit_Outside hb_kit_Outside (.cons ok_order_newFollower hb_order_newFollower (.cons ok_order_follower_run hb_order_follower_run (.nil _))))) (by kernel_rfl) sp_order_History anns_order_History (some t_order_line) (by kernel_rfl) (fun x y h => (den_order_History x).trans h)

def anns_internal_stringslite_HasSuffix : List (Nat × Ann) := []

noncomputable def sp_internal_stringslite_HasSuffix : FSpec := ⟨[.val .str, .val .str], [.val .bool], fun x => internal_stringslite_HasSuffix x.1 x.2.1⟩

noncomputable def cx_internal_stringslite_HasSuffix : Cx := ⟨Tryz.prog, []⟩

theorem den_internal_stringslite_HasSuffix : ∀ x, denF cx_internal_stringslite_HasSuffix anns_internal_stringslite_HasSuffix none Tryz.f121 sp_internal_stringslite_HasSuffix x = sp_internal_stringslite_HasSuffix.m x := by intro x; kernel_rfl

theorem hb_internal_stringslite_HasSuffix : HasBody Tryz.prog 121 := has_body (fn := Tryz.f121) (by kernel_rfl) rfl (by decide)

theorem ok_internal_stringslite_HasSuffix : FunOk Tryz.prog 121 sp_internal_stringslite_HasSuffix := fun_ok (X := cx_internal_stringslite_HasSuffix) (.nil _) (by kernel_rfl) sp_internal_stringslite_HasSuffix anns_internal_stringslite_HasSuffix none (by kernel_rfl) (fun x y h => (den_internal_stringslite_HasSuffix x).trans h)

def anns_internal_stringslite_CutSuffix : List (Nat × Ann) := []

noncomputable def sp_internal_stringslite_CutSuffix : FSpec := ⟨[.val .str, .val .str], [.val .str, .val .bool], fun x => internal_stringslite_CutSuffix x.1 x.2.1⟩

noncomputable def cx_internal_stringslite_CutSuffix : Cx := ⟨Tryz.prog, [(121, sp_internal_stringslite_HasSuffix)]⟩

theorem den_internal_stringslite_CutSuffix : ∀ x, denF cx_internal_stringslite_CutSuffix anns_internal_stringslite_CutSuffix none Tryz.f99 sp_internal_stringslite_CutSuffix x = sp_internal_stringslite_CutSuffix.m x := by intro x; kernel_rfl

theorem hb_internal_stringslite_CutSuffix : HasBody Tryz.prog 99 := has_body (fn := Tryz.f99) (by kernel_rfl) rfl (by decide)

theorem ok_internal_stringslite_CutSuffix : FunOk Tryz.prog 99 sp_internal_stringslite_CutSuffix := fun_ok (X := cx_internal_stringslite_CutSuffix) (.cons ok_internal_stringslite_HasSuffix hb_internal_stringslite_HasSuffix (.nil _)) (by kernel_rfl) sp_internal_stringslite_CutSuffix anns_internal_stringslite_CutSuffix none (by kernel_rfl) (fun x y h => (den_internal_stringslite_CutSuffix x).trans h)

def anns_strings_CutSuffix : List (Nat × Ann) := []

noncomputable def sp_strings_CutSuffix : FSpec := ⟨[.val .str, .val .str], [.val .str, .val .bool], fun x => strings_CutSuffix x.1 x.2.1⟩

noncomputable def cx_strings_CutSuffix : Cx := ⟨Tryz.prog, [(99, sp_internal_stringslite_CutSuffix)]⟩

theorem den_strings_CutSuffix : ∀ x, denF cx_strings_CutSuffix anns_strings_CutSuffix none Tryz.f56 sp_strings_CutSuffix x = sp_strings_CutSuffix.m x := by intro x; kernel_rfl

theorem hb_strings_CutSuffix : HasBody Tryz.prog 56 := has_body (fn := Tryz.f56) (by kernel_rfl) rfl (by decide)

theorem ok_strings_CutSuffix : FunOk Tryz.prog 56 sp_strings_CutSuffix := fun_ok (X := cx_strings_CutSuffix) (.cons ok_internal_stringslite_CutSuffix hb_internal_stringslite_CutSuffix (.nil _)) (by kernel_rfl) sp_strings_CutSuffix anns_strings_CutSuffix none (by kernel_rfl) (fun x y h => (den_strings_CutSuffix x).trans h)

def anns_kit_Lines : List (Nat × Ann) := []

noncomputable def sp_kit_Lines : FSpec := ⟨[.val .str], [.val (.slice .str), .val .bool], fun x => kit_Lines x.1⟩

noncomputable def cx_kit_Lines : Cx := ⟨Tryz.prog, [(56, sp_strings_CutSuffix), (57, sp_strings_Split)]⟩

theorem den_kit_Lines : ∀ x, denF cx_kit_Lines anns_kit_Lines none Tryz.f36 sp_kit_Lines x = sp_kit_Lines.m x := by intro x; kernel_rfl

theorem hb_kit_Lines : HasBody Tryz.prog 36 := has_body (fn := Tryz.f36) (by kernel_rfl) rfl (by decide)

theorem ok_kit_Lines : FunOk Tryz.prog 36 sp_kit_Lines := fun_ok (X := cx_kit_Lines) (.cons ok_strings_CutSuffix hb_strings_CutSuffix (.cons ok_strings_Split hb_strings_Split (.nil _))) (by kernel_rfl) sp_kit_Lines anns_kit_Lines none (by kernel_rfl) (fun x y h => (den_kit_Lines x).trans h)

def anns_kit_Words : List (Nat × Ann) := [(3, ⟨[(4, .rowR 27920), (9, .rowR 27920), (10, .val tI), (11, .val tI)], [], [.rowC 27920 9 .str], fuelOf _⟩),
  (200003, ⟨[(4, .rowR 27920)], [], [.rowC 27920 9 .str], fun _ => 0⟩)]

noncomputable def sp_kit_Words : FSpec := ⟨[.val .str], [.val (.slice .str), .val .bool], fun x => kit_Words x.1⟩

noncomputable def cx_kit_Words : Cx := ⟨Tryz.prog, [(57, sp_strings_Split)]⟩

theorem den_kit_Words : ∀ x, denF cx_kit_Words anns_kit_Words none Tryz.f58 sp_kit_Words x = sp_kit_Words.m x := by intro x; kernel_rfl

theorem hb_kit_Words : HasBody Tryz.prog 58 := has_body (fn := Tryz.f58) (by kernel_rfl) rfl (by decide)

theorem ok_kit_Words : FunOk Tryz.prog 58 sp_kit_Words := fun_ok (X := cx_kit_Words) (.cons ok_strings_Split hb_strings_Split (.nil _)) (by kernel_rfl) sp_kit_Words anns_kit_Words none (by kernel_rfl) (fun x y h => (den_kit_Words x).trans h)

def anns_order_words_next : List (Nat × Ann) := []

noncomputable def sp_order_words_next : FSpec := ⟨[.box [.val (.slice .str), .val .bool]], [.val .str], fun x => order_words_next x.1⟩

noncomputable def cx_order_words_next : Cx := ⟨Tryz.prog, []⟩

theorem den_order_words_next : ∀ x, denF cx_order_words_next anns_order_words_next none Tryz.f64 sp_order_words_next x = sp_order_words_next.m x := by intro x; kernel_rfl

theorem hb_order_words_next : HasBody Tryz.prog 64 := has_body (fn := Tryz.f64) (by kernel_rfl) rfl (by decide)

theorem ok_order_words_next : FunOk Tryz.prog 64 sp_order_words_next := fun_ok (X := cx_order_words_next) (.nil _) (by kernel_rfl) sp_order_words_next anns_order_words_next none (by kernel_rfl) (fun x y h => (den_order_words_next x).trans h)

def anns_order_words_number : List (Nat × Ann) := []

noncomputable def sp_order_words_number : FSpec := ⟨[.box [.val (.slice .str), .val .bool]], [.val tI], fun x => order_words_number x.1⟩

noncomputable def cx_order_words_number : Cx := ⟨Tryz.prog, [(64, sp_order_words_next), (101, sp_kit_Number)]⟩

theorem den_order_words_number : ∀ x, denF cx_order_words_number anns_order_words_number none Tryz.f59 sp_order_words_number x = sp_order_words_number.m x := by intro x; kernel_rfl

theorem hb_order_words_number : HasBody Tryz.prog 59 := has_body (fn := Tryz.f59) (by kernel_rfl) rfl (by decide)

theorem ok_order_words_number : FunOk Tryz.prog 59 sp_order_words_number := fun_ok (X := cx_order_words_number) (.cons ok_order_words_next hb_order_words_next (.cons ok_kit_Number hb_kit_Number (.nil _))) (by kernel_rfl) sp_order_words_number anns_order_words_number none (by kernel_rfl) (fun x y h => (den_order_words_number x).trans h)

def anns_order_byWords : List (Nat × Ann) := []

noncomputable def sp_order_byWords : FSpec := ⟨[], [.val (.slice .str)], fun x => order_byWords ⟩

noncomputable def cx_order_byWords : Cx := ⟨Tryz.prog, []⟩

theorem den_order_byWords : ∀ x, denF cx_order_byWords anns_order_byWords none Tryz.f61 sp_order_byWords x = sp_order_byWords.m x := by intro x; kernel_rfl

theorem hb_order_byWords : HasBody Tryz.prog 61 := has_body (fn := Tryz.f61) (by kernel_rfl) rfl (by decide)

theorem ok_order_byWords : FunOk Tryz.prog 61 sp_order_byWords := fun_ok (X := cx_order_byWords) (.nil _) (by kernel_rfl) sp_order_byWords anns_order_byWords none (by kernel_rfl) (fun x y h => (den_order_byWords x).trans h)

def anns_slices_Index_string : List (Nat × Ann) := [(2, ⟨[(0, .val (.slice .str)), (1, .val .str), (7, .val tI), (8, .val tI)], [], [], fuelOf _⟩),
  (200002, ⟨[], [], [], fun _ => 0⟩)]

noncomputable def sp_slices_Index_string : FSpec := ⟨[.val (.slice .str), .val .str], [.val tI], fun x => slices_Index_string x.1 x.2.1⟩

noncomputable def cx_slices_Index_string : Cx := ⟨Tryz.prog, []⟩

theorem den_slices_Index_string : ∀ x, denF cx_slices_Index_string anns_slices_Index_string none Tryz.f69 sp_slices_Index_string x = sp_slices_Index_string.m x := by intro x; kernel_rfl

theorem hb_slices_Index_string : HasBody Tryz.prog 69 := has_body (fn := Tryz.f69) (by kernel_rfl) rfl (by decide)

theorem ok_slices_Index_string : FunOk Tryz.prog 69 sp_slices_Index_string := fun_ok (X := cx_slices_Index_string) (.nil _) (by kernel_rfl) sp_slices_Index_string anns_slices_Index_string none (by kernel_rfl) (fun x y h => (den_slices_Index_string x).trans h)

def anns_order_words_index : List (Nat × Ann) := []

noncomputable def sp_order_words_index : FSpec := ⟨[.box [.val (.slice .str), .val .bool], .val (.slice .str)], [.val tI], fun x => order_words_index x.1 x.2.1⟩

noncomputable def cx_order_words_index : Cx := ⟨Tryz.prog, [(64, sp_order_words_next), (69, sp_slices_Index_string)]⟩

theorem den_order_words_index : ∀ x, denF cx_order_words_index anns_order_words_index none Tryz.f60 sp_order_words_index x = sp_order_words_index.m x := by intro x; kernel_rfl

theorem hb_order_words_index : HasBody Tryz.prog 60 := has_body (fn := Tryz.f60) (by kernel_rfl) rfl (by decide)

theorem ok_order_words_index : FunOk Tryz.prog 60 sp_order_words_index := fun_ok (X := cx_order_words_index) (.cons ok_order_words_next hb_order_words_next (.cons ok_slices_Index_string hb_slices_Index_string (.nil _))) (by kernel_rfl) sp_order_words_index anns_order_words_index none (by kernel_rfl) (fun x y h => (den_order_words_index x).trans h)

def anns_order_kindWords : List (Nat × Ann) := []

noncomputable def sp_order_kindWords : FSpec := ⟨[], [.val (.slice .str)], fun x => order_kindWords ⟩

noncomputable def cx_order_kindWords : Cx := ⟨Tryz.prog, []⟩

theorem den_order_kindWords : ∀ x, denF cx_order_kindWords anns_order_kindWords none Tryz.f62 sp_order_kindWords x = sp_order_kindWords.m x := by intro x; kernel_rfl

theorem hb_order_kindWords : HasBody Tryz.prog 62 := has_body (fn := Tryz.f62) (by kernel_rfl) rfl (by decide)

theorem ok_order_kindWords : FunOk Tryz.prog 62 sp_order_kindWords := fun_ok (X := cx_order_kindWords) (.nil _) (by kernel_rfl) sp_order_kindWords anns_order_kindWords none (by kernel_rfl) (fun x y h => (den_order_kindWords x).trans h)

def anns_internal_stringslite_HasPrefix : List (Nat × Ann) := []

noncomputable def sp_internal_stringslite_HasPrefix : FSpec := ⟨[.val .str, .val .str], [.val .bool], fun x => internal_stringslite_HasPrefix x.1 x.2.1⟩

noncomputable def cx_internal_stringslite_HasPrefix : Cx := ⟨Tryz.prog, []⟩

theorem den_internal_stringslite_HasPrefix : ∀ x, denF cx_internal_stringslite_HasPrefix anns_internal_stringslite_HasPrefix none Tryz.f180 sp_internal_stringslite_HasPrefix x = sp_internal_stringslite_HasPrefix.m x := by intro x; kernel_rfl

theorem hb_internal_stringslite_HasPrefix : HasBody Tryz.prog 180 := has_body (fn := Tryz.f180) (by kernel_rfl) rfl (by decide)

theorem ok_internal_stringslite_HasPrefix : FunOk Tryz.prog 180 sp_internal_stringslite_HasPrefix := fun_ok (X := cx_internal_stringslite_HasPrefix) (.nil _) (by kernel_rfl) sp_internal_stringslite_HasPrefix anns_internal_stringslite_HasPrefix none (by kernel_rfl) (fun x y h => (den_internal_stringslite_HasPrefix x).trans h)

def anns_internal_stringslite_CutPrefix : List (Nat × Ann) := []

noncomputable def sp_internal_stringslite_CutPrefix : FSpec := ⟨[.val .str, .val .str], [.val .str, .val .bool], fun x => internal_stringslite_CutPrefix x.1 x.2.1⟩

noncomputable def cx_internal_stringslite_CutPrefix : Cx := ⟨Tryz.prog, [(180, sp_internal_stringslite_HasPrefix)]⟩

theorem den_internal_stringslite_CutPrefix : ∀ x, denF cx_internal_stringslite_CutPrefix anns_internal_stringslite_CutPrefix none Tryz.f163 sp_internal_stringslite_CutPrefix x = sp_internal_stringslite_CutPrefix.m x := by intro x; kernel_rfl

theorem hb_internal_stringslite_CutPrefix : HasBody Tryz.prog 163 := has_body (fn := Tryz.f163) (by kernel_rfl) rfl (by decide)

theorem ok_internal_stringslite_CutPrefix : FunOk Tryz.prog 163 sp_internal_stringslite_CutPrefix := fun_ok (X := cx_internal_stringslite_CutPrefix) (.cons ok_internal_stringslite_HasPrefix hb_internal_stringslite_HasPrefix (.nil _)) (by kernel_rfl) sp_internal_stringslite_CutPrefix anns_internal_stringslite_CutPrefix none (by kernel_rfl) (fun x y h => (den_internal_stringslite_CutPrefix x).trans h)

def anns_strings_CutPrefix : List (Nat × Ann) := []

noncomputable def sp_strings_CutPrefix : FSpec := ⟨[.val .str, .val .str], [.val .str, .val .bool], fun x => strings_CutPrefix x.1 x.2.1⟩

noncomputable def cx_strings_CutPrefix : Cx := ⟨Tryz.prog, [(163, sp_internal_stringslite_CutPrefix)]⟩

theorem den_strings_CutPrefix : ∀ x, denF cx_strings_CutPrefix anns_strings_CutPrefix none Tryz.f127 sp_strings_CutPrefix x = sp_strings_CutPrefix.m x := by intro x; kernel_rfl

theorem hb_strings_CutPrefix : HasBody Tryz.prog 127 := has_body (fn := Tryz.f127) (by kernel_rfl) rfl (by decide)

theorem ok_strings_CutPrefix : FunOk Tryz.prog 127 sp_strings_CutPrefix := fun_ok (X := cx_strings_CutPrefix) (.cons ok_internal_stringslite_CutPrefix hb_internal_stringslite_CutPrefix (.nil _)) (by kernel_rfl) sp_strings_CutPrefix anns_strings_CutPrefix none (by kernel_rfl) (fun x y h => (den_strings_CutPrefix x).trans h)

def anns_internal_stringslite_Index : List (Nat × Ann) := []

noncomputable def sp_internal_stringslite_Index : FSpec := ⟨[.val .str, .val .str], [.val tI], fun x => internal_stringslite_Index x.1 x.2.1⟩

noncomputable def cx_internal_stringslite_Index : Cx := ⟨Tryz.prog, [(130, sp_internal_stringslite_IndexByte)]⟩

theorem den_internal_stringslite_Index : ∀ x, denF cx_internal_stringslite_Index anns_internal_stringslite_Index none Tryz.f103 sp_internal_stringslite_Index x = sp_internal_stringslite_Index.m x := by intro x; kernel_rfl

theorem hb_internal_stringslite_Index : HasBody Tryz.prog 103 := has_body (fn := Tryz.f103) (by kernel_rfl) rfl (by decide)

theorem ok_internal_stringslite_Index : FunOk Tryz.prog 103 sp_internal_stringslite_Index := fun_ok (X := cx_internal_stringslite_Index) (.cons ok_internal_stringslite_IndexByte hb_internal_stringslite_IndexByte (.nil _)) (by kernel_rfl) sp_internal_stringslite_Index anns_internal_stringslite_Index none (by kernel_rfl) (fun x y h => (den_internal_stringslite_Index x).trans h)

def anns_internal_stringslite_Cut : List (Nat × Ann) := []

noncomputable def sp_internal_stringslite_Cut : FSpec := ⟨[.val .str, .val .str], [.val .str, .val .str, .val .bool], fun x => internal_stringslite_Cut x.1 x.2.1⟩

noncomputable def cx_internal_stringslite_Cut : Cx := ⟨Tryz.prog, [(103, sp_internal_stringslite_Index)]⟩

theorem den_internal_stringslite_Cut : ∀ x, denF cx_internal_stringslite_Cut anns_internal_stringslite_Cut none Tryz.f66 sp_internal_stringslite_Cut x = sp_internal_stringslite_Cut.m x := by intro x; kernel_rfl

theorem hb_internal_stringslite_Cut : HasBody Tryz.prog 66 := has_body (fn := Tryz.f66) (by kernel_rfl) rfl (by decide)

theorem ok_internal_stringslite_Cut : FunOk Tryz.prog 66 sp_internal_stringslite_Cut := fun_ok (X := cx_internal_stringslite_Cut) (.cons ok_internal_stringslite_Index hb_internal_stringslite_Index (.nil _)) (by kernel_rfl) sp_internal_stringslite_Cut anns_internal_stringslite_Cut none (by kernel_rfl) (fun x y h => (den_internal_stringslite_Cut x).trans h)

def anns_strings_Cut : List (Nat × Ann) := []

noncomputable def sp_strings_Cut : FSpec := ⟨[.val .str, .val .str], [.val .str, .val .str, .val .bool], fun x => strings_Cut x.1 x.2.1⟩

noncomputable def cx_strings_Cut : Cx := ⟨Tryz.prog, [(66, sp_internal_stringslite_Cut)]⟩

theorem den_strings_Cut : ∀ x, denF cx_strings_Cut anns_strings_Cut none Tryz.f38 sp_strings_Cut x = sp_strings_Cut.m x := by intro x; kernel_rfl

theorem hb_strings_Cut : HasBody Tryz.prog 38 := has_body (fn := Tryz.f38) (by kernel_rfl) rfl (by decide)

theorem ok_strings_Cut : FunOk Tryz.prog 38 sp_strings_Cut := fun_ok (X := cx_strings_Cut) (.cons ok_internal_stringslite_Cut hb_internal_stringslite_Cut (.nil _)) (by kernel_rfl) sp_strings_Cut anns_strings_Cut none (by kernel_rfl) (fun x y h => (den_strings_Cut x).trans h)

def anns_amount_isWhole : List (Nat × Ann) := [(300001, ⟨[(2, .val .bool)], [], [], fun _ => 0⟩)]

noncomputable def sp_amount_isWhole : FSpec := ⟨[.val .str], [.val .bool], fun x => amount_isWhole x.1⟩

noncomputable def cx_amount_isWhole : Cx := ⟨Tryz.prog, [(125, sp_kit_IsDigits)]⟩

theorem den_amount_isWhole : ∀ x, denF cx_amount_isWhole anns_amount_isWhole none Tryz.f128 sp_amount_isWhole x = sp_amount_isWhole.m x := by intro x; kernel_rfl

theorem hb_amount_isWhole : HasBody Tryz.prog 128 := has_body (fn := Tryz.f128) (by kernel_rfl) rfl (by decide)

theorem ok_amount_isWhole : FunOk Tryz.prog 128 sp_amount_isWhole := fun_ok (X := cx_amount_isWhole) (.cons ok_kit_IsDigits hb_kit_IsDigits (.nil _)) (by kernel_rfl) sp_amount_isWhole anns_amount_isWhole none (by kernel_rfl) (fun x y h => (den_amount_isWhole x).trans h)

def anns_whole_Int_Times : List (Nat × Ann) := [(3, ⟨[(2, .ref 2 0), (3, .ref 3 0), (4, .ref 4 0), (5, .rowR 18), (20, .val (.slice (.int .u32))), (21, .val tI), (22, .val tI)], [(2, [.val .bool, .val (.slice (.int .u32))]), (3, [.val .bool, .val (.slice (.int .u32))]), (4, [.val .bool, .own 149 (.int .u32)])], [.rowC 18 149 (.int .u32)], fuelOf _⟩),
  (7, ⟨[(2, .ref 2 0), (3, .ref 3 0), (4, .ref 4 0), (5, .rowR 18), (6, .val tI), (7, .val (.int .u32)), (8, .val (.int .u64)), (20, .val (.slice (.int .u32))), (21, .val tI), (22, .val tI), (28, .val (.slice (.int .u32))), (29, .val tI), (30, .val tI)], [(2, [.val .bool, .val (.slice (.int .u32))]), (3, [.val .bool, .val (.slice (.int .u32))]), (4, [.val .bool, .own 149 (.int .u32)])], [.rowC 18 149 (.int .u32)], fuelOf _⟩),
  (200003, ⟨[(2, .ref 2 0), (3, .ref 3 0), (4, .ref 4 0), (5, .rowR 18)], [(2, [.val .bool, .val (.slice (.int .u32))]), (3, [.val .bool, .val (.slice (.int .u32))]), (4, [.val .bool, .own 149 (.int .u32)])], [.rowC 18 149 (.int .u32)], fun _ => 0⟩),
  (200007, ⟨[(2, .ref 2 0), (3, .ref 3 0), (4, .ref 4 0), (5, .rowR 18), (6, .val tI), (8, .val (.int .u64)), (20, .val (.slice (.int .u32))), (21, .val tI), (22, .val tI)], [(2, [.val .bool, .val (.slice (.int .u32))]), (3, [.val .bool, .val (.slice (.int .u32))]), (4, [.val .bool, .own 149 (.int .u32)])], [.rowC 18 149 (.int .u32)], fun _ => 0⟩)]

noncomputable def sp_whole_Int_Times : FSpec := ⟨[.val t_whole_Int, .val t_whole_Int], [.val t_whole_Int], fun x => whole_Int_Times x.1 x.2.1⟩

noncomputable def cx_whole_Int_Times : Cx := ⟨Tryz.prog, [(113, sp_whole_made)]⟩

theorem den_whole_Int_Times : ∀ x, denF cx_whole_Int_Times anns_whole_Int_Times none Tryz.f164 sp_whole_Int_Times x = sp_whole_Int_Times.m x := by intro x; kernel_rfl

theorem hb_whole_Int_Times : HasBody Tryz.prog 164 := has_body (fn := Tryz.f164) (by kernel_rfl) rfl (by decide)

theorem ok_whole_Int_Times : FunOk Tryz.prog 164 sp_whole_Int_Times := fun_ok (X := cx_whole_Int_Times) (.cons ok_whole_made hb_whole_made (.nil _)) (by kernel_rfl) sp_whole_Int_Times anns_whole_Int_Times none (by kernel_rfl) (fun x y h => (den_whole_Int_Times x).trans h)

def anns_whole_Int_Plus : List (Nat × Ann) := []

noncomputable def sp_whole_Int_Plus : FSpec := ⟨[.val t_whole_Int, .val t_whole_Int], [.val t_whole_Int], fun x => whole_Int_Plus x.1 x.2.1⟩

noncomputable def cx_whole_Int_Plus : Cx := ⟨Tryz.prog, [(113, sp_whole_made), (145, sp_whole_sum_v), (147, sp_whole_compare), (148, sp_whole_less)]⟩

theorem den_whole_Int_Plus : ∀ x, denF cx_whole_Int_Plus anns_whole_Int_Plus none Tryz.f165 sp_whole_Int_Plus x = sp_whole_Int_Plus.m x := by intro x; kernel_rfl

theorem hb_whole_Int_Plus : HasBody Tryz.prog 165 := has_body (fn := Tryz.f165) (by kernel_rfl) rfl (by decide)

theorem ok_whole_Int_Plus : FunOk Tryz.prog 165 sp_whole_Int_Plus := fun_ok (X := cx_whole_Int_Plus) (.cons ok_whole_made hb_whole_made (.cons ok_whole_sum_v hb_whole_sum_v (.cons ok_whole_compare hb_whole_compare (.cons ok_whole_less hb_whole_less (.nil _))))) (by kernel_rfl) sp_whole_Int_Plus anns_whole_Int_Plus none (by kernel_rfl) (fun x y h => (den_whole_Int_Plus x).trans h)

def anns_amount_read : List (Nat × Ann) := [(3, ⟨[(0, .val .bool), (1, .val .str), (2, .val .str), (6, .ref 6 0), (8, .ref 8 0), (14, .val tI), (15, .val tI)], [(6, [.val tI, .val tI]), (8, [.val .bool, .val (.slice (.int .u32))])], [], fuelOf _⟩),
  (200003, ⟨[(0, .val .bool), (2, .val .str), (6, .ref 6 0), (8, .ref 8 0)], [(6, [.val tI, .val tI]), (8, [.val .bool, .val (.slice (.int .u32))])], [], fun _ => 0⟩)]

noncomputable def sp_amount_read : FSpec := ⟨[.val .bool, .val .str, .val .str], [.val t_api_Decimal, .val tI], fun x => amount_read x.1 x.2.1 x.2.2.1⟩

noncomputable def cx_amount_read : Cx := ⟨Tryz.prog, [(82, sp_whole_Of), (110, sp_whole_Int_Sign), (111, sp_whole_Int_Minus), (112, sp_amount_Made), (164, sp_whole_Int_Times), (165, sp_whole_Int_Plus)]⟩

theorem den_amount_read : ∀ x, denF cx_amount_read anns_amount_read none Tryz.f129 sp_amount_read x = sp_amount_read.m x := by intro x; kernel_rfl

theorem hb_amount_read : HasBody Tryz.prog 129 := has_body (fn := Tryz.f129) (by kernel_rfl) rfl (by decide)

theorem ok_amount_read : FunOk Tryz.prog 129 sp_amount_read := fun_ok (X := cx_amount_read) (.cons ok_whole_Of hb_whole_Of (.cons ok_whole_Int_Sign hb_whole_Int_Sign (.cons ok_whole_Int_Minus hb_whole_Int_Minus (.cons ok_amount_Made hb_amount_Made (.cons ok_whole_Int_Times hb_whole_Int_Times (.cons ok_whole_Int_Plus hb_whole_Int_Plus (.nil _))))))) (by kernel_rfl) sp_amount_read anns_amount_read none (by kernel_rfl) (fun x y h => (den_amount_read x).trans h)

def anns_amount_ReadText : List (Nat × Ann) := [(300003, ⟨[(40, .val .bool)], [], [], fun _ => 0⟩)]

noncomputable def sp_amount_ReadText : FSpec := ⟨[.val .str], [.val t_api_Decimal, .val tI], fun x => amount_ReadText x.1⟩

noncomputable def cx_amount_ReadText : Cx := ⟨Tryz.prog, [(38, sp_strings_Cut), (125, sp_kit_IsDigits), (127, sp_strings_CutPrefix), (128, sp_amount_isWhole), (129, sp_amount_read)]⟩

theorem den_amount_ReadText : ∀ x, denF cx_amount_ReadText anns_amount_ReadText none Tryz.f102 sp_amount_ReadText x = sp_amount_ReadText.m x := by intro x; kernel_rfl

theorem hb_amount_ReadText : HasBody Tryz.prog 102 := has_body (fn := Tryz.f102) (by kernel_rfl) rfl (by decide)

theorem ok_amount_ReadText : FunOk Tryz.prog 102 sp_amount_ReadText := fun_ok (X := cx_amount_ReadText) (.cons ok_strings_Cut hb_strings_Cut (.cons ok_kit_IsDigits hb_kit_IsDigits (.cons ok_strings_CutPrefix hb_strings_CutPrefix (.cons ok_amount_isWhole hb_amount_isWhole (.cons ok_amount_read hb_amount_read (.nil _)))))) (by kernel_rfl) sp_amount_ReadText anns_amount_ReadText none (by kernel_rfl) (fun x y h => (den_amount_ReadText x).trans h)

def anns_order_words_decimal : List (Nat × Ann) := []

noncomputable def sp_order_words_decimal : FSpec := ⟨[.box [.val (.slice .str), .val .bool]], [.val t_api_Decimal], fun x => order_words_decimal x.1⟩

noncomputable def cx_order_words_decimal : Cx := ⟨Tryz.prog, [(64, sp_order_words_next), (102, sp_amount_ReadText)]⟩

theorem den_order_words_decimal : ∀ x, denF cx_order_words_decimal anns_order_words_decimal none Tryz.f65 sp_order_words_decimal x = sp_order_words_decimal.m x := by intro x; kernel_rfl

theorem hb_order_words_decimal : HasBody Tryz.prog 65 := has_body (fn := Tryz.f65) (by kernel_rfl) rfl (by decide)

theorem ok_order_words_decimal : FunOk Tryz.prog 65 sp_order_words_decimal := fun_ok (X := cx_order_words_decimal) (.cons ok_order_words_next hb_order_words_next (.cons ok_amount_ReadText hb_amount_ReadText (.nil _))) (by kernel_rfl) sp_order_words_decimal anns_order_words_decimal none (by kernel_rfl) (fun x y h => (den_order_words_decimal x).trans h)

def anns_order_readDeed : List (Nat × Ann) := [(100008, ⟨[(2, .ref 2 0), (6, .ref 19 0), (7, .ref 7 0), (8, .ref 8 0)], [(2, [.val tI, .val tI, .val tI, .val tI, .val tI, .val .str, .val tI, .val tI, .val .str, .val tI, .val tI, .val tI, .val tI]), (7, [.val tI, .val tI, .val tI, .val tI, .val tI, .val .str, .val tI, .val tI, .val .str, .val tI, .val tI, .val tI, .val tI]), (8, [.val .bool, .val .bool, .val .bool, .val .bool, .val .bool, .val .bool]), (19, [.val (.slice .str), .val .bool])], [], fun _ => 0⟩),
  (100010, ⟨[(2, .ref 2 0), (6, .ref 19 0), (7, .ref 7 0), (8, .ref 8 0)], [(2, [.val tI, .val tI, .val tI, .val tI, .val tI, .val .str, .val tI, .val tI, .val .str, .val tI, .val tI, .val tI, .val tI]), (7, [.val tI, .val tI, .val tI, .val tI, .val tI, .val .str, .val tI, .val tI, .val .str, .val tI, .val tI, .val tI, .val tI]), (8, [.val .bool, .val .bool, .val .bool, .val .bool, .val .bool, .val .bool]), (19, [.val (.slice .str), .val .bool])], [], fun _ => 0⟩),
  (100012, ⟨[(2, .ref 2 0), (6, .ref 19 0), (7, .ref 7 0), (8, .ref 8 0)], [(2, [.val tI, .val tI, .val tI, .val tI, .val tI, .val .str, .val tI, .val tI, .val .str, .val tI, .val tI, .val tI, .val tI]), (7, [.val tI, .val tI, .val tI, .val tI, .val tI, .val .str, .val tI, .val tI, .val .str, .val tI, .val tI, .val tI, .val tI]), (8, [.val .bool, .val .bool, .val .bool, .val .bool, .val .bool, .val .bool]), (19, [.val (.slice .str), .val .bool])], [], fun _ => 0⟩),
  (100014, ⟨[(2, .ref 2 0), (6, .ref 19 0), (7, .ref 7 0), (8, .ref 8 0)], [(2, [.val tI, .val tI, .val tI, .val tI, .val tI, .val .str, .val tI, .val tI, .val .str, .val tI, .val tI, .val tI, .val tI]), (7, [.val tI, .val tI, .val tI, .val tI, .val tI, .val .str, .val tI, .val tI, .val .str, .val tI, .val tI, .val tI, .val tI]), (8, [.val .bool, .val .bool, .val .bool, .val .bool, .val .bool, .val .bool]), (19, [.val (.slice .str), .val .bool])], [], fun _ => 0⟩),
  (100016, ⟨[(2, .ref 2 0), (6, .ref 19 0), (7, .ref 7 0), (8, .ref 8 0)], [(2, [.val tI, .val tI, .val tI, .val tI, .val tI, .val .str, .val tI, .val tI, .val .str, .val tI, .val tI, .val tI, .val tI]), (7, [.val tI, .val tI, .val tI, .val tI, .val tI, .val .str, .val tI, .val tI, .val .str, .val tI, .val tI, .val tI, .val tI]), (8, [.val .bool, .val .bool, .val .bool, .val .bool, .val .bool, .val .bool]), (19, [.val (.slice .str), .val .bool])], [], fun _ => 0⟩),
  (100018, ⟨[(2, .ref 2 0), (6, .ref 19 0), (7, .ref 7 0)], [(2, [.val tI, .val tI, .val tI, .val tI, .val tI, .val .str, .val tI, .val tI, .val .str, .val tI, .val tI, .val tI, .val tI]), (7, [.val tI, .val tI, .val tI, .val tI, .val tI, .val .str, .val tI, .val tI, .val .str, .val tI, .val tI, .val tI, .val tI]), (19, [.val (.slice .str), .val .bool])], [], fun _ => 0⟩)]

noncomputable def sp_order_readDeed : FSpec := ⟨[.val .str], [.val t_api_Deed, .val .bool], fun x => order_readDeed x.1⟩

noncomputable def cx_order_readDeed : Cx := ⟨Tryz.prog, [(58, sp_kit_Words), (59, sp_order_words_number), (60, sp_order_words_index), (61, sp_order_byWords), (62, sp_order_kindWords), (63, sp_order_usesOf), (64, sp_order_words_next), (65, sp_order_words_decimal)]⟩

theorem den_order_readDeed : ∀ x, denF cx_order_readDeed anns_order_readDeed none Tryz.f37 sp_order_readDeed x = sp_order_readDeed.m x := by intro x; kernel_rfl

theorem hb_order_readDeed : HasBody Tryz.prog 37 := has_body (fn := Tryz.f37) (by kernel_rfl) rfl (by decide)

theorem ok_order_readDeed : FunOk Tryz.prog 37 sp_order_readDeed := fun_ok (X := cx_order_readDeed) (.cons ok_kit_Words hb_kit_Words (.cons ok_order_words_number hb_order_words_number (.cons ok_order_words_index hb_order_words_index (.cons ok_order_byWords hb_order_byWords (.cons ok_order_kindWords hb_order_kindWords (.cons ok_order_usesOf hb_order_usesOf (.cons ok_order_words_next hb_order_words_next (.cons ok_order_words_decimal hb_order_words_decimal (.nil _))))))))) (by kernel_rfl) sp_order_readDeed anns_order_readDeed none (by kernel_rfl) (fun x y h => (den_order_readDeed x).trans h)

def anns_order_Read : List (Nat × Ann) := [(6, ⟨[(5, .val (.slice .str)), (6, .val .bool), (7, .own 40 t_api_Deed), (21, .val (.slice .str)), (22, .val tI), (23, .val tI)], [], [], fuelOf _⟩),
  (200006, ⟨[(7, .own 40 t_api_Deed)], [], [], fun _ => 0⟩),
  (300009, ⟨[(45, .val .bool)], [], [], fun _ => 0⟩)]

noncomputable def sp_order_Read : FSpec := ⟨[.val .str], [.row 40 t_api_Deed, .val tI, .val tI], fun x => order_Read x.1⟩

noncomputable def cx_order_Read : Cx := ⟨Tryz.prog, [(26, sp_order_CheckDeeds), (36, sp_kit_Lines), (37, sp_order_readDeed)]⟩

theorem den_order_Read : ∀ x, denF cx_order_Read anns_order_Read none Tryz.f16 sp_order_Read x = sp_order_Read.m x := by intro x; kernel_rfl

theorem hb_order_Read : HasBody Tryz.prog 16 := has_body (fn := Tryz.f16) (by kernel_rfl) rfl (by decide)

theorem ok_order_Read : FunOk Tryz.prog 16 sp_order_Read := fun_ok (X := cx_order_Read) (.cons ok_order_CheckDeeds hb_order_CheckDeeds (.cons ok_kit_Lines hb_kit_Lines (.cons ok_order_readDeed hb_order_readDeed (.nil _)))) (by kernel_rfl) sp_order_Read anns_order_Read none (by kernel_rfl) (fun x y h => (den_order_Read x).trans h)

def anns_l9_awake : List (Nat × Ann) := [(300002, ⟨[(0, .val .bool)], [], [], fun _ => 0⟩)]

noncomputable def sp_l9_awake : FSpec := ⟨[], [.val .bool], fun x => l9_awake ⟩

noncomputable def cx_l9_awake : Cx := ⟨Tryz.prog, [(16, sp_order_Read)]⟩

theorem den_l9_awake : ∀ x, denF cx_l9_awake anns_l9_awake none Tryz.f8 sp_l9_awake x = sp_l9_awake.m x := by intro x; kernel_rfl

theorem hb_l9_awake : HasBody Tryz.prog 8 := has_body (fn := Tryz.f8) (by kernel_rfl) rfl (by decide)

theorem ok_l9_awake : FunOk Tryz.prog 8 sp_l9_awake := fun_ok (X := cx_l9_awake) (.cons ok_order_Read hb_order_Read (.nil _)) (by kernel_rfl) sp_l9_awake anns_l9_awake none (by kernel_rfl) (fun x y h => (den_l9_awake x).trans h)

def anns_order_at : List (Nat × Ann) := []

noncomputable def sp_order_at : FSpec := ⟨[.val t_api_Order, .val (.slice t_api_Deed), .val tI, .ar t_order_line], [.box [.val t_api_Order, .val (.slice t_api_Deed), .map tI .hnd, .row 50 t_api_Decimal, .row 38 t_api_Point, .val tI], .val tI], fun x => order_at x.1 x.2.1 x.2.2.1 x.2.2.2.1⟩

noncomputable def cx_order_at : Cx := ⟨Tryz.prog, [(18, sp_order_checked), (20, sp_order_newFollower), (21, sp_order_follower_run), (43, sp_kit_IsDay)]⟩

theorem den_order_at : ∀ x, denF cx_order_at anns_order_at none Tryz.f22 sp_order_at x = sp_order_at.m x := by intro x; kernel_rfl

theorem hb_order_at : HasBody Tryz.prog 22 := has_body (fn := Tryz.f22) (by kernel_rfl) rfl (by decide)

theorem ok_order_at : FunOk Tryz.prog 22 sp_order_at := fun_ok (X := cx_order_at) (.cons ok_order_checked hb_order_checked (.cons ok_order_newFollower hb_order_newFollower (.cons ok_order_follower_run hb_order_follower_run (.cons ok_kit_IsDay hb_kit_IsDay (.nil _))))) (by kernel_rfl) sp_order_at anns_order_at none (by kernel_rfl) (fun x y h => (den_order_at x).trans h)

def anns_order_at_e : List (Nat × Ann) := []

noncomputable def sp_order_at_e : FSpec := ⟨[.val t_api_Order, .val (.slice t_api_Deed), .val tI, .ar t_order_line], [.val .hnd, .val tI], fun x => order_at_e x.1 x.2.1 x.2.2.1 x.2.2.2.1⟩

noncomputable def cx_order_at_e : Cx := ⟨Tryz.prog, [(18, sp_order_checked), (20, sp_order_newFollower), (21, sp_order_follower_run), (43, sp_kit_IsDay)]⟩

theorem den_order_at_e : ∀ x, denF cx_order_at_e anns_order_at_e none Tryz.f22 sp_order_at_e x = sp_order_at_e.m x := by intro x; kernel_rfl

theorem hb_order_at_e : HasBody Tryz.prog 22 := has_body (fn := Tryz.f22) (by kernel_rfl) rfl (by decide)

theorem ok_order_at_e : FunOk Tryz.prog 22 sp_order_at_e := fun_ok (X := cx_order_at_e) (.cons ok_order_checked hb_order_checked (.cons ok_order_newFollower hb_order_newFollower (.cons ok_order_follower_run hb_order_follower_run (.cons ok_kit_IsDay hb_kit_IsDay (.nil _))))) (by kernel_rfl) sp_order_at_e anns_order_at_e none (by kernel_rfl) (fun x y h => (den_order_at_e x).trans h)

def anns_order_LineAt : List (Nat × Ann) := []

noncomputable def sp_order_LineAt : FSpec := ⟨[.val t_api_Order, .val (.slice t_api_Deed), .val tI, .val tI], [.val t_api_State, .val .bool, .val tI], fun x => order_LineAt x.1 x.2.1 x.2.2.1 x.2.2.2.1⟩

noncomputable def cx_order_LineAt : Cx := ⟨Tryz.prog, [(19, sp_kit_Outside), (22, sp_order_at_e), (22, sp_order_at), (23, sp_order_line_state)]⟩

theorem den_order_LineAt : ∀ x, denF cx_order_LineAt anns_order_LineAt (some t_order_line) Tryz.f9 sp_order_LineAt x = sp_order_LineAt.m x := by intro x; kernel_rfl

theorem hb_order_LineAt : HasBody Tryz.prog 9 := has_body (fn := Tryz.f9) (by kernel_rfl) rfl (by decide)

theorem ok_order_LineAt : FunOk Tryz.prog 9 sp_order_LineAt := fun_ok (X := cx_order_LineAt) (.cons ok_kit_Outside hb_kit_Outside (.cons ok_order_at_e hb_order_at_e (.cons ok_order_at hb_order_at (.cons ok_order_line_state hb_order_line_state (.nil _))))) (by kernel_rfl) sp_order_LineAt anns_order_LineAt (some t_order_line) (by kernel_rfl) (fun x y h => (den_order_LineAt x).trans h)

def anns_l9_OrderHistoriesEndNow : List (Nat × Ann) := [(6, ⟨[(1, .val (.slice t_api_Deed)), (2, .val tI), (7, .rowR 46352), (8, .val tI), (9, .ref 9 0), (10, .val .bool), (41, .rowR 46352), (42, .val tI), (43, .val tI)], [(9, [.val tI, .val .str, .val .str, .val tI, .val tI, .val tI, .val tI, .val tI, .val tI, .val tI, .val tI, .val tI, .val tI, .val tI, .val tI, .val tI])], [.rowC 46352 38 t_api_Point], fuelOf _⟩),
  (200006, ⟨[(7, .rowR 46352), (8, .val tI), (9, .ref 9 0), (10, .val .bool)], [(9, [.val tI, .val .str, .val .str, .val tI, .val tI, .val tI, .val tI, .val tI, .val tI, .val tI, .val tI, .val tI, .val tI, .val tI, .val tI, .val tI])], [.rowC 46352 38 t_api_Point], fun _ => 0⟩),
  (300003, ⟨[(6, .val .bool)], [], [], fun _ => 0⟩),
  (300008, ⟨[(82, .val .bool)], [], [], fun _ => 0⟩),
  (300011, ⟨[(6, .val .bool)], [], [], fun _ => 0⟩)]

noncomputable def sp_l9_OrderHistoriesEndNow : FSpec := ⟨[.val t_api_Order, .val (.slice t_api_Deed), .val tI], [.val .bool], fun x => l9_OrderHistoriesEndNow x.1 x.2.1 x.2.2.1⟩

noncomputable def cx_l9_OrderHistoriesEndNow : Cx := ⟨Tryz.prog, [(7, sp_order_History), (8, sp_l9_awake), (9, sp_order_LineAt)]⟩

theorem den_l9_OrderHistoriesEndNow : ∀ x, denF cx_l9_OrderHistoriesEndNow anns_l9_OrderHistoriesEndNow none Tryz.f3 sp_l9_OrderHistoriesEndNow x = sp_l9_OrderHistoriesEndNow.m x := by intro x; kernel_rfl

theorem ok_l9_OrderHistoriesEndNow : FunOk Tryz.prog 3 sp_l9_OrderHistoriesEndNow := fun_ok (X := cx_l9_OrderHistoriesEndNow) (.cons ok_order_History hb_order_History (.cons ok_l9_awake hb_l9_awake (.cons ok_order_LineAt hb_order_LineAt (.nil _)))) (by kernel_rfl) sp_l9_OrderHistoriesEndNow anns_l9_OrderHistoriesEndNow none (by kernel_rfl) (fun x y h => (den_l9_OrderHistoriesEndNow x).trans h)

def anns_order_nextNo : List (Nat × Ann) := [(3, ⟨[(1, .val tI), (5, .val tI), (8, .val (.slice t_api_Deed)), (9, .val tI), (10, .val tI)], [], [], fuelOf _⟩),
  (200003, ⟨[(5, .val tI)], [], [], fun _ => 0⟩)]

noncomputable def sp_order_nextNo : FSpec := ⟨[.val (.slice t_api_Deed), .val tI], [.val tI], fun x => order_nextNo x.1 x.2.1⟩

noncomputable def cx_order_nextNo : Cx := ⟨Tryz.prog, []⟩

theorem den_order_nextNo : ∀ x, denF cx_order_nextNo anns_order_nextNo none Tryz.f24 sp_order_nextNo x = sp_order_nextNo.m x := by intro x; kernel_rfl

theorem hb_order_nextNo : HasBody Tryz.prog 24 := has_body (fn := Tryz.f24) (by kernel_rfl) rfl (by decide)

theorem ok_order_nextNo : FunOk Tryz.prog 24 sp_order_nextNo := fun_ok (X := cx_order_nextNo) (.nil _) (by kernel_rfl) sp_order_nextNo anns_order_nextNo none (by kernel_rfl) (fun x y h => (den_order_nextNo x).trans h)

def anns_slices_Clone_api_Deed : List (Nat × Ann) := []

noncomputable def sp_slices_Clone_api_Deed : FSpec := ⟨[.val (.slice t_api_Deed)], [.row 40 t_api_Deed], fun x => slices_Clone_api_Deed x.1⟩

noncomputable def cx_slices_Clone_api_Deed : Cx := ⟨Tryz.prog, []⟩

theorem den_slices_Clone_api_Deed : ∀ x, denF cx_slices_Clone_api_Deed anns_slices_Clone_api_Deed none Tryz.f25 sp_slices_Clone_api_Deed x = sp_slices_Clone_api_Deed.m x := by intro x; kernel_rfl

theorem hb_slices_Clone_api_Deed : HasBody Tryz.prog 25 := has_body (fn := Tryz.f25) (by kernel_rfl) rfl (by decide)

theorem ok_slices_Clone_api_Deed : FunOk Tryz.prog 25 sp_slices_Clone_api_Deed := fun_ok (X := cx_slices_Clone_api_Deed) (.nil _) (by kernel_rfl) sp_slices_Clone_api_Deed anns_slices_Clone_api_Deed none (by kernel_rfl) (fun x y h => (den_slices_Clone_api_Deed x).trans h)

def anns_order_Write : List (Nat × Ann) := [(300014, ⟨[(62, .val .bool)], [], [], fun _ => 0⟩)]

noncomputable def sp_order_Write : FSpec := ⟨[.val t_api_Order, .val (.slice t_api_Deed), .val t_api_Deed], [.val (.slice t_api_Deed), .val tI], fun x => order_Write x.1 x.2.1 x.2.2.1⟩

noncomputable def cx_order_Write : Cx := ⟨Tryz.prog, [(18, sp_order_checked), (20, sp_order_newFollower), (21, sp_order_follower_run), (24, sp_order_nextNo), (25, sp_slices_Clone_api_Deed), (26, sp_order_CheckDeeds)]⟩

theorem den_order_Write : ∀ x, denF cx_order_Write anns_order_Write (some t_order_line) Tryz.f10 sp_order_Write x = sp_order_Write.m x := by intro x; kernel_rfl

theorem hb_order_Write : HasBody Tryz.prog 10 := has_body (fn := Tryz.f10) (by kernel_rfl) rfl (by decide)

theorem ok_order_Write : FunOk Tryz.prog 10 sp_order_Write := fun_ok (X := cx_order_Write) (.cons ok_order_checked hb_order_checked (.cons ok_order_newFollower hb_order_newFollower (.cons ok_order_follower_run hb_order_follower_run (.cons ok_order_nextNo hb_order_nextNo (.cons ok_slices_Clone_api_Deed hb_slices_Clone_api_Deed (.cons ok_order_CheckDeeds hb_order_CheckDeeds (.nil _))))))) (by kernel_rfl) sp_order_Write anns_order_Write (some t_order_line) (by kernel_rfl) (fun x y h => (den_order_Write x).trans h)

def anns_slices_Equal_api_Deed : List (Nat × Ann) := [(4, ⟨[(0, .val (.slice t_api_Deed)), (1, .val (.slice t_api_Deed)), (12, .val tI), (13, .val tI)], [], [], fuelOf _⟩),
  (200004, ⟨[], [], [], fun _ => 0⟩)]

noncomputable def sp_slices_Equal_api_Deed : FSpec := ⟨[.val (.slice t_api_Deed), .val (.slice t_api_Deed)], [.val .bool], fun x => slices_Equal_api_Deed x.1 x.2.1⟩

noncomputable def cx_slices_Equal_api_Deed : Cx := ⟨Tryz.prog, []⟩

theorem den_slices_Equal_api_Deed : ∀ x, denF cx_slices_Equal_api_Deed anns_slices_Equal_api_Deed none Tryz.f11 sp_slices_Equal_api_Deed x = sp_slices_Equal_api_Deed.m x := by intro x; kernel_rfl

theorem hb_slices_Equal_api_Deed : HasBody Tryz.prog 11 := has_body (fn := Tryz.f11) (by kernel_rfl) rfl (by decide)

theorem ok_slices_Equal_api_Deed : FunOk Tryz.prog 11 sp_slices_Equal_api_Deed := fun_ok (X := cx_slices_Equal_api_Deed) (.nil _) (by kernel_rfl) sp_slices_Equal_api_Deed anns_slices_Equal_api_Deed none (by kernel_rfl) (fun x y h => (den_slices_Equal_api_Deed x).trans h)

def anns_order_RefusedOf : List (Nat × Ann) := []

noncomputable def sp_order_RefusedOf : FSpec := ⟨[.val t_api_Order, .val (.slice t_api_Deed)], [.row 50 t_api_Decimal, .val tI], fun x => order_RefusedOf x.1 x.2.1⟩

noncomputable def cx_order_RefusedOf : Cx := ⟨Tryz.prog, [(22, sp_order_at_e), (22, sp_order_at)]⟩

theorem den_order_RefusedOf : ∀ x, denF cx_order_RefusedOf anns_order_RefusedOf (some t_order_line) Tryz.f12 sp_order_RefusedOf x = sp_order_RefusedOf.m x := by intro x; kernel_rfl

theorem hb_order_RefusedOf : HasBody Tryz.prog 12 := has_body (fn := Tryz.f12) (by kernel_rfl) rfl (by decide)

theorem ok_order_RefusedOf : FunOk Tryz.prog 12 sp_order_RefusedOf := fun_ok (X := cx_order_RefusedOf) (.cons ok_order_at_e hb_order_at_e (.cons ok_order_at hb_order_at (.nil _))) (by kernel_rfl) sp_order_RefusedOf anns_order_RefusedOf (some t_order_line) (by kernel_rfl) (fun x y h => (den_order_RefusedOf x).trans h)

def anns_slices_Equal_api_Refused : List (Nat × Ann) := [(4, ⟨[(0, .val (.slice t_api_Decimal)), (1, .val (.slice t_api_Decimal)), (12, .val tI), (13, .val tI)], [], [], fuelOf _⟩),
  (200004, ⟨[], [], [], fun _ => 0⟩)]

noncomputable def sp_slices_Equal_api_Refused : FSpec := ⟨[.val (.slice t_api_Decimal), .val (.slice t_api_Decimal)], [.val .bool], fun x => slices_Equal_api_Refused x.1 x.2.1⟩

noncomputable def cx_slices_Equal_api_Refused : Cx := ⟨Tryz.prog, []⟩

theorem den_slices_Equal_api_Refused : ∀ x, denF cx_slices_Equal_api_Refused anns_slices_Equal_api_Refused none Tryz.f13 sp_slices_Equal_api_Refused x = sp_slices_Equal_api_Refused.m x := by intro x; kernel_rfl

theorem hb_slices_Equal_api_Refused : HasBody Tryz.prog 13 := has_body (fn := Tryz.f13) (by kernel_rfl) rfl (by decide)

theorem ok_slices_Equal_api_Refused : FunOk Tryz.prog 13 sp_slices_Equal_api_Refused := fun_ok (X := cx_slices_Equal_api_Refused) (.nil _) (by kernel_rfl) sp_slices_Equal_api_Refused anns_slices_Equal_api_Refused none (by kernel_rfl) (fun x y h => (den_slices_Equal_api_Refused x).trans h)

def anns_l9_OrderWritesAreFollowed : List (Nat × Ann) := [(300003, ⟨[(6, .val .bool)], [], [], fun _ => 0⟩),
  (300009, ⟨[(6, .val .bool)], [], [], fun _ => 0⟩)]

noncomputable def sp_l9_OrderWritesAreFollowed : FSpec := ⟨[.val t_api_Order, .val (.slice t_api_Deed), .val t_api_Deed], [.val .bool], fun x => l9_OrderWritesAreFollowed x.1 x.2.1 x.2.2.1⟩

noncomputable def cx_l9_OrderWritesAreFollowed : Cx := ⟨Tryz.prog, [(8, sp_l9_awake), (10, sp_order_Write), (11, sp_slices_Equal_api_Deed), (12, sp_order_RefusedOf), (13, sp_slices_Equal_api_Refused)]⟩

theorem den_l9_OrderWritesAreFollowed : ∀ x, denF cx_l9_OrderWritesAreFollowed anns_l9_OrderWritesAreFollowed none Tryz.f4 sp_l9_OrderWritesAreFollowed x = sp_l9_OrderWritesAreFollowed.m x := by intro x; kernel_rfl

theorem ok_l9_OrderWritesAreFollowed : FunOk Tryz.prog 4 sp_l9_OrderWritesAreFollowed := fun_ok (X := cx_l9_OrderWritesAreFollowed) (.cons ok_l9_awake hb_l9_awake (.cons ok_order_Write hb_order_Write (.cons ok_slices_Equal_api_Deed hb_slices_Equal_api_Deed (.cons ok_order_RefusedOf hb_order_RefusedOf (.cons ok_slices_Equal_api_Refused hb_slices_Equal_api_Refused (.nil _)))))) (by kernel_rfl) sp_l9_OrderWritesAreFollowed anns_l9_OrderWritesAreFollowed none (by kernel_rfl) (fun x y h => (den_l9_OrderWritesAreFollowed x).trans h)


end Go.Proofs.SeatO
