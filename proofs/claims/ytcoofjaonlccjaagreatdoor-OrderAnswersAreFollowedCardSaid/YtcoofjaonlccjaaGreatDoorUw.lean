/-
 Each function that the law reaches is as its plain model says. No condition.
-/
import Derived.Test.YtcoofjaonlccjaaGreatDoorUv
set_option linter.all false
set_option maxRecDepth 100000
namespace Go.Proofs.SeatA
open Go.Dn Go.Md Go.Proofs

def anns_kit_IsName : List (Nat × Ann) := []

noncomputable def sp_kit_IsName : FSpec := ⟨[.val .str], [.val .bool], fun x => kit_IsName x.1⟩

noncomputable def cx_kit_IsName : Cx := ⟨Tryz.prog, [(71, sp_strings_Trim)], []⟩

theorem den_kit_IsName : ∀ x, denF cx_kit_IsName anns_kit_IsName none Tryz.f36 sp_kit_IsName x = sp_kit_IsName.m x := by intro x; kernel_rfl

theorem hb_kit_IsName : HasBody Tryz.prog 36 := has_body (fn := Tryz.f36) (by kernel_rfl) rfl (by decide)

theorem ok_kit_IsName : FunOk Tryz.prog 36 sp_kit_IsName := fun_ok (X := cx_kit_IsName) (.cons ok_strings_Trim hb_strings_Trim (.nil _)) (by kernel_rfl) sp_kit_IsName anns_kit_IsName none (by kernel_rfl) (fun x y h => (den_kit_IsName x).trans h)

def anns_kit_Outside : List (Nat × Ann) := []

noncomputable def sp_kit_Outside : FSpec := ⟨[.val tI, .val tI, .val tI], [.val .bool], fun x => kit_Outside x.1 x.2.1 x.2.2.1⟩

noncomputable def cx_kit_Outside : Cx := ⟨Tryz.prog, [], []⟩

theorem den_kit_Outside : ∀ x, denF cx_kit_Outside anns_kit_Outside none Tryz.f38 sp_kit_Outside x = sp_kit_Outside.m x := by intro x; kernel_rfl

theorem hb_kit_Outside : HasBody Tryz.prog 38 := has_body (fn := Tryz.f38) (by kernel_rfl) rfl (by decide)

theorem ok_kit_Outside : FunOk Tryz.prog 38 sp_kit_Outside := fun_ok (X := cx_kit_Outside) (.nil _) (by kernel_rfl) sp_kit_Outside anns_kit_Outside none (by kernel_rfl) (fun x y h => (den_kit_Outside x).trans h)

def anns_kit_IsDay : List (Nat × Ann) := []

noncomputable def sp_kit_IsDay : FSpec := ⟨[.val tI], [.val .bool], fun x => kit_IsDay x.1⟩

noncomputable def cx_kit_IsDay : Cx := ⟨Tryz.prog, [(38, sp_kit_Outside)], []⟩

theorem den_kit_IsDay : ∀ x, denF cx_kit_IsDay anns_kit_IsDay none Tryz.f37 sp_kit_IsDay x = sp_kit_IsDay.m x := by intro x; kernel_rfl

theorem hb_kit_IsDay : HasBody Tryz.prog 37 := has_body (fn := Tryz.f37) (by kernel_rfl) rfl (by decide)

theorem ok_kit_IsDay : FunOk Tryz.prog 37 sp_kit_IsDay := fun_ok (X := cx_kit_IsDay) (.cons ok_kit_Outside hb_kit_Outside (.nil _)) (by kernel_rfl) sp_kit_IsDay anns_kit_IsDay none (by kernel_rfl) (fun x y h => (den_kit_IsDay x).trans h)

def anns_amount_CheckDecimal : List (Nat × Ann) := []

noncomputable def sp_amount_CheckDecimal : FSpec := ⟨[.val t_api_Decimal], [.val tI], fun x => amount_CheckDecimal x.1⟩

noncomputable def cx_amount_CheckDecimal : Cx := ⟨Tryz.prog, [(38, sp_kit_Outside)], []⟩

theorem den_amount_CheckDecimal : ∀ x, denF cx_amount_CheckDecimal anns_amount_CheckDecimal none Tryz.f116 sp_amount_CheckDecimal x = sp_amount_CheckDecimal.m x := by intro x; kernel_rfl

theorem hb_amount_CheckDecimal : HasBody Tryz.prog 116 := has_body (fn := Tryz.f116) (by kernel_rfl) rfl (by decide)

theorem ok_amount_CheckDecimal : FunOk Tryz.prog 116 sp_amount_CheckDecimal := fun_ok (X := cx_amount_CheckDecimal) (.cons ok_kit_Outside hb_kit_Outside (.nil _)) (by kernel_rfl) sp_amount_CheckDecimal anns_amount_CheckDecimal none (by kernel_rfl) (fun x y h => (den_amount_CheckDecimal x).trans h)

def anns_order_power : List (Nat × Ann) := [(3, ⟨[(3, .val tI), (4, .val tI), (5, .val tI)], [], [], fuelOf _⟩),
 (200003, ⟨[(3, .val tI)], [], [], fun _ => 0⟩)]

noncomputable def sp_order_power : FSpec := ⟨[.val tI], [.val tI], fun x => order_power x.1⟩

noncomputable def cx_order_power : Cx := ⟨Tryz.prog, [], []⟩

theorem den_order_power : ∀ x, denF cx_order_power anns_order_power none Tryz.f130 sp_order_power x = sp_order_power.m x := by intro x; kernel_rfl

theorem hb_order_power : HasBody Tryz.prog 130 := has_body (fn := Tryz.f130) (by kernel_rfl) rfl (by decide)

theorem ok_order_power : FunOk Tryz.prog 130 sp_order_power := fun_ok (X := cx_order_power) (.nil _) (by kernel_rfl) sp_order_power anns_order_power none (by kernel_rfl) (fun x y h => (den_order_power x).trans h)

def anns_order_within : List (Nat × Ann) := []

noncomputable def sp_order_within : FSpec := ⟨[.val t_api_Decimal, .val tI, .val tI], [.val .bool], fun x => order_within x.1 x.2.1 x.2.2.1⟩

noncomputable def cx_order_within : Cx := ⟨Tryz.prog, [(130, sp_order_power)], []⟩

theorem den_order_within : ∀ x, denF cx_order_within anns_order_within none Tryz.f117 sp_order_within x = sp_order_within.m x := by intro x; kernel_rfl

theorem hb_order_within : HasBody Tryz.prog 117 := has_body (fn := Tryz.f117) (by kernel_rfl) rfl (by decide)

theorem ok_order_within : FunOk Tryz.prog 117 sp_order_within := fun_ok (X := cx_order_within) (.cons ok_order_power hb_order_power (.nil _)) (by kernel_rfl) sp_order_within anns_order_within none (by kernel_rfl) (fun x y h => (den_order_within x).trans h)

def anns_order_QuantityFault : List (Nat × Ann) := []

noncomputable def sp_order_QuantityFault : FSpec := ⟨[.val t_api_Decimal, .val .bool], [.val tI], fun x => order_QuantityFault x.1 x.2.1⟩

noncomputable def cx_order_QuantityFault : Cx := ⟨Tryz.prog, [(116, sp_amount_CheckDecimal), (117, sp_order_within)], []⟩

theorem den_order_QuantityFault : ∀ x, denF cx_order_QuantityFault anns_order_QuantityFault none Tryz.f72 sp_order_QuantityFault x = sp_order_QuantityFault.m x := by intro x; kernel_rfl

theorem hb_order_QuantityFault : HasBody Tryz.prog 72 := has_body (fn := Tryz.f72) (by kernel_rfl) rfl (by decide)

theorem ok_order_QuantityFault : FunOk Tryz.prog 72 sp_order_QuantityFault := fun_ok (X := cx_order_QuantityFault) (.cons ok_amount_CheckDecimal hb_amount_CheckDecimal (.cons ok_order_within hb_order_within (.nil _))) (by kernel_rfl) sp_order_QuantityFault anns_order_QuantityFault none (by kernel_rfl) (fun x y h => (den_order_QuantityFault x).trans h)

def anns_order_PriceFault : List (Nat × Ann) := []

noncomputable def sp_order_PriceFault : FSpec := ⟨[.val t_api_Decimal], [.val tI], fun x => order_PriceFault x.1⟩

noncomputable def cx_order_PriceFault : Cx := ⟨Tryz.prog, [(116, sp_amount_CheckDecimal), (117, sp_order_within)], []⟩

theorem den_order_PriceFault : ∀ x, denF cx_order_PriceFault anns_order_PriceFault none Tryz.f73 sp_order_PriceFault x = sp_order_PriceFault.m x := by intro x; kernel_rfl

theorem hb_order_PriceFault : HasBody Tryz.prog 73 := has_body (fn := Tryz.f73) (by kernel_rfl) rfl (by decide)

theorem ok_order_PriceFault : FunOk Tryz.prog 73 sp_order_PriceFault := fun_ok (X := cx_order_PriceFault) (.cons ok_amount_CheckDecimal hb_amount_CheckDecimal (.cons ok_order_within hb_order_within (.nil _))) (by kernel_rfl) sp_order_PriceFault anns_order_PriceFault none (by kernel_rfl) (fun x y h => (den_order_PriceFault x).trans h)

def anns_order_lineFault : List (Nat × Ann) := [(300004, ⟨[(17, .val .bool)], [], [], fun _ => 0⟩)]

noncomputable def sp_order_lineFault : FSpec := ⟨[.val t_api_Order, .val tI], [.val tI], fun x => order_lineFault x.1 x.2.1⟩

noncomputable def cx_order_lineFault : Cx := ⟨Tryz.prog, [(36, sp_kit_IsName), (38, sp_kit_Outside), (72, sp_order_QuantityFault), (73, sp_order_PriceFault)], []⟩

theorem den_order_lineFault : ∀ x, denF cx_order_lineFault anns_order_lineFault none Tryz.f39 sp_order_lineFault x = sp_order_lineFault.m x := by intro x; kernel_rfl

theorem hb_order_lineFault : HasBody Tryz.prog 39 := has_body (fn := Tryz.f39) (by kernel_rfl) rfl (by decide)

theorem ok_order_lineFault : FunOk Tryz.prog 39 sp_order_lineFault := fun_ok (X := cx_order_lineFault) (.cons ok_kit_IsName hb_kit_IsName (.cons ok_kit_Outside hb_kit_Outside (.cons ok_order_QuantityFault hb_order_QuantityFault (.cons ok_order_PriceFault hb_order_PriceFault (.nil _))))) (by kernel_rfl) sp_order_lineFault anns_order_lineFault none (by kernel_rfl) (fun x y h => (den_order_lineFault x).trans h)

def anns_order_CheckOrder : List (Nat × Ann) := [(12, ⟨[(1, .ref 1 0), (50, .val tI), (51, .val tI)], [(1, [.val .str, .val .str, .val .str, .val tI, .val tI, .val (.slice t_api_Line)])], [], fuelOf _⟩),
 (200012, ⟨[], [], [], fun _ => 0⟩)]

noncomputable def sp_order_CheckOrder : FSpec := ⟨[.val t_api_Order], [.val tI], fun x => order_CheckOrder x.1⟩

noncomputable def cx_order_CheckOrder : Cx := ⟨Tryz.prog, [(36, sp_kit_IsName), (37, sp_kit_IsDay), (38, sp_kit_Outside), (39, sp_order_lineFault)], []⟩

theorem den_order_CheckOrder : ∀ x, denF cx_order_CheckOrder anns_order_CheckOrder none Tryz.f11 sp_order_CheckOrder x = sp_order_CheckOrder.m x := by intro x; kernel_rfl

theorem hb_order_CheckOrder : HasBody Tryz.prog 11 := has_body (fn := Tryz.f11) (by kernel_rfl) rfl (by decide)

theorem ok_order_CheckOrder : FunOk Tryz.prog 11 sp_order_CheckOrder := fun_ok (X := cx_order_CheckOrder) (.cons ok_kit_IsName hb_kit_IsName (.cons ok_kit_IsDay hb_kit_IsDay (.cons ok_kit_Outside hb_kit_Outside (.cons ok_order_lineFault hb_order_lineFault (.nil _))))) (by kernel_rfl) sp_order_CheckOrder anns_order_CheckOrder none (by kernel_rfl) (fun x y h => (den_order_CheckOrder x).trans h)

def anns_order_isSellers : List (Nat × Ann) := []

noncomputable def sp_order_isSellers : FSpec := ⟨[.val tI], [.val .bool], fun x => order_isSellers x.1⟩

noncomputable def cx_order_isSellers : Cx := ⟨Tryz.prog, [], []⟩

theorem den_order_isSellers : ∀ x, denF cx_order_isSellers anns_order_isSellers none Tryz.f78 sp_order_isSellers x = sp_order_isSellers.m x := by intro x; kernel_rfl

theorem hb_order_isSellers : HasBody Tryz.prog 78 := has_body (fn := Tryz.f78) (by kernel_rfl) rfl (by decide)

theorem ok_order_isSellers : FunOk Tryz.prog 78 sp_order_isSellers := fun_ok (X := cx_order_isSellers) (.nil _) (by kernel_rfl) sp_order_isSellers anns_order_isSellers none (by kernel_rfl) (fun x y h => (den_order_isSellers x).trans h)

def anns_order_usesOf : List (Nat × Ann) := []

noncomputable def sp_order_usesOf : FSpec := ⟨[.val tI], [.val t_order_uses], fun x => order_usesOf x.1⟩

noncomputable def cx_order_usesOf : Cx := ⟨Tryz.prog, [], []⟩

theorem den_order_usesOf : ∀ x, denF cx_order_usesOf anns_order_usesOf none Tryz.f63 sp_order_usesOf x = sp_order_usesOf.m x := by intro x; kernel_rfl

theorem hb_order_usesOf : HasBody Tryz.prog 63 := has_body (fn := Tryz.f63) (by kernel_rfl) rfl (by decide)

theorem ok_order_usesOf : FunOk Tryz.prog 63 sp_order_usesOf := fun_ok (X := cx_order_usesOf) (.nil _) (by kernel_rfl) sp_order_usesOf anns_order_usesOf none (by kernel_rfl) (fun x y h => (den_order_usesOf x).trans h)

def anns_order_usedFault : List (Nat × Ann) := [(100003, ⟨[(1, .ref 1 0), (3, .ref 3 0)], [(1, [.val tI, .val tI, .val tI, .val tI, .val tI, .val .str, .val tI, .val tI, .val .str, .val tI, .val tI, .val tI, .val tI]), (3, [.val .bool, .val .bool, .val .bool, .val .bool, .val .bool, .val .bool])], [], fun _ => 0⟩),
 (100007, ⟨[(1, .ref 1 0), (3, .ref 3 0)], [(1, [.val tI, .val tI, .val tI, .val tI, .val tI, .val .str, .val tI, .val tI, .val .str, .val tI, .val tI, .val tI, .val tI]), (3, [.val .bool, .val .bool, .val .bool, .val .bool, .val .bool, .val .bool])], [], fun _ => 0⟩),
 (300011, ⟨[(30, .val .bool)], [], [], fun _ => 0⟩),
 (300013, ⟨[(39, .val .bool)], [], [], fun _ => 0⟩),
 (300015, ⟨[(58, .val .bool)], [], [], fun _ => 0⟩),
 (300017, ⟨[(66, .val .bool)], [], [], fun _ => 0⟩)]

noncomputable def sp_order_usedFault : FSpec := ⟨[.val t_api_Deed], [.val tI], fun x => order_usedFault x.1⟩

noncomputable def cx_order_usedFault : Cx := ⟨Tryz.prog, [(36, sp_kit_IsName), (37, sp_kit_IsDay), (38, sp_kit_Outside), (63, sp_order_usesOf), (72, sp_order_QuantityFault), (73, sp_order_PriceFault)], []⟩

theorem den_order_usedFault : ∀ x, denF cx_order_usedFault anns_order_usedFault none Tryz.f79 sp_order_usedFault x = sp_order_usedFault.m x := by intro x; kernel_rfl

theorem hb_order_usedFault : HasBody Tryz.prog 79 := has_body (fn := Tryz.f79) (by kernel_rfl) rfl (by decide)

theorem ok_order_usedFault : FunOk Tryz.prog 79 sp_order_usedFault := fun_ok (X := cx_order_usedFault) (.cons ok_kit_IsName hb_kit_IsName (.cons ok_kit_IsDay hb_kit_IsDay (.cons ok_kit_Outside hb_kit_Outside (.cons ok_order_usesOf hb_order_usesOf (.cons ok_order_QuantityFault hb_order_QuantityFault (.cons ok_order_PriceFault hb_order_PriceFault (.nil _))))))) (by kernel_rfl) sp_order_usedFault anns_order_usedFault none (by kernel_rfl) (fun x y h => (den_order_usedFault x).trans h)

def anns_order_deedFault : List (Nat × Ann) := []

noncomputable def sp_order_deedFault : FSpec := ⟨[.val t_api_Deed], [.val tI], fun x => order_deedFault x.1⟩

noncomputable def cx_order_deedFault : Cx := ⟨Tryz.prog, [(37, sp_kit_IsDay), (38, sp_kit_Outside), (78, sp_order_isSellers), (79, sp_order_usedFault)], []⟩

theorem den_order_deedFault : ∀ x, denF cx_order_deedFault anns_order_deedFault none Tryz.f44 sp_order_deedFault x = sp_order_deedFault.m x := by intro x; kernel_rfl

theorem hb_order_deedFault : HasBody Tryz.prog 44 := has_body (fn := Tryz.f44) (by kernel_rfl) rfl (by decide)

theorem ok_order_deedFault : FunOk Tryz.prog 44 sp_order_deedFault := fun_ok (X := cx_order_deedFault) (.cons ok_kit_IsDay hb_kit_IsDay (.cons ok_kit_Outside hb_kit_Outside (.cons ok_order_isSellers hb_order_isSellers (.cons ok_order_usedFault hb_order_usedFault (.nil _))))) (by kernel_rfl) sp_order_deedFault anns_order_deedFault none (by kernel_rfl) (fun x y h => (den_order_deedFault x).trans h)

def anns_order_compareDeeds : List (Nat × Ann) := [(2, ⟨[(22, .rowR 22), (23, .val tI), (24, .val tI)], [], [.rowC 22 3 tI], fuelOf _⟩),
 (200002, ⟨[], [], [], fun _ => 0⟩)]

noncomputable def sp_order_compareDeeds : FSpec := ⟨[.val t_api_Deed, .val t_api_Deed], [.val tI], fun x => order_compareDeeds x.1 x.2.1⟩

noncomputable def cx_order_compareDeeds : Cx := ⟨Tryz.prog, [], []⟩

theorem den_order_compareDeeds : ∀ x, denF cx_order_compareDeeds anns_order_compareDeeds none Tryz.f32 sp_order_compareDeeds x = sp_order_compareDeeds.m x := by intro x; kernel_rfl

theorem hb_order_compareDeeds : HasBody Tryz.prog 32 := has_body (fn := Tryz.f32) (by kernel_rfl) rfl (by decide)

theorem ok_order_compareDeeds : FunOk Tryz.prog 32 sp_order_compareDeeds := fun_ok (X := cx_order_compareDeeds) (.nil _) (by kernel_rfl) sp_order_compareDeeds anns_order_compareDeeds none (by kernel_rfl) (fun x y h => (den_order_compareDeeds x).trans h)

def anns_order_CheckDeeds : List (Nat × Ann) := [(5, ⟨[(0, .val (.slice t_api_Deed)), (3, .ref 3 0), (11, .val (.slice t_api_Deed)), (12, .val tI), (13, .val tI)], [(3, [.val tI, .val tI, .val tI])], [], fuelOf _⟩),
 (200005, ⟨[], [], [], fun _ => 0⟩),
 (300010, ⟨[(34, .val .bool)], [], [], fun _ => 0⟩)]

noncomputable def sp_order_CheckDeeds : FSpec := ⟨[.val (.slice t_api_Deed)], [.val tI], fun x => order_CheckDeeds x.1⟩

noncomputable def cx_order_CheckDeeds : Cx := ⟨Tryz.prog, [(32, sp_order_compareDeeds), (44, sp_order_deedFault)], []⟩

theorem den_order_CheckDeeds : ∀ x, denF cx_order_CheckDeeds anns_order_CheckDeeds none Tryz.f13 sp_order_CheckDeeds x = sp_order_CheckDeeds.m x := by intro x; kernel_rfl

theorem hb_order_CheckDeeds : HasBody Tryz.prog 13 := has_body (fn := Tryz.f13) (by kernel_rfl) rfl (by decide)

theorem ok_order_CheckDeeds : FunOk Tryz.prog 13 sp_order_CheckDeeds := fun_ok (X := cx_order_CheckDeeds) (.cons ok_order_compareDeeds hb_order_compareDeeds (.cons ok_order_deedFault hb_order_deedFault (.nil _))) (by kernel_rfl) sp_order_CheckDeeds anns_order_CheckDeeds none (by kernel_rfl) (fun x y h => (den_order_CheckDeeds x).trans h)

def anns_order_checked : List (Nat × Ann) := []

noncomputable def sp_order_checked : FSpec := ⟨[.val t_api_Order, .val (.slice t_api_Deed)], [.val tI], fun x => order_checked x.1 x.2.1⟩

noncomputable def cx_order_checked : Cx := ⟨Tryz.prog, [(11, sp_order_CheckOrder), (13, sp_order_CheckDeeds)], []⟩

theorem den_order_checked : ∀ x, denF cx_order_checked anns_order_checked none Tryz.f49 sp_order_checked x = sp_order_checked.m x := by intro x; kernel_rfl

theorem hb_order_checked : HasBody Tryz.prog 49 := has_body (fn := Tryz.f49) (by kernel_rfl) rfl (by decide)

theorem ok_order_checked : FunOk Tryz.prog 49 sp_order_checked := fun_ok (X := cx_order_checked) (.cons ok_order_CheckOrder hb_order_CheckOrder (.cons ok_order_CheckDeeds hb_order_CheckDeeds (.nil _))) (by kernel_rfl) sp_order_checked anns_order_checked none (by kernel_rfl) (fun x y h => (den_order_checked x).trans h)

def anns_order_units : List (Nat × Ann) := []

noncomputable def sp_order_units : FSpec := ⟨[.val t_api_Decimal], [.val tI], fun x => order_units x.1⟩

noncomputable def cx_order_units : Cx := ⟨Tryz.prog, [(130, sp_order_power)], []⟩

theorem den_order_units : ∀ x, denF cx_order_units anns_order_units none Tryz.f83 sp_order_units x = sp_order_units.m x := by intro x; kernel_rfl

theorem hb_order_units : HasBody Tryz.prog 83 := has_body (fn := Tryz.f83) (by kernel_rfl) rfl (by decide)

theorem ok_order_units : FunOk Tryz.prog 83 sp_order_units := fun_ok (X := cx_order_units) (.cons ok_order_power hb_order_power (.nil _)) (by kernel_rfl) sp_order_units anns_order_units none (by kernel_rfl) (fun x y h => (den_order_units x).trans h)

def anns_order_newFollower : List (Nat × Ann) := [(3, ⟨[(5, .ref 12 0), (14, .val (.slice t_api_Line)), (15, .val tI), (16, .val tI)], [(12, [.val .str, .val .str, .val .str, .val tI, .val tI, .val (.slice t_api_Line), .val (.slice t_api_Deed), .mapR 10, .own 44 t_api_Decimal, .own 137 t_api_Point, .val tI])], [.mapC 10 tI .hnd, .ar t_order_line], fuelOf _⟩),
 (200003, ⟨[(5, .ref 12 0)], [(12, [.val .str, .val .str, .val .str, .val tI, .val tI, .val (.slice t_api_Line), .val (.slice t_api_Deed), .mapR 10, .own 44 t_api_Decimal, .own 137 t_api_Point, .val tI])], [.mapC 10 tI .hnd, .ar t_order_line], fun _ => 0⟩)]

noncomputable def sp_order_newFollower : FSpec := ⟨[.val t_api_Order, .val (.slice t_api_Deed), .ar t_order_line], [.box [.val t_api_Order, .val (.slice t_api_Deed), .map tI .hnd, .row 44 t_api_Decimal, .row 137 t_api_Point, .val tI]], fun x => order_newFollower x.1 x.2.1 x.2.2.1⟩

noncomputable def cx_order_newFollower : Cx := ⟨Tryz.prog, [(83, sp_order_units)], []⟩

theorem den_order_newFollower : ∀ x, denF cx_order_newFollower anns_order_newFollower none Tryz.f51 sp_order_newFollower x = sp_order_newFollower.m x := by intro x; kernel_rfl

theorem hb_order_newFollower : HasBody Tryz.prog 51 := has_body (fn := Tryz.f51) (by kernel_rfl) rfl (by decide)

theorem ok_order_newFollower : FunOk Tryz.prog 51 sp_order_newFollower := fun_ok (X := cx_order_newFollower) (.cons ok_order_units hb_order_units (.nil _)) (by kernel_rfl) sp_order_newFollower anns_order_newFollower none (by kernel_rfl) (fun x y h => (den_order_newFollower x).trans h)

def anns_order_follower_add : List (Nat × Ann) := []

noncomputable def sp_order_follower_add : FSpec := ⟨[.box [.val t_api_Order, .val (.slice t_api_Deed), .map tI .hnd, .row 44 t_api_Decimal, .row 137 t_api_Point, .val tI], .val tI, .ar t_order_line], [.val tI], fun x => order_follower_add x.1 x.2.1 x.2.2.1⟩

noncomputable def cx_order_follower_add : Cx := ⟨Tryz.prog, [], []⟩

theorem den_order_follower_add : ∀ x, denF cx_order_follower_add anns_order_follower_add none Tryz.f131 sp_order_follower_add x = sp_order_follower_add.m x := by intro x; kernel_rfl

theorem hb_order_follower_add : HasBody Tryz.prog 131 := has_body (fn := Tryz.f131) (by kernel_rfl) rfl (by decide)

theorem ok_order_follower_add : FunOk Tryz.prog 131 sp_order_follower_add := fun_ok (X := cx_order_follower_add) (.nil _) (by kernel_rfl) sp_order_follower_add anns_order_follower_add none (by kernel_rfl) (fun x y h => (den_order_follower_add x).trans h)

def anns_order_follower_wish : List (Nat × Ann) := [(300002, ⟨[(27, .val .bool)], [], [], fun _ => 0⟩)]

noncomputable def sp_order_follower_wish : FSpec := ⟨[.box [.val t_api_Order, .val (.slice t_api_Deed), .map tI .hnd, .row 44 t_api_Decimal, .row 137 t_api_Point, .val tI], .val .hnd, .val tI, .ar t_order_line], [.val tI], fun x => order_follower_wish x.1 x.2.1 x.2.2.1 x.2.2.2.1⟩

noncomputable def cx_order_follower_wish : Cx := ⟨Tryz.prog, [], []⟩

theorem den_order_follower_wish : ∀ x, denF cx_order_follower_wish anns_order_follower_wish none Tryz.f132 sp_order_follower_wish x = sp_order_follower_wish.m x := by intro x; kernel_rfl

theorem hb_order_follower_wish : HasBody Tryz.prog 132 := has_body (fn := Tryz.f132) (by kernel_rfl) rfl (by decide)

theorem ok_order_follower_wish : FunOk Tryz.prog 132 sp_order_follower_wish := fun_ok (X := cx_order_follower_wish) (.nil _) (by kernel_rfl) sp_order_follower_wish anns_order_follower_wish none (by kernel_rfl) (fun x y h => (den_order_follower_wish x).trans h)

def anns_order_follower_answer : List (Nat × Ann) := []

noncomputable def sp_order_follower_answer : FSpec := ⟨[.box [.val t_api_Order, .val (.slice t_api_Deed), .map tI .hnd, .row 44 t_api_Decimal, .row 137 t_api_Point, .val tI], .val .hnd, .val t_api_Deed, .ar t_order_line], [.val tI], fun x => order_follower_answer x.1 x.2.1 x.2.2.1 x.2.2.2.1⟩

noncomputable def cx_order_follower_answer : Cx := ⟨Tryz.prog, [(83, sp_order_units)], []⟩

theorem den_order_follower_answer : ∀ x, denF cx_order_follower_answer anns_order_follower_answer none Tryz.f64 sp_order_follower_answer x = sp_order_follower_answer.m x := by intro x; kernel_rfl

theorem hb_order_follower_answer : HasBody Tryz.prog 64 := has_body (fn := Tryz.f64) (by kernel_rfl) rfl (by decide)

theorem ok_order_follower_answer : FunOk Tryz.prog 64 sp_order_follower_answer := fun_ok (X := cx_order_follower_answer) (.cons ok_order_units hb_order_units (.nil _)) (by kernel_rfl) sp_order_follower_answer anns_order_follower_answer none (by kernel_rfl) (fun x y h => (den_order_follower_answer x).trans h)

def anns_order_line_open : List (Nat × Ann) := []

noncomputable def sp_order_line_open : FSpec := ⟨[.val .hnd, .arR t_order_line], [.val tI], fun x => order_line_open x.1 x.2.1⟩

noncomputable def cx_order_line_open : Cx := ⟨Tryz.prog, [], []⟩

theorem den_order_line_open : ∀ x, denF cx_order_line_open anns_order_line_open none Tryz.f92 sp_order_line_open x = sp_order_line_open.m x := by intro x; kernel_rfl

theorem hb_order_line_open : HasBody Tryz.prog 92 := has_body (fn := Tryz.f92) (by kernel_rfl) rfl (by decide)

theorem ok_order_line_open : FunOk Tryz.prog 92 sp_order_line_open := fun_ok (X := cx_order_line_open) (.nil _) (by kernel_rfl) sp_order_line_open anns_order_line_open none (by kernel_rfl) (fun x y h => (den_order_line_open x).trans h)

def anns_order_follower_offered : List (Nat × Ann) := []

noncomputable def sp_order_follower_offered : FSpec := ⟨[.box [.val t_api_Order, .val (.slice t_api_Deed), .map tI .hnd, .row 44 t_api_Decimal, .row 137 t_api_Point, .val tI], .val .hnd, .val t_api_Deed, .ar t_order_line], [.val tI], fun x => order_follower_offered x.1 x.2.1 x.2.2.1 x.2.2.2.1⟩

noncomputable def cx_order_follower_offered : Cx := ⟨Tryz.prog, [(83, sp_order_units), (92, sp_order_line_open)], []⟩

theorem den_order_follower_offered : ∀ x, denF cx_order_follower_offered anns_order_follower_offered none Tryz.f133 sp_order_follower_offered x = sp_order_follower_offered.m x := by intro x; kernel_rfl

theorem hb_order_follower_offered : HasBody Tryz.prog 133 := has_body (fn := Tryz.f133) (by kernel_rfl) rfl (by decide)

theorem ok_order_follower_offered : FunOk Tryz.prog 133 sp_order_follower_offered := fun_ok (X := cx_order_follower_offered) (.cons ok_order_units hb_order_units (.cons ok_order_line_open hb_order_line_open (.nil _))) (by kernel_rfl) sp_order_follower_offered anns_order_follower_offered none (by kernel_rfl) (fun x y h => (den_order_follower_offered x).trans h)

def anns_order_follower_take : List (Nat × Ann) := []

noncomputable def sp_order_follower_take : FSpec := ⟨[.box [.val t_api_Order, .val (.slice t_api_Deed), .map tI .hnd, .row 44 t_api_Decimal, .row 137 t_api_Point, .val tI], .val .hnd, .val t_api_Deed, .ar t_order_line], [.val tI], fun x => order_follower_take x.1 x.2.1 x.2.2.1 x.2.2.2.1⟩

noncomputable def cx_order_follower_take : Cx := ⟨Tryz.prog, [], []⟩

theorem den_order_follower_take : ∀ x, denF cx_order_follower_take anns_order_follower_take none Tryz.f134 sp_order_follower_take x = sp_order_follower_take.m x := by intro x; kernel_rfl

theorem hb_order_follower_take : HasBody Tryz.prog 134 := has_body (fn := Tryz.f134) (by kernel_rfl) rfl (by decide)

theorem ok_order_follower_take : FunOk Tryz.prog 134 sp_order_follower_take := fun_ok (X := cx_order_follower_take) (.nil _) (by kernel_rfl) sp_order_follower_take anns_order_follower_take none (by kernel_rfl) (fun x y h => (den_order_follower_take x).trans h)

def anns_order_follower_move : List (Nat × Ann) := []

noncomputable def sp_order_follower_move : FSpec := ⟨[.box [.val t_api_Order, .val (.slice t_api_Deed), .map tI .hnd, .row 44 t_api_Decimal, .row 137 t_api_Point, .val tI], .val .hnd, .val t_api_Deed, .ar t_order_line], [.val tI], fun x => order_follower_move x.1 x.2.1 x.2.2.1 x.2.2.2.1⟩

noncomputable def cx_order_follower_move : Cx := ⟨Tryz.prog, [(83, sp_order_units)], []⟩

theorem den_order_follower_move : ∀ x, denF cx_order_follower_move anns_order_follower_move none Tryz.f135 sp_order_follower_move x = sp_order_follower_move.m x := by intro x; kernel_rfl

theorem hb_order_follower_move : HasBody Tryz.prog 135 := has_body (fn := Tryz.f135) (by kernel_rfl) rfl (by decide)

theorem ok_order_follower_move : FunOk Tryz.prog 135 sp_order_follower_move := fun_ok (X := cx_order_follower_move) (.cons ok_order_units hb_order_units (.nil _)) (by kernel_rfl) sp_order_follower_move anns_order_follower_move none (by kernel_rfl) (fun x y h => (den_order_follower_move x).trans h)

def anns_order_follower_deed : List (Nat × Ann) := [(100011, ⟨[(0, .ref 2000 0), (1, .val tI), (5, .ref 5 0), (6, .val .hnd), (31, .val tI), (36, .val .bool)], [(5, [.val tI, .val tI, .val tI, .val tI, .val tI, .val .str, .val tI, .val tI, .val .str, .val tI, .val tI, .val tI, .val tI]), (2000, [.val .str, .val .str, .val .str, .val tI, .val tI, .val (.slice t_api_Line), .val (.slice t_api_Deed), .mapR 10250003, .rowR 10250004, .rowR 10250005, .val tI])], [.rowC 10250004 44 t_api_Decimal, .rowC 10250005 137 t_api_Point, .mapC 10250003 tI .hnd, .ar t_order_line], fun _ => 0⟩),
 (100015, ⟨[(0, .ref 2000 0), (5, .ref 5 0), (6, .val .hnd), (31, .val tI), (44, .val .bool)], [(5, [.val tI, .val tI, .val tI, .val tI, .val tI, .val .str, .val tI, .val tI, .val .str, .val tI, .val tI, .val tI, .val tI]), (2000, [.val .str, .val .str, .val .str, .val tI, .val tI, .val (.slice t_api_Line), .val (.slice t_api_Deed), .mapR 10250003, .rowR 10250004, .rowR 10250005, .val tI])], [.rowC 10250004 44 t_api_Decimal, .rowC 10250005 137 t_api_Point, .mapC 10250003 tI .hnd, .ar t_order_line], fun _ => 0⟩),
 (100017, ⟨[(5, .ref 5 0), (6, .val .hnd), (7, .val tI)], [(5, [.val tI, .val tI, .val tI, .val tI, .val tI, .val .str, .val tI, .val tI, .val .str, .val tI, .val tI, .val tI, .val tI]), (2000, [.val .str, .val .str, .val .str, .val tI, .val tI, .val (.slice t_api_Line), .val (.slice t_api_Deed), .map tI .hnd, .own 44 t_api_Decimal, .own 137 t_api_Point, .val tI])], [.ar t_order_line], fun _ => 0⟩),
 (300021, ⟨[(69, .val .bool)], [], [], fun _ => 0⟩)]

noncomputable def sp_order_follower_deed : FSpec := ⟨[.box [.val t_api_Order, .val (.slice t_api_Deed), .map tI .hnd, .row 44 t_api_Decimal, .row 137 t_api_Point, .val tI], .val tI, .ar t_order_line], [.val tI], fun x => order_follower_deed x.1 x.2.1 x.2.2.1⟩

noncomputable def cx_order_follower_deed : Cx := ⟨Tryz.prog, [(64, sp_order_follower_answer), (78, sp_order_isSellers), (83, sp_order_units), (131, sp_order_follower_add), (132, sp_order_follower_wish), (133, sp_order_follower_offered), (134, sp_order_follower_take), (135, sp_order_follower_move)], []⟩

theorem den_order_follower_deed : ∀ x, denF cx_order_follower_deed anns_order_follower_deed none Tryz.f84 sp_order_follower_deed x = sp_order_follower_deed.m x := by intro x; kernel_rfl

theorem hb_order_follower_deed : HasBody Tryz.prog 84 := has_body (fn := Tryz.f84) (by kernel_rfl) rfl (by decide)

theorem ok_order_follower_deed : FunOk Tryz.prog 84 sp_order_follower_deed := fun_ok (X := cx_order_follower_deed) (.cons ok_order_follower_answer hb_order_follower_answer (.cons ok_order_isSellers hb_order_isSellers (.cons ok_order_units hb_order_units (.cons ok_order_follower_add hb_order_follower_add (.cons ok_order_follower_wish hb_order_follower_wish (.cons ok_order_follower_offered hb_order_follower_offered (.cons ok_order_follower_take hb_order_follower_take (.cons ok_order_follower_move hb_order_follower_move (.nil _))))))))) (by kernel_rfl) sp_order_follower_deed anns_order_follower_deed none (by kernel_rfl) (fun x y h => (den_order_follower_deed x).trans h)

def anns_whole_trimmed : List (Nat × Ann) := [(1, ⟨[(0, .val (.slice (.int .u32)))], [], [], fuelOf _⟩),
 (200001, ⟨[(0, .val (.slice (.int .u32)))], [], [], fun _ => 0⟩)]

noncomputable def sp_whole_trimmed : FSpec := ⟨[.val (.slice (.int .u32))], [.val (.slice (.int .u32))], fun x => whole_trimmed x.1⟩

noncomputable def cx_whole_trimmed : Cx := ⟨Tryz.prog, [], []⟩

theorem den_whole_trimmed : ∀ x, denF cx_whole_trimmed anns_whole_trimmed none Tryz.f208 sp_whole_trimmed x = sp_whole_trimmed.m x := by intro x; kernel_rfl

theorem hb_whole_trimmed : HasBody Tryz.prog 208 := has_body (fn := Tryz.f208) (by kernel_rfl) rfl (by decide)

theorem ok_whole_trimmed : FunOk Tryz.prog 208 sp_whole_trimmed := fun_ok (X := cx_whole_trimmed) (.nil _) (by kernel_rfl) sp_whole_trimmed anns_whole_trimmed none (by kernel_rfl) (fun x y h => (den_whole_trimmed x).trans h)

def anns_whole_made : List (Nat × Ann) := []

noncomputable def sp_whole_made : FSpec := ⟨[.val .bool, .val (.slice (.int .u32))], [.val t_whole_Int], fun x => whole_made x.1 x.2.1⟩

noncomputable def cx_whole_made : Cx := ⟨Tryz.prog, [(208, sp_whole_trimmed)], []⟩

theorem den_whole_made : ∀ x, denF cx_whole_made anns_whole_made none Tryz.f184 sp_whole_made x = sp_whole_made.m x := by intro x; kernel_rfl

theorem hb_whole_made : HasBody Tryz.prog 184 := has_body (fn := Tryz.f184) (by kernel_rfl) rfl (by decide)

theorem ok_whole_made : FunOk Tryz.prog 184 sp_whole_made := fun_ok (X := cx_whole_made) (.cons ok_whole_trimmed hb_whole_trimmed (.nil _)) (by kernel_rfl) sp_whole_made anns_whole_made none (by kernel_rfl) (fun x y h => (den_whole_made x).trans h)

def anns_whole_Of : List (Nat × Ann) := [(100003, ⟨[(0, .val tI), (2, .ref 2 0), (3, .val (.int .u64))], [(2, [.val .bool, .own 163 (.int .u32)])], [], fun _ => 0⟩)]

noncomputable def sp_whole_Of : FSpec := ⟨[.val tI], [.val t_whole_Int], fun x => whole_Of x.1⟩

noncomputable def cx_whole_Of : Cx := ⟨Tryz.prog, [(184, sp_whole_made)], []⟩

theorem den_whole_Of : ∀ x, denF cx_whole_Of anns_whole_Of none Tryz.f146 sp_whole_Of x = sp_whole_Of.m x := by intro x; kernel_rfl

theorem hb_whole_Of : HasBody Tryz.prog 146 := has_body (fn := Tryz.f146) (by kernel_rfl) rfl (by decide)

theorem ok_whole_Of : FunOk Tryz.prog 146 sp_whole_Of := fun_ok (X := cx_whole_Of) (.cons ok_whole_made hb_whole_made (.nil _)) (by kernel_rfl) sp_whole_Of anns_whole_Of none (by kernel_rfl) (fun x y h => (den_whole_Of x).trans h)

def anns_whole_sum : List (Nat × Ann) := [(6, ⟨[(1, .val (.slice (.int .u32))), (5, .own 163 (.int .u32)), (6, .val (.int .u64)), (20, .val (.slice (.int .u32))), (21, .val tI), (22, .val tI)], [], [], fuelOf _⟩),
 (100002, ⟨[(0, .val (.slice (.int .u32))), (1, .val (.slice (.int .u32)))], [], [], fun _ => 0⟩),
 (100010, ⟨[(1, .val (.slice (.int .u32))), (5, .own 163 (.int .u32)), (6, .val (.int .u64)), (20, .val (.slice (.int .u32))), (21, .val tI), (22, .val tI)], [], [], fun _ => 0⟩),
 (200006, ⟨[(5, .own 163 (.int .u32)), (6, .val (.int .u64))], [], [], fun _ => 0⟩)]

noncomputable def sp_whole_sum : FSpec := ⟨[.val (.slice (.int .u32)), .val (.slice (.int .u32))], [.row 163 (.int .u32)], fun x => whole_sum x.1 x.2.1⟩

noncomputable def cx_whole_sum : Cx := ⟨Tryz.prog, [], []⟩

theorem den_whole_sum : ∀ x, denF cx_whole_sum anns_whole_sum none Tryz.f207 sp_whole_sum x = sp_whole_sum.m x := by intro x; kernel_rfl

theorem hb_whole_sum : HasBody Tryz.prog 207 := has_body (fn := Tryz.f207) (by kernel_rfl) rfl (by decide)

theorem ok_whole_sum : FunOk Tryz.prog 207 sp_whole_sum := fun_ok (X := cx_whole_sum) (.nil _) (by kernel_rfl) sp_whole_sum anns_whole_sum none (by kernel_rfl) (fun x y h => (den_whole_sum x).trans h)

def anns_whole_sum_v : List (Nat × Ann) := [(6, ⟨[(1, .val (.slice (.int .u32))), (5, .own 163 (.int .u32)), (6, .val (.int .u64)), (20, .val (.slice (.int .u32))), (21, .val tI), (22, .val tI)], [], [], fuelOf _⟩),
 (100002, ⟨[(0, .val (.slice (.int .u32))), (1, .val (.slice (.int .u32)))], [], [], fun _ => 0⟩),
 (100010, ⟨[(1, .val (.slice (.int .u32))), (5, .own 163 (.int .u32)), (6, .val (.int .u64)), (20, .val (.slice (.int .u32))), (21, .val tI), (22, .val tI)], [], [], fun _ => 0⟩),
 (200006, ⟨[(5, .own 163 (.int .u32)), (6, .val (.int .u64))], [], [], fun _ => 0⟩)]

noncomputable def sp_whole_sum_v : FSpec := ⟨[.val (.slice (.int .u32)), .val (.slice (.int .u32))], [.val (.slice (.int .u32))], fun x => whole_sum_v x.1 x.2.1⟩

noncomputable def cx_whole_sum_v : Cx := ⟨Tryz.prog, [], []⟩

theorem den_whole_sum_v : ∀ x, denF cx_whole_sum_v anns_whole_sum_v none Tryz.f207 sp_whole_sum_v x = sp_whole_sum_v.m x := by intro x; kernel_rfl

theorem hb_whole_sum_v : HasBody Tryz.prog 207 := has_body (fn := Tryz.f207) (by kernel_rfl) rfl (by decide)

theorem ok_whole_sum_v : FunOk Tryz.prog 207 sp_whole_sum_v := fun_ok (X := cx_whole_sum_v) (.nil _) (by kernel_rfl) sp_whole_sum_v anns_whole_sum_v none (by kernel_rfl) (fun x y h => (den_whole_sum_v x).trans h)

def anns_whole_compare : List (Nat × Ann) := [(4, ⟨[(0, .val (.slice (.int .u32))), (1, .val (.slice (.int .u32))), (5, .val tI)], [], [], fuelOf _⟩),
 (200004, ⟨[], [], [], fun _ => 0⟩)]

noncomputable def sp_whole_compare : FSpec := ⟨[.val (.slice (.int .u32)), .val (.slice (.int .u32))], [.val tI], fun x => whole_compare x.1 x.2.1⟩

noncomputable def cx_whole_compare : Cx := ⟨Tryz.prog, [], []⟩

theorem den_whole_compare : ∀ x, denF cx_whole_compare anns_whole_compare none Tryz.f209 sp_whole_compare x = sp_whole_compare.m x := by intro x; kernel_rfl

theorem hb_whole_compare : HasBody Tryz.prog 209 := has_body (fn := Tryz.f209) (by kernel_rfl) rfl (by decide)

theorem ok_whole_compare : FunOk Tryz.prog 209 sp_whole_compare := fun_ok (X := cx_whole_compare) (.nil _) (by kernel_rfl) sp_whole_compare anns_whole_compare none (by kernel_rfl) (fun x y h => (den_whole_compare x).trans h)

def anns_whole_less : List (Nat × Ann) := [(4, ⟨[(1, .val (.slice (.int .u32))), (5, .own 163 (.int .u32)), (6, .val (.int .u64)), (13, .val (.slice (.int .u32))), (14, .val tI), (15, .val tI)], [], [], fuelOf _⟩),
 (100008, ⟨[(1, .val (.slice (.int .u32))), (5, .own 163 (.int .u32)), (9, .val (.int .u64)), (13, .val (.slice (.int .u32))), (14, .val tI), (15, .val tI)], [], [], fun _ => 0⟩),
 (200004, ⟨[(5, .own 163 (.int .u32))], [], [], fun _ => 0⟩)]

noncomputable def sp_whole_less : FSpec := ⟨[.val (.slice (.int .u32)), .val (.slice (.int .u32))], [.val (.slice (.int .u32))], fun x => whole_less x.1 x.2.1⟩

noncomputable def cx_whole_less : Cx := ⟨Tryz.prog, [(208, sp_whole_trimmed)], []⟩

theorem den_whole_less : ∀ x, denF cx_whole_less anns_whole_less none Tryz.f210 sp_whole_less x = sp_whole_less.m x := by intro x; kernel_rfl

theorem hb_whole_less : HasBody Tryz.prog 210 := has_body (fn := Tryz.f210) (by kernel_rfl) rfl (by decide)

theorem ok_whole_less : FunOk Tryz.prog 210 sp_whole_less := fun_ok (X := cx_whole_less) (.cons ok_whole_trimmed hb_whole_trimmed (.nil _)) (by kernel_rfl) sp_whole_less anns_whole_less none (by kernel_rfl) (fun x y h => (den_whole_less x).trans h)

def anns_whole_Int_By : List (Nat × Ann) := [(4, ⟨[(2, .ref 2 0), (3, .ref 3 0), (4, .ref 4 0), (5, .ref 5 0), (6, .rowR 12), (7, .val (.slice (.int .u32))), (8, .val tI)], [(2, [.val .bool, .val (.slice (.int .u32))]), (3, [.val .bool, .val (.slice (.int .u32))]), (4, [.val .bool, .own 163 (.int .u32)]), (5, [.val .bool, .own 163 (.int .u32)])], [.rowC 12 163 (.int .u32)], fuelOf _⟩),
 (200004, ⟨[(4, .ref 4 0), (5, .ref 5 0), (6, .rowR 12), (7, .val (.slice (.int .u32)))], [(4, [.val .bool, .own 163 (.int .u32)]), (5, [.val .bool, .own 163 (.int .u32)])], [.rowC 12 163 (.int .u32)], fun _ => 0⟩)]

noncomputable def sp_whole_Int_By : FSpec := ⟨[.val t_whole_Int, .val t_whole_Int], [.val t_whole_Int, .val t_whole_Int], fun x => whole_Int_By x.1 x.2.1⟩

noncomputable def cx_whole_Int_By : Cx := ⟨Tryz.prog, [(184, sp_whole_made), (207, sp_whole_sum), (208, sp_whole_trimmed), (209, sp_whole_compare), (210, sp_whole_less)], []⟩

theorem den_whole_Int_By : ∀ x, denF cx_whole_Int_By anns_whole_Int_By none Tryz.f180 sp_whole_Int_By x = sp_whole_Int_By.m x := by intro x; kernel_rfl

theorem hb_whole_Int_By : HasBody Tryz.prog 180 := has_body (fn := Tryz.f180) (by kernel_rfl) rfl (by decide)

theorem ok_whole_Int_By : FunOk Tryz.prog 180 sp_whole_Int_By := fun_ok (X := cx_whole_Int_By) (.cons ok_whole_made hb_whole_made (.cons ok_whole_sum hb_whole_sum (.cons ok_whole_trimmed hb_whole_trimmed (.cons ok_whole_compare hb_whole_compare (.cons ok_whole_less hb_whole_less (.nil _)))))) (by kernel_rfl) sp_whole_Int_By anns_whole_Int_By none (by kernel_rfl) (fun x y h => (den_whole_Int_By x).trans h)

def anns_whole_Int_Sign : List (Nat × Ann) := []

noncomputable def sp_whole_Int_Sign : FSpec := ⟨[.val t_whole_Int], [.val tI], fun x => whole_Int_Sign x.1⟩

noncomputable def cx_whole_Int_Sign : Cx := ⟨Tryz.prog, [], []⟩

theorem den_whole_Int_Sign : ∀ x, denF cx_whole_Int_Sign anns_whole_Int_Sign none Tryz.f181 sp_whole_Int_Sign x = sp_whole_Int_Sign.m x := by intro x; kernel_rfl

theorem hb_whole_Int_Sign : HasBody Tryz.prog 181 := has_body (fn := Tryz.f181) (by kernel_rfl) rfl (by decide)

theorem ok_whole_Int_Sign : FunOk Tryz.prog 181 sp_whole_Int_Sign := fun_ok (X := cx_whole_Int_Sign) (.nil _) (by kernel_rfl) sp_whole_Int_Sign anns_whole_Int_Sign none (by kernel_rfl) (fun x y h => (den_whole_Int_Sign x).trans h)

def anns_whole_Int_Minus : List (Nat × Ann) := []

noncomputable def sp_whole_Int_Minus : FSpec := ⟨[.val t_whole_Int], [.val t_whole_Int], fun x => whole_Int_Minus x.1⟩

noncomputable def cx_whole_Int_Minus : Cx := ⟨Tryz.prog, [(184, sp_whole_made)], []⟩

theorem den_whole_Int_Minus : ∀ x, denF cx_whole_Int_Minus anns_whole_Int_Minus none Tryz.f182 sp_whole_Int_Minus x = sp_whole_Int_Minus.m x := by intro x; kernel_rfl

theorem hb_whole_Int_Minus : HasBody Tryz.prog 182 := has_body (fn := Tryz.f182) (by kernel_rfl) rfl (by decide)

theorem ok_whole_Int_Minus : FunOk Tryz.prog 182 sp_whole_Int_Minus := fun_ok (X := cx_whole_Int_Minus) (.cons ok_whole_made hb_whole_made (.nil _)) (by kernel_rfl) sp_whole_Int_Minus anns_whole_Int_Minus none (by kernel_rfl) (fun x y h => (den_whole_Int_Minus x).trans h)

def anns_whole_Int_Int : List (Nat × Ann) := [(5, ⟨[(1, .val tI), (2, .ref 2 0), (6, .val (.int .u64)), (14, .val (.slice (.int .u32))), (15, .val tI), (16, .val tI)], [(2, [.val .bool, .val (.slice (.int .u32))])], [], fuelOf _⟩),
 (200005, ⟨[(1, .val tI), (2, .ref 2 0), (6, .val (.int .u64))], [(2, [.val .bool, .val (.slice (.int .u32))])], [], fun _ => 0⟩)]

noncomputable def sp_whole_Int_Int : FSpec := ⟨[.val t_whole_Int, .val tI], [.val tI, .val .bool], fun x => whole_Int_Int x.1 x.2.1⟩

noncomputable def cx_whole_Int_Int : Cx := ⟨Tryz.prog, [], []⟩

theorem den_whole_Int_Int : ∀ x, denF cx_whole_Int_Int anns_whole_Int_Int none Tryz.f211 sp_whole_Int_Int x = sp_whole_Int_Int.m x := by intro x; kernel_rfl

theorem hb_whole_Int_Int : HasBody Tryz.prog 211 := has_body (fn := Tryz.f211) (by kernel_rfl) rfl (by decide)

theorem ok_whole_Int_Int : FunOk Tryz.prog 211 sp_whole_Int_Int := fun_ok (X := cx_whole_Int_Int) (.nil _) (by kernel_rfl) sp_whole_Int_Int anns_whole_Int_Int none (by kernel_rfl) (fun x y h => (den_whole_Int_Int x).trans h)

def anns_amount_Made : List (Nat × Ann) := []

noncomputable def sp_amount_Made : FSpec := ⟨[.val t_whole_Int, .val tI], [.val t_api_Decimal, .val tI], fun x => amount_Made x.1 x.2.1⟩

noncomputable def cx_amount_Made : Cx := ⟨Tryz.prog, [(211, sp_whole_Int_Int)], []⟩

theorem den_amount_Made : ∀ x, denF cx_amount_Made anns_amount_Made none Tryz.f183 sp_amount_Made x = sp_amount_Made.m x := by intro x; kernel_rfl

theorem hb_amount_Made : HasBody Tryz.prog 183 := has_body (fn := Tryz.f183) (by kernel_rfl) rfl (by decide)

theorem ok_amount_Made : FunOk Tryz.prog 183 sp_amount_Made := fun_ok (X := cx_amount_Made) (.cons ok_whole_Int_Int hb_whole_Int_Int (.nil _)) (by kernel_rfl) sp_amount_Made anns_amount_Made none (by kernel_rfl) (fun x y h => (den_amount_Made x).trans h)

def anns_amount_Fewest : List (Nat × Ann) := [(2, ⟨[(1, .val tI), (2, .ref 2 0), (4, .ref 4 0), (6, .ref 6 0)], [(2, [.val .bool, .val (.slice (.int .u32))]), (4, [.val tI, .val tI]), (6, [.val .bool, .val (.slice (.int .u32))])], [], fuelOf _⟩),
 (200002, ⟨[(1, .val tI), (2, .ref 2 0), (4, .ref 4 0)], [(2, [.val .bool, .val (.slice (.int .u32))]), (4, [.val tI, .val tI])], [], fun _ => 0⟩)]

noncomputable def sp_amount_Fewest : FSpec := ⟨[.val t_whole_Int, .val tI], [.val t_api_Decimal, .val tI], fun x => amount_Fewest x.1 x.2.1⟩

noncomputable def cx_amount_Fewest : Cx := ⟨Tryz.prog, [(146, sp_whole_Of), (180, sp_whole_Int_By), (181, sp_whole_Int_Sign), (182, sp_whole_Int_Minus), (183, sp_amount_Made)], []⟩

theorem den_amount_Fewest : ∀ x, denF cx_amount_Fewest anns_amount_Fewest none Tryz.f145 sp_amount_Fewest x = sp_amount_Fewest.m x := by intro x; kernel_rfl

theorem hb_amount_Fewest : HasBody Tryz.prog 145 := has_body (fn := Tryz.f145) (by kernel_rfl) rfl (by decide)

theorem ok_amount_Fewest : FunOk Tryz.prog 145 sp_amount_Fewest := fun_ok (X := cx_amount_Fewest) (.cons ok_whole_Of hb_whole_Of (.cons ok_whole_Int_By hb_whole_Int_By (.cons ok_whole_Int_Sign hb_whole_Int_Sign (.cons ok_whole_Int_Minus hb_whole_Int_Minus (.cons ok_amount_Made hb_amount_Made (.nil _)))))) (by kernel_rfl) sp_amount_Fewest anns_amount_Fewest none (by kernel_rfl) (fun x y h => (den_amount_Fewest x).trans h)

def anns_order_told : List (Nat × Ann) := []

noncomputable def sp_order_told : FSpec := ⟨[.val tI], [.val t_api_Decimal], fun x => order_told x.1⟩

noncomputable def cx_order_told : Cx := ⟨Tryz.prog, [(145, sp_amount_Fewest), (146, sp_whole_Of)], []⟩

theorem den_order_told : ∀ x, denF cx_order_told anns_order_told none Tryz.f90 sp_order_told x = sp_order_told.m x := by intro x; kernel_rfl

theorem hb_order_told : HasBody Tryz.prog 90 := has_body (fn := Tryz.f90) (by kernel_rfl) rfl (by decide)

theorem ok_order_told : FunOk Tryz.prog 90 sp_order_told := fun_ok (X := cx_order_told) (.cons ok_amount_Fewest hb_amount_Fewest (.cons ok_whole_Of hb_whole_Of (.nil _))) (by kernel_rfl) sp_order_told anns_order_told none (by kernel_rfl) (fun x y h => (den_order_told x).trans h)

def anns_amount_Least : List (Nat × Ann) := [(1, ⟨[(1, .ref 1 0), (2, .ref 2 0)], [(1, [.val tI, .val tI]), (2, [.val tI, .val tI])], [], fuelOf _⟩),
 (200001, ⟨[(1, .ref 1 0), (2, .ref 2 0)], [(1, [.val tI, .val tI]), (2, [.val tI, .val tI])], [], fun _ => 0⟩),
 (300001, ⟨[(11, .val .bool)], [], [], fun _ => 0⟩)]

noncomputable def sp_amount_Least : FSpec := ⟨[.val t_api_Decimal], [.val t_api_Decimal], fun x => amount_Least x.1⟩

noncomputable def cx_amount_Least : Cx := ⟨Tryz.prog, [], []⟩

theorem den_amount_Least : ∀ x, denF cx_amount_Least anns_amount_Least none Tryz.f91 sp_amount_Least x = sp_amount_Least.m x := by intro x; kernel_rfl

theorem hb_amount_Least : HasBody Tryz.prog 91 := has_body (fn := Tryz.f91) (by kernel_rfl) rfl (by decide)

theorem ok_amount_Least : FunOk Tryz.prog 91 sp_amount_Least := fun_ok (X := cx_amount_Least) (.nil _) (by kernel_rfl) sp_amount_Least anns_amount_Least none (by kernel_rfl) (fun x y h => (den_amount_Least x).trans h)

def anns_order_line_state : List (Nat × Ann) := []

noncomputable def sp_order_line_state : FSpec := ⟨[.val .hnd, .arR t_order_line], [.val t_api_State], fun x => order_line_state x.1 x.2.1⟩

noncomputable def cx_order_line_state : Cx := ⟨Tryz.prog, [(90, sp_order_told), (91, sp_amount_Least), (92, sp_order_line_open)], []⟩

theorem den_order_line_state : ∀ x, denF cx_order_line_state anns_order_line_state none Tryz.f57 sp_order_line_state x = sp_order_line_state.m x := by intro x; kernel_rfl

theorem hb_order_line_state : HasBody Tryz.prog 57 := has_body (fn := Tryz.f57) (by kernel_rfl) rfl (by decide)

theorem ok_order_line_state : FunOk Tryz.prog 57 sp_order_line_state := fun_ok (X := cx_order_line_state) (.cons ok_order_told hb_order_told (.cons ok_amount_Least hb_amount_Least (.cons ok_order_line_open hb_order_line_open (.nil _)))) (by kernel_rfl) sp_order_line_state anns_order_line_state none (by kernel_rfl) (fun x y h => (den_order_line_state x).trans h)

def anns_order_follower_run : List (Nat × Ann) := [(1, ⟨[(0, .ref 2000 0), (1, .val tI), (10, .val (.slice t_api_Deed)), (11, .val tI), (12, .val tI)], [(2000, [.val .str, .val .str, .val .str, .val tI, .val tI, .val (.slice t_api_Line), .val (.slice t_api_Deed), .map tI .hnd, .own 44 t_api_Decimal, .own 137 t_api_Point, .val tI])], [.ar t_order_line], fuelOf _⟩),
 (200001, ⟨[], [(2000, [.val .str, .val .str, .val .str, .val tI, .val tI, .val (.slice t_api_Line), .val (.slice t_api_Deed), .map tI .hnd, .own 44 t_api_Decimal, .own 137 t_api_Point, .val tI])], [.ar t_order_line], fun _ => 0⟩)]

noncomputable def sp_order_follower_run : FSpec := ⟨[.box [.val t_api_Order, .val (.slice t_api_Deed), .map tI .hnd, .row 44 t_api_Decimal, .row 137 t_api_Point, .val tI], .val tI, .ar t_order_line], [], fun x => order_follower_run x.1 x.2.1 x.2.2.1⟩

noncomputable def cx_order_follower_run : Cx := ⟨Tryz.prog, [(57, sp_order_line_state), (84, sp_order_follower_deed)], []⟩

theorem den_order_follower_run : ∀ x, denF cx_order_follower_run anns_order_follower_run none Tryz.f52 sp_order_follower_run x = sp_order_follower_run.m x := by intro x; kernel_rfl

theorem hb_order_follower_run : HasBody Tryz.prog 52 := has_body (fn := Tryz.f52) (by kernel_rfl) rfl (by decide)

theorem ok_order_follower_run : FunOk Tryz.prog 52 sp_order_follower_run := fun_ok (X := cx_order_follower_run) (.cons ok_order_line_state hb_order_line_state (.cons ok_order_follower_deed hb_order_follower_deed (.nil _))) (by kernel_rfl) sp_order_follower_run anns_order_follower_run none (by kernel_rfl) (fun x y h => (den_order_follower_run x).trans h)

def anns_order_at : List (Nat × Ann) := []

noncomputable def sp_order_at : FSpec := ⟨[.val t_api_Order, .val (.slice t_api_Deed), .val tI, .ar t_order_line], [.box [.val t_api_Order, .val (.slice t_api_Deed), .map tI .hnd, .row 44 t_api_Decimal, .row 137 t_api_Point, .val tI], .val tI], fun x => order_at x.1 x.2.1 x.2.2.1 x.2.2.2.1⟩

noncomputable def cx_order_at : Cx := ⟨Tryz.prog, [(37, sp_kit_IsDay), (49, sp_order_checked), (51, sp_order_newFollower), (52, sp_order_follower_run)], []⟩

theorem den_order_at : ∀ x, denF cx_order_at anns_order_at none Tryz.f55 sp_order_at x = sp_order_at.m x := by intro x; kernel_rfl

theorem hb_order_at : HasBody Tryz.prog 55 := has_body (fn := Tryz.f55) (by kernel_rfl) rfl (by decide)

theorem ok_order_at : FunOk Tryz.prog 55 sp_order_at := fun_ok (X := cx_order_at) (.cons ok_kit_IsDay hb_kit_IsDay (.cons ok_order_checked hb_order_checked (.cons ok_order_newFollower hb_order_newFollower (.cons ok_order_follower_run hb_order_follower_run (.nil _))))) (by kernel_rfl) sp_order_at anns_order_at none (by kernel_rfl) (fun x y h => (den_order_at x).trans h)

def anns_order_at_e : List (Nat × Ann) := []

noncomputable def sp_order_at_e : FSpec := ⟨[.val t_api_Order, .val (.slice t_api_Deed), .val tI, .ar t_order_line], [.val .hnd, .val tI], fun x => order_at_e x.1 x.2.1 x.2.2.1 x.2.2.2.1⟩

noncomputable def cx_order_at_e : Cx := ⟨Tryz.prog, [(37, sp_kit_IsDay), (49, sp_order_checked), (51, sp_order_newFollower), (52, sp_order_follower_run)], []⟩

theorem den_order_at_e : ∀ x, denF cx_order_at_e anns_order_at_e none Tryz.f55 sp_order_at_e x = sp_order_at_e.m x := by intro x; kernel_rfl

theorem hb_order_at_e : HasBody Tryz.prog 55 := has_body (fn := Tryz.f55) (by kernel_rfl) rfl (by decide)

theorem ok_order_at_e : FunOk Tryz.prog 55 sp_order_at_e := fun_ok (X := cx_order_at_e) (.cons ok_kit_IsDay hb_kit_IsDay (.cons ok_order_checked hb_order_checked (.cons ok_order_newFollower hb_order_newFollower (.cons ok_order_follower_run hb_order_follower_run (.nil _))))) (by kernel_rfl) sp_order_at_e anns_order_at_e none (by kernel_rfl) (fun x y h => (den_order_at_e x).trans h)

def anns_order_follower_sorted : List (Nat × Ann) := [(3, ⟨[(0, .ref 2000 0), (3, .own 101 .hnd), (11, .rowR 11), (12, .val tI), (13, .val tI)], [(2000, [.val .str, .val .str, .val .str, .val tI, .val tI, .val (.slice t_api_Line), .val (.slice t_api_Deed), .mapR 10250003, .rowR 10250004, .rowR 10250005, .val tI])], [.rowC 11 3 tI, .rowC 10250004 44 t_api_Decimal, .rowC 10250005 137 t_api_Point, .mapC 10250003 tI .hnd], fuelOf _⟩),
 (200003, ⟨[(3, .own 101 .hnd)], [(2000, [.val .str, .val .str, .val .str, .val tI, .val tI, .val (.slice t_api_Line), .val (.slice t_api_Deed), .mapR 10250003, .rowR 10250004, .rowR 10250005, .val tI])], [.rowC 10250004 44 t_api_Decimal, .rowC 10250005 137 t_api_Point, .mapC 10250003 tI .hnd], fun _ => 0⟩)]

noncomputable def sp_order_follower_sorted : FSpec := ⟨[.box [.val t_api_Order, .val (.slice t_api_Deed), .map tI .hnd, .row 44 t_api_Decimal, .row 137 t_api_Point, .val tI]], [.row 101 .hnd], fun x => order_follower_sorted x.1⟩

noncomputable def cx_order_follower_sorted : Cx := ⟨Tryz.prog, [], [(88, key_88), (89, key_89)]⟩

theorem den_order_follower_sorted : ∀ x, denF cx_order_follower_sorted anns_order_follower_sorted none Tryz.f56 sp_order_follower_sorted x = sp_order_follower_sorted.m x := by intro x; kernel_rfl

theorem hb_order_follower_sorted : HasBody Tryz.prog 56 := has_body (fn := Tryz.f56) (by kernel_rfl) rfl (by decide)

theorem ok_order_follower_sorted : FunOk Tryz.prog 56 sp_order_follower_sorted := fun_ok (X := cx_order_follower_sorted) (.consK kok_88 khb_88 (.consK kok_89 khb_89 (.nil _))) (by kernel_rfl) sp_order_follower_sorted anns_order_follower_sorted none (by kernel_rfl) (fun x y h => (den_order_follower_sorted x).trans h)



end Go.Proofs.SeatA
