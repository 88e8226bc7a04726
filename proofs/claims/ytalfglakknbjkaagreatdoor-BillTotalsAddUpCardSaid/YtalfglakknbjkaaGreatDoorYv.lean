/-
 Each function that the law reaches is as its plain model says. No condition.
-/
import Derived.Test.YtalfglakknbjkaaGreatDoorYn
import Derived.Test.YtalfglakknbjkaaGreatDoorYd
import Derived.Test.YtalfglakknbjkaaGreatDoorProg
import Derived.Shelf.Strings.SlTrimAscii
import Derived.Shelf.Small.Strs
set_option linter.all false
namespace Go.Proofs
open Go.Shelf
def Tryz.lays160_ren : Go.Shelf.Ren := ⟨fun | 160 => 94 | 232 => 149 | 231 => 148 | 227 => 150 | 234 => 152 | 233 => 151 | 236 => 154 | 235 => 153 | 228 => 198 | 271 => 201 | 151 => 200 | 197 => 199 | 120 => 226 | 152 => 225 | 260 => 224 | 137 => 236 | 119 => 237 | 224 => 229 | 225 => 228 | 217 => 227 | 266 => 238 | n => n, fun | 9 => 9 | 4 => 4 | 3 => 3 | 5 => 5 | 117 => 205 | 116 => 204 | 0 => 0 | 124 => 208 | 21 => 21 | 105 => 243 | 46 => 177 | 119 => 275 | 139 => 278 | 138 => 277 | n => n, fun | 3 => 1 | 4 => 2 | n => n⟩
theorem Tryz.lays160 : Go.Proofs.Lays.n160 Tryz.prog Tryz.lays160_ren := {
 mixed := by kernel_rfl
 f119 := Tryz.func237.trans (congrArg some (by kernel_rfl))
 f120 := Tryz.func226.trans (congrArg some (by kernel_rfl))
 f137 := Tryz.func236.trans (congrArg some (by kernel_rfl))
 f151 := Tryz.func200.trans (congrArg some (by kernel_rfl))
 f152 := Tryz.func225.trans (congrArg some (by kernel_rfl))
 f160 := Tryz.func94.trans (congrArg some (by kernel_rfl))
 f197 := Tryz.func199.trans (congrArg some (by kernel_rfl))
 f217 := Tryz.func227.trans (congrArg some (by kernel_rfl))
 f224 := Tryz.func229.trans (congrArg some (by kernel_rfl))
 f225 := Tryz.func228.trans (congrArg some (by kernel_rfl))
 f227 := Tryz.func150.trans (congrArg some (by kernel_rfl))
 f228 := Tryz.func198.trans (congrArg some (by kernel_rfl))
 f231 := Tryz.func148.trans (congrArg some (by kernel_rfl))
 f232 := Tryz.func149.trans (congrArg some (by kernel_rfl))
 f233 := Tryz.func151.trans (congrArg some (by kernel_rfl))
 f234 := Tryz.func152.trans (congrArg some (by kernel_rfl))
 f235 := Tryz.func153.trans (congrArg some (by kernel_rfl))
 f236 := Tryz.func154.trans (congrArg some (by kernel_rfl))
 f260 := Tryz.func224.trans (congrArg some (by kernel_rfl))
 f266 := Tryz.func238.trans (congrArg some (by kernel_rfl))
 f271 := Tryz.func201.trans (congrArg some (by kernel_rfl))
 t0 := Tryz.underlying0
 a0 := Tryz.isAgg0
 z0 := Tryz.sizeOf0
 v0 := Tryz.zeroValue0
 t3 := Tryz.underlying3
 a3 := Tryz.isAgg3
 z3 := Tryz.sizeOf3
 v3 := Tryz.zeroValue3
 t4 := Tryz.underlying4
 a4 := Tryz.isAgg4
 z4 := Tryz.sizeOf4
 v4 := Tryz.zeroValue4
 t5 := Tryz.underlying5
 a5 := Tryz.isAgg5
 z5 := Tryz.sizeOf5
 v5 := Tryz.zeroValue5
 t9 := Tryz.underlying9
 a9 := Tryz.isAgg9
 z9 := Tryz.sizeOf9
 v9 := Tryz.zeroValue9
 t21 := Tryz.underlying21
 a21 := Tryz.isAgg21
 z21 := Tryz.sizeOf21
 v21 := Tryz.zeroValue21
 t46 := Tryz.underlying177
 a46 := Tryz.isAgg177
 z46 := Tryz.sizeOf177
 v46 := Tryz.zeroValue177
 t105 := Tryz.underlying243
 a105 := Tryz.isAgg243
 z105 := Tryz.sizeOf243
 v105 := Tryz.zeroValue243
 t116 := Tryz.underlying204
 a116 := Tryz.isAgg204
 z116 := Tryz.sizeOf204
 t117 := Tryz.underlying205
 a117 := Tryz.isAgg205
 z117 := Tryz.sizeOf205
 v117 := Tryz.zeroValue205
 t119 := Tryz.underlying275
 a119 := Tryz.isAgg275
 z119 := Tryz.sizeOf275
 t124 := Tryz.underlying208
 a124 := Tryz.isAgg208
 z124 := Tryz.sizeOf208
 v124 := Tryz.zeroValue208
 t138 := Tryz.underlying277
 a138 := Tryz.isAgg277
 z138 := Tryz.sizeOf277
 v138 := Tryz.zeroValue277
 t139 := Tryz.underlying278
 a139 := Tryz.isAgg278
 z139 := Tryz.sizeOf278
 v139 := Tryz.zeroValue278
 g3 := by kernel_rfl
 g4 := by kernel_rfl }
def Tryz.lays106_ren : Go.Shelf.Ren := ⟨fun | 106 => 185 | 213 => 216 | 265 => 233 | n => n, fun | 9 => 9 | 3 => 3 | n => n, fun | n => n⟩
theorem Tryz.lays106 : Go.Proofs.Lays.n106 Tryz.prog Tryz.lays106_ren := {
 mixed := by kernel_rfl
 f106 := Tryz.func185.trans (congrArg some (by kernel_rfl))
 f213 := Tryz.func216.trans (congrArg some (by kernel_rfl))
 f265 := Tryz.func233.trans (congrArg some (by kernel_rfl))
 t3 := Tryz.underlying3
 a3 := Tryz.isAgg3
 z3 := Tryz.sizeOf3
 v3 := Tryz.zeroValue3
 t9 := Tryz.underlying9
 a9 := Tryz.isAgg9
 z9 := Tryz.sizeOf9
 v9 := Tryz.zeroValue9 }
end Go.Proofs

namespace Go.Proofs.SeatS
open Go.Dn Go.Md Go.Proofs Go.RowKit Go.Shelf Go.Lib

def sp_strings_Trim : FSpec := ⟨[.val .str, .val .str], [.val .str], fun x => strings_Trim x.1 x.2.1⟩
theorem hb_strings_Trim : HasBody Tryz.prog 94 := has_body (fn := Tryz.f94) (by kernel_rfl) rfl (by decide)
theorem ok_strings_Trim : FunOk Tryz.prog 94 sp_strings_Trim := by
 intro G w ow args x y hG how ha hm
 refine fun_ok_str2 (P := Tryz.prog) (f := 94) (m := sp_strings_Trim.m) ?_ G w ow args x y hG how ha hm
 intro s c r w hm
 replace hm : strings_Trim s c = some (r, ()) := hm
 unfold strings_Trim at hm
 cases hb : (decide (s.length ≤ 9223372036854775807) && (decide (c.length < 4294967281) && c.all fun b => decide (b.toNat < 128))) with
 | false => rw [hb] at hm; cases hm
 | true =>
  rw [hb] at hm
  simp only [cond_true, Option.some.injEq, Prod.mk.injEq, and_true] at hm
  subst hm
  simp only [Bool.and_eq_true, decide_eq_true_eq, List.all_eq_true] at hb
  have := Any.strings_Trim_laid Tryz.lays160 (by kernel_rfl) (bs s) (bs c) w (by simpa [bs, ByteArray.size] using hb.1) (by simpa [bs, ByteArray.size] using hb.2.1) (fun j b hj => hb.2.2 b (List.mem_of_getElem? (by simpa [bs] using hj)))
  change Calls Tryz.prog 94 _ _ _ at this
  simpa [bs] using this

def sp_strings_Compare : FSpec := ⟨[.val .str, .val .str], [.val tI], fun x => strings_Compare x.1 x.2.1⟩
theorem hb_strings_Compare : HasBody Tryz.prog 185 := has_body (fn := Tryz.f185) (by kernel_rfl) rfl (by decide)
theorem ok_strings_Compare : FunOk Tryz.prog 185 sp_strings_Compare := by
 intro G w ow args x y hG how ha hm
 refine fun_ok_ss (P := Tryz.prog) (f := 185) (t := tI) (m := sp_strings_Compare.m) ?_ G w ow args x y hG how ha hm
 intro s c r w hm
 replace hm : strings_Compare s c = some (r, ()) := hm
 unfold strings_Compare at hm
 obtain rfl : Lib.compareBytes s c = r := congrArg (fun o => (Option.getD o (0, ())).1) hm
 have := Any.strings_Compare Tryz.lays106 (bs s) (bs c) w
 refine ⟨.int .i64 (Lib.compareBytes s c), fun G => ?_, this.mono ?_⟩
 ·rfl
 ·rintro e w' ⟨he, rfl⟩
  exact ⟨he, Below.refl _ _⟩

end Go.Proofs.SeatS

set_option maxRecDepth 100000
namespace Go.Proofs.SeatS
open Go.Dn Go.Md Go.Proofs

def anns_kit_IsName : List (Nat × Ann) := []

noncomputable def sp_kit_IsName : FSpec := ⟨[.val .str], [.val .bool], fun x => kit_IsName x.1⟩

noncomputable def cx_kit_IsName : Cx := ⟨Tryz.prog, [(94, sp_strings_Trim)]⟩

theorem den_kit_IsName : ∀ x, denF cx_kit_IsName anns_kit_IsName none Tryz.f38 sp_kit_IsName x = sp_kit_IsName.m x := by intro x; kernel_rfl

theorem hb_kit_IsName : HasBody Tryz.prog 38 := has_body (fn := Tryz.f38) (by kernel_rfl) rfl (by decide)

theorem ok_kit_IsName : FunOk Tryz.prog 38 sp_kit_IsName := fun_ok (X := cx_kit_IsName) (.cons ok_strings_Trim hb_strings_Trim (.nil _)) (by kernel_rfl) sp_kit_IsName anns_kit_IsName none (by kernel_rfl) (fun x y h => (den_kit_IsName x).trans h)

def anns_kit_Outside : List (Nat × Ann) := []

noncomputable def sp_kit_Outside : FSpec := ⟨[.val tI, .val tI, .val tI], [.val .bool], fun x => kit_Outside x.1 x.2.1 x.2.2.1⟩

noncomputable def cx_kit_Outside : Cx := ⟨Tryz.prog, []⟩

theorem den_kit_Outside : ∀ x, denF cx_kit_Outside anns_kit_Outside none Tryz.f39 sp_kit_Outside x = sp_kit_Outside.m x := by intro x; kernel_rfl

theorem hb_kit_Outside : HasBody Tryz.prog 39 := has_body (fn := Tryz.f39) (by kernel_rfl) rfl (by decide)

theorem ok_kit_Outside : FunOk Tryz.prog 39 sp_kit_Outside := fun_ok (X := cx_kit_Outside) (.nil _) (by kernel_rfl) sp_kit_Outside anns_kit_Outside none (by kernel_rfl) (fun x y h => (den_kit_Outside x).trans h)

def anns_kit_IsDay : List (Nat × Ann) := []

noncomputable def sp_kit_IsDay : FSpec := ⟨[.val tI], [.val .bool], fun x => kit_IsDay x.1⟩

noncomputable def cx_kit_IsDay : Cx := ⟨Tryz.prog, [(39, sp_kit_Outside)]⟩

theorem den_kit_IsDay : ∀ x, denF cx_kit_IsDay anns_kit_IsDay none Tryz.f50 sp_kit_IsDay x = sp_kit_IsDay.m x := by intro x; kernel_rfl

theorem hb_kit_IsDay : HasBody Tryz.prog 50 := has_body (fn := Tryz.f50) (by kernel_rfl) rfl (by decide)

theorem ok_kit_IsDay : FunOk Tryz.prog 50 sp_kit_IsDay := fun_ok (X := cx_kit_IsDay) (.cons ok_kit_Outside hb_kit_Outside (.nil _)) (by kernel_rfl) sp_kit_IsDay anns_kit_IsDay none (by kernel_rfl) (fun x y h => (den_kit_IsDay x).trans h)

def anns_amount_IsWay : List (Nat × Ann) := []

noncomputable def sp_amount_IsWay : FSpec := ⟨[.val tI], [.val .bool], fun x => amount_IsWay x.1⟩

noncomputable def cx_amount_IsWay : Cx := ⟨Tryz.prog, [(39, sp_kit_Outside)]⟩

theorem den_amount_IsWay : ∀ x, denF cx_amount_IsWay anns_amount_IsWay none Tryz.f90 sp_amount_IsWay x = sp_amount_IsWay.m x := by intro x; kernel_rfl

theorem hb_amount_IsWay : HasBody Tryz.prog 90 := has_body (fn := Tryz.f90) (by kernel_rfl) rfl (by decide)

theorem ok_amount_IsWay : FunOk Tryz.prog 90 sp_amount_IsWay := fun_ok (X := cx_amount_IsWay) (.cons ok_kit_Outside hb_kit_Outside (.nil _)) (by kernel_rfl) sp_amount_IsWay anns_amount_IsWay none (by kernel_rfl) (fun x y h => (den_amount_IsWay x).trans h)

def anns_amount_CheckDecimal : List (Nat × Ann) := []

noncomputable def sp_amount_CheckDecimal : FSpec := ⟨[.val t_api_Decimal], [.val tI], fun x => amount_CheckDecimal x.1⟩

noncomputable def cx_amount_CheckDecimal : Cx := ⟨Tryz.prog, [(39, sp_kit_Outside)]⟩

theorem den_amount_CheckDecimal : ∀ x, denF cx_amount_CheckDecimal anns_amount_CheckDecimal none Tryz.f102 sp_amount_CheckDecimal x = sp_amount_CheckDecimal.m x := by intro x; kernel_rfl

theorem hb_amount_CheckDecimal : HasBody Tryz.prog 102 := has_body (fn := Tryz.f102) (by kernel_rfl) rfl (by decide)

theorem ok_amount_CheckDecimal : FunOk Tryz.prog 102 sp_amount_CheckDecimal := fun_ok (X := cx_amount_CheckDecimal) (.cons ok_kit_Outside hb_kit_Outside (.nil _)) (by kernel_rfl) sp_amount_CheckDecimal anns_amount_CheckDecimal none (by kernel_rfl) (fun x y h => (den_amount_CheckDecimal x).trans h)

def anns_bill_power : List (Nat × Ann) := [(3, ⟨[(3, .val tI), (4, .val tI), (5, .val tI)], [], [], fuelOf _⟩),
 (200003, ⟨[(3, .val tI)], [], [], fun _ => 0⟩)]

noncomputable def sp_bill_power : FSpec := ⟨[.val tI], [.val tI], fun x => bill_power x.1⟩

noncomputable def cx_bill_power : Cx := ⟨Tryz.prog, []⟩

theorem den_bill_power : ∀ x, denF cx_bill_power anns_bill_power none Tryz.f160 sp_bill_power x = sp_bill_power.m x := by intro x; kernel_rfl

theorem hb_bill_power : HasBody Tryz.prog 160 := has_body (fn := Tryz.f160) (by kernel_rfl) rfl (by decide)

theorem ok_bill_power : FunOk Tryz.prog 160 sp_bill_power := fun_ok (X := cx_bill_power) (.nil _) (by kernel_rfl) sp_bill_power anns_bill_power none (by kernel_rfl) (fun x y h => (den_bill_power x).trans h)

def anns_bill_between : List (Nat × Ann) := []

noncomputable def sp_bill_between : FSpec := ⟨[.val t_api_Decimal, .val tI], [.val .bool], fun x => bill_between x.1 x.2.1⟩

noncomputable def cx_bill_between : Cx := ⟨Tryz.prog, [(39, sp_kit_Outside), (160, sp_bill_power)]⟩

theorem den_bill_between : ∀ x, denF cx_bill_between anns_bill_between none Tryz.f103 sp_bill_between x = sp_bill_between.m x := by intro x; kernel_rfl

theorem hb_bill_between : HasBody Tryz.prog 103 := has_body (fn := Tryz.f103) (by kernel_rfl) rfl (by decide)

theorem ok_bill_between : FunOk Tryz.prog 103 sp_bill_between := fun_ok (X := cx_bill_between) (.cons ok_kit_Outside hb_kit_Outside (.cons ok_bill_power hb_bill_power (.nil _))) (by kernel_rfl) sp_bill_between anns_bill_between none (by kernel_rfl) (fun x y h => (den_bill_between x).trans h)

def anns_bill_ratesFault : List (Nat × Ann) := [(6, ⟨[(0, .val (.slice t_api_Rate)), (12, .val (.slice t_api_Rate)), (13, .val tI), (14, .val tI)], [], [], fuelOf _⟩),
 (200006, ⟨[], [], [], fun _ => 0⟩)]

noncomputable def sp_bill_ratesFault : FSpec := ⟨[.val (.slice t_api_Rate)], [.val tI], fun x => bill_ratesFault x.1⟩

noncomputable def cx_bill_ratesFault : Cx := ⟨Tryz.prog, [(38, sp_kit_IsName), (102, sp_amount_CheckDecimal), (103, sp_bill_between)]⟩

theorem den_bill_ratesFault : ∀ x, denF cx_bill_ratesFault anns_bill_ratesFault none Tryz.f91 sp_bill_ratesFault x = sp_bill_ratesFault.m x := by intro x; kernel_rfl

theorem hb_bill_ratesFault : HasBody Tryz.prog 91 := has_body (fn := Tryz.f91) (by kernel_rfl) rfl (by decide)

theorem ok_bill_ratesFault : FunOk Tryz.prog 91 sp_bill_ratesFault := fun_ok (X := cx_bill_ratesFault) (.cons ok_kit_IsName hb_kit_IsName (.cons ok_amount_CheckDecimal hb_amount_CheckDecimal (.cons ok_bill_between hb_bill_between (.nil _)))) (by kernel_rfl) sp_bill_ratesFault anns_bill_ratesFault none (by kernel_rfl) (fun x y h => (den_bill_ratesFault x).trans h)

def anns_order_power : List (Nat × Ann) := [(3, ⟨[(3, .val tI), (4, .val tI), (5, .val tI)], [], [], fuelOf _⟩),
 (200003, ⟨[(3, .val tI)], [], [], fun _ => 0⟩)]

noncomputable def sp_order_power : FSpec := ⟨[.val tI], [.val tI], fun x => order_power x.1⟩

noncomputable def cx_order_power : Cx := ⟨Tryz.prog, []⟩

theorem den_order_power : ∀ x, denF cx_order_power anns_order_power none Tryz.f223 sp_order_power x = sp_order_power.m x := by intro x; kernel_rfl

theorem hb_order_power : HasBody Tryz.prog 223 := has_body (fn := Tryz.f223) (by kernel_rfl) rfl (by decide)

theorem ok_order_power : FunOk Tryz.prog 223 sp_order_power := fun_ok (X := cx_order_power) (.nil _) (by kernel_rfl) sp_order_power anns_order_power none (by kernel_rfl) (fun x y h => (den_order_power x).trans h)

def anns_order_within : List (Nat × Ann) := []

noncomputable def sp_order_within : FSpec := ⟨[.val t_api_Decimal, .val tI, .val tI], [.val .bool], fun x => order_within x.1 x.2.1 x.2.2.1⟩

noncomputable def cx_order_within : Cx := ⟨Tryz.prog, [(223, sp_order_power)]⟩

theorem den_order_within : ∀ x, denF cx_order_within anns_order_within none Tryz.f197 sp_order_within x = sp_order_within.m x := by intro x; kernel_rfl

theorem hb_order_within : HasBody Tryz.prog 197 := has_body (fn := Tryz.f197) (by kernel_rfl) rfl (by decide)

theorem ok_order_within : FunOk Tryz.prog 197 sp_order_within := fun_ok (X := cx_order_within) (.cons ok_order_power hb_order_power (.nil _)) (by kernel_rfl) sp_order_within anns_order_within none (by kernel_rfl) (fun x y h => (den_order_within x).trans h)

def anns_order_PriceFault : List (Nat × Ann) := []

noncomputable def sp_order_PriceFault : FSpec := ⟨[.val t_api_Decimal], [.val tI], fun x => order_PriceFault x.1⟩

noncomputable def cx_order_PriceFault : Cx := ⟨Tryz.prog, [(102, sp_amount_CheckDecimal), (197, sp_order_within)]⟩

theorem den_order_PriceFault : ∀ x, denF cx_order_PriceFault anns_order_PriceFault none Tryz.f146 sp_order_PriceFault x = sp_order_PriceFault.m x := by intro x; kernel_rfl

theorem hb_order_PriceFault : HasBody Tryz.prog 146 := has_body (fn := Tryz.f146) (by kernel_rfl) rfl (by decide)

theorem ok_order_PriceFault : FunOk Tryz.prog 146 sp_order_PriceFault := fun_ok (X := cx_order_PriceFault) (.cons ok_amount_CheckDecimal hb_amount_CheckDecimal (.cons ok_order_within hb_order_within (.nil _))) (by kernel_rfl) sp_order_PriceFault anns_order_PriceFault none (by kernel_rfl) (fun x y h => (den_order_PriceFault x).trans h)

def anns_bill_rateAt_1 : List (Nat × Ann) := []

noncomputable def sp_bill_rateAt_1 : FSpec := ⟨[.val t_api_Rate, .val .str], [.val tI], fun x => bill_rateAt_1 x.1 x.2.1⟩

noncomputable def cx_bill_rateAt_1 : Cx := ⟨Tryz.prog, [(185, sp_strings_Compare)]⟩

theorem den_bill_rateAt_1 : ∀ x, denF cx_bill_rateAt_1 anns_bill_rateAt_1 none Tryz.f184 sp_bill_rateAt_1 x = sp_bill_rateAt_1.m x := by intro x; kernel_rfl

theorem hb_bill_rateAt_1 : HasBody Tryz.prog 184 := has_body (fn := Tryz.f184) (by kernel_rfl) rfl (by decide)

theorem ok_bill_rateAt_1 : FunOk Tryz.prog 184 sp_bill_rateAt_1 := fun_ok (X := cx_bill_rateAt_1) (.cons ok_strings_Compare hb_strings_Compare (.nil _)) (by kernel_rfl) sp_bill_rateAt_1 anns_bill_rateAt_1 none (by kernel_rfl) (fun x y h => (den_bill_rateAt_1 x).trans h)

def anns_slices_BinarySearchFunc_api_Rate_string : List (Nat × Ann) := [(3, ⟨[(0, .val (.slice t_api_Rate)), (1, .val .str), (2, .val (.clo 184 .unit)), (8, .val tI), (9, .val tI), (10, .val tI)], [], [], fuelOf _⟩),
 (200003, ⟨[(0, .val (.slice t_api_Rate)), (1, .val .str), (2, .val (.clo 184 .unit)), (8, .val tI), (9, .val tI)], [], [], fun _ => 0⟩)]

noncomputable def sp_slices_BinarySearchFunc_api_Rate_string : FSpec := ⟨[.val (.slice t_api_Rate), .val .str, .val (.clo 184 .unit)], [.val tI, .val .bool], fun x => slices_BinarySearchFunc_api_Rate_string x.1 x.2.1 x.2.2.1⟩

noncomputable def cx_slices_BinarySearchFunc_api_Rate_string : Cx := ⟨Tryz.prog, [(184, sp_bill_rateAt_1)]⟩

theorem den_slices_BinarySearchFunc_api_Rate_string : ∀ x, denF cx_slices_BinarySearchFunc_api_Rate_string anns_slices_BinarySearchFunc_api_Rate_string none Tryz.f183 sp_slices_BinarySearchFunc_api_Rate_string x = sp_slices_BinarySearchFunc_api_Rate_string.m x := by intro x; kernel_rfl

theorem hb_slices_BinarySearchFunc_api_Rate_string : HasBody Tryz.prog 183 := has_body (fn := Tryz.f183) (by kernel_rfl) rfl (by decide)

theorem ok_slices_BinarySearchFunc_api_Rate_string : FunOk Tryz.prog 183 sp_slices_BinarySearchFunc_api_Rate_string := fun_ok (X := cx_slices_BinarySearchFunc_api_Rate_string) (.cons ok_bill_rateAt_1 hb_bill_rateAt_1 (.nil _)) (by kernel_rfl) sp_slices_BinarySearchFunc_api_Rate_string anns_slices_BinarySearchFunc_api_Rate_string none (by kernel_rfl) (fun x y h => (den_slices_BinarySearchFunc_api_Rate_string x).trans h)

def anns_bill_rateAt : List (Nat × Ann) := []

noncomputable def sp_bill_rateAt : FSpec := ⟨[.val (.slice t_api_Rate), .val .str], [.val tI, .val .bool], fun x => bill_rateAt x.1 x.2.1⟩

noncomputable def cx_bill_rateAt : Cx := ⟨Tryz.prog, [(183, sp_slices_BinarySearchFunc_api_Rate_string)]⟩

theorem den_bill_rateAt : ∀ x, denF cx_bill_rateAt anns_bill_rateAt none Tryz.f124 sp_bill_rateAt x = sp_bill_rateAt.m x := by intro x; kernel_rfl

theorem hb_bill_rateAt : HasBody Tryz.prog 124 := has_body (fn := Tryz.f124) (by kernel_rfl) rfl (by decide)

theorem ok_bill_rateAt : FunOk Tryz.prog 124 sp_bill_rateAt := fun_ok (X := cx_bill_rateAt) (.cons ok_slices_BinarySearchFunc_api_Rate_string hb_slices_BinarySearchFunc_api_Rate_string (.nil _)) (by kernel_rfl) sp_bill_rateAt anns_bill_rateAt none (by kernel_rfl) (fun x y h => (den_bill_rateAt x).trans h)

def anns_bill_hasRate : List (Nat × Ann) := []

noncomputable def sp_bill_hasRate : FSpec := ⟨[.val t_api_Invoice, .val .str], [.val .bool], fun x => bill_hasRate x.1 x.2.1⟩

noncomputable def cx_bill_hasRate : Cx := ⟨Tryz.prog, [(124, sp_bill_rateAt)]⟩

theorem den_bill_hasRate : ∀ x, denF cx_bill_hasRate anns_bill_hasRate none Tryz.f147 sp_bill_hasRate x = sp_bill_hasRate.m x := by intro x; kernel_rfl

theorem hb_bill_hasRate : HasBody Tryz.prog 147 := has_body (fn := Tryz.f147) (by kernel_rfl) rfl (by decide)

theorem ok_bill_hasRate : FunOk Tryz.prog 147 sp_bill_hasRate := fun_ok (X := cx_bill_hasRate) (.cons ok_bill_rateAt hb_bill_rateAt (.nil _)) (by kernel_rfl) sp_bill_hasRate anns_bill_hasRate none (by kernel_rfl) (fun x y h => (den_bill_hasRate x).trans h)

def anns_bill_extrasFault : List (Nat × Ann) := [(4, ⟨[(2, .val .bool), (3, .ref 3 0), (13, .val (.slice t_api_Extra)), (14, .val tI), (15, .val tI)], [(3, [.val .str, .val .str, .val tI, .val tI, .val tI, .val .bool, .val (.slice t_api_Rate), .val (.slice t_api_BillLine), .val (.slice t_api_Extra)])], [], fuelOf _⟩),
 (100012, ⟨[(2, .val .bool), (3, .ref 3 0), (8, .ref 8 0), (13, .val (.slice t_api_Extra)), (14, .val tI), (15, .val tI), (30, .val .bool)], [(3, [.val .str, .val .str, .val tI, .val tI, .val tI, .val .bool, .val (.slice t_api_Rate), .val (.slice t_api_BillLine), .val (.slice t_api_Extra)]), (8, [.val .bool, .val tI, .val tI, .val .str])], [], fun _ => 0⟩),
 (200004, ⟨[], [], [], fun _ => 0⟩)]

noncomputable def sp_bill_extrasFault : FSpec := ⟨[.val t_api_Invoice, .val (.slice t_api_Extra), .val .bool], [.val tI], fun x => bill_extrasFault x.1 x.2.1 x.2.2.1⟩

noncomputable def cx_bill_extrasFault : Cx := ⟨Tryz.prog, [(102, sp_amount_CheckDecimal), (103, sp_bill_between), (147, sp_bill_hasRate)]⟩

theorem den_bill_extrasFault : ∀ x, denF cx_bill_extrasFault anns_bill_extrasFault none Tryz.f93 sp_bill_extrasFault x = sp_bill_extrasFault.m x := by intro x; kernel_rfl

theorem hb_bill_extrasFault : HasBody Tryz.prog 93 := has_body (fn := Tryz.f93) (by kernel_rfl) rfl (by decide)

theorem ok_bill_extrasFault : FunOk Tryz.prog 93 sp_bill_extrasFault := fun_ok (X := cx_bill_extrasFault) (.cons ok_amount_CheckDecimal hb_amount_CheckDecimal (.cons ok_bill_between hb_bill_between (.cons ok_bill_hasRate hb_bill_hasRate (.nil _)))) (by kernel_rfl) sp_bill_extrasFault anns_bill_extrasFault none (by kernel_rfl) (fun x y h => (den_bill_extrasFault x).trans h)

def anns_bill_lineFault : List (Nat × Ann) := []

noncomputable def sp_bill_lineFault : FSpec := ⟨[.val t_api_Invoice, .val tI], [.val tI], fun x => bill_lineFault x.1 x.2.1⟩

noncomputable def cx_bill_lineFault : Cx := ⟨Tryz.prog, [(38, sp_kit_IsName), (39, sp_kit_Outside), (93, sp_bill_extrasFault), (102, sp_amount_CheckDecimal), (103, sp_bill_between), (146, sp_order_PriceFault), (147, sp_bill_hasRate)]⟩

theorem den_bill_lineFault : ∀ x, denF cx_bill_lineFault anns_bill_lineFault none Tryz.f92 sp_bill_lineFault x = sp_bill_lineFault.m x := by intro x; kernel_rfl

theorem hb_bill_lineFault : HasBody Tryz.prog 92 := has_body (fn := Tryz.f92) (by kernel_rfl) rfl (by decide)

theorem ok_bill_lineFault : FunOk Tryz.prog 92 sp_bill_lineFault := fun_ok (X := cx_bill_lineFault) (.cons ok_kit_IsName hb_kit_IsName (.cons ok_kit_Outside hb_kit_Outside (.cons ok_bill_extrasFault hb_bill_extrasFault (.cons ok_amount_CheckDecimal hb_amount_CheckDecimal (.cons ok_bill_between hb_bill_between (.cons ok_order_PriceFault hb_order_PriceFault (.cons ok_bill_hasRate hb_bill_hasRate (.nil _)))))))) (by kernel_rfl) sp_bill_lineFault anns_bill_lineFault none (by kernel_rfl) (fun x y h => (den_bill_lineFault x).trans h)

def anns_bill_CheckInvoice : List (Nat × Ann) := [(15, ⟨[(1, .ref 1 0), (48, .val tI), (49, .val tI)], [(1, [.val .str, .val .str, .val tI, .val tI, .val tI, .val .bool, .val (.slice t_api_Rate), .val (.slice t_api_BillLine), .val (.slice t_api_Extra)])], [], fuelOf _⟩),
 (200015, ⟨[(1, .ref 1 0)], [(1, [.val .str, .val .str, .val tI, .val tI, .val tI, .val .bool, .val (.slice t_api_Rate), .val (.slice t_api_BillLine), .val (.slice t_api_Extra)])], [], fun _ => 0⟩)]

noncomputable def sp_bill_CheckInvoice : FSpec := ⟨[.val t_api_Invoice], [.val tI], fun x => bill_CheckInvoice x.1⟩

noncomputable def cx_bill_CheckInvoice : Cx := ⟨Tryz.prog, [(38, sp_kit_IsName), (39, sp_kit_Outside), (50, sp_kit_IsDay), (90, sp_amount_IsWay), (91, sp_bill_ratesFault), (92, sp_bill_lineFault), (93, sp_bill_extrasFault)]⟩

theorem den_bill_CheckInvoice : ∀ x, denF cx_bill_CheckInvoice anns_bill_CheckInvoice none Tryz.f37 sp_bill_CheckInvoice x = sp_bill_CheckInvoice.m x := by intro x; kernel_rfl

theorem hb_bill_CheckInvoice : HasBody Tryz.prog 37 := has_body (fn := Tryz.f37) (by kernel_rfl) rfl (by decide)

theorem ok_bill_CheckInvoice : FunOk Tryz.prog 37 sp_bill_CheckInvoice := fun_ok (X := cx_bill_CheckInvoice) (.cons ok_kit_IsName hb_kit_IsName (.cons ok_kit_Outside hb_kit_Outside (.cons ok_kit_IsDay hb_kit_IsDay (.cons ok_amount_IsWay hb_amount_IsWay (.cons ok_bill_ratesFault hb_bill_ratesFault (.cons ok_bill_lineFault hb_bill_lineFault (.cons ok_bill_extrasFault hb_bill_extrasFault (.nil _)))))))) (by kernel_rfl) sp_bill_CheckInvoice anns_bill_CheckInvoice none (by kernel_rfl) (fun x y h => (den_bill_CheckInvoice x).trans h)

def anns_whole_trimmed : List (Nat × Ann) := [(1, ⟨[(0, .val (.slice (.int .u32)))], [], [], fuelOf _⟩),
 (200001, ⟨[(0, .val (.slice (.int .u32)))], [], [], fun _ => 0⟩)]

noncomputable def sp_whole_trimmed : FSpec := ⟨[.val (.slice (.int .u32))], [.val (.slice (.int .u32))], fun x => whole_trimmed x.1⟩

noncomputable def cx_whole_trimmed : Cx := ⟨Tryz.prog, []⟩

theorem den_whole_trimmed : ∀ x, denF cx_whole_trimmed anns_whole_trimmed none Tryz.f190 sp_whole_trimmed x = sp_whole_trimmed.m x := by intro x; kernel_rfl

theorem hb_whole_trimmed : HasBody Tryz.prog 190 := has_body (fn := Tryz.f190) (by kernel_rfl) rfl (by decide)

theorem ok_whole_trimmed : FunOk Tryz.prog 190 sp_whole_trimmed := fun_ok (X := cx_whole_trimmed) (.nil _) (by kernel_rfl) sp_whole_trimmed anns_whole_trimmed none (by kernel_rfl) (fun x y h => (den_whole_trimmed x).trans h)

def anns_whole_made : List (Nat × Ann) := []

noncomputable def sp_whole_made : FSpec := ⟨[.val .bool, .val (.slice (.int .u32))], [.val t_whole_Int], fun x => whole_made x.1 x.2.1⟩

noncomputable def cx_whole_made : Cx := ⟨Tryz.prog, [(190, sp_whole_trimmed)]⟩

theorem den_whole_made : ∀ x, denF cx_whole_made anns_whole_made none Tryz.f132 sp_whole_made x = sp_whole_made.m x := by intro x; kernel_rfl

theorem hb_whole_made : HasBody Tryz.prog 132 := has_body (fn := Tryz.f132) (by kernel_rfl) rfl (by decide)

theorem ok_whole_made : FunOk Tryz.prog 132 sp_whole_made := fun_ok (X := cx_whole_made) (.cons ok_whole_trimmed hb_whole_trimmed (.nil _)) (by kernel_rfl) sp_whole_made anns_whole_made none (by kernel_rfl) (fun x y h => (den_whole_made x).trans h)

def anns_whole_Of : List (Nat × Ann) := [(100003, ⟨[(0, .val tI), (2, .ref 2 0), (3, .val (.int .u64))], [(2, [.val .bool, .own 223 (.int .u32)])], [], fun _ => 0⟩)]

noncomputable def sp_whole_Of : FSpec := ⟨[.val tI], [.val t_whole_Int], fun x => whole_Of x.1⟩

noncomputable def cx_whole_Of : Cx := ⟨Tryz.prog, [(132, sp_whole_made)]⟩

theorem den_whole_Of : ∀ x, denF cx_whole_Of anns_whole_Of none Tryz.f127 sp_whole_Of x = sp_whole_Of.m x := by intro x; kernel_rfl

theorem hb_whole_Of : HasBody Tryz.prog 127 := has_body (fn := Tryz.f127) (by kernel_rfl) rfl (by decide)

theorem ok_whole_Of : FunOk Tryz.prog 127 sp_whole_Of := fun_ok (X := cx_whole_Of) (.cons ok_whole_made hb_whole_made (.nil _)) (by kernel_rfl) sp_whole_Of anns_whole_Of none (by kernel_rfl) (fun x y h => (den_whole_Of x).trans h)

def anns_whole_Int_Times : List (Nat × Ann) := [(3, ⟨[(2, .ref 2 0), (3, .ref 3 0), (4, .ref 4 0), (5, .rowR 18), (20, .val (.slice (.int .u32))), (21, .val tI), (22, .val tI)], [(2, [.val .bool, .val (.slice (.int .u32))]), (3, [.val .bool, .val (.slice (.int .u32))]), (4, [.val .bool, .own 223 (.int .u32)])], [.rowC 18 223 (.int .u32)], fuelOf _⟩),
 (7, ⟨[(2, .ref 2 0), (3, .ref 3 0), (4, .ref 4 0), (5, .rowR 18), (6, .val tI), (7, .val (.int .u32)), (8, .val (.int .u64)), (20, .val (.slice (.int .u32))), (21, .val tI), (22, .val tI), (28, .val (.slice (.int .u32))), (29, .val tI), (30, .val tI)], [(2, [.val .bool, .val (.slice (.int .u32))]), (3, [.val .bool, .val (.slice (.int .u32))]), (4, [.val .bool, .own 223 (.int .u32)])], [.rowC 18 223 (.int .u32)], fuelOf _⟩),
 (200003, ⟨[(2, .ref 2 0), (3, .ref 3 0), (4, .ref 4 0), (5, .rowR 18)], [(2, [.val .bool, .val (.slice (.int .u32))]), (3, [.val .bool, .val (.slice (.int .u32))]), (4, [.val .bool, .own 223 (.int .u32)])], [.rowC 18 223 (.int .u32)], fun _ => 0⟩),
 (200007, ⟨[(2, .ref 2 0), (3, .ref 3 0), (4, .ref 4 0), (5, .rowR 18), (6, .val tI), (8, .val (.int .u64)), (20, .val (.slice (.int .u32))), (21, .val tI), (22, .val tI)], [(2, [.val .bool, .val (.slice (.int .u32))]), (3, [.val .bool, .val (.slice (.int .u32))]), (4, [.val .bool, .own 223 (.int .u32)])], [.rowC 18 223 (.int .u32)], fun _ => 0⟩)]

noncomputable def sp_whole_Int_Times : FSpec := ⟨[.val t_whole_Int, .val t_whole_Int], [.val t_whole_Int], fun x => whole_Int_Times x.1 x.2.1⟩

noncomputable def cx_whole_Int_Times : Cx := ⟨Tryz.prog, [(132, sp_whole_made)]⟩

theorem den_whole_Int_Times : ∀ x, denF cx_whole_Int_Times anns_whole_Int_Times none Tryz.f143 sp_whole_Int_Times x = sp_whole_Int_Times.m x := by intro x; kernel_rfl

theorem hb_whole_Int_Times : HasBody Tryz.prog 143 := has_body (fn := Tryz.f143) (by kernel_rfl) rfl (by decide)

theorem ok_whole_Int_Times : FunOk Tryz.prog 143 sp_whole_Int_Times := fun_ok (X := cx_whole_Int_Times) (.cons ok_whole_made hb_whole_made (.nil _)) (by kernel_rfl) sp_whole_Int_Times anns_whole_Int_Times none (by kernel_rfl) (fun x y h => (den_whole_Int_Times x).trans h)

def anns_whole_Power : List (Nat × Ann) := [(3, ⟨[(2, .ref 2 0), (3, .ref 3 0), (5, .val tI), (6, .val tI)], [(2, [.val .bool, .own 223 (.int .u32)]), (3, [.val .bool, .val (.slice (.int .u32))])], [], fuelOf _⟩),
 (200003, ⟨[(2, .ref 2 0), (3, .ref 3 0)], [(2, [.val .bool, .own 223 (.int .u32)]), (3, [.val .bool, .val (.slice (.int .u32))])], [], fun _ => 0⟩)]

noncomputable def sp_whole_Power : FSpec := ⟨[.val tI], [.val t_whole_Int], fun x => whole_Power x.1⟩

noncomputable def cx_whole_Power : Cx := ⟨Tryz.prog, [(127, sp_whole_Of), (143, sp_whole_Int_Times)]⟩

theorem den_whole_Power : ∀ x, denF cx_whole_Power anns_whole_Power none Tryz.f144 sp_whole_Power x = sp_whole_Power.m x := by intro x; kernel_rfl

theorem hb_whole_Power : HasBody Tryz.prog 144 := has_body (fn := Tryz.f144) (by kernel_rfl) rfl (by decide)

theorem ok_whole_Power : FunOk Tryz.prog 144 sp_whole_Power := fun_ok (X := cx_whole_Power) (.cons ok_whole_Of hb_whole_Of (.cons ok_whole_Int_Times hb_whole_Int_Times (.nil _))) (by kernel_rfl) sp_whole_Power anns_whole_Power none (by kernel_rfl) (fun x y h => (den_whole_Power x).trans h)

def anns_whole_sum : List (Nat × Ann) := [(6, ⟨[(1, .val (.slice (.int .u32))), (5, .own 223 (.int .u32)), (6, .val (.int .u64)), (20, .val (.slice (.int .u32))), (21, .val tI), (22, .val tI)], [], [], fuelOf _⟩),
 (100002, ⟨[(0, .val (.slice (.int .u32))), (1, .val (.slice (.int .u32)))], [], [], fun _ => 0⟩),
 (100010, ⟨[(1, .val (.slice (.int .u32))), (5, .own 223 (.int .u32)), (6, .val (.int .u64)), (20, .val (.slice (.int .u32))), (21, .val tI), (22, .val tI)], [], [], fun _ => 0⟩),
 (200006, ⟨[(5, .own 223 (.int .u32)), (6, .val (.int .u64))], [], [], fun _ => 0⟩)]

noncomputable def sp_whole_sum : FSpec := ⟨[.val (.slice (.int .u32)), .val (.slice (.int .u32))], [.row 223 (.int .u32)], fun x => whole_sum x.1 x.2.1⟩

noncomputable def cx_whole_sum : Cx := ⟨Tryz.prog, []⟩

theorem den_whole_sum : ∀ x, denF cx_whole_sum anns_whole_sum none Tryz.f133 sp_whole_sum x = sp_whole_sum.m x := by intro x; kernel_rfl

theorem hb_whole_sum : HasBody Tryz.prog 133 := has_body (fn := Tryz.f133) (by kernel_rfl) rfl (by decide)

theorem ok_whole_sum : FunOk Tryz.prog 133 sp_whole_sum := fun_ok (X := cx_whole_sum) (.nil _) (by kernel_rfl) sp_whole_sum anns_whole_sum none (by kernel_rfl) (fun x y h => (den_whole_sum x).trans h)

def anns_whole_sum_v : List (Nat × Ann) := [(6, ⟨[(1, .val (.slice (.int .u32))), (5, .own 223 (.int .u32)), (6, .val (.int .u64)), (20, .val (.slice (.int .u32))), (21, .val tI), (22, .val tI)], [], [], fuelOf _⟩),
 (100002, ⟨[(0, .val (.slice (.int .u32))), (1, .val (.slice (.int .u32)))], [], [], fun _ => 0⟩),
 (100010, ⟨[(1, .val (.slice (.int .u32))), (5, .own 223 (.int .u32)), (6, .val (.int .u64)), (20, .val (.slice (.int .u32))), (21, .val tI), (22, .val tI)], [], [], fun _ => 0⟩),
 (200006, ⟨[(5, .own 223 (.int .u32)), (6, .val (.int .u64))], [], [], fun _ => 0⟩)]

noncomputable def sp_whole_sum_v : FSpec := ⟨[.val (.slice (.int .u32)), .val (.slice (.int .u32))], [.val (.slice (.int .u32))], fun x => whole_sum_v x.1 x.2.1⟩

noncomputable def cx_whole_sum_v : Cx := ⟨Tryz.prog, []⟩

theorem den_whole_sum_v : ∀ x, denF cx_whole_sum_v anns_whole_sum_v none Tryz.f133 sp_whole_sum_v x = sp_whole_sum_v.m x := by intro x; kernel_rfl

theorem hb_whole_sum_v : HasBody Tryz.prog 133 := has_body (fn := Tryz.f133) (by kernel_rfl) rfl (by decide)

theorem ok_whole_sum_v : FunOk Tryz.prog 133 sp_whole_sum_v := fun_ok (X := cx_whole_sum_v) (.nil _) (by kernel_rfl) sp_whole_sum_v anns_whole_sum_v none (by kernel_rfl) (fun x y h => (den_whole_sum_v x).trans h)

def anns_whole_compare : List (Nat × Ann) := [(4, ⟨[(0, .val (.slice (.int .u32))), (1, .val (.slice (.int .u32))), (5, .val tI)], [], [], fuelOf _⟩),
 (200004, ⟨[], [], [], fun _ => 0⟩)]

noncomputable def sp_whole_compare : FSpec := ⟨[.val (.slice (.int .u32)), .val (.slice (.int .u32))], [.val tI], fun x => whole_compare x.1 x.2.1⟩

noncomputable def cx_whole_compare : Cx := ⟨Tryz.prog, []⟩

theorem den_whole_compare : ∀ x, denF cx_whole_compare anns_whole_compare none Tryz.f134 sp_whole_compare x = sp_whole_compare.m x := by intro x; kernel_rfl

theorem hb_whole_compare : HasBody Tryz.prog 134 := has_body (fn := Tryz.f134) (by kernel_rfl) rfl (by decide)

theorem ok_whole_compare : FunOk Tryz.prog 134 sp_whole_compare := fun_ok (X := cx_whole_compare) (.nil _) (by kernel_rfl) sp_whole_compare anns_whole_compare none (by kernel_rfl) (fun x y h => (den_whole_compare x).trans h)

def anns_whole_less : List (Nat × Ann) := [(4, ⟨[(1, .val (.slice (.int .u32))), (5, .own 223 (.int .u32)), (6, .val (.int .u64)), (13, .val (.slice (.int .u32))), (14, .val tI), (15, .val tI)], [], [], fuelOf _⟩),
 (100008, ⟨[(1, .val (.slice (.int .u32))), (5, .own 223 (.int .u32)), (9, .val (.int .u64)), (13, .val (.slice (.int .u32))), (14, .val tI), (15, .val tI)], [], [], fun _ => 0⟩),
 (200004, ⟨[(5, .own 223 (.int .u32))], [], [], fun _ => 0⟩)]

noncomputable def sp_whole_less : FSpec := ⟨[.val (.slice (.int .u32)), .val (.slice (.int .u32))], [.val (.slice (.int .u32))], fun x => whole_less x.1 x.2.1⟩

noncomputable def cx_whole_less : Cx := ⟨Tryz.prog, [(190, sp_whole_trimmed)]⟩

theorem den_whole_less : ∀ x, denF cx_whole_less anns_whole_less none Tryz.f135 sp_whole_less x = sp_whole_less.m x := by intro x; kernel_rfl

theorem hb_whole_less : HasBody Tryz.prog 135 := has_body (fn := Tryz.f135) (by kernel_rfl) rfl (by decide)

theorem ok_whole_less : FunOk Tryz.prog 135 sp_whole_less := fun_ok (X := cx_whole_less) (.cons ok_whole_trimmed hb_whole_trimmed (.nil _)) (by kernel_rfl) sp_whole_less anns_whole_less none (by kernel_rfl) (fun x y h => (den_whole_less x).trans h)

def anns_whole_Int_By : List (Nat × Ann) := [(4, ⟨[(2, .ref 2 0), (3, .ref 3 0), (4, .ref 4 0), (5, .ref 5 0), (6, .rowR 12), (7, .val (.slice (.int .u32))), (8, .val tI)], [(2, [.val .bool, .val (.slice (.int .u32))]), (3, [.val .bool, .val (.slice (.int .u32))]), (4, [.val .bool, .own 223 (.int .u32)]), (5, [.val .bool, .own 223 (.int .u32)])], [.rowC 12 223 (.int .u32)], fuelOf _⟩),
 (200004, ⟨[(4, .ref 4 0), (5, .ref 5 0), (6, .rowR 12), (7, .val (.slice (.int .u32)))], [(4, [.val .bool, .own 223 (.int .u32)]), (5, [.val .bool, .own 223 (.int .u32)])], [.rowC 12 223 (.int .u32)], fun _ => 0⟩)]

noncomputable def sp_whole_Int_By : FSpec := ⟨[.val t_whole_Int, .val t_whole_Int], [.val t_whole_Int, .val t_whole_Int], fun x => whole_Int_By x.1 x.2.1⟩

noncomputable def cx_whole_Int_By : Cx := ⟨Tryz.prog, [(132, sp_whole_made), (133, sp_whole_sum), (134, sp_whole_compare), (135, sp_whole_less), (190, sp_whole_trimmed)]⟩

theorem den_whole_Int_By : ∀ x, denF cx_whole_Int_By anns_whole_Int_By none Tryz.f195 sp_whole_Int_By x = sp_whole_Int_By.m x := by intro x; kernel_rfl

theorem hb_whole_Int_By : HasBody Tryz.prog 195 := has_body (fn := Tryz.f195) (by kernel_rfl) rfl (by decide)

theorem ok_whole_Int_By : FunOk Tryz.prog 195 sp_whole_Int_By := fun_ok (X := cx_whole_Int_By) (.cons ok_whole_made hb_whole_made (.cons ok_whole_sum hb_whole_sum (.cons ok_whole_compare hb_whole_compare (.cons ok_whole_less hb_whole_less (.cons ok_whole_trimmed hb_whole_trimmed (.nil _)))))) (by kernel_rfl) sp_whole_Int_By anns_whole_Int_By none (by kernel_rfl) (fun x y h => (den_whole_Int_By x).trans h)

def anns_whole_Int_Sign : List (Nat × Ann) := []

noncomputable def sp_whole_Int_Sign : FSpec := ⟨[.val t_whole_Int], [.val tI], fun x => whole_Int_Sign x.1⟩

noncomputable def cx_whole_Int_Sign : Cx := ⟨Tryz.prog, []⟩

theorem den_whole_Int_Sign : ∀ x, denF cx_whole_Int_Sign anns_whole_Int_Sign none Tryz.f158 sp_whole_Int_Sign x = sp_whole_Int_Sign.m x := by intro x; kernel_rfl

theorem hb_whole_Int_Sign : HasBody Tryz.prog 158 := has_body (fn := Tryz.f158) (by kernel_rfl) rfl (by decide)

theorem ok_whole_Int_Sign : FunOk Tryz.prog 158 sp_whole_Int_Sign := fun_ok (X := cx_whole_Int_Sign) (.nil _) (by kernel_rfl) sp_whole_Int_Sign anns_whole_Int_Sign none (by kernel_rfl) (fun x y h => (den_whole_Int_Sign x).trans h)

def anns_whole_Int_Plus : List (Nat × Ann) := []

noncomputable def sp_whole_Int_Plus : FSpec := ⟨[.val t_whole_Int, .val t_whole_Int], [.val t_whole_Int], fun x => whole_Int_Plus x.1 x.2.1⟩

noncomputable def cx_whole_Int_Plus : Cx := ⟨Tryz.prog, [(132, sp_whole_made), (133, sp_whole_sum_v), (134, sp_whole_compare), (135, sp_whole_less)]⟩

theorem den_whole_Int_Plus : ∀ x, denF cx_whole_Int_Plus anns_whole_Int_Plus none Tryz.f71 sp_whole_Int_Plus x = sp_whole_Int_Plus.m x := by intro x; kernel_rfl

theorem hb_whole_Int_Plus : HasBody Tryz.prog 71 := has_body (fn := Tryz.f71) (by kernel_rfl) rfl (by decide)

theorem ok_whole_Int_Plus : FunOk Tryz.prog 71 sp_whole_Int_Plus := fun_ok (X := cx_whole_Int_Plus) (.cons ok_whole_made hb_whole_made (.cons ok_whole_sum_v hb_whole_sum_v (.cons ok_whole_compare hb_whole_compare (.cons ok_whole_less hb_whole_less (.nil _))))) (by kernel_rfl) sp_whole_Int_Plus anns_whole_Int_Plus none (by kernel_rfl) (fun x y h => (den_whole_Int_Plus x).trans h)

def anns_whole_Int_Minus : List (Nat × Ann) := []

noncomputable def sp_whole_Int_Minus : FSpec := ⟨[.val t_whole_Int], [.val t_whole_Int], fun x => whole_Int_Minus x.1⟩

noncomputable def cx_whole_Int_Minus : Cx := ⟨Tryz.prog, [(132, sp_whole_made)]⟩

theorem den_whole_Int_Minus : ∀ x, denF cx_whole_Int_Minus anns_whole_Int_Minus none Tryz.f159 sp_whole_Int_Minus x = sp_whole_Int_Minus.m x := by intro x; kernel_rfl

theorem hb_whole_Int_Minus : HasBody Tryz.prog 159 := has_body (fn := Tryz.f159) (by kernel_rfl) rfl (by decide)

theorem ok_whole_Int_Minus : FunOk Tryz.prog 159 sp_whole_Int_Minus := fun_ok (X := cx_whole_Int_Minus) (.cons ok_whole_made hb_whole_made (.nil _)) (by kernel_rfl) sp_whole_Int_Minus anns_whole_Int_Minus none (by kernel_rfl) (fun x y h => (den_whole_Int_Minus x).trans h)

def anns_whole_Int_Less : List (Nat × Ann) := []

noncomputable def sp_whole_Int_Less : FSpec := ⟨[.val t_whole_Int, .val t_whole_Int], [.val t_whole_Int], fun x => whole_Int_Less x.1 x.2.1⟩

noncomputable def cx_whole_Int_Less : Cx := ⟨Tryz.prog, [(71, sp_whole_Int_Plus), (159, sp_whole_Int_Minus)]⟩

theorem den_whole_Int_Less : ∀ x, denF cx_whole_Int_Less anns_whole_Int_Less none Tryz.f165 sp_whole_Int_Less x = sp_whole_Int_Less.m x := by intro x; kernel_rfl

theorem hb_whole_Int_Less : HasBody Tryz.prog 165 := has_body (fn := Tryz.f165) (by kernel_rfl) rfl (by decide)

theorem ok_whole_Int_Less : FunOk Tryz.prog 165 sp_whole_Int_Less := fun_ok (X := cx_whole_Int_Less) (.cons ok_whole_Int_Plus hb_whole_Int_Plus (.cons ok_whole_Int_Minus hb_whole_Int_Minus (.nil _))) (by kernel_rfl) sp_whole_Int_Less anns_whole_Int_Less none (by kernel_rfl) (fun x y h => (den_whole_Int_Less x).trans h)

def anns_whole_Int_Compare : List (Nat × Ann) := []

noncomputable def sp_whole_Int_Compare : FSpec := ⟨[.val t_whole_Int, .val t_whole_Int], [.val tI], fun x => whole_Int_Compare x.1 x.2.1⟩

noncomputable def cx_whole_Int_Compare : Cx := ⟨Tryz.prog, [(158, sp_whole_Int_Sign), (165, sp_whole_Int_Less)]⟩

theorem den_whole_Int_Compare : ∀ x, denF cx_whole_Int_Compare anns_whole_Int_Compare none Tryz.f116 sp_whole_Int_Compare x = sp_whole_Int_Compare.m x := by intro x; kernel_rfl

theorem hb_whole_Int_Compare : HasBody Tryz.prog 116 := has_body (fn := Tryz.f116) (by kernel_rfl) rfl (by decide)

theorem ok_whole_Int_Compare : FunOk Tryz.prog 116 sp_whole_Int_Compare := fun_ok (X := cx_whole_Int_Compare) (.cons ok_whole_Int_Sign hb_whole_Int_Sign (.cons ok_whole_Int_Less hb_whole_Int_Less (.nil _))) (by kernel_rfl) sp_whole_Int_Compare anns_whole_Int_Compare none (by kernel_rfl) (fun x y h => (den_whole_Int_Compare x).trans h)

def anns_whole_Int_Odd : List (Nat × Ann) := []

noncomputable def sp_whole_Int_Odd : FSpec := ⟨[.val t_whole_Int], [.val .bool], fun x => whole_Int_Odd x.1⟩

noncomputable def cx_whole_Int_Odd : Cx := ⟨Tryz.prog, []⟩

theorem den_whole_Int_Odd : ∀ x, denF cx_whole_Int_Odd anns_whole_Int_Odd none Tryz.f196 sp_whole_Int_Odd x = sp_whole_Int_Odd.m x := by intro x; kernel_rfl

theorem hb_whole_Int_Odd : HasBody Tryz.prog 196 := has_body (fn := Tryz.f196) (by kernel_rfl) rfl (by decide)

theorem ok_whole_Int_Odd : FunOk Tryz.prog 196 sp_whole_Int_Odd := fun_ok (X := cx_whole_Int_Odd) (.nil _) (by kernel_rfl) sp_whole_Int_Odd anns_whole_Int_Odd none (by kernel_rfl) (fun x y h => (den_whole_Int_Odd x).trans h)

def anns_amount_Divided : List (Nat × Ann) := []

noncomputable def sp_amount_Divided : FSpec := ⟨[.val t_whole_Int, .val t_whole_Int, .val tI], [.val t_whole_Int], fun x => amount_Divided x.1 x.2.1 x.2.2.1⟩

noncomputable def cx_amount_Divided : Cx := ⟨Tryz.prog, [(71, sp_whole_Int_Plus), (116, sp_whole_Int_Compare), (127, sp_whole_Of), (158, sp_whole_Int_Sign), (159, sp_whole_Int_Minus), (195, sp_whole_Int_By), (196, sp_whole_Int_Odd)]⟩

theorem den_amount_Divided : ∀ x, denF cx_amount_Divided anns_amount_Divided none Tryz.f145 sp_amount_Divided x = sp_amount_Divided.m x := by intro x; kernel_rfl

theorem hb_amount_Divided : HasBody Tryz.prog 145 := has_body (fn := Tryz.f145) (by kernel_rfl) rfl (by decide)

theorem ok_amount_Divided : FunOk Tryz.prog 145 sp_amount_Divided := fun_ok (X := cx_amount_Divided) (.cons ok_whole_Int_Plus hb_whole_Int_Plus (.cons ok_whole_Int_Compare hb_whole_Int_Compare (.cons ok_whole_Of hb_whole_Of (.cons ok_whole_Int_Sign hb_whole_Int_Sign (.cons ok_whole_Int_Minus hb_whole_Int_Minus (.cons ok_whole_Int_By hb_whole_Int_By (.cons ok_whole_Int_Odd hb_whole_Int_Odd (.nil _)))))))) (by kernel_rfl) sp_amount_Divided anns_amount_Divided none (by kernel_rfl) (fun x y h => (den_amount_Divided x).trans h)

def anns_whole_Int_Int : List (Nat × Ann) := [(5, ⟨[(1, .val tI), (2, .ref 2 0), (6, .val (.int .u64)), (14, .val (.slice (.int .u32))), (15, .val tI), (16, .val tI)], [(2, [.val .bool, .val (.slice (.int .u32))])], [], fuelOf _⟩),
 (200005, ⟨[(1, .val tI), (2, .ref 2 0), (6, .val (.int .u64))], [(2, [.val .bool, .val (.slice (.int .u32))])], [], fun _ => 0⟩)]

noncomputable def sp_whole_Int_Int : FSpec := ⟨[.val t_whole_Int, .val tI], [.val tI, .val .bool], fun x => whole_Int_Int x.1 x.2.1⟩

noncomputable def cx_whole_Int_Int : Cx := ⟨Tryz.prog, []⟩

theorem den_whole_Int_Int : ∀ x, denF cx_whole_Int_Int anns_whole_Int_Int none Tryz.f137 sp_whole_Int_Int x = sp_whole_Int_Int.m x := by intro x; kernel_rfl

theorem hb_whole_Int_Int : HasBody Tryz.prog 137 := has_body (fn := Tryz.f137) (by kernel_rfl) rfl (by decide)

theorem ok_whole_Int_Int : FunOk Tryz.prog 137 sp_whole_Int_Int := fun_ok (X := cx_whole_Int_Int) (.nil _) (by kernel_rfl) sp_whole_Int_Int anns_whole_Int_Int none (by kernel_rfl) (fun x y h => (den_whole_Int_Int x).trans h)

def anns_bill_fits : List (Nat × Ann) := []

noncomputable def sp_bill_fits : FSpec := ⟨[.val t_whole_Int], [.val .bool], fun x => bill_fits x.1⟩

noncomputable def cx_bill_fits : Cx := ⟨Tryz.prog, [(137, sp_whole_Int_Int)]⟩

theorem den_bill_fits : ∀ x, denF cx_bill_fits anns_bill_fits none Tryz.f74 sp_bill_fits x = sp_bill_fits.m x := by intro x; kernel_rfl

theorem hb_bill_fits : HasBody Tryz.prog 74 := has_body (fn := Tryz.f74) (by kernel_rfl) rfl (by decide)

theorem ok_bill_fits : FunOk Tryz.prog 74 sp_bill_fits := fun_ok (X := cx_bill_fits) (.cons ok_whole_Int_Int hb_whole_Int_Int (.nil _)) (by kernel_rfl) sp_bill_fits anns_bill_fits none (by kernel_rfl) (fun x y h => (den_bill_fits x).trans h)

def anns_bill_gross : List (Nat × Ann) := []

noncomputable def sp_bill_gross : FSpec := ⟨[.val t_api_Invoice, .val t_api_BillLine], [.val t_whole_Int, .val .bool], fun x => bill_gross x.1 x.2.1⟩

noncomputable def cx_bill_gross : Cx := ⟨Tryz.prog, [(74, sp_bill_fits), (127, sp_whole_Of), (143, sp_whole_Int_Times), (144, sp_whole_Power), (145, sp_amount_Divided)]⟩

theorem den_bill_gross : ∀ x, denF cx_bill_gross anns_bill_gross none Tryz.f87 sp_bill_gross x = sp_bill_gross.m x := by intro x; kernel_rfl

theorem hb_bill_gross : HasBody Tryz.prog 87 := has_body (fn := Tryz.f87) (by kernel_rfl) rfl (by decide)

theorem ok_bill_gross : FunOk Tryz.prog 87 sp_bill_gross := fun_ok (X := cx_bill_gross) (.cons ok_bill_fits hb_bill_fits (.cons ok_whole_Of hb_whole_Of (.cons ok_whole_Int_Times hb_whole_Int_Times (.cons ok_whole_Power hb_whole_Power (.cons ok_amount_Divided hb_amount_Divided (.nil _)))))) (by kernel_rfl) sp_bill_gross anns_bill_gross none (by kernel_rfl) (fun x y h => (den_bill_gross x).trans h)

def anns_amount_Scaled : List (Nat × Ann) := []

noncomputable def sp_amount_Scaled : FSpec := ⟨[.val t_api_Decimal, .val tI], [.val t_whole_Int], fun x => amount_Scaled x.1 x.2.1⟩

noncomputable def cx_amount_Scaled : Cx := ⟨Tryz.prog, [(127, sp_whole_Of), (143, sp_whole_Int_Times), (144, sp_whole_Power)]⟩

theorem den_amount_Scaled : ∀ x, denF cx_amount_Scaled anns_amount_Scaled none Tryz.f88 sp_amount_Scaled x = sp_amount_Scaled.m x := by intro x; kernel_rfl

theorem hb_amount_Scaled : HasBody Tryz.prog 88 := has_body (fn := Tryz.f88) (by kernel_rfl) rfl (by decide)

theorem ok_amount_Scaled : FunOk Tryz.prog 88 sp_amount_Scaled := fun_ok (X := cx_amount_Scaled) (.cons ok_whole_Of hb_whole_Of (.cons ok_whole_Int_Times hb_whole_Int_Times (.cons ok_whole_Power hb_whole_Power (.nil _)))) (by kernel_rfl) sp_amount_Scaled anns_amount_Scaled none (by kernel_rfl) (fun x y h => (den_amount_Scaled x).trans h)

def anns_bill_part : List (Nat × Ann) := []

noncomputable def sp_bill_part : FSpec := ⟨[.val t_api_Invoice, .val t_whole_Int, .val t_api_Decimal], [.val t_whole_Int], fun x => bill_part x.1 x.2.1 x.2.2.1⟩

noncomputable def cx_bill_part : Cx := ⟨Tryz.prog, [(127, sp_whole_Of), (143, sp_whole_Int_Times), (144, sp_whole_Power), (145, sp_amount_Divided)]⟩

theorem den_bill_part : ∀ x, denF cx_bill_part anns_bill_part none Tryz.f89 sp_bill_part x = sp_bill_part.m x := by intro x; kernel_rfl

theorem hb_bill_part : HasBody Tryz.prog 89 := has_body (fn := Tryz.f89) (by kernel_rfl) rfl (by decide)

theorem ok_bill_part : FunOk Tryz.prog 89 sp_bill_part := fun_ok (X := cx_bill_part) (.cons ok_whole_Of hb_whole_Of (.cons ok_whole_Int_Times hb_whole_Int_Times (.cons ok_whole_Power hb_whole_Power (.cons ok_amount_Divided hb_amount_Divided (.nil _))))) (by kernel_rfl) sp_bill_part anns_bill_part none (by kernel_rfl) (fun x y h => (den_bill_part x).trans h)

def anns_bill_net : List (Nat × Ann) := [(4, ⟨[(2, .ref 2 0), (4, .ref 4 0), (6, .ref 6 0), (7, .val .bool), (8, .ref 8 0), (20, .val (.slice t_api_Extra)), (21, .val tI), (22, .val tI)], [(2, [.val .str, .val .str, .val tI, .val tI, .val tI, .val .bool, .val (.slice t_api_Rate), .val (.slice t_api_BillLine), .val (.slice t_api_Extra)]), (4, [.val .bool, .own 223 (.int .u32)]), (6, [.val .bool, .val (.slice (.int .u32))]), (8, [.val .bool, .val (.slice (.int .u32))])], [], fuelOf _⟩),
 (100008, ⟨[(2, .ref 2 0), (4, .ref 4 0), (6, .ref 6 0), (7, .val .bool), (8, .ref 8 0), (11, .ref 11 0), (20, .val (.slice t_api_Extra)), (21, .val tI), (22, .val tI)], [(2, [.val .str, .val .str, .val tI, .val tI, .val tI, .val .bool, .val (.slice t_api_Rate), .val (.slice t_api_BillLine), .val (.slice t_api_Extra)]), (4, [.val .bool, .own 223 (.int .u32)]), (6, [.val .bool, .val (.slice (.int .u32))]), (8, [.val .bool, .val (.slice (.int .u32))]), (11, [.val .bool, .val (.slice (.int .u32))])], [], fun _ => 0⟩),
 (200004, ⟨[(4, .ref 4 0), (7, .val .bool), (8, .ref 8 0)], [(4, [.val .bool, .own 223 (.int .u32)]), (8, [.val .bool, .val (.slice (.int .u32))])], [], fun _ => 0⟩)]

noncomputable def sp_bill_net : FSpec := ⟨[.val t_api_Invoice, .val t_api_BillLine], [.val t_whole_Int, .val .bool], fun x => bill_net x.1 x.2.1⟩

noncomputable def cx_bill_net : Cx := ⟨Tryz.prog, [(71, sp_whole_Int_Plus), (74, sp_bill_fits), (87, sp_bill_gross), (88, sp_amount_Scaled), (89, sp_bill_part)]⟩

theorem den_bill_net : ∀ x, denF cx_bill_net anns_bill_net none Tryz.f36 sp_bill_net x = sp_bill_net.m x := by intro x; kernel_rfl

theorem hb_bill_net : HasBody Tryz.prog 36 := has_body (fn := Tryz.f36) (by kernel_rfl) rfl (by decide)

theorem ok_bill_net : FunOk Tryz.prog 36 sp_bill_net := fun_ok (X := cx_bill_net) (.cons ok_whole_Int_Plus hb_whole_Int_Plus (.cons ok_bill_fits hb_bill_fits (.cons ok_bill_gross hb_bill_gross (.cons ok_amount_Scaled hb_amount_Scaled (.cons ok_bill_part hb_bill_part (.nil _)))))) (by kernel_rfl) sp_bill_net anns_bill_net none (by kernel_rfl) (fun x y h => (den_bill_net x).trans h)

def anns_bill_sheet_byLines_1 : List (Nat × Ann) := []

noncomputable def sp_bill_sheet_byLines_1 : FSpec := ⟨[.val t_whole_Int], [.val .bool], fun x => bill_sheet_byLines_1 x.1⟩

noncomputable def cx_bill_sheet_byLines_1 : Cx := ⟨Tryz.prog, [(74, sp_bill_fits)]⟩

theorem den_bill_sheet_byLines_1 : ∀ x, denF cx_bill_sheet_byLines_1 anns_bill_sheet_byLines_1 none Tryz.f125 sp_bill_sheet_byLines_1 x = sp_bill_sheet_byLines_1.m x := by intro x; kernel_rfl

theorem hb_bill_sheet_byLines_1 : HasBody Tryz.prog 125 := has_body (fn := Tryz.f125) (by kernel_rfl) rfl (by decide)

theorem ok_bill_sheet_byLines_1 : FunOk Tryz.prog 125 sp_bill_sheet_byLines_1 := fun_ok (X := cx_bill_sheet_byLines_1) (.cons ok_bill_fits hb_bill_fits (.nil _)) (by kernel_rfl) sp_bill_sheet_byLines_1 anns_bill_sheet_byLines_1 none (by kernel_rfl) (fun x y h => (den_bill_sheet_byLines_1 x).trans h)

def anns_bill_sheet_extra_1 : List (Nat × Ann) := []

noncomputable def sp_bill_sheet_extra_1 : FSpec := ⟨[.val t_whole_Int], [.val .bool], fun x => bill_sheet_extra_1 x.1⟩

noncomputable def cx_bill_sheet_extra_1 : Cx := ⟨Tryz.prog, [(74, sp_bill_fits)]⟩

theorem den_bill_sheet_extra_1 : ∀ x, denF cx_bill_sheet_extra_1 anns_bill_sheet_extra_1 none Tryz.f130 sp_bill_sheet_extra_1 x = sp_bill_sheet_extra_1.m x := by intro x; kernel_rfl

theorem hb_bill_sheet_extra_1 : HasBody Tryz.prog 130 := has_body (fn := Tryz.f130) (by kernel_rfl) rfl (by decide)

theorem ok_bill_sheet_extra_1 : FunOk Tryz.prog 130 sp_bill_sheet_extra_1 := fun_ok (X := cx_bill_sheet_extra_1) (.cons ok_bill_fits hb_bill_fits (.nil _)) (by kernel_rfl) sp_bill_sheet_extra_1 anns_bill_sheet_extra_1 none (by kernel_rfl) (fun x y h => (den_bill_sheet_extra_1 x).trans h)

def anns_bill_sheet_tax_1 : List (Nat × Ann) := []

noncomputable def sp_bill_sheet_tax_1 : FSpec := ⟨[.val t_whole_Int], [.val .bool], fun x => bill_sheet_tax_1 x.1⟩

noncomputable def cx_bill_sheet_tax_1 : Cx := ⟨Tryz.prog, [(74, sp_bill_fits)]⟩

theorem den_bill_sheet_tax_1 : ∀ x, denF cx_bill_sheet_tax_1 anns_bill_sheet_tax_1 none Tryz.f131 sp_bill_sheet_tax_1 x = sp_bill_sheet_tax_1.m x := by intro x; kernel_rfl

theorem hb_bill_sheet_tax_1 : HasBody Tryz.prog 131 := has_body (fn := Tryz.f131) (by kernel_rfl) rfl (by decide)

theorem ok_bill_sheet_tax_1 : FunOk Tryz.prog 131 sp_bill_sheet_tax_1 := fun_ok (X := cx_bill_sheet_tax_1) (.cons ok_bill_fits hb_bill_fits (.nil _)) (by kernel_rfl) sp_bill_sheet_tax_1 anns_bill_sheet_tax_1 none (by kernel_rfl) (fun x y h => (den_bill_sheet_tax_1 x).trans h)

def anns_bill_sheet_totals_1 : List (Nat × Ann) := []

noncomputable def sp_bill_sheet_totals_1 : FSpec := ⟨[.val t_whole_Int], [.val .bool], fun x => bill_sheet_totals_1 x.1⟩

noncomputable def cx_bill_sheet_totals_1 : Cx := ⟨Tryz.prog, [(74, sp_bill_fits)]⟩

theorem den_bill_sheet_totals_1 : ∀ x, denF cx_bill_sheet_totals_1 anns_bill_sheet_totals_1 none Tryz.f73 sp_bill_sheet_totals_1 x = sp_bill_sheet_totals_1.m x := by intro x; kernel_rfl

theorem hb_bill_sheet_totals_1 : HasBody Tryz.prog 73 := has_body (fn := Tryz.f73) (by kernel_rfl) rfl (by decide)

theorem ok_bill_sheet_totals_1 : FunOk Tryz.prog 73 sp_bill_sheet_totals_1 := fun_ok (X := cx_bill_sheet_totals_1) (.cons ok_bill_fits hb_bill_fits (.nil _)) (by kernel_rfl) sp_bill_sheet_totals_1 anns_bill_sheet_totals_1 none (by kernel_rfl) (fun x y h => (den_bill_sheet_totals_1 x).trans h)

def anns_slices_IndexFunc_whole_Int : List (Nat × Ann) := [(2, ⟨[(0, .val (.slice t_whole_Int)), (1, .val (.clo 125 .unit)), (7, .val tI), (8, .val tI)], [], [], fuelOf _⟩),
 (200002, ⟨[], [], [], fun _ => 0⟩)]

noncomputable def sp_slices_IndexFunc_whole_Int : FSpec := ⟨[.val (.slice t_whole_Int), .val (.clo 125 .unit)], [.val tI], fun x => slices_IndexFunc_whole_Int x.1 x.2.1⟩

noncomputable def cx_slices_IndexFunc_whole_Int : Cx := ⟨Tryz.prog, [(125, sp_bill_sheet_byLines_1)]⟩

theorem den_slices_IndexFunc_whole_Int : ∀ x, denF cx_slices_IndexFunc_whole_Int anns_slices_IndexFunc_whole_Int none Tryz.f136 sp_slices_IndexFunc_whole_Int x = sp_slices_IndexFunc_whole_Int.m x := by intro x; kernel_rfl

theorem hb_slices_IndexFunc_whole_Int : HasBody Tryz.prog 136 := has_body (fn := Tryz.f136) (by kernel_rfl) rfl (by decide)

theorem ok_slices_IndexFunc_whole_Int : FunOk Tryz.prog 136 sp_slices_IndexFunc_whole_Int := fun_ok (X := cx_slices_IndexFunc_whole_Int) (.cons ok_bill_sheet_byLines_1 hb_bill_sheet_byLines_1 (.nil _)) (by kernel_rfl) sp_slices_IndexFunc_whole_Int anns_slices_IndexFunc_whole_Int none (by kernel_rfl) (fun x y h => (den_slices_IndexFunc_whole_Int x).trans h)

def anns_slices_IndexFunc_whole_Int_b : List (Nat × Ann) := [(2, ⟨[(0, .val (.slice t_whole_Int)), (1, .val (.clo 130 .unit)), (7, .val tI), (8, .val tI)], [], [], fuelOf _⟩),
 (200002, ⟨[], [], [], fun _ => 0⟩)]

noncomputable def sp_slices_IndexFunc_whole_Int_b : FSpec := ⟨[.val (.slice t_whole_Int), .val (.clo 130 .unit)], [.val tI], fun x => slices_IndexFunc_whole_Int_b x.1 x.2.1⟩

noncomputable def cx_slices_IndexFunc_whole_Int_b : Cx := ⟨Tryz.prog, [(130, sp_bill_sheet_extra_1)]⟩

theorem den_slices_IndexFunc_whole_Int_b : ∀ x, denF cx_slices_IndexFunc_whole_Int_b anns_slices_IndexFunc_whole_Int_b none Tryz.f136 sp_slices_IndexFunc_whole_Int_b x = sp_slices_IndexFunc_whole_Int_b.m x := by intro x; kernel_rfl

theorem hb_slices_IndexFunc_whole_Int_b : HasBody Tryz.prog 136 := has_body (fn := Tryz.f136) (by kernel_rfl) rfl (by decide)

theorem ok_slices_IndexFunc_whole_Int_b : FunOk Tryz.prog 136 sp_slices_IndexFunc_whole_Int_b := fun_ok (X := cx_slices_IndexFunc_whole_Int_b) (.cons ok_bill_sheet_extra_1 hb_bill_sheet_extra_1 (.nil _)) (by kernel_rfl) sp_slices_IndexFunc_whole_Int_b anns_slices_IndexFunc_whole_Int_b none (by kernel_rfl) (fun x y h => (den_slices_IndexFunc_whole_Int_b x).trans h)

def anns_slices_IndexFunc_whole_Int_c : List (Nat × Ann) := [(2, ⟨[(0, .val (.slice t_whole_Int)), (1, .val (.clo 131 .unit)), (7, .val tI), (8, .val tI)], [], [], fuelOf _⟩),
 (200002, ⟨[], [], [], fun _ => 0⟩)]

noncomputable def sp_slices_IndexFunc_whole_Int_c : FSpec := ⟨[.val (.slice t_whole_Int), .val (.clo 131 .unit)], [.val tI], fun x => slices_IndexFunc_whole_Int_c x.1 x.2.1⟩

noncomputable def cx_slices_IndexFunc_whole_Int_c : Cx := ⟨Tryz.prog, [(131, sp_bill_sheet_tax_1)]⟩

theorem den_slices_IndexFunc_whole_Int_c : ∀ x, denF cx_slices_IndexFunc_whole_Int_c anns_slices_IndexFunc_whole_Int_c none Tryz.f136 sp_slices_IndexFunc_whole_Int_c x = sp_slices_IndexFunc_whole_Int_c.m x := by intro x; kernel_rfl

theorem hb_slices_IndexFunc_whole_Int_c : HasBody Tryz.prog 136 := has_body (fn := Tryz.f136) (by kernel_rfl) rfl (by decide)

theorem ok_slices_IndexFunc_whole_Int_c : FunOk Tryz.prog 136 sp_slices_IndexFunc_whole_Int_c := fun_ok (X := cx_slices_IndexFunc_whole_Int_c) (.cons ok_bill_sheet_tax_1 hb_bill_sheet_tax_1 (.nil _)) (by kernel_rfl) sp_slices_IndexFunc_whole_Int_c anns_slices_IndexFunc_whole_Int_c none (by kernel_rfl) (fun x y h => (den_slices_IndexFunc_whole_Int_c x).trans h)

def anns_slices_IndexFunc_whole_Int_d : List (Nat × Ann) := [(2, ⟨[(0, .val (.slice t_whole_Int)), (1, .val (.clo 73 .unit)), (7, .val tI), (8, .val tI)], [], [], fuelOf _⟩),
 (200002, ⟨[], [], [], fun _ => 0⟩)]

noncomputable def sp_slices_IndexFunc_whole_Int_d : FSpec := ⟨[.val (.slice t_whole_Int), .val (.clo 73 .unit)], [.val tI], fun x => slices_IndexFunc_whole_Int_d x.1 x.2.1⟩

noncomputable def cx_slices_IndexFunc_whole_Int_d : Cx := ⟨Tryz.prog, [(73, sp_bill_sheet_totals_1)]⟩

theorem den_slices_IndexFunc_whole_Int_d : ∀ x, denF cx_slices_IndexFunc_whole_Int_d anns_slices_IndexFunc_whole_Int_d none Tryz.f136 sp_slices_IndexFunc_whole_Int_d x = sp_slices_IndexFunc_whole_Int_d.m x := by intro x; kernel_rfl

theorem hb_slices_IndexFunc_whole_Int_d : HasBody Tryz.prog 136 := has_body (fn := Tryz.f136) (by kernel_rfl) rfl (by decide)

theorem ok_slices_IndexFunc_whole_Int_d : FunOk Tryz.prog 136 sp_slices_IndexFunc_whole_Int_d := fun_ok (X := cx_slices_IndexFunc_whole_Int_d) (.cons ok_bill_sheet_totals_1 hb_bill_sheet_totals_1 (.nil _)) (by kernel_rfl) sp_slices_IndexFunc_whole_Int_d anns_slices_IndexFunc_whole_Int_d none (by kernel_rfl) (fun x y h => (den_slices_IndexFunc_whole_Int_d x).trans h)

def anns_slices_ContainsFunc_whole_Int : List (Nat × Ann) := []

noncomputable def sp_slices_ContainsFunc_whole_Int : FSpec := ⟨[.val (.slice t_whole_Int), .val (.clo 125 .unit)], [.val .bool], fun x => slices_ContainsFunc_whole_Int x.1 x.2.1⟩

noncomputable def cx_slices_ContainsFunc_whole_Int : Cx := ⟨Tryz.prog, [(136, sp_slices_IndexFunc_whole_Int)]⟩

theorem den_slices_ContainsFunc_whole_Int : ∀ x, denF cx_slices_ContainsFunc_whole_Int anns_slices_ContainsFunc_whole_Int none Tryz.f72 sp_slices_ContainsFunc_whole_Int x = sp_slices_ContainsFunc_whole_Int.m x := by intro x; kernel_rfl

theorem hb_slices_ContainsFunc_whole_Int : HasBody Tryz.prog 72 := has_body (fn := Tryz.f72) (by kernel_rfl) rfl (by decide)

theorem ok_slices_ContainsFunc_whole_Int : FunOk Tryz.prog 72 sp_slices_ContainsFunc_whole_Int := fun_ok (X := cx_slices_ContainsFunc_whole_Int) (.cons ok_slices_IndexFunc_whole_Int hb_slices_IndexFunc_whole_Int (.nil _)) (by kernel_rfl) sp_slices_ContainsFunc_whole_Int anns_slices_ContainsFunc_whole_Int none (by kernel_rfl) (fun x y h => (den_slices_ContainsFunc_whole_Int x).trans h)

def anns_slices_ContainsFunc_whole_Int_b : List (Nat × Ann) := []

noncomputable def sp_slices_ContainsFunc_whole_Int_b : FSpec := ⟨[.val (.slice t_whole_Int), .val (.clo 130 .unit)], [.val .bool], fun x => slices_ContainsFunc_whole_Int_b x.1 x.2.1⟩

noncomputable def cx_slices_ContainsFunc_whole_Int_b : Cx := ⟨Tryz.prog, [(136, sp_slices_IndexFunc_whole_Int_b)]⟩

theorem den_slices_ContainsFunc_whole_Int_b : ∀ x, denF cx_slices_ContainsFunc_whole_Int_b anns_slices_ContainsFunc_whole_Int_b none Tryz.f72 sp_slices_ContainsFunc_whole_Int_b x = sp_slices_ContainsFunc_whole_Int_b.m x := by intro x; kernel_rfl

theorem hb_slices_ContainsFunc_whole_Int_b : HasBody Tryz.prog 72 := has_body (fn := Tryz.f72) (by kernel_rfl) rfl (by decide)

theorem ok_slices_ContainsFunc_whole_Int_b : FunOk Tryz.prog 72 sp_slices_ContainsFunc_whole_Int_b := fun_ok (X := cx_slices_ContainsFunc_whole_Int_b) (.cons ok_slices_IndexFunc_whole_Int_b hb_slices_IndexFunc_whole_Int_b (.nil _)) (by kernel_rfl) sp_slices_ContainsFunc_whole_Int_b anns_slices_ContainsFunc_whole_Int_b none (by kernel_rfl) (fun x y h => (den_slices_ContainsFunc_whole_Int_b x).trans h)

def anns_slices_ContainsFunc_whole_Int_c : List (Nat × Ann) := []

noncomputable def sp_slices_ContainsFunc_whole_Int_c : FSpec := ⟨[.val (.slice t_whole_Int), .val (.clo 131 .unit)], [.val .bool], fun x => slices_ContainsFunc_whole_Int_c x.1 x.2.1⟩

noncomputable def cx_slices_ContainsFunc_whole_Int_c : Cx := ⟨Tryz.prog, [(136, sp_slices_IndexFunc_whole_Int_c)]⟩

theorem den_slices_ContainsFunc_whole_Int_c : ∀ x, denF cx_slices_ContainsFunc_whole_Int_c anns_slices_ContainsFunc_whole_Int_c none Tryz.f72 sp_slices_ContainsFunc_whole_Int_c x = sp_slices_ContainsFunc_whole_Int_c.m x := by intro x; kernel_rfl

theorem hb_slices_ContainsFunc_whole_Int_c : HasBody Tryz.prog 72 := has_body (fn := Tryz.f72) (by kernel_rfl) rfl (by decide)

theorem ok_slices_ContainsFunc_whole_Int_c : FunOk Tryz.prog 72 sp_slices_ContainsFunc_whole_Int_c := fun_ok (X := cx_slices_ContainsFunc_whole_Int_c) (.cons ok_slices_IndexFunc_whole_Int_c hb_slices_IndexFunc_whole_Int_c (.nil _)) (by kernel_rfl) sp_slices_ContainsFunc_whole_Int_c anns_slices_ContainsFunc_whole_Int_c none (by kernel_rfl) (fun x y h => (den_slices_ContainsFunc_whole_Int_c x).trans h)

def anns_slices_ContainsFunc_whole_Int_d : List (Nat × Ann) := []

noncomputable def sp_slices_ContainsFunc_whole_Int_d : FSpec := ⟨[.val (.slice t_whole_Int), .val (.clo 73 .unit)], [.val .bool], fun x => slices_ContainsFunc_whole_Int_d x.1 x.2.1⟩

noncomputable def cx_slices_ContainsFunc_whole_Int_d : Cx := ⟨Tryz.prog, [(136, sp_slices_IndexFunc_whole_Int_d)]⟩

theorem den_slices_ContainsFunc_whole_Int_d : ∀ x, denF cx_slices_ContainsFunc_whole_Int_d anns_slices_ContainsFunc_whole_Int_d none Tryz.f72 sp_slices_ContainsFunc_whole_Int_d x = sp_slices_ContainsFunc_whole_Int_d.m x := by intro x; kernel_rfl

theorem hb_slices_ContainsFunc_whole_Int_d : HasBody Tryz.prog 72 := has_body (fn := Tryz.f72) (by kernel_rfl) rfl (by decide)

theorem ok_slices_ContainsFunc_whole_Int_d : FunOk Tryz.prog 72 sp_slices_ContainsFunc_whole_Int_d := fun_ok (X := cx_slices_ContainsFunc_whole_Int_d) (.cons ok_slices_IndexFunc_whole_Int_d hb_slices_IndexFunc_whole_Int_d (.nil _)) (by kernel_rfl) sp_slices_ContainsFunc_whole_Int_d anns_slices_ContainsFunc_whole_Int_d none (by kernel_rfl) (fun x y h => (den_slices_ContainsFunc_whole_Int_d x).trans h)

def anns_slices_Clone_whole_Int : List (Nat × Ann) := []

noncomputable def sp_slices_Clone_whole_Int : FSpec := ⟨[.val (.slice t_whole_Int)], [.row 135 t_whole_Int], fun x => slices_Clone_whole_Int x.1⟩

noncomputable def cx_slices_Clone_whole_Int : Cx := ⟨Tryz.prog, []⟩

theorem den_slices_Clone_whole_Int : ∀ x, denF cx_slices_Clone_whole_Int anns_slices_Clone_whole_Int none Tryz.f126 sp_slices_Clone_whole_Int x = sp_slices_Clone_whole_Int.m x := by intro x; kernel_rfl

theorem hb_slices_Clone_whole_Int : HasBody Tryz.prog 126 := has_body (fn := Tryz.f126) (by kernel_rfl) rfl (by decide)

theorem ok_slices_Clone_whole_Int : FunOk Tryz.prog 126 sp_slices_Clone_whole_Int := fun_ok (X := cx_slices_Clone_whole_Int) (.nil _) (by kernel_rfl) sp_slices_Clone_whole_Int anns_slices_Clone_whole_Int none (by kernel_rfl) (fun x y h => (den_slices_Clone_whole_Int x).trans h)

def anns_bill_sheet_byLines : List (Nat × Ann) := [(4, ⟨[(0, .ref 2000 0), (30, .val (.slice t_api_BillLine)), (31, .val tI), (32, .val tI)], [(2000, [.val .str, .val .str, .val tI, .val tI, .val tI, .val .bool, .val (.slice t_api_Rate), .val (.slice t_api_BillLine), .val (.slice t_api_Extra), .own 135 t_whole_Int, .rowR 19, .rowR 10250004, .own 186 t_bill_share, .rowR 10250006, .rowR 21, .rowR 10250008])], [.rowC 19 135 t_whole_Int, .rowC 21 4 .bool, .rowC 10250004 135 t_whole_Int, .rowC 10250006 135 t_whole_Int, .rowC 10250008 135 t_whole_Int], fuelOf _⟩),
 (200004, ⟨[(0, .ref 2000 0)], [(2000, [.val .str, .val .str, .val tI, .val tI, .val tI, .val .bool, .val (.slice t_api_Rate), .val (.slice t_api_BillLine), .val (.slice t_api_Extra), .own 135 t_whole_Int, .rowR 19, .rowR 10250004, .own 186 t_bill_share, .rowR 10250006, .rowR 21, .rowR 10250008])], [.rowC 19 135 t_whole_Int, .rowC 21 4 .bool, .rowC 10250004 135 t_whole_Int, .rowC 10250006 135 t_whole_Int, .rowC 10250008 135 t_whole_Int], fun _ => 0⟩)]

noncomputable def sp_bill_sheet_byLines : FSpec := ⟨[.box [.val t_api_Invoice, .row 135 t_whole_Int, .val (.slice t_whole_Int), .row 135 t_whole_Int, .row 186 t_bill_share, .row 135 t_whole_Int, .row 4 .bool, .row 135 t_whole_Int]], [.val tI], fun x => bill_sheet_byLines x.1⟩

noncomputable def cx_bill_sheet_byLines : Cx := ⟨Tryz.prog, [(36, sp_bill_net), (71, sp_whole_Int_Plus), (72, sp_slices_ContainsFunc_whole_Int), (124, sp_bill_rateAt), (126, sp_slices_Clone_whole_Int)]⟩

theorem den_bill_sheet_byLines : ∀ x, denF cx_bill_sheet_byLines anns_bill_sheet_byLines none Tryz.f67 sp_bill_sheet_byLines x = sp_bill_sheet_byLines.m x := by intro x; kernel_rfl

theorem hb_bill_sheet_byLines : HasBody Tryz.prog 67 := has_body (fn := Tryz.f67) (by kernel_rfl) rfl (by decide)

theorem ok_bill_sheet_byLines : FunOk Tryz.prog 67 sp_bill_sheet_byLines := fun_ok (X := cx_bill_sheet_byLines) (.cons ok_bill_net hb_bill_net (.cons ok_whole_Int_Plus hb_whole_Int_Plus (.cons ok_slices_ContainsFunc_whole_Int hb_slices_ContainsFunc_whole_Int (.cons ok_bill_rateAt hb_bill_rateAt (.cons ok_slices_Clone_whole_Int hb_slices_Clone_whole_Int (.nil _)))))) (by kernel_rfl) sp_bill_sheet_byLines anns_bill_sheet_byLines none (by kernel_rfl) (fun x y h => (den_bill_sheet_byLines x).trans h)

def anns_bill_sheet_bring : List (Nat × Ann) := []

noncomputable def sp_bill_sheet_bring : FSpec := ⟨[.box [.val t_api_Invoice, .row 135 t_whole_Int, .val (.slice t_whole_Int), .row 135 t_whole_Int, .row 186 t_bill_share, .row 135 t_whole_Int, .row 4 .bool, .row 135 t_whole_Int], .val tI, .val t_whole_Int], [], fun x => bill_sheet_bring x.1 x.2.1 x.2.2.1⟩

noncomputable def cx_bill_sheet_bring : Cx := ⟨Tryz.prog, [(71, sp_whole_Int_Plus)]⟩

theorem den_bill_sheet_bring : ∀ x, denF cx_bill_sheet_bring anns_bill_sheet_bring none Tryz.f128 sp_bill_sheet_bring x = sp_bill_sheet_bring.m x := by intro x; kernel_rfl

theorem hb_bill_sheet_bring : HasBody Tryz.prog 128 := has_body (fn := Tryz.f128) (by kernel_rfl) rfl (by decide)

theorem ok_bill_sheet_bring : FunOk Tryz.prog 128 sp_bill_sheet_bring := fun_ok (X := cx_bill_sheet_bring) (.cons ok_whole_Int_Plus hb_whole_Int_Plus (.nil _)) (by kernel_rfl) sp_bill_sheet_bring anns_bill_sheet_bring none (by kernel_rfl) (fun x y h => (den_bill_sheet_bring x).trans h)

def anns_whole_Int_Abs : List (Nat × Ann) := []

noncomputable def sp_whole_Int_Abs : FSpec := ⟨[.val t_whole_Int], [.val t_whole_Int], fun x => whole_Int_Abs x.1⟩

noncomputable def cx_whole_Int_Abs : Cx := ⟨Tryz.prog, [(132, sp_whole_made)]⟩

theorem den_whole_Int_Abs : ∀ x, denF cx_whole_Int_Abs anns_whole_Int_Abs none Tryz.f186 sp_whole_Int_Abs x = sp_whole_Int_Abs.m x := by intro x; kernel_rfl

theorem hb_whole_Int_Abs : HasBody Tryz.prog 186 := has_body (fn := Tryz.f186) (by kernel_rfl) rfl (by decide)

theorem ok_whole_Int_Abs : FunOk Tryz.prog 186 sp_whole_Int_Abs := fun_ok (X := cx_whole_Int_Abs) (.cons ok_whole_made hb_whole_made (.nil _)) (by kernel_rfl) sp_whole_Int_Abs anns_whole_Int_Abs none (by kernel_rfl) (fun x y h => (den_whole_Int_Abs x).trans h)

def anns_bill_sheet_divide_1 : List (Nat × Ann) := []

noncomputable def sp_bill_sheet_divide_1 : FSpec := ⟨[.val tI], [.val .bool], fun x => bill_sheet_divide_1 x.1⟩

noncomputable def cx_bill_sheet_divide_1 : Cx := ⟨Tryz.prog, []⟩

theorem den_bill_sheet_divide_1 : ∀ x, denF cx_bill_sheet_divide_1 anns_bill_sheet_divide_1 none Tryz.f188 sp_bill_sheet_divide_1 x = sp_bill_sheet_divide_1.m x := by intro x; kernel_rfl

theorem hb_bill_sheet_divide_1 : HasBody Tryz.prog 188 := has_body (fn := Tryz.f188) (by kernel_rfl) rfl (by decide)

theorem ok_bill_sheet_divide_1 : FunOk Tryz.prog 188 sp_bill_sheet_divide_1 := fun_ok (X := cx_bill_sheet_divide_1) (.nil _) (by kernel_rfl) sp_bill_sheet_divide_1 anns_bill_sheet_divide_1 none (by kernel_rfl) (fun x y h => (den_bill_sheet_divide_1 x).trans h)

def anns_slices_IndexFunc_int : List (Nat × Ann) := [(2, ⟨[(0, .val (.slice tI)), (1, .val (.clo 188 .unit)), (7, .val tI), (8, .val tI)], [], [], fuelOf _⟩),
 (200002, ⟨[], [], [], fun _ => 0⟩)]

noncomputable def sp_slices_IndexFunc_int : FSpec := ⟨[.val (.slice tI), .val (.clo 188 .unit)], [.val tI], fun x => slices_IndexFunc_int x.1 x.2.1⟩

noncomputable def cx_slices_IndexFunc_int : Cx := ⟨Tryz.prog, [(188, sp_bill_sheet_divide_1)]⟩

theorem den_slices_IndexFunc_int : ∀ x, denF cx_slices_IndexFunc_int anns_slices_IndexFunc_int none Tryz.f217 sp_slices_IndexFunc_int x = sp_slices_IndexFunc_int.m x := by intro x; kernel_rfl

theorem hb_slices_IndexFunc_int : HasBody Tryz.prog 217 := has_body (fn := Tryz.f217) (by kernel_rfl) rfl (by decide)

theorem ok_slices_IndexFunc_int : FunOk Tryz.prog 217 sp_slices_IndexFunc_int := fun_ok (X := cx_slices_IndexFunc_int) (.cons ok_bill_sheet_divide_1 hb_bill_sheet_divide_1 (.nil _)) (by kernel_rfl) sp_slices_IndexFunc_int anns_slices_IndexFunc_int none (by kernel_rfl) (fun x y h => (den_slices_IndexFunc_int x).trans h)

def anns_slices_ContainsFunc_int : List (Nat × Ann) := []

noncomputable def sp_slices_ContainsFunc_int : FSpec := ⟨[.val (.slice tI), .val (.clo 188 .unit)], [.val .bool], fun x => slices_ContainsFunc_int x.1 x.2.1⟩

noncomputable def cx_slices_ContainsFunc_int : Cx := ⟨Tryz.prog, [(217, sp_slices_IndexFunc_int)]⟩

theorem den_slices_ContainsFunc_int : ∀ x, denF cx_slices_ContainsFunc_int anns_slices_ContainsFunc_int none Tryz.f187 sp_slices_ContainsFunc_int x = sp_slices_ContainsFunc_int.m x := by intro x; kernel_rfl

theorem hb_slices_ContainsFunc_int : HasBody Tryz.prog 187 := has_body (fn := Tryz.f187) (by kernel_rfl) rfl (by decide)

theorem ok_slices_ContainsFunc_int : FunOk Tryz.prog 187 sp_slices_ContainsFunc_int := fun_ok (X := cx_slices_ContainsFunc_int) (.cons ok_slices_IndexFunc_int hb_slices_IndexFunc_int (.nil _)) (by kernel_rfl) sp_slices_ContainsFunc_int anns_slices_ContainsFunc_int none (by kernel_rfl) (fun x y h => (den_slices_ContainsFunc_int x).trans h)

def anns_amount_Made : List (Nat × Ann) := []

noncomputable def sp_amount_Made : FSpec := ⟨[.val t_whole_Int, .val tI], [.val t_api_Decimal, .val tI], fun x => amount_Made x.1 x.2.1⟩

noncomputable def cx_amount_Made : Cx := ⟨Tryz.prog, [(137, sp_whole_Int_Int)]⟩

theorem den_amount_Made : ∀ x, denF cx_amount_Made anns_amount_Made none Tryz.f86 sp_amount_Made x = sp_amount_Made.m x := by intro x; kernel_rfl

theorem hb_amount_Made : HasBody Tryz.prog 86 := has_body (fn := Tryz.f86) (by kernel_rfl) rfl (by decide)

theorem ok_amount_Made : FunOk Tryz.prog 86 sp_amount_Made := fun_ok (X := cx_amount_Made) (.cons ok_whole_Int_Int hb_whole_Int_Int (.nil _)) (by kernel_rfl) sp_amount_Made anns_amount_Made none (by kernel_rfl) (fun x y h => (den_amount_Made x).trans h)

def anns_amount_weightsFault : List (Nat × Ann) := [(7, ⟨[(3, .val tI), (12, .val (.slice tI)), (13, .val tI), (14, .val tI)], [], [], fuelOf _⟩),
 (200007, ⟨[(3, .val tI)], [], [], fun _ => 0⟩)]

noncomputable def sp_amount_weightsFault : FSpec := ⟨[.val (.slice tI)], [.val tI], fun x => amount_weightsFault x.1⟩

noncomputable def cx_amount_weightsFault : Cx := ⟨Tryz.prog, [(39, sp_kit_Outside)]⟩

theorem den_amount_weightsFault : ∀ x, denF cx_amount_weightsFault anns_amount_weightsFault none Tryz.f218 sp_amount_weightsFault x = sp_amount_weightsFault.m x := by intro x; kernel_rfl

theorem hb_amount_weightsFault : HasBody Tryz.prog 218 := has_body (fn := Tryz.f218) (by kernel_rfl) rfl (by decide)

theorem ok_amount_weightsFault : FunOk Tryz.prog 218 sp_amount_weightsFault := fun_ok (X := cx_amount_weightsFault) (.cons ok_kit_Outside hb_kit_Outside (.nil _)) (by kernel_rfl) sp_amount_weightsFault anns_amount_weightsFault none (by kernel_rfl) (fun x y h => (den_amount_weightsFault x).trans h)

def anns_amount_Shares_1 : List (Nat × Ann) := []

noncomputable def sp_amount_Shares_1 : FSpec := ⟨[.val t_amount_share, .val t_amount_share], [.val tI], fun x => amount_Shares_1 x.1 x.2.1⟩

noncomputable def cx_amount_Shares_1 : Cx := ⟨Tryz.prog, [(116, sp_whole_Int_Compare)]⟩

theorem den_amount_Shares_1 : ∀ x, denF cx_amount_Shares_1 anns_amount_Shares_1 none Tryz.f220 sp_amount_Shares_1 x = sp_amount_Shares_1.m x := by intro x; kernel_rfl

theorem hb_amount_Shares_1 : HasBody Tryz.prog 220 := has_body (fn := Tryz.f220) (by kernel_rfl) rfl (by decide)

theorem ok_amount_Shares_1 : FunOk Tryz.prog 220 sp_amount_Shares_1 := fun_ok (X := cx_amount_Shares_1) (.cons ok_whole_Int_Compare hb_whole_Int_Compare (.nil _)) (by kernel_rfl) sp_amount_Shares_1 anns_amount_Shares_1 none (by kernel_rfl) (fun x y h => (den_amount_Shares_1 x).trans h)

def anns_slices_insertionSortCmpFunc_amount_share : List (Nat × Ann) := [(1, ⟨[(0, .rowR 10250000), (1, .val tI), (2, .val tI), (3, .val (.clo 220 .unit)), (8, .val tI)], [], [.rowC 10250000 261 t_amount_share], fuelOf _⟩),
 (4, ⟨[(0, .rowR 10250000), (1, .val tI), (2, .val tI), (3, .val (.clo 220 .unit)), (8, .val tI), (9, .val tI)], [], [.rowC 10250000 261 t_amount_share], fuelOf _⟩),
 (200001, ⟨[], [], [.rowC 10250000 261 t_amount_share], fun _ => 0⟩),
 (200004, ⟨[(0, .rowR 10250000), (1, .val tI), (2, .val tI), (3, .val (.clo 220 .unit)), (8, .val tI)], [], [.rowC 10250000 261 t_amount_share], fun _ => 0⟩)]

noncomputable def sp_slices_insertionSortCmpFunc_amount_share : FSpec := ⟨[.mrow 261 t_amount_share, .val tI, .val tI, .val (.clo 220 .unit)], [], fun x => slices_insertionSortCmpFunc_amount_share x.1 x.2.1 x.2.2.1 x.2.2.2.1⟩

noncomputable def cx_slices_insertionSortCmpFunc_amount_share : Cx := ⟨Tryz.prog, [(220, sp_amount_Shares_1)]⟩

theorem den_slices_insertionSortCmpFunc_amount_share : ∀ x, denF cx_slices_insertionSortCmpFunc_amount_share anns_slices_insertionSortCmpFunc_amount_share none Tryz.f241 sp_slices_insertionSortCmpFunc_amount_share x = sp_slices_insertionSortCmpFunc_amount_share.m x := by intro x; kernel_rfl

theorem hb_slices_insertionSortCmpFunc_amount_share : HasBody Tryz.prog 241 := has_body (fn := Tryz.f241) (by kernel_rfl) rfl (by decide)

theorem ok_slices_insertionSortCmpFunc_amount_share : FunOk Tryz.prog 241 sp_slices_insertionSortCmpFunc_amount_share := fun_ok (X := cx_slices_insertionSortCmpFunc_amount_share) (.cons ok_amount_Shares_1 hb_amount_Shares_1 (.nil _)) (by kernel_rfl) sp_slices_insertionSortCmpFunc_amount_share anns_slices_insertionSortCmpFunc_amount_share none (by kernel_rfl) (fun x y h => (den_slices_insertionSortCmpFunc_amount_share x).trans h)

def anns_slices_swapRangeCmpFunc_amount_share : List (Nat × Ann) := [(1, ⟨[(0, .rowR 10250000), (1, .val tI), (2, .val tI), (3, .val tI), (10, .val tI)], [], [.rowC 10250000 261 t_amount_share], fuelOf _⟩),
 (200001, ⟨[], [], [.rowC 10250000 261 t_amount_share], fun _ => 0⟩)]

noncomputable def sp_slices_swapRangeCmpFunc_amount_share : FSpec := ⟨[.mrow 261 t_amount_share, .val tI, .val tI, .val tI, .val (.clo 220 .unit)], [], fun x => slices_swapRangeCmpFunc_amount_share x.1 x.2.1 x.2.2.1 x.2.2.2.1 x.2.2.2.2.1⟩

noncomputable def cx_slices_swapRangeCmpFunc_amount_share : Cx := ⟨Tryz.prog, []⟩

theorem den_slices_swapRangeCmpFunc_amount_share : ∀ x, denF cx_slices_swapRangeCmpFunc_amount_share anns_slices_swapRangeCmpFunc_amount_share none Tryz.f244 sp_slices_swapRangeCmpFunc_amount_share x = sp_slices_swapRangeCmpFunc_amount_share.m x := by intro x; kernel_rfl

theorem hb_slices_swapRangeCmpFunc_amount_share : HasBody Tryz.prog 244 := has_body (fn := Tryz.f244) (by kernel_rfl) rfl (by decide)

theorem ok_slices_swapRangeCmpFunc_amount_share : FunOk Tryz.prog 244 sp_slices_swapRangeCmpFunc_amount_share := fun_ok (X := cx_slices_swapRangeCmpFunc_amount_share) (.nil _) (by kernel_rfl) sp_slices_swapRangeCmpFunc_amount_share anns_slices_swapRangeCmpFunc_amount_share none (by kernel_rfl) (fun x y h => (den_slices_swapRangeCmpFunc_amount_share x).trans h)

def anns_slices_rotateCmpFunc_amount_share : List (Nat × Ann) := [(2, ⟨[(0, .rowR 10250000), (2, .val tI), (4, .val (.clo 220 .unit)), (10, .val tI), (11, .val tI)], [], [.rowC 10250000 261 t_amount_share], fuelOf _⟩),
 (200002, ⟨[(0, .rowR 10250000), (2, .val tI), (4, .val (.clo 220 .unit)), (10, .val tI)], [], [.rowC 10250000 261 t_amount_share], fun _ => 0⟩)]

noncomputable def sp_slices_rotateCmpFunc_amount_share : FSpec := ⟨[.mrow 261 t_amount_share, .val tI, .val tI, .val tI, .val (.clo 220 .unit)], [], fun x => slices_rotateCmpFunc_amount_share x.1 x.2.1 x.2.2.1 x.2.2.2.1 x.2.2.2.2.1⟩

noncomputable def cx_slices_rotateCmpFunc_amount_share : Cx := ⟨Tryz.prog, [(244, sp_slices_swapRangeCmpFunc_amount_share)]⟩

theorem den_slices_rotateCmpFunc_amount_share : ∀ x, denF cx_slices_rotateCmpFunc_amount_share anns_slices_rotateCmpFunc_amount_share none Tryz.f243 sp_slices_rotateCmpFunc_amount_share x = sp_slices_rotateCmpFunc_amount_share.m x := by intro x; kernel_rfl

theorem hb_slices_rotateCmpFunc_amount_share : HasBody Tryz.prog 243 := has_body (fn := Tryz.f243) (by kernel_rfl) rfl (by decide)

theorem ok_slices_rotateCmpFunc_amount_share : FunOk Tryz.prog 243 sp_slices_rotateCmpFunc_amount_share := fun_ok (X := cx_slices_rotateCmpFunc_amount_share) (.cons ok_slices_swapRangeCmpFunc_amount_share hb_slices_swapRangeCmpFunc_amount_share (.nil _)) (by kernel_rfl) sp_slices_rotateCmpFunc_amount_share anns_slices_rotateCmpFunc_amount_share none (by kernel_rfl) (fun x y h => (den_slices_rotateCmpFunc_amount_share x).trans h)

def anns_slices_symMergeCmpFunc_amount_share : List (Nat × Ann) := [(3, ⟨[(0, .rowR 10250000), (1, .val tI), (4, .val (.clo 220 .unit)), (10, .val tI), (11, .val tI)], [], [.rowC 10250000 261 t_amount_share], fuelOf _⟩),
 (9, ⟨[(0, .rowR 10250000), (10, .val tI), (13, .val tI)], [], [.rowC 10250000 261 t_amount_share], fuelOf _⟩),
 (15, ⟨[(0, .rowR 10250000), (2, .val tI), (4, .val (.clo 220 .unit)), (14, .val tI), (15, .val tI)], [], [.rowC 10250000 261 t_amount_share], fuelOf _⟩),
 (21, ⟨[(0, .rowR 10250000), (14, .val tI), (17, .val tI)], [], [.rowC 10250000 261 t_amount_share], fuelOf _⟩),
 (33, ⟨[(0, .rowR 10250000), (1, .val tI), (2, .val tI), (3, .val tI), (4, .val (.clo 220 .unit)), (18, .val tI), (19, .val tI), (20, .val tI), (21, .val tI), (22, .val tI)], [], [.rowC 10250000 261 t_amount_share], fuelOf _⟩),
 (100030, ⟨[(0, .rowR 10250000), (1, .val tI), (2, .val tI), (3, .val tI), (4, .val (.clo 220 .unit)), (18, .val tI), (19, .val tI), (20, .val tI), (21, .val tI)], [], [.rowC 10250000 261 t_amount_share], fun _ => 0⟩),
 (100040, ⟨[(0, .rowR 10250000), (1, .val tI), (3, .val tI), (4, .val (.clo 220 .unit)), (18, .val tI), (20, .val tI), (24, .val tI)], [], [.rowC 10250000 261 t_amount_share], fun _ => 0⟩),
 (100042, ⟨[(0, .rowR 10250000), (3, .val tI), (4, .val (.clo 220 .unit)), (18, .val tI), (24, .val tI)], [], [.rowC 10250000 261 t_amount_share], fun _ => 0⟩),
 (200003, ⟨[(0, .rowR 10250000), (1, .val tI), (10, .val tI)], [], [.rowC 10250000 261 t_amount_share], fun _ => 0⟩),
 (200009, ⟨[], [], [.rowC 10250000 261 t_amount_share], fun _ => 0⟩),
 (200015, ⟨[(0, .rowR 10250000), (2, .val tI), (14, .val tI)], [], [.rowC 10250000 261 t_amount_share], fun _ => 0⟩),
 (200021, ⟨[], [], [.rowC 10250000 261 t_amount_share], fun _ => 0⟩),
 (200033, ⟨[(0, .rowR 10250000), (1, .val tI), (2, .val tI), (3, .val tI), (4, .val (.clo 220 .unit)), (18, .val tI), (19, .val tI), (20, .val tI)], [], [.rowC 10250000 261 t_amount_share], fun _ => 0⟩)]

def ps_slices_symMergeCmpFunc_amount_share : List PM := [.mrow 261 t_amount_share, .val tI, .val tI, .val tI, .val (.clo 220 .unit)]
def rs_slices_symMergeCmpFunc_amount_share : List RM := []

noncomputable def cxs_slices_symMergeCmpFunc_amount_share : List (Nat × FSpec) := [(220, sp_amount_Shares_1), (243, sp_slices_rotateCmpFunc_amount_share)]

noncomputable def sp_slices_symMergeCmpFunc_amount_share : FSpec := ⟨ps_slices_symMergeCmpFunc_amount_share, rs_slices_symMergeCmpFunc_amount_share, fun x => slices_symMergeCmpFunc_amount_share x.1 x.2.1 x.2.2.1 x.2.2.2.1 x.2.2.2.2.1⟩

theorem den_slices_symMergeCmpFunc_amount_share : ∀ (self : inDen ps_slices_symMergeCmpFunc_amount_share → Option (outDen ps_slices_symMergeCmpFunc_amount_share rs_slices_symMergeCmpFunc_amount_share)) (x : inDen ps_slices_symMergeCmpFunc_amount_share), denF ⟨Tryz.prog, (242, ⟨ps_slices_symMergeCmpFunc_amount_share, rs_slices_symMergeCmpFunc_amount_share, self⟩) :: cxs_slices_symMergeCmpFunc_amount_share⟩ anns_slices_symMergeCmpFunc_amount_share none Tryz.f242 ⟨ps_slices_symMergeCmpFunc_amount_share, rs_slices_symMergeCmpFunc_amount_share, fun x => slices_symMergeCmpFunc_amount_share_F self x.1 x.2.1 x.2.2.1 x.2.2.2.1 x.2.2.2.2.1⟩ x = slices_symMergeCmpFunc_amount_share_F self x.1 x.2.1 x.2.2.1 x.2.2.2.1 x.2.2.2.2.1 := by intro self x; kernel_rfl

theorem hb_slices_symMergeCmpFunc_amount_share : HasBody Tryz.prog 242 := has_body (fn := Tryz.f242) (by kernel_rfl) rfl (by decide)

theorem ok_slices_symMergeCmpFunc_amount_share : FunOk Tryz.prog 242 sp_slices_symMergeCmpFunc_amount_share := fun_ok_fuel (ps := ps_slices_symMergeCmpFunc_amount_share) (rs := rs_slices_symMergeCmpFunc_amount_share) (m := fun n x => recM (fun self x => slices_symMergeCmpFunc_amount_share_F self x.1 x.2.1 x.2.2.1 x.2.2.2.1 x.2.2.2.2.1) n x) (fun_ok_rec (P := Tryz.prog) (specs := cxs_slices_symMergeCmpFunc_amount_share) (ps := ps_slices_symMergeCmpFunc_amount_share) (rs := rs_slices_symMergeCmpFunc_amount_share) (.cons ok_amount_Shares_1 hb_amount_Shares_1 (.cons ok_slices_rotateCmpFunc_amount_share hb_slices_rotateCmpFunc_amount_share (.nil _))) (by kernel_rfl) (fun self x => slices_symMergeCmpFunc_amount_share_F self x.1 x.2.1 x.2.2.1 x.2.2.2.1 x.2.2.2.2.1) anns_slices_symMergeCmpFunc_amount_share none (by kernel_rfl) hb_slices_symMergeCmpFunc_amount_share den_slices_symMergeCmpFunc_amount_share) (fun x => slices_symMergeCmpFunc_amount_share_fuel x.1 x.2.1 x.2.2.1 x.2.2.2.1 x.2.2.2.2.1)

def anns_slices_stableCmpFunc_amount_share : List (Nat × Ann) := [(2, ⟨[(0, .rowR 10250000), (1, .val tI), (2, .val (.clo 220 .unit)), (6, .val tI), (7, .val tI), (8, .val tI)], [], [.rowC 10250000 261 t_amount_share], fuelOf _⟩),
 (7, ⟨[(0, .rowR 10250000), (1, .val tI), (2, .val (.clo 220 .unit)), (6, .val tI)], [], [.rowC 10250000 261 t_amount_share], fuelOf _⟩),
 (9, ⟨[(0, .rowR 10250000), (1, .val tI), (2, .val (.clo 220 .unit)), (6, .val tI), (7, .val tI), (8, .val tI)], [], [.rowC 10250000 261 t_amount_share], fuelOf _⟩),
 (200002, ⟨[(0, .rowR 10250000), (1, .val tI), (2, .val (.clo 220 .unit)), (6, .val tI), (7, .val tI)], [], [.rowC 10250000 261 t_amount_share], fun _ => 0⟩),
 (200007, ⟨[], [], [.rowC 10250000 261 t_amount_share], fun _ => 0⟩),
 (200009, ⟨[(0, .rowR 10250000), (1, .val tI), (2, .val (.clo 220 .unit)), (6, .val tI), (7, .val tI)], [], [.rowC 10250000 261 t_amount_share], fun _ => 0⟩)]

noncomputable def sp_slices_stableCmpFunc_amount_share : FSpec := ⟨[.mrow 261 t_amount_share, .val tI, .val (.clo 220 .unit)], [], fun x => slices_stableCmpFunc_amount_share x.1 x.2.1 x.2.2.1⟩

noncomputable def cx_slices_stableCmpFunc_amount_share : Cx := ⟨Tryz.prog, [(241, sp_slices_insertionSortCmpFunc_amount_share), (242, sp_slices_symMergeCmpFunc_amount_share)]⟩

theorem den_slices_stableCmpFunc_amount_share : ∀ x, denF cx_slices_stableCmpFunc_amount_share anns_slices_stableCmpFunc_amount_share none Tryz.f234 sp_slices_stableCmpFunc_amount_share x = sp_slices_stableCmpFunc_amount_share.m x := by intro x; kernel_rfl

theorem hb_slices_stableCmpFunc_amount_share : HasBody Tryz.prog 234 := has_body (fn := Tryz.f234) (by kernel_rfl) rfl (by decide)

theorem ok_slices_stableCmpFunc_amount_share : FunOk Tryz.prog 234 sp_slices_stableCmpFunc_amount_share := fun_ok (X := cx_slices_stableCmpFunc_amount_share) (.cons ok_slices_insertionSortCmpFunc_amount_share hb_slices_insertionSortCmpFunc_amount_share (.cons ok_slices_symMergeCmpFunc_amount_share hb_slices_symMergeCmpFunc_amount_share (.nil _))) (by kernel_rfl) sp_slices_stableCmpFunc_amount_share anns_slices_stableCmpFunc_amount_share none (by kernel_rfl) (fun x y h => (den_slices_stableCmpFunc_amount_share x).trans h)

def anns_slices_SortStableFunc_amount_share : List (Nat × Ann) := []

noncomputable def sp_slices_SortStableFunc_amount_share : FSpec := ⟨[.mrow 261 t_amount_share, .val (.clo 220 .unit)], [], fun x => slices_SortStableFunc_amount_share x.1 x.2.1⟩

noncomputable def cx_slices_SortStableFunc_amount_share : Cx := ⟨Tryz.prog, [(234, sp_slices_stableCmpFunc_amount_share)]⟩

theorem den_slices_SortStableFunc_amount_share : ∀ x, denF cx_slices_SortStableFunc_amount_share anns_slices_SortStableFunc_amount_share none Tryz.f219 sp_slices_SortStableFunc_amount_share x = sp_slices_SortStableFunc_amount_share.m x := by intro x; kernel_rfl

theorem hb_slices_SortStableFunc_amount_share : HasBody Tryz.prog 219 := has_body (fn := Tryz.f219) (by kernel_rfl) rfl (by decide)

theorem ok_slices_SortStableFunc_amount_share : FunOk Tryz.prog 219 sp_slices_SortStableFunc_amount_share := fun_ok (X := cx_slices_SortStableFunc_amount_share) (.cons ok_slices_stableCmpFunc_amount_share hb_slices_stableCmpFunc_amount_share (.nil _)) (by kernel_rfl) sp_slices_SortStableFunc_amount_share anns_slices_SortStableFunc_amount_share none (by kernel_rfl) (fun x y h => (den_slices_SortStableFunc_amount_share x).trans h)

def anns_amount_Shares : List (Nat × Ann) := [(9, ⟨[(1, .val (.slice tI)), (2, .ref 2 0), (8, .val tI), (33, .val (.slice tI)), (34, .val tI), (35, .val tI)], [(2, [.val tI, .val tI])], [], fuelOf _⟩),
 (17, ⟨[(2, .ref 2 0), (8, .val tI), (11, .val tI), (12, .val tI), (13, .own 261 t_amount_share), (50, .val (.slice tI)), (51, .val tI), (52, .val tI)], [(2, [.val tI, .val tI])], [], fuelOf _⟩),
 (27, ⟨[(2, .ref 2 0), (12, .val tI), (20, .rowR 88), (89, .own 261 t_amount_share), (90, .val tI), (91, .val tI)], [(2, [.val tI, .val tI])], [.rowC 88 33 t_api_Decimal], fuelOf _⟩),
 (100030, ⟨[(2, .ref 2 0), (12, .val tI), (20, .rowR 88), (22, .ref 22 0), (89, .own 261 t_amount_share), (90, .val tI), (91, .val tI)], [(2, [.val tI, .val tI]), (22, [.val tI, .val tI, .val .bool, .val (.slice (.int .u32))])], [.rowC 88 33 t_api_Decimal], fun _ => 0⟩),
 (100032, ⟨[(2, .ref 2 0), (12, .val tI), (20, .rowR 88), (22, .ref 22 0), (89, .own 261 t_amount_share), (90, .val tI), (91, .val tI)], [(2, [.val tI, .val tI]), (22, [.val tI, .val tI, .val .bool, .val (.slice (.int .u32))])], [.rowC 88 33 t_api_Decimal], fun _ => 0⟩),
 (200009, ⟨[(1, .val (.slice tI)), (2, .ref 2 0), (8, .val tI)], [(2, [.val tI, .val tI])], [], fun _ => 0⟩),
 (200017, ⟨[(2, .ref 2 0), (12, .val tI), (13, .own 261 t_amount_share)], [(2, [.val tI, .val tI])], [], fun _ => 0⟩),
 (200027, ⟨[(20, .rowR 88)], [], [.rowC 88 33 t_api_Decimal], fun _ => 0⟩)]

noncomputable def sp_amount_Shares : FSpec := ⟨[.val t_api_Decimal, .val (.slice tI)], [.val (.slice t_api_Decimal), .val tI], fun x => amount_Shares x.1 x.2.1⟩

noncomputable def cx_amount_Shares : Cx := ⟨Tryz.prog, [(102, sp_amount_CheckDecimal), (127, sp_whole_Of), (137, sp_whole_Int_Int), (143, sp_whole_Int_Times), (195, sp_whole_Int_By), (218, sp_amount_weightsFault), (219, sp_slices_SortStableFunc_amount_share)]⟩

theorem den_amount_Shares : ∀ x, denF cx_amount_Shares anns_amount_Shares none Tryz.f189 sp_amount_Shares x = sp_amount_Shares.m x := by intro x; kernel_rfl

theorem hb_amount_Shares : HasBody Tryz.prog 189 := has_body (fn := Tryz.f189) (by kernel_rfl) rfl (by decide)

theorem ok_amount_Shares : FunOk Tryz.prog 189 sp_amount_Shares := fun_ok (X := cx_amount_Shares) (.cons ok_amount_CheckDecimal hb_amount_CheckDecimal (.cons ok_whole_Of hb_whole_Of (.cons ok_whole_Int_Int hb_whole_Int_Int (.cons ok_whole_Int_Times hb_whole_Int_Times (.cons ok_whole_Int_By hb_whole_Int_By (.cons ok_amount_weightsFault hb_amount_weightsFault (.cons ok_slices_SortStableFunc_amount_share hb_slices_SortStableFunc_amount_share (.nil _)))))))) (by kernel_rfl) sp_amount_Shares anns_amount_Shares none (by kernel_rfl) (fun x y h => (den_amount_Shares x).trans h)

def anns_bill_sheet_divide : List (Nat × Ann) := [(4, ⟨[(0, .ref 2000 0), (3, .ref 3 0), (5, .own 3 tI), (6, .val .bool), (20, .val (.slice t_whole_Int)), (21, .val tI), (22, .val tI)], [(3, [.val .bool, .val (.slice (.int .u32))]), (2000, [.val .str, .val .str, .val tI, .val tI, .val tI, .val .bool, .val (.slice t_api_Rate), .val (.slice t_api_BillLine), .val (.slice t_api_Extra), .rowR 10250002, .val (.slice t_whole_Int), .rowR 10250004, .rowR 10250005, .rowR 10250006, .rowR 10250007, .rowR 10250008])], [.rowC 10250002 135 t_whole_Int, .rowC 10250004 135 t_whole_Int, .rowC 10250005 186 t_bill_share, .rowC 10250006 135 t_whole_Int, .rowC 10250007 4 .bool, .rowC 10250008 135 t_whole_Int], fuelOf _⟩),
 (21, ⟨[(0, .ref 2000 0), (84, .val (.slice t_api_Decimal)), (85, .val tI), (86, .val tI)], [(2000, [.val .str, .val .str, .val tI, .val tI, .val tI, .val .bool, .val (.slice t_api_Rate), .val (.slice t_api_BillLine), .val (.slice t_api_Extra), .own 135 t_whole_Int, .val (.slice t_whole_Int), .own 135 t_whole_Int, .own 186 t_bill_share, .own 135 t_whole_Int, .own 4 .bool, .own 135 t_whole_Int])], [], fuelOf _⟩),
 (200004, ⟨[(0, .ref 2000 0), (3, .ref 3 0), (5, .own 3 tI), (6, .val .bool)], [(3, [.val .bool, .val (.slice (.int .u32))]), (2000, [.val .str, .val .str, .val tI, .val tI, .val tI, .val .bool, .val (.slice t_api_Rate), .val (.slice t_api_BillLine), .val (.slice t_api_Extra), .rowR 10250002, .val (.slice t_whole_Int), .rowR 10250004, .rowR 10250005, .rowR 10250006, .rowR 10250007, .rowR 10250008])], [.rowC 10250002 135 t_whole_Int, .rowC 10250004 135 t_whole_Int, .rowC 10250005 186 t_bill_share, .rowC 10250006 135 t_whole_Int, .rowC 10250007 4 .bool, .rowC 10250008 135 t_whole_Int], fun _ => 0⟩),
 (200021, ⟨[], [(2000, [.val .str, .val .str, .val tI, .val tI, .val tI, .val .bool, .val (.slice t_api_Rate), .val (.slice t_api_BillLine), .val (.slice t_api_Extra), .own 135 t_whole_Int, .val (.slice t_whole_Int), .own 135 t_whole_Int, .own 186 t_bill_share, .own 135 t_whole_Int, .own 4 .bool, .own 135 t_whole_Int])], [], fun _ => 0⟩)]

noncomputable def sp_bill_sheet_divide : FSpec := ⟨[.box [.val t_api_Invoice, .row 135 t_whole_Int, .val (.slice t_whole_Int), .row 135 t_whole_Int, .row 186 t_bill_share, .row 135 t_whole_Int, .row 4 .bool, .row 135 t_whole_Int], .val t_whole_Int], [.val tI], fun x => bill_sheet_divide x.1 x.2.1⟩

noncomputable def cx_bill_sheet_divide : Cx := ⟨Tryz.prog, [(86, sp_amount_Made), (127, sp_whole_Of), (128, sp_bill_sheet_bring), (137, sp_whole_Int_Int), (158, sp_whole_Int_Sign), (186, sp_whole_Int_Abs), (187, sp_slices_ContainsFunc_int), (189, sp_amount_Shares)]⟩

theorem den_bill_sheet_divide : ∀ x, denF cx_bill_sheet_divide anns_bill_sheet_divide none Tryz.f129 sp_bill_sheet_divide x = sp_bill_sheet_divide.m x := by intro x; kernel_rfl

theorem hb_bill_sheet_divide : HasBody Tryz.prog 129 := has_body (fn := Tryz.f129) (by kernel_rfl) rfl (by decide)

theorem ok_bill_sheet_divide : FunOk Tryz.prog 129 sp_bill_sheet_divide := fun_ok (X := cx_bill_sheet_divide) (.cons ok_amount_Made hb_amount_Made (.cons ok_whole_Of hb_whole_Of (.cons ok_bill_sheet_bring hb_bill_sheet_bring (.cons ok_whole_Int_Int hb_whole_Int_Int (.cons ok_whole_Int_Sign hb_whole_Int_Sign (.cons ok_whole_Int_Abs hb_whole_Int_Abs (.cons ok_slices_ContainsFunc_int hb_slices_ContainsFunc_int (.cons ok_amount_Shares hb_amount_Shares (.nil _))))))))) (by kernel_rfl) sp_bill_sheet_divide anns_bill_sheet_divide none (by kernel_rfl) (fun x y h => (den_bill_sheet_divide x).trans h)

def anns_bill_sheet_extra : List (Nat × Ann) := [(6, ⟨[(0, .ref 2000 0), (3, .ref 3 0), (5, .ref 5 0), (6, .val tI), (7, .val .bool), (35, .val (.slice t_whole_Int)), (36, .val tI), (37, .val tI)], [(3, [.val .bool, .val tI, .val tI, .val .str]), (5, [.val .bool, .val (.slice (.int .u32))]), (2000, [.val .str, .val .str, .val tI, .val tI, .val tI, .val .bool, .val (.slice t_api_Rate), .val (.slice t_api_BillLine), .val (.slice t_api_Extra), .rowR 10250002, .val (.slice t_whole_Int), .rowR 10250004, .rowR 10250005, .rowR 10250006, .rowR 10250007, .rowR 10250008])], [.rowC 10250002 135 t_whole_Int, .rowC 10250004 135 t_whole_Int, .rowC 10250005 186 t_bill_share, .rowC 10250006 135 t_whole_Int, .rowC 10250007 4 .bool, .rowC 10250008 135 t_whole_Int], fuelOf _⟩),
 (100005, ⟨[(0, .ref 2000 0), (3, .ref 3 0), (5, .ref 5 0), (6, .val tI), (7, .val .bool)], [(3, [.val .bool, .val tI, .val tI, .val .str]), (5, [.val .bool, .val (.slice (.int .u32))]), (2000, [.val .str, .val .str, .val tI, .val tI, .val tI, .val .bool, .val (.slice t_api_Rate), .val (.slice t_api_BillLine), .val (.slice t_api_Extra), .rowR 10250002, .val (.slice t_whole_Int), .rowR 10250004, .rowR 10250005, .rowR 10250006, .rowR 10250007, .rowR 10250008])], [.rowC 10250002 135 t_whole_Int, .rowC 10250004 135 t_whole_Int, .rowC 10250005 186 t_bill_share, .rowC 10250006 135 t_whole_Int, .rowC 10250007 4 .bool, .rowC 10250008 135 t_whole_Int], fun _ => 0⟩),
 (100012, ⟨[(0, .ref 2000 0), (6, .val tI), (7, .val .bool), (10, .ref 10 0)], [(10, [.val .bool, .val (.slice (.int .u32))]), (2000, [.val .str, .val .str, .val tI, .val tI, .val tI, .val .bool, .val (.slice t_api_Rate), .val (.slice t_api_BillLine), .val (.slice t_api_Extra), .rowR 10250002, .val (.slice t_whole_Int), .rowR 10250004, .rowR 10250005, .rowR 10250006, .rowR 10250007, .rowR 10250008])], [.rowC 10250002 135 t_whole_Int, .rowC 10250004 135 t_whole_Int, .rowC 10250005 186 t_bill_share, .rowC 10250006 135 t_whole_Int, .rowC 10250007 4 .bool, .rowC 10250008 135 t_whole_Int], fun _ => 0⟩),
 (200006, ⟨[(0, .ref 2000 0), (3, .ref 3 0), (5, .ref 5 0), (6, .val tI), (7, .val .bool)], [(3, [.val .bool, .val tI, .val tI, .val .str]), (5, [.val .bool, .val (.slice (.int .u32))]), (2000, [.val .str, .val .str, .val tI, .val tI, .val tI, .val .bool, .val (.slice t_api_Rate), .val (.slice t_api_BillLine), .val (.slice t_api_Extra), .rowR 10250002, .val (.slice t_whole_Int), .rowR 10250004, .rowR 10250005, .rowR 10250006, .rowR 10250007, .rowR 10250008])], [.rowC 10250002 135 t_whole_Int, .rowC 10250004 135 t_whole_Int, .rowC 10250005 186 t_bill_share, .rowC 10250006 135 t_whole_Int, .rowC 10250007 4 .bool, .rowC 10250008 135 t_whole_Int], fun _ => 0⟩)]

noncomputable def sp_bill_sheet_extra : FSpec := ⟨[.box [.val t_api_Invoice, .row 135 t_whole_Int, .val (.slice t_whole_Int), .row 135 t_whole_Int, .row 186 t_bill_share, .row 135 t_whole_Int, .row 4 .bool, .row 135 t_whole_Int], .val t_api_Extra], [.val tI], fun x => bill_sheet_extra x.1 x.2.1⟩

noncomputable def cx_bill_sheet_extra : Cx := ⟨Tryz.prog, [(71, sp_whole_Int_Plus), (72, sp_slices_ContainsFunc_whole_Int_b), (74, sp_bill_fits), (88, sp_amount_Scaled), (89, sp_bill_part), (124, sp_bill_rateAt), (127, sp_whole_Of), (128, sp_bill_sheet_bring), (129, sp_bill_sheet_divide)]⟩

theorem den_bill_sheet_extra : ∀ x, denF cx_bill_sheet_extra anns_bill_sheet_extra none Tryz.f68 sp_bill_sheet_extra x = sp_bill_sheet_extra.m x := by intro x; kernel_rfl

theorem hb_bill_sheet_extra : HasBody Tryz.prog 68 := has_body (fn := Tryz.f68) (by kernel_rfl) rfl (by decide)

theorem ok_bill_sheet_extra : FunOk Tryz.prog 68 sp_bill_sheet_extra := fun_ok (X := cx_bill_sheet_extra) (.cons ok_whole_Int_Plus hb_whole_Int_Plus (.cons ok_slices_ContainsFunc_whole_Int_b hb_slices_ContainsFunc_whole_Int_b (.cons ok_bill_fits hb_bill_fits (.cons ok_amount_Scaled hb_amount_Scaled (.cons ok_bill_part hb_bill_part (.cons ok_bill_rateAt hb_bill_rateAt (.cons ok_whole_Of hb_whole_Of (.cons ok_bill_sheet_bring hb_bill_sheet_bring (.cons ok_bill_sheet_divide hb_bill_sheet_divide (.nil _)))))))))) (by kernel_rfl) sp_bill_sheet_extra anns_bill_sheet_extra none (by kernel_rfl) (fun x y h => (den_bill_sheet_extra x).trans h)

def anns_bill_sheet_tax : List (Nat × Ann) := [(3, ⟨[(0, .ref 2000 0), (20, .val (.slice t_api_Rate)), (21, .val tI), (22, .val tI)], [(2000, [.val .str, .val .str, .val tI, .val tI, .val tI, .val .bool, .val (.slice t_api_Rate), .val (.slice t_api_BillLine), .val (.slice t_api_Extra), .rowR 10250002, .val (.slice t_whole_Int), .rowR 10250004, .rowR 10250005, .rowR 10250006, .rowR 10250007, .rowR 13])], [.rowC 13 135 t_whole_Int, .rowC 10250002 135 t_whole_Int, .rowC 10250004 135 t_whole_Int, .rowC 10250005 186 t_bill_share, .rowC 10250006 135 t_whole_Int, .rowC 10250007 4 .bool], fuelOf _⟩),
 (9, ⟨[(0, .ref 2000 0), (57, .rowR 10250005), (58, .val tI), (59, .val tI)], [(2000, [.val .str, .val .str, .val tI, .val tI, .val tI, .val .bool, .val (.slice t_api_Rate), .val (.slice t_api_BillLine), .val (.slice t_api_Extra), .rowR 10250002, .val (.slice t_whole_Int), .rowR 10250004, .rowR 10250005, .rowR 10250006, .rowR 10250007, .rowR 13])], [.rowC 13 135 t_whole_Int, .rowC 10250002 135 t_whole_Int, .rowC 10250004 135 t_whole_Int, .rowC 10250005 186 t_bill_share, .rowC 10250006 135 t_whole_Int, .rowC 10250007 4 .bool], fuelOf _⟩),
 (200003, ⟨[(0, .ref 2000 0)], [(2000, [.val .str, .val .str, .val tI, .val tI, .val tI, .val .bool, .val (.slice t_api_Rate), .val (.slice t_api_BillLine), .val (.slice t_api_Extra), .rowR 10250002, .val (.slice t_whole_Int), .rowR 10250004, .rowR 10250005, .rowR 10250006, .rowR 10250007, .rowR 13])], [.rowC 13 135 t_whole_Int, .rowC 10250002 135 t_whole_Int, .rowC 10250004 135 t_whole_Int, .rowC 10250005 186 t_bill_share, .rowC 10250006 135 t_whole_Int, .rowC 10250007 4 .bool], fun _ => 0⟩),
 (200009, ⟨[(0, .ref 2000 0)], [(2000, [.val .str, .val .str, .val tI, .val tI, .val tI, .val .bool, .val (.slice t_api_Rate), .val (.slice t_api_BillLine), .val (.slice t_api_Extra), .rowR 10250002, .val (.slice t_whole_Int), .rowR 10250004, .rowR 10250005, .rowR 10250006, .rowR 10250007, .rowR 13])], [.rowC 13 135 t_whole_Int, .rowC 10250002 135 t_whole_Int, .rowC 10250004 135 t_whole_Int, .rowC 10250005 186 t_bill_share, .rowC 10250006 135 t_whole_Int, .rowC 10250007 4 .bool], fun _ => 0⟩)]

noncomputable def sp_bill_sheet_tax : FSpec := ⟨[.box [.val t_api_Invoice, .row 135 t_whole_Int, .val (.slice t_whole_Int), .row 135 t_whole_Int, .row 186 t_bill_share, .row 135 t_whole_Int, .row 4 .bool, .row 135 t_whole_Int]], [.val tI], fun x => bill_sheet_tax x.1⟩

noncomputable def cx_bill_sheet_tax : Cx := ⟨Tryz.prog, [(71, sp_whole_Int_Plus), (72, sp_slices_ContainsFunc_whole_Int_c), (89, sp_bill_part)]⟩

theorem den_bill_sheet_tax : ∀ x, denF cx_bill_sheet_tax anns_bill_sheet_tax none Tryz.f69 sp_bill_sheet_tax x = sp_bill_sheet_tax.m x := by intro x; kernel_rfl

theorem hb_bill_sheet_tax : HasBody Tryz.prog 69 := has_body (fn := Tryz.f69) (by kernel_rfl) rfl (by decide)

theorem ok_bill_sheet_tax : FunOk Tryz.prog 69 sp_bill_sheet_tax := fun_ok (X := cx_bill_sheet_tax) (.cons ok_whole_Int_Plus hb_whole_Int_Plus (.cons ok_slices_ContainsFunc_whole_Int_c hb_slices_ContainsFunc_whole_Int_c (.cons ok_bill_part hb_bill_part (.nil _)))) (by kernel_rfl) sp_bill_sheet_tax anns_bill_sheet_tax none (by kernel_rfl) (fun x y h => (den_bill_sheet_tax x).trans h)

def anns_bill_workedOut : List (Nat × Ann) := [(9, ⟨[(5, .ref 18 0), (25, .val (.slice t_api_Extra)), (26, .val tI), (27, .val tI)], [(18, [.val .str, .val .str, .val tI, .val tI, .val tI, .val .bool, .val (.slice t_api_Rate), .val (.slice t_api_BillLine), .val (.slice t_api_Extra), .own 135 t_whole_Int, .val (.slice t_whole_Int), .own 135 t_whole_Int, .own 186 t_bill_share, .own 135 t_whole_Int, .own 4 .bool, .own 135 t_whole_Int])], [.ar t_bill_sheet], fuelOf _⟩),
 (200009, ⟨[(5, .ref 18 0)], [(18, [.val .str, .val .str, .val tI, .val tI, .val tI, .val .bool, .val (.slice t_api_Rate), .val (.slice t_api_BillLine), .val (.slice t_api_Extra), .own 135 t_whole_Int, .val (.slice t_whole_Int), .own 135 t_whole_Int, .own 186 t_bill_share, .own 135 t_whole_Int, .own 4 .bool, .own 135 t_whole_Int])], [.ar t_bill_sheet], fun _ => 0⟩)]

noncomputable def sp_bill_workedOut : FSpec := ⟨[.val t_api_Invoice, .ar t_bill_sheet], [.val .hnd, .val tI], fun x => bill_workedOut x.1 x.2.1⟩

noncomputable def cx_bill_workedOut : Cx := ⟨Tryz.prog, [(37, sp_bill_CheckInvoice), (67, sp_bill_sheet_byLines), (68, sp_bill_sheet_extra), (69, sp_bill_sheet_tax)]⟩

theorem den_bill_workedOut : ∀ x, denF cx_bill_workedOut anns_bill_workedOut none Tryz.f28 sp_bill_workedOut x = sp_bill_workedOut.m x := by intro x; kernel_rfl

theorem hb_bill_workedOut : HasBody Tryz.prog 28 := has_body (fn := Tryz.f28) (by kernel_rfl) rfl (by decide)

theorem ok_bill_workedOut : FunOk Tryz.prog 28 sp_bill_workedOut := fun_ok (X := cx_bill_workedOut) (.cons ok_bill_CheckInvoice hb_bill_CheckInvoice (.cons ok_bill_sheet_byLines hb_bill_sheet_byLines (.cons ok_bill_sheet_extra hb_bill_sheet_extra (.cons ok_bill_sheet_tax hb_bill_sheet_tax (.nil _))))) (by kernel_rfl) sp_bill_workedOut anns_bill_workedOut none (by kernel_rfl) (fun x y h => (den_bill_workedOut x).trans h)

def anns_bill_sum : List (Nat × Ann) := [(3, ⟨[(2, .ref 2 0), (3, .ref 3 0), (7, .val (.slice t_whole_Int)), (8, .val tI), (9, .val tI)], [(2, [.val .bool, .own 223 (.int .u32)]), (3, [.val .bool, .val (.slice (.int .u32))])], [], fuelOf _⟩),
 (200003, ⟨[(2, .ref 2 0), (3, .ref 3 0)], [(2, [.val .bool, .own 223 (.int .u32)]), (3, [.val .bool, .val (.slice (.int .u32))])], [], fun _ => 0⟩)]

noncomputable def sp_bill_sum : FSpec := ⟨[.val (.slice t_whole_Int)], [.val t_whole_Int], fun x => bill_sum x.1⟩

noncomputable def cx_bill_sum : Cx := ⟨Tryz.prog, [(71, sp_whole_Int_Plus), (127, sp_whole_Of)]⟩

theorem den_bill_sum : ∀ x, denF cx_bill_sum anns_bill_sum none Tryz.f70 sp_bill_sum x = sp_bill_sum.m x := by intro x; kernel_rfl

theorem hb_bill_sum : HasBody Tryz.prog 70 := has_body (fn := Tryz.f70) (by kernel_rfl) rfl (by decide)

theorem ok_bill_sum : FunOk Tryz.prog 70 sp_bill_sum := fun_ok (X := cx_bill_sum) (.cons ok_whole_Int_Plus hb_whole_Int_Plus (.cons ok_whole_Of hb_whole_Of (.nil _))) (by kernel_rfl) sp_bill_sum anns_bill_sum none (by kernel_rfl) (fun x y h => (den_bill_sum x).trans h)

def anns_bill_sheet_told : List (Nat × Ann) := []

noncomputable def sp_bill_sheet_told : FSpec := ⟨[.val .hnd, .val t_whole_Int, .arR t_bill_sheet], [.val t_api_Decimal], fun x => bill_sheet_told x.1 x.2.1 x.2.2.1⟩

noncomputable def cx_bill_sheet_told : Cx := ⟨Tryz.prog, [(86, sp_amount_Made)]⟩

theorem den_bill_sheet_told : ∀ x, denF cx_bill_sheet_told anns_bill_sheet_told none Tryz.f75 sp_bill_sheet_told x = sp_bill_sheet_told.m x := by intro x; kernel_rfl

theorem hb_bill_sheet_told : HasBody Tryz.prog 75 := has_body (fn := Tryz.f75) (by kernel_rfl) rfl (by decide)

theorem ok_bill_sheet_told : FunOk Tryz.prog 75 sp_bill_sheet_told := fun_ok (X := cx_bill_sheet_told) (.cons ok_amount_Made hb_amount_Made (.nil _)) (by kernel_rfl) sp_bill_sheet_told anns_bill_sheet_told none (by kernel_rfl) (fun x y h => (den_bill_sheet_told x).trans h)

def anns_bill_sheet_totals : List (Nat × Ann) := []

noncomputable def sp_bill_sheet_totals : FSpec := ⟨[.val .hnd, .arR t_bill_sheet], [.val t_api_Totals, .val tI], fun x => bill_sheet_totals x.1 x.2.1⟩

noncomputable def cx_bill_sheet_totals : Cx := ⟨Tryz.prog, [(70, sp_bill_sum), (71, sp_whole_Int_Plus), (72, sp_slices_ContainsFunc_whole_Int_d), (75, sp_bill_sheet_told)]⟩

theorem den_bill_sheet_totals : ∀ x, denF cx_bill_sheet_totals anns_bill_sheet_totals none Tryz.f29 sp_bill_sheet_totals x = sp_bill_sheet_totals.m x := by intro x; kernel_rfl

theorem hb_bill_sheet_totals : HasBody Tryz.prog 29 := has_body (fn := Tryz.f29) (by kernel_rfl) rfl (by decide)

theorem ok_bill_sheet_totals : FunOk Tryz.prog 29 sp_bill_sheet_totals := fun_ok (X := cx_bill_sheet_totals) (.cons ok_bill_sum hb_bill_sum (.cons ok_whole_Int_Plus hb_whole_Int_Plus (.cons ok_slices_ContainsFunc_whole_Int_d hb_slices_ContainsFunc_whole_Int_d (.cons ok_bill_sheet_told hb_bill_sheet_told (.nil _))))) (by kernel_rfl) sp_bill_sheet_totals anns_bill_sheet_totals none (by kernel_rfl) (fun x y h => (den_bill_sheet_totals x).trans h)

def anns_bill_sheet_sums : List (Nat × Ann) := [(3, ⟨[(0, .val .hnd), (3, .own 35 t_api_TaxSum), (10, .val (.slice t_api_Rate)), (11, .val tI), (12, .val tI)], [], [.arF t_bill_sheet], fuelOf _⟩),
 (200003, ⟨[(3, .own 35 t_api_TaxSum)], [], [.arF t_bill_sheet], fun _ => 0⟩)]

noncomputable def sp_bill_sheet_sums : FSpec := ⟨[.val .hnd, .arR t_bill_sheet], [.row 35 t_api_TaxSum], fun x => bill_sheet_sums x.1 x.2.1⟩

noncomputable def cx_bill_sheet_sums : Cx := ⟨Tryz.prog, [(75, sp_bill_sheet_told)]⟩

theorem den_bill_sheet_sums : ∀ x, denF cx_bill_sheet_sums anns_bill_sheet_sums none Tryz.f30 sp_bill_sheet_sums x = sp_bill_sheet_sums.m x := by intro x; kernel_rfl

theorem hb_bill_sheet_sums : HasBody Tryz.prog 30 := has_body (fn := Tryz.f30) (by kernel_rfl) rfl (by decide)

theorem ok_bill_sheet_sums : FunOk Tryz.prog 30 sp_bill_sheet_sums := fun_ok (X := cx_bill_sheet_sums) (.cons ok_bill_sheet_told hb_bill_sheet_told (.nil _)) (by kernel_rfl) sp_bill_sheet_sums anns_bill_sheet_sums none (by kernel_rfl) (fun x y h => (den_bill_sheet_sums x).trans h)

def anns_bill_Taxes : List (Nat × Ann) := []

noncomputable def sp_bill_Taxes : FSpec := ⟨[.val t_api_Invoice], [.val (.slice t_api_TaxSum), .val tI], fun x => bill_Taxes x.1⟩

noncomputable def cx_bill_Taxes : Cx := ⟨Tryz.prog, [(28, sp_bill_workedOut), (29, sp_bill_sheet_totals), (30, sp_bill_sheet_sums)]⟩

theorem den_bill_Taxes : ∀ x, denF cx_bill_Taxes anns_bill_Taxes (some t_bill_sheet) Tryz.f9 sp_bill_Taxes x = sp_bill_Taxes.m x := by intro x; kernel_rfl

theorem hb_bill_Taxes : HasBody Tryz.prog 9 := has_body (fn := Tryz.f9) (by kernel_rfl) rfl (by decide)

theorem ok_bill_Taxes : FunOk Tryz.prog 9 sp_bill_Taxes := fun_ok (X := cx_bill_Taxes) (.cons ok_bill_workedOut hb_bill_workedOut (.cons ok_bill_sheet_totals hb_bill_sheet_totals (.cons ok_bill_sheet_sums hb_bill_sheet_sums (.nil _)))) (by kernel_rfl) sp_bill_Taxes anns_bill_Taxes (some t_bill_sheet) (by kernel_rfl) (fun x y h => (den_bill_Taxes x).trans h)

def anns_bill_Totals : List (Nat × Ann) := []

noncomputable def sp_bill_Totals : FSpec := ⟨[.val t_api_Invoice], [.val t_api_Totals, .val tI], fun x => bill_Totals x.1⟩

noncomputable def cx_bill_Totals : Cx := ⟨Tryz.prog, [(28, sp_bill_workedOut), (29, sp_bill_sheet_totals)]⟩

theorem den_bill_Totals : ∀ x, denF cx_bill_Totals anns_bill_Totals (some t_bill_sheet) Tryz.f12 sp_bill_Totals x = sp_bill_Totals.m x := by intro x; kernel_rfl

theorem hb_bill_Totals : HasBody Tryz.prog 12 := has_body (fn := Tryz.f12) (by kernel_rfl) rfl (by decide)

theorem ok_bill_Totals : FunOk Tryz.prog 12 sp_bill_Totals := fun_ok (X := cx_bill_Totals) (.cons ok_bill_workedOut hb_bill_workedOut (.cons ok_bill_sheet_totals hb_bill_sheet_totals (.nil _))) (by kernel_rfl) sp_bill_Totals anns_bill_Totals (some t_bill_sheet) (by kernel_rfl) (fun x y h => (den_bill_Totals x).trans h)

def anns_bill_CheckDebts_1 : List (Nat × Ann) := []

noncomputable def sp_bill_CheckDebts_1 : FSpec := ⟨[.val t_api_Debt, .val (.ptr t_api_Debt)], [.val .bool], fun x => bill_CheckDebts_1 x.1 x.2.1⟩

noncomputable def cx_bill_CheckDebts_1 : Cx := ⟨Tryz.prog, []⟩

theorem den_bill_CheckDebts_1 : ∀ x, denF cx_bill_CheckDebts_1 anns_bill_CheckDebts_1 none Tryz.f49 sp_bill_CheckDebts_1 x = sp_bill_CheckDebts_1.m x := by intro x; kernel_rfl

theorem hb_bill_CheckDebts_1 : HasBody Tryz.prog 49 := has_body (fn := Tryz.f49) (by kernel_rfl) rfl (by decide)

theorem ok_bill_CheckDebts_1 : FunOk Tryz.prog 49 sp_bill_CheckDebts_1 := fun_ok (X := cx_bill_CheckDebts_1) (.nil _) (by kernel_rfl) sp_bill_CheckDebts_1 anns_bill_CheckDebts_1 none (by kernel_rfl) (fun x y h => (den_bill_CheckDebts_1 x).trans h)

def anns_slices_IndexFunc_api_Debt : List (Nat × Ann) := [(2, ⟨[(0, .val (.slice t_api_Debt)), (1, .val (.clo 49 (.ptr t_api_Debt))), (7, .val tI), (8, .val tI)], [], [], fuelOf _⟩),
 (200002, ⟨[], [], [], fun _ => 0⟩)]

noncomputable def sp_slices_IndexFunc_api_Debt : FSpec := ⟨[.val (.slice t_api_Debt), .val (.clo 49 (.ptr t_api_Debt))], [.val tI], fun x => slices_IndexFunc_api_Debt x.1 x.2.1⟩

noncomputable def cx_slices_IndexFunc_api_Debt : Cx := ⟨Tryz.prog, [(49, sp_bill_CheckDebts_1)]⟩

theorem den_slices_IndexFunc_api_Debt : ∀ x, denF cx_slices_IndexFunc_api_Debt anns_slices_IndexFunc_api_Debt none Tryz.f101 sp_slices_IndexFunc_api_Debt x = sp_slices_IndexFunc_api_Debt.m x := by intro x; kernel_rfl

theorem hb_slices_IndexFunc_api_Debt : HasBody Tryz.prog 101 := has_body (fn := Tryz.f101) (by kernel_rfl) rfl (by decide)

theorem ok_slices_IndexFunc_api_Debt : FunOk Tryz.prog 101 sp_slices_IndexFunc_api_Debt := fun_ok (X := cx_slices_IndexFunc_api_Debt) (.cons ok_bill_CheckDebts_1 hb_bill_CheckDebts_1 (.nil _)) (by kernel_rfl) sp_slices_IndexFunc_api_Debt anns_slices_IndexFunc_api_Debt none (by kernel_rfl) (fun x y h => (den_slices_IndexFunc_api_Debt x).trans h)

def anns_slices_ContainsFunc_api_Debt : List (Nat × Ann) := []

noncomputable def sp_slices_ContainsFunc_api_Debt : FSpec := ⟨[.val (.slice t_api_Debt), .val (.clo 49 (.ptr t_api_Debt))], [.val .bool], fun x => slices_ContainsFunc_api_Debt x.1 x.2.1⟩

noncomputable def cx_slices_ContainsFunc_api_Debt : Cx := ⟨Tryz.prog, [(101, sp_slices_IndexFunc_api_Debt)]⟩

theorem den_slices_ContainsFunc_api_Debt : ∀ x, denF cx_slices_ContainsFunc_api_Debt anns_slices_ContainsFunc_api_Debt none Tryz.f48 sp_slices_ContainsFunc_api_Debt x = sp_slices_ContainsFunc_api_Debt.m x := by intro x; kernel_rfl

theorem hb_slices_ContainsFunc_api_Debt : HasBody Tryz.prog 48 := has_body (fn := Tryz.f48) (by kernel_rfl) rfl (by decide)

theorem ok_slices_ContainsFunc_api_Debt : FunOk Tryz.prog 48 sp_slices_ContainsFunc_api_Debt := fun_ok (X := cx_slices_ContainsFunc_api_Debt) (.cons ok_slices_IndexFunc_api_Debt hb_slices_IndexFunc_api_Debt (.nil _)) (by kernel_rfl) sp_slices_ContainsFunc_api_Debt anns_slices_ContainsFunc_api_Debt none (by kernel_rfl) (fun x y h => (den_slices_ContainsFunc_api_Debt x).trans h)

def anns_bill_moneyFault : List (Nat × Ann) := []

noncomputable def sp_bill_moneyFault : FSpec := ⟨[.val t_api_Decimal], [.val tI], fun x => bill_moneyFault x.1⟩

noncomputable def cx_bill_moneyFault : Cx := ⟨Tryz.prog, [(102, sp_amount_CheckDecimal), (103, sp_bill_between)]⟩

theorem den_bill_moneyFault : ∀ x, denF cx_bill_moneyFault anns_bill_moneyFault none Tryz.f51 sp_bill_moneyFault x = sp_bill_moneyFault.m x := by intro x; kernel_rfl

theorem hb_bill_moneyFault : HasBody Tryz.prog 51 := has_body (fn := Tryz.f51) (by kernel_rfl) rfl (by decide)

theorem ok_bill_moneyFault : FunOk Tryz.prog 51 sp_bill_moneyFault := fun_ok (X := cx_bill_moneyFault) (.cons ok_amount_CheckDecimal hb_amount_CheckDecimal (.cons ok_bill_between hb_bill_between (.nil _))) (by kernel_rfl) sp_bill_moneyFault anns_bill_moneyFault none (by kernel_rfl) (fun x y h => (den_bill_moneyFault x).trans h)

def anns_bill_CheckDebts : List (Nat × Ann) := [(4, ⟨[(0, .val (.slice t_api_Debt)), (9, .val (.slice t_api_Debt)), (10, .val tI), (11, .val tI)], [], [], fuelOf _⟩),
 (200004, ⟨[], [], [], fun _ => 0⟩)]

noncomputable def sp_bill_CheckDebts : FSpec := ⟨[.val (.slice t_api_Debt)], [.val tI], fun x => bill_CheckDebts x.1⟩

noncomputable def cx_bill_CheckDebts : Cx := ⟨Tryz.prog, [(38, sp_kit_IsName), (39, sp_kit_Outside), (48, sp_slices_ContainsFunc_api_Debt), (50, sp_kit_IsDay), (51, sp_bill_moneyFault)]⟩

theorem den_bill_CheckDebts : ∀ x, denF cx_bill_CheckDebts anns_bill_CheckDebts none Tryz.f21 sp_bill_CheckDebts x = sp_bill_CheckDebts.m x := by intro x; kernel_rfl

theorem hb_bill_CheckDebts : HasBody Tryz.prog 21 := has_body (fn := Tryz.f21) (by kernel_rfl) rfl (by decide)

theorem ok_bill_CheckDebts : FunOk Tryz.prog 21 sp_bill_CheckDebts := fun_ok (X := cx_bill_CheckDebts) (.cons ok_kit_IsName hb_kit_IsName (.cons ok_kit_Outside hb_kit_Outside (.cons ok_slices_ContainsFunc_api_Debt hb_slices_ContainsFunc_api_Debt (.cons ok_kit_IsDay hb_kit_IsDay (.cons ok_bill_moneyFault hb_bill_moneyFault (.nil _)))))) (by kernel_rfl) sp_bill_CheckDebts anns_bill_CheckDebts none (by kernel_rfl) (fun x y h => (den_bill_CheckDebts x).trans h)

def anns_slices_Index_string : List (Nat × Ann) := [(2, ⟨[(0, .val (.slice .str)), (1, .val .str), (7, .val tI), (8, .val tI)], [], [], fuelOf _⟩),
 (200002, ⟨[], [], [], fun _ => 0⟩)]

noncomputable def sp_slices_Index_string : FSpec := ⟨[.val (.slice .str), .val .str], [.val tI], fun x => slices_Index_string x.1 x.2.1⟩

noncomputable def cx_slices_Index_string : Cx := ⟨Tryz.prog, []⟩

theorem den_slices_Index_string : ∀ x, denF cx_slices_Index_string anns_slices_Index_string none Tryz.f204 sp_slices_Index_string x = sp_slices_Index_string.m x := by intro x; kernel_rfl

theorem hb_slices_Index_string : HasBody Tryz.prog 204 := has_body (fn := Tryz.f204) (by kernel_rfl) rfl (by decide)

theorem ok_slices_Index_string : FunOk Tryz.prog 204 sp_slices_Index_string := fun_ok (X := cx_slices_Index_string) (.nil _) (by kernel_rfl) sp_slices_Index_string anns_slices_Index_string none (by kernel_rfl) (fun x y h => (den_slices_Index_string x).trans h)

def anns_slices_Contains_string : List (Nat × Ann) := []

noncomputable def sp_slices_Contains_string : FSpec := ⟨[.val (.slice .str), .val .str], [.val .bool], fun x => slices_Contains_string x.1 x.2.1⟩

noncomputable def cx_slices_Contains_string : Cx := ⟨Tryz.prog, [(204, sp_slices_Index_string)]⟩

theorem den_slices_Contains_string : ∀ x, denF cx_slices_Contains_string anns_slices_Contains_string none Tryz.f161 sp_slices_Contains_string x = sp_slices_Contains_string.m x := by intro x; kernel_rfl

theorem hb_slices_Contains_string : HasBody Tryz.prog 161 := has_body (fn := Tryz.f161) (by kernel_rfl) rfl (by decide)

theorem ok_slices_Contains_string : FunOk Tryz.prog 161 sp_slices_Contains_string := fun_ok (X := cx_slices_Contains_string) (.cons ok_slices_Index_string hb_slices_Index_string (.nil _)) (by kernel_rfl) sp_slices_Contains_string anns_slices_Contains_string none (by kernel_rfl) (fun x y h => (den_slices_Contains_string x).trans h)

def anns_bill_CheckPayments : List (Nat × Ann) := [(4, ⟨[(0, .val (.slice t_api_Payment)), (11, .val (.slice t_api_Payment)), (12, .val tI), (13, .val tI)], [], [], fuelOf _⟩),
 (16, ⟨[(0, .val (.slice t_api_Payment)), (4, .ref 4 0), (11, .val (.slice t_api_Payment)), (12, .val tI), (13, .val tI), (46, .val (.slice .str)), (47, .val tI), (48, .val tI)], [(4, [.val tI, .val tI, .val tI, .val (.slice .str)])], [], fuelOf _⟩),
 (200004, ⟨[], [], [], fun _ => 0⟩),
 (200016, ⟨[(0, .val (.slice t_api_Payment)), (11, .val (.slice t_api_Payment)), (12, .val tI), (13, .val tI)], [], [], fun _ => 0⟩)]

noncomputable def sp_bill_CheckPayments : FSpec := ⟨[.val (.slice t_api_Payment)], [.val tI], fun x => bill_CheckPayments x.1⟩

noncomputable def cx_bill_CheckPayments : Cx := ⟨Tryz.prog, [(38, sp_kit_IsName), (50, sp_kit_IsDay), (51, sp_bill_moneyFault), (161, sp_slices_Contains_string)]⟩

theorem den_bill_CheckPayments : ∀ x, denF cx_bill_CheckPayments anns_bill_CheckPayments none Tryz.f104 sp_bill_CheckPayments x = sp_bill_CheckPayments.m x := by intro x; kernel_rfl

theorem hb_bill_CheckPayments : HasBody Tryz.prog 104 := has_body (fn := Tryz.f104) (by kernel_rfl) rfl (by decide)

theorem ok_bill_CheckPayments : FunOk Tryz.prog 104 sp_bill_CheckPayments := fun_ok (X := cx_bill_CheckPayments) (.cons ok_kit_IsName hb_kit_IsName (.cons ok_kit_IsDay hb_kit_IsDay (.cons ok_bill_moneyFault hb_bill_moneyFault (.cons ok_slices_Contains_string hb_slices_Contains_string (.nil _))))) (by kernel_rfl) sp_bill_CheckPayments anns_bill_CheckPayments none (by kernel_rfl) (fun x y h => (den_bill_CheckPayments x).trans h)

def anns_bill_bothFault : List (Nat × Ann) := []

noncomputable def sp_bill_bothFault : FSpec := ⟨[.val (.slice t_api_Debt), .val (.slice t_api_Payment)], [.val tI], fun x => bill_bothFault x.1 x.2.1⟩

noncomputable def cx_bill_bothFault : Cx := ⟨Tryz.prog, [(21, sp_bill_CheckDebts), (104, sp_bill_CheckPayments)]⟩

theorem den_bill_bothFault : ∀ x, denF cx_bill_bothFault anns_bill_bothFault none Tryz.f52 sp_bill_bothFault x = sp_bill_bothFault.m x := by intro x; kernel_rfl

theorem hb_bill_bothFault : HasBody Tryz.prog 52 := has_body (fn := Tryz.f52) (by kernel_rfl) rfl (by decide)

theorem ok_bill_bothFault : FunOk Tryz.prog 52 sp_bill_bothFault := fun_ok (X := cx_bill_bothFault) (.cons ok_bill_CheckDebts hb_bill_CheckDebts (.cons ok_bill_CheckPayments hb_bill_CheckPayments (.nil _))) (by kernel_rfl) sp_bill_bothFault anns_bill_bothFault none (by kernel_rfl) (fun x y h => (den_bill_bothFault x).trans h)

def anns_bill_cents : List (Nat × Ann) := []

noncomputable def sp_bill_cents : FSpec := ⟨[.val t_api_Decimal], [.val tI], fun x => bill_cents x.1⟩

noncomputable def cx_bill_cents : Cx := ⟨Tryz.prog, [(160, sp_bill_power)]⟩

theorem den_bill_cents : ∀ x, denF cx_bill_cents anns_bill_cents none Tryz.f105 sp_bill_cents x = sp_bill_cents.m x := by intro x; kernel_rfl

theorem hb_bill_cents : HasBody Tryz.prog 105 := has_body (fn := Tryz.f105) (by kernel_rfl) rfl (by decide)

theorem ok_bill_cents : FunOk Tryz.prog 105 sp_bill_cents := fun_ok (X := cx_bill_cents) (.cons ok_bill_power hb_bill_power (.nil _)) (by kernel_rfl) sp_bill_cents anns_bill_cents none (by kernel_rfl) (fun x y h => (den_bill_cents x).trans h)

def anns_slices_Clone_bill_debtP : List (Nat × Ann) := []

noncomputable def sp_slices_Clone_bill_debtP : FSpec := ⟨[.val (.slice .hnd)], [.row 113 .hnd], fun x => slices_Clone_bill_debtP x.1⟩

noncomputable def cx_slices_Clone_bill_debtP : Cx := ⟨Tryz.prog, []⟩

theorem den_slices_Clone_bill_debtP : ∀ x, denF cx_slices_Clone_bill_debtP anns_slices_Clone_bill_debtP none Tryz.f106 sp_slices_Clone_bill_debtP x = sp_slices_Clone_bill_debtP.m x := by intro x; kernel_rfl

theorem hb_slices_Clone_bill_debtP : HasBody Tryz.prog 106 := has_body (fn := Tryz.f106) (by kernel_rfl) rfl (by decide)

theorem ok_slices_Clone_bill_debtP : FunOk Tryz.prog 106 sp_slices_Clone_bill_debtP := fun_ok (X := cx_slices_Clone_bill_debtP) (.nil _) (by kernel_rfl) sp_slices_Clone_bill_debtP anns_slices_Clone_bill_debtP none (by kernel_rfl) (fun x y h => (den_slices_Clone_bill_debtP x).trans h)

def anns_bill_debt_last : List (Nat × Ann) := []

noncomputable def sp_bill_debt_last : FSpec := ⟨[.val .hnd, .arR t_bill_debt], [.val tI], fun x => bill_debt_last x.1 x.2.1⟩

noncomputable def cx_bill_debt_last : Cx := ⟨Tryz.prog, []⟩

theorem den_bill_debt_last : ∀ x, denF cx_bill_debt_last anns_bill_debt_last none Tryz.f109 sp_bill_debt_last x = sp_bill_debt_last.m x := by intro x; kernel_rfl

theorem hb_bill_debt_last : HasBody Tryz.prog 109 := has_body (fn := Tryz.f109) (by kernel_rfl) rfl (by decide)

theorem ok_bill_debt_last : FunOk Tryz.prog 109 sp_bill_debt_last := fun_ok (X := cx_bill_debt_last) (.nil _) (by kernel_rfl) sp_bill_debt_last anns_bill_debt_last none (by kernel_rfl) (fun x y h => (den_bill_debt_last x).trans h)

def anns_bill_payments_1 : List (Nat × Ann) := []

noncomputable def sp_bill_payments_1 : FSpec := ⟨[.val .hnd, .val .hnd, .arR t_bill_debt], [.val tI], fun x => bill_payments_1 x.1 x.2.1 x.2.2.1⟩

noncomputable def cx_bill_payments_1 : Cx := ⟨Tryz.prog, [(109, sp_bill_debt_last)]⟩

theorem den_bill_payments_1 : ∀ x, denF cx_bill_payments_1 anns_bill_payments_1 none Tryz.f108 sp_bill_payments_1 x = sp_bill_payments_1.m x := by intro x; kernel_rfl

theorem hb_bill_payments_1 : HasBody Tryz.prog 108 := has_body (fn := Tryz.f108) (by kernel_rfl) rfl (by decide)

theorem ok_bill_payments_1 : FunOk Tryz.prog 108 sp_bill_payments_1 := fun_ok (X := cx_bill_payments_1) (.cons ok_bill_debt_last hb_bill_debt_last (.nil _)) (by kernel_rfl) sp_bill_payments_1 anns_bill_payments_1 none (by kernel_rfl) (fun x y h => (den_bill_payments_1 x).trans h)

def anns_slices_insertionSortCmpFunc_bill_debtP : List (Nat × Ann) := [(1, ⟨[(0, .rowR 10250000), (1, .val tI), (2, .val tI), (3, .val (.clo 108 .unit)), (8, .val tI)], [], [.rowC 10250000 113 .hnd, .arF t_bill_debt], fuelOf _⟩),
 (4, ⟨[(0, .rowR 10250000), (1, .val tI), (2, .val tI), (3, .val (.clo 108 .unit)), (8, .val tI), (9, .val tI)], [], [.rowC 10250000 113 .hnd, .arF t_bill_debt], fuelOf _⟩),
 (200001, ⟨[], [], [.rowC 10250000 113 .hnd, .arF t_bill_debt], fun _ => 0⟩),
 (200004, ⟨[(0, .rowR 10250000), (1, .val tI), (2, .val tI), (3, .val (.clo 108 .unit)), (8, .val tI)], [], [.rowC 10250000 113 .hnd, .arF t_bill_debt], fun _ => 0⟩)]

noncomputable def sp_slices_insertionSortCmpFunc_bill_debtP : FSpec := ⟨[.mrow 113 .hnd, .val tI, .val tI, .val (.clo 108 .unit), .arR t_bill_debt], [], fun x => slices_insertionSortCmpFunc_bill_debtP x.1 x.2.1 x.2.2.1 x.2.2.2.1 x.2.2.2.2.1⟩

noncomputable def cx_slices_insertionSortCmpFunc_bill_debtP : Cx := ⟨Tryz.prog, [(108, sp_bill_payments_1)]⟩

theorem den_slices_insertionSortCmpFunc_bill_debtP : ∀ x, denF cx_slices_insertionSortCmpFunc_bill_debtP anns_slices_insertionSortCmpFunc_bill_debtP none Tryz.f205 sp_slices_insertionSortCmpFunc_bill_debtP x = sp_slices_insertionSortCmpFunc_bill_debtP.m x := by intro x; kernel_rfl

theorem hb_slices_insertionSortCmpFunc_bill_debtP : HasBody Tryz.prog 205 := has_body (fn := Tryz.f205) (by kernel_rfl) rfl (by decide)

theorem ok_slices_insertionSortCmpFunc_bill_debtP : FunOk Tryz.prog 205 sp_slices_insertionSortCmpFunc_bill_debtP := fun_ok (X := cx_slices_insertionSortCmpFunc_bill_debtP) (.cons ok_bill_payments_1 hb_bill_payments_1 (.nil _)) (by kernel_rfl) sp_slices_insertionSortCmpFunc_bill_debtP anns_slices_insertionSortCmpFunc_bill_debtP none (by kernel_rfl) (fun x y h => (den_slices_insertionSortCmpFunc_bill_debtP x).trans h)

def anns_slices_swapRangeCmpFunc_bill_debtP : List (Nat × Ann) := [(1, ⟨[(0, .rowR 10250000), (1, .val tI), (2, .val tI), (3, .val tI), (10, .val tI)], [], [.rowC 10250000 113 .hnd, .arF t_bill_debt], fuelOf _⟩),
 (200001, ⟨[], [], [.rowC 10250000 113 .hnd, .arF t_bill_debt], fun _ => 0⟩)]

noncomputable def sp_slices_swapRangeCmpFunc_bill_debtP : FSpec := ⟨[.mrow 113 .hnd, .val tI, .val tI, .val tI, .val (.clo 108 .unit), .arR t_bill_debt], [], fun x => slices_swapRangeCmpFunc_bill_debtP x.1 x.2.1 x.2.2.1 x.2.2.2.1 x.2.2.2.2.1 x.2.2.2.2.2.1⟩

noncomputable def cx_slices_swapRangeCmpFunc_bill_debtP : Cx := ⟨Tryz.prog, []⟩

theorem den_slices_swapRangeCmpFunc_bill_debtP : ∀ x, denF cx_slices_swapRangeCmpFunc_bill_debtP anns_slices_swapRangeCmpFunc_bill_debtP none Tryz.f240 sp_slices_swapRangeCmpFunc_bill_debtP x = sp_slices_swapRangeCmpFunc_bill_debtP.m x := by intro x; kernel_rfl

theorem hb_slices_swapRangeCmpFunc_bill_debtP : HasBody Tryz.prog 240 := has_body (fn := Tryz.f240) (by kernel_rfl) rfl (by decide)

theorem ok_slices_swapRangeCmpFunc_bill_debtP : FunOk Tryz.prog 240 sp_slices_swapRangeCmpFunc_bill_debtP := fun_ok (X := cx_slices_swapRangeCmpFunc_bill_debtP) (.nil _) (by kernel_rfl) sp_slices_swapRangeCmpFunc_bill_debtP anns_slices_swapRangeCmpFunc_bill_debtP none (by kernel_rfl) (fun x y h => (den_slices_swapRangeCmpFunc_bill_debtP x).trans h)

def anns_slices_rotateCmpFunc_bill_debtP : List (Nat × Ann) := [(2, ⟨[(0, .rowR 10250000), (2, .val tI), (4, .val (.clo 108 .unit)), (10, .val tI), (11, .val tI)], [], [.rowC 10250000 113 .hnd, .arF t_bill_debt], fuelOf _⟩),
 (200002, ⟨[(0, .rowR 10250000), (2, .val tI), (4, .val (.clo 108 .unit)), (10, .val tI)], [], [.rowC 10250000 113 .hnd, .arF t_bill_debt], fun _ => 0⟩)]

noncomputable def sp_slices_rotateCmpFunc_bill_debtP : FSpec := ⟨[.mrow 113 .hnd, .val tI, .val tI, .val tI, .val (.clo 108 .unit), .arR t_bill_debt], [], fun x => slices_rotateCmpFunc_bill_debtP x.1 x.2.1 x.2.2.1 x.2.2.2.1 x.2.2.2.2.1 x.2.2.2.2.2.1⟩

noncomputable def cx_slices_rotateCmpFunc_bill_debtP : Cx := ⟨Tryz.prog, [(240, sp_slices_swapRangeCmpFunc_bill_debtP)]⟩

theorem den_slices_rotateCmpFunc_bill_debtP : ∀ x, denF cx_slices_rotateCmpFunc_bill_debtP anns_slices_rotateCmpFunc_bill_debtP none Tryz.f231 sp_slices_rotateCmpFunc_bill_debtP x = sp_slices_rotateCmpFunc_bill_debtP.m x := by intro x; kernel_rfl

theorem hb_slices_rotateCmpFunc_bill_debtP : HasBody Tryz.prog 231 := has_body (fn := Tryz.f231) (by kernel_rfl) rfl (by decide)

theorem ok_slices_rotateCmpFunc_bill_debtP : FunOk Tryz.prog 231 sp_slices_rotateCmpFunc_bill_debtP := fun_ok (X := cx_slices_rotateCmpFunc_bill_debtP) (.cons ok_slices_swapRangeCmpFunc_bill_debtP hb_slices_swapRangeCmpFunc_bill_debtP (.nil _)) (by kernel_rfl) sp_slices_rotateCmpFunc_bill_debtP anns_slices_rotateCmpFunc_bill_debtP none (by kernel_rfl) (fun x y h => (den_slices_rotateCmpFunc_bill_debtP x).trans h)

def anns_slices_symMergeCmpFunc_bill_debtP : List (Nat × Ann) := [(3, ⟨[(0, .rowR 10250000), (1, .val tI), (4, .val (.clo 108 .unit)), (10, .val tI), (11, .val tI)], [], [.rowC 10250000 113 .hnd, .arF t_bill_debt], fuelOf _⟩),
 (9, ⟨[(0, .rowR 10250000), (10, .val tI), (13, .val tI)], [], [.rowC 10250000 113 .hnd, .arF t_bill_debt], fuelOf _⟩),
 (15, ⟨[(0, .rowR 10250000), (2, .val tI), (4, .val (.clo 108 .unit)), (14, .val tI), (15, .val tI)], [], [.rowC 10250000 113 .hnd, .arF t_bill_debt], fuelOf _⟩),
 (21, ⟨[(0, .rowR 10250000), (14, .val tI), (17, .val tI)], [], [.rowC 10250000 113 .hnd, .arF t_bill_debt], fuelOf _⟩),
 (33, ⟨[(0, .rowR 10250000), (1, .val tI), (2, .val tI), (3, .val tI), (4, .val (.clo 108 .unit)), (18, .val tI), (19, .val tI), (20, .val tI), (21, .val tI), (22, .val tI)], [], [.rowC 10250000 113 .hnd, .arF t_bill_debt], fuelOf _⟩),
 (100030, ⟨[(0, .rowR 10250000), (1, .val tI), (2, .val tI), (3, .val tI), (4, .val (.clo 108 .unit)), (18, .val tI), (19, .val tI), (20, .val tI), (21, .val tI)], [], [.rowC 10250000 113 .hnd, .arF t_bill_debt], fun _ => 0⟩),
 (100040, ⟨[(0, .rowR 10250000), (1, .val tI), (3, .val tI), (4, .val (.clo 108 .unit)), (18, .val tI), (20, .val tI), (24, .val tI)], [], [.rowC 10250000 113 .hnd, .arF t_bill_debt], fun _ => 0⟩),
 (100042, ⟨[(0, .rowR 10250000), (3, .val tI), (4, .val (.clo 108 .unit)), (18, .val tI), (24, .val tI)], [], [.rowC 10250000 113 .hnd, .arF t_bill_debt], fun _ => 0⟩),
 (200003, ⟨[(0, .rowR 10250000), (1, .val tI), (10, .val tI)], [], [.rowC 10250000 113 .hnd, .arF t_bill_debt], fun _ => 0⟩),
 (200009, ⟨[], [], [.rowC 10250000 113 .hnd, .arF t_bill_debt], fun _ => 0⟩),
 (200015, ⟨[(0, .rowR 10250000), (2, .val tI), (14, .val tI)], [], [.rowC 10250000 113 .hnd, .arF t_bill_debt], fun _ => 0⟩),
 (200021, ⟨[], [], [.rowC 10250000 113 .hnd, .arF t_bill_debt], fun _ => 0⟩),
 (200033, ⟨[(0, .rowR 10250000), (1, .val tI), (2, .val tI), (3, .val tI), (4, .val (.clo 108 .unit)), (18, .val tI), (19, .val tI), (20, .val tI)], [], [.rowC 10250000 113 .hnd, .arF t_bill_debt], fun _ => 0⟩)]

def ps_slices_symMergeCmpFunc_bill_debtP : List PM := [.mrow 113 .hnd, .val tI, .val tI, .val tI, .val (.clo 108 .unit), .arR t_bill_debt]
def rs_slices_symMergeCmpFunc_bill_debtP : List RM := []

noncomputable def cxs_slices_symMergeCmpFunc_bill_debtP : List (Nat × FSpec) := [(108, sp_bill_payments_1), (231, sp_slices_rotateCmpFunc_bill_debtP)]

noncomputable def sp_slices_symMergeCmpFunc_bill_debtP : FSpec := ⟨ps_slices_symMergeCmpFunc_bill_debtP, rs_slices_symMergeCmpFunc_bill_debtP, fun x => slices_symMergeCmpFunc_bill_debtP x.1 x.2.1 x.2.2.1 x.2.2.2.1 x.2.2.2.2.1 x.2.2.2.2.2.1⟩

theorem den_slices_symMergeCmpFunc_bill_debtP : ∀ (self : inDen ps_slices_symMergeCmpFunc_bill_debtP → Option (outDen ps_slices_symMergeCmpFunc_bill_debtP rs_slices_symMergeCmpFunc_bill_debtP)) (x : inDen ps_slices_symMergeCmpFunc_bill_debtP), denF ⟨Tryz.prog, (206, ⟨ps_slices_symMergeCmpFunc_bill_debtP, rs_slices_symMergeCmpFunc_bill_debtP, self⟩) :: cxs_slices_symMergeCmpFunc_bill_debtP⟩ anns_slices_symMergeCmpFunc_bill_debtP none Tryz.f206 ⟨ps_slices_symMergeCmpFunc_bill_debtP, rs_slices_symMergeCmpFunc_bill_debtP, fun x => slices_symMergeCmpFunc_bill_debtP_F self x.1 x.2.1 x.2.2.1 x.2.2.2.1 x.2.2.2.2.1 x.2.2.2.2.2.1⟩ x = slices_symMergeCmpFunc_bill_debtP_F self x.1 x.2.1 x.2.2.1 x.2.2.2.1 x.2.2.2.2.1 x.2.2.2.2.2.1 := by intro self x; kernel_rfl

theorem hb_slices_symMergeCmpFunc_bill_debtP : HasBody Tryz.prog 206 := has_body (fn := Tryz.f206) (by kernel_rfl) rfl (by decide)

theorem ok_slices_symMergeCmpFunc_bill_debtP : FunOk Tryz.prog 206 sp_slices_symMergeCmpFunc_bill_debtP := fun_ok_fuel (ps := ps_slices_symMergeCmpFunc_bill_debtP) (rs := rs_slices_symMergeCmpFunc_bill_debtP) (m := fun n x => recM (fun self x => slices_symMergeCmpFunc_bill_debtP_F self x.1 x.2.1 x.2.2.1 x.2.2.2.1 x.2.2.2.2.1 x.2.2.2.2.2.1) n x) (fun_ok_rec (P := Tryz.prog) (specs := cxs_slices_symMergeCmpFunc_bill_debtP) (ps := ps_slices_symMergeCmpFunc_bill_debtP) (rs := rs_slices_symMergeCmpFunc_bill_debtP) (.cons ok_bill_payments_1 hb_bill_payments_1 (.cons ok_slices_rotateCmpFunc_bill_debtP hb_slices_rotateCmpFunc_bill_debtP (.nil _))) (by kernel_rfl) (fun self x => slices_symMergeCmpFunc_bill_debtP_F self x.1 x.2.1 x.2.2.1 x.2.2.2.1 x.2.2.2.2.1 x.2.2.2.2.2.1) anns_slices_symMergeCmpFunc_bill_debtP none (by kernel_rfl) hb_slices_symMergeCmpFunc_bill_debtP den_slices_symMergeCmpFunc_bill_debtP) (fun x => slices_symMergeCmpFunc_bill_debtP_fuel x.1 x.2.1 x.2.2.1 x.2.2.2.1 x.2.2.2.2.1 x.2.2.2.2.2.1)

def anns_slices_stableCmpFunc_bill_debtP : List (Nat × Ann) := [(2, ⟨[(0, .rowR 10250000), (1, .val tI), (2, .val (.clo 108 .unit)), (6, .val tI), (7, .val tI), (8, .val tI)], [], [.rowC 10250000 113 .hnd, .arF t_bill_debt], fuelOf _⟩),
 (7, ⟨[(0, .rowR 10250000), (1, .val tI), (2, .val (.clo 108 .unit)), (6, .val tI)], [], [.rowC 10250000 113 .hnd, .arF t_bill_debt], fuelOf _⟩),
 (9, ⟨[(0, .rowR 10250000), (1, .val tI), (2, .val (.clo 108 .unit)), (6, .val tI), (7, .val tI), (8, .val tI)], [], [.rowC 10250000 113 .hnd, .arF t_bill_debt], fuelOf _⟩),
 (200002, ⟨[(0, .rowR 10250000), (1, .val tI), (2, .val (.clo 108 .unit)), (6, .val tI), (7, .val tI)], [], [.rowC 10250000 113 .hnd, .arF t_bill_debt], fun _ => 0⟩),
 (200007, ⟨[], [], [.rowC 10250000 113 .hnd, .arF t_bill_debt], fun _ => 0⟩),
 (200009, ⟨[(0, .rowR 10250000), (1, .val tI), (2, .val (.clo 108 .unit)), (6, .val tI), (7, .val tI)], [], [.rowC 10250000 113 .hnd, .arF t_bill_debt], fun _ => 0⟩)]

noncomputable def sp_slices_stableCmpFunc_bill_debtP : FSpec := ⟨[.mrow 113 .hnd, .val tI, .val (.clo 108 .unit), .arR t_bill_debt], [], fun x => slices_stableCmpFunc_bill_debtP x.1 x.2.1 x.2.2.1 x.2.2.2.1⟩

noncomputable def cx_slices_stableCmpFunc_bill_debtP : Cx := ⟨Tryz.prog, [(205, sp_slices_insertionSortCmpFunc_bill_debtP), (206, sp_slices_symMergeCmpFunc_bill_debtP)]⟩

theorem den_slices_stableCmpFunc_bill_debtP : ∀ x, denF cx_slices_stableCmpFunc_bill_debtP anns_slices_stableCmpFunc_bill_debtP none Tryz.f162 sp_slices_stableCmpFunc_bill_debtP x = sp_slices_stableCmpFunc_bill_debtP.m x := by intro x; kernel_rfl

theorem hb_slices_stableCmpFunc_bill_debtP : HasBody Tryz.prog 162 := has_body (fn := Tryz.f162) (by kernel_rfl) rfl (by decide)

theorem ok_slices_stableCmpFunc_bill_debtP : FunOk Tryz.prog 162 sp_slices_stableCmpFunc_bill_debtP := fun_ok (X := cx_slices_stableCmpFunc_bill_debtP) (.cons ok_slices_insertionSortCmpFunc_bill_debtP hb_slices_insertionSortCmpFunc_bill_debtP (.cons ok_slices_symMergeCmpFunc_bill_debtP hb_slices_symMergeCmpFunc_bill_debtP (.nil _))) (by kernel_rfl) sp_slices_stableCmpFunc_bill_debtP anns_slices_stableCmpFunc_bill_debtP none (by kernel_rfl) (fun x y h => (den_slices_stableCmpFunc_bill_debtP x).trans h)

def anns_slices_SortStableFunc_bill_debtP : List (Nat × Ann) := []

noncomputable def sp_slices_SortStableFunc_bill_debtP : FSpec := ⟨[.mrow 113 .hnd, .val (.clo 108 .unit), .arR t_bill_debt], [], fun x => slices_SortStableFunc_bill_debtP x.1 x.2.1 x.2.2.1⟩

noncomputable def cx_slices_SortStableFunc_bill_debtP : Cx := ⟨Tryz.prog, [(162, sp_slices_stableCmpFunc_bill_debtP)]⟩

theorem den_slices_SortStableFunc_bill_debtP : ∀ x, denF cx_slices_SortStableFunc_bill_debtP anns_slices_SortStableFunc_bill_debtP none Tryz.f107 sp_slices_SortStableFunc_bill_debtP x = sp_slices_SortStableFunc_bill_debtP.m x := by intro x; kernel_rfl

theorem hb_slices_SortStableFunc_bill_debtP : HasBody Tryz.prog 107 := has_body (fn := Tryz.f107) (by kernel_rfl) rfl (by decide)

theorem ok_slices_SortStableFunc_bill_debtP : FunOk Tryz.prog 107 sp_slices_SortStableFunc_bill_debtP := fun_ok (X := cx_slices_SortStableFunc_bill_debtP) (.cons ok_slices_stableCmpFunc_bill_debtP hb_slices_stableCmpFunc_bill_debtP (.nil _)) (by kernel_rfl) sp_slices_SortStableFunc_bill_debtP anns_slices_SortStableFunc_bill_debtP none (by kernel_rfl) (fun x y h => (den_slices_SortStableFunc_bill_debtP x).trans h)

def anns_bill_debt_there : List (Nat × Ann) := []

noncomputable def sp_bill_debt_there : FSpec := ⟨[.val .hnd, .val tI, .arR t_bill_debt], [.val .bool], fun x => bill_debt_there x.1 x.2.1 x.2.2.1⟩

noncomputable def cx_bill_debt_there : Cx := ⟨Tryz.prog, []⟩

theorem den_bill_debt_there : ∀ x, denF cx_bill_debt_there anns_bill_debt_there none Tryz.f110 sp_bill_debt_there x = sp_bill_debt_there.m x := by intro x; kernel_rfl

theorem hb_bill_debt_there : HasBody Tryz.prog 110 := has_body (fn := Tryz.f110) (by kernel_rfl) rfl (by decide)

theorem ok_bill_debt_there : FunOk Tryz.prog 110 sp_bill_debt_there := fun_ok (X := cx_bill_debt_there) (.nil _) (by kernel_rfl) sp_bill_debt_there anns_bill_debt_there none (by kernel_rfl) (fun x y h => (den_bill_debt_there x).trans h)

def anns_bill_debt_discount : List (Nat × Ann) := []

noncomputable def sp_bill_debt_discount : FSpec := ⟨[.val .hnd, .arR t_bill_debt], [.val tI], fun x => bill_debt_discount x.1 x.2.1⟩

noncomputable def cx_bill_debt_discount : Cx := ⟨Tryz.prog, [(160, sp_bill_power)]⟩

theorem den_bill_debt_discount : ∀ x, denF cx_bill_debt_discount anns_bill_debt_discount none Tryz.f163 sp_bill_debt_discount x = sp_bill_debt_discount.m x := by intro x; kernel_rfl

theorem hb_bill_debt_discount : HasBody Tryz.prog 163 := has_body (fn := Tryz.f163) (by kernel_rfl) rfl (by decide)

theorem ok_bill_debt_discount : FunOk Tryz.prog 163 sp_bill_debt_discount := fun_ok (X := cx_bill_debt_discount) (.cons ok_bill_power hb_bill_power (.nil _)) (by kernel_rfl) sp_bill_debt_discount anns_bill_debt_discount none (by kernel_rfl) (fun x y h => (den_bill_debt_discount x).trans h)

def anns_bill_debt_pay : List (Nat × Ann) := []

noncomputable def sp_bill_debt_pay : FSpec := ⟨[.val .hnd, .val tI, .val tI, .ar t_bill_debt], [.val tI], fun x => bill_debt_pay x.1 x.2.1 x.2.2.1 x.2.2.2.1⟩

noncomputable def cx_bill_debt_pay : Cx := ⟨Tryz.prog, []⟩

theorem den_bill_debt_pay : ∀ x, denF cx_bill_debt_pay anns_bill_debt_pay none Tryz.f112 sp_bill_debt_pay x = sp_bill_debt_pay.m x := by intro x; kernel_rfl

theorem hb_bill_debt_pay : HasBody Tryz.prog 112 := has_body (fn := Tryz.f112) (by kernel_rfl) rfl (by decide)

theorem ok_bill_debt_pay : FunOk Tryz.prog 112 sp_bill_debt_pay := fun_ok (X := cx_bill_debt_pay) (.nil _) (by kernel_rfl) sp_bill_debt_pay anns_bill_debt_pay none (by kernel_rfl) (fun x y h => (den_bill_debt_pay x).trans h)

def anns_bill_debt_named : List (Nat × Ann) := []

noncomputable def sp_bill_debt_named : FSpec := ⟨[.val .hnd, .val tI, .val tI, .ar t_bill_debt], [.val tI], fun x => bill_debt_named x.1 x.2.1 x.2.2.1 x.2.2.2.1⟩

noncomputable def cx_bill_debt_named : Cx := ⟨Tryz.prog, [(112, sp_bill_debt_pay), (163, sp_bill_debt_discount)]⟩

theorem den_bill_debt_named : ∀ x, denF cx_bill_debt_named anns_bill_debt_named none Tryz.f111 sp_bill_debt_named x = sp_bill_debt_named.m x := by intro x; kernel_rfl

theorem hb_bill_debt_named : HasBody Tryz.prog 111 := has_body (fn := Tryz.f111) (by kernel_rfl) rfl (by decide)

theorem ok_bill_debt_named : FunOk Tryz.prog 111 sp_bill_debt_named := fun_ok (X := cx_bill_debt_named) (.cons ok_bill_debt_pay hb_bill_debt_pay (.cons ok_bill_debt_discount hb_bill_debt_discount (.nil _))) (by kernel_rfl) sp_bill_debt_named anns_bill_debt_named none (by kernel_rfl) (fun x y h => (den_bill_debt_named x).trans h)

def anns_bill_payments : List (Nat × Ann) := [(4, ⟨[(1, .val (.slice t_api_Payment)), (2, .val tI), (8, .own 113 .hnd), (9, .mapR 23), (24, .val (.slice t_api_Debt)), (25, .val tI), (26, .val tI)], [], [.mapC 23 .str .hnd, .ar t_bill_debt], fuelOf _⟩),
 (14, ⟨[(2, .val tI), (8, .own 113 .hnd), (9, .mapR 23), (13, .rowR 105744), (14, .own 3 tI), (49, .val (.slice t_api_Payment)), (50, .val tI), (51, .val tI)], [], [.rowC 105744 113 .hnd, .mapC 23 .str .hnd, .ar t_bill_debt], fuelOf _⟩),
 (19, ⟨[(2, .val tI), (8, .own 113 .hnd), (9, .mapR 23), (13, .rowR 105744), (14, .own 3 tI), (16, .ref 16 0), (17, .val tI), (49, .val (.slice t_api_Payment)), (50, .val tI), (51, .val tI), (63, .val (.slice .str)), (64, .val tI), (65, .val tI)], [(16, [.val tI, .val tI, .val tI, .val (.slice .str)])], [.rowC 105744 113 .hnd, .mapC 23 .str .hnd, .ar t_bill_debt], fuelOf _⟩),
 (26, ⟨[(2, .val tI), (8, .own 113 .hnd), (9, .mapR 23), (13, .rowR 105744), (14, .own 3 tI), (16, .ref 16 0), (17, .val tI), (49, .val (.slice t_api_Payment)), (50, .val tI), (51, .val tI), (86, .rowR 105744), (87, .val tI), (88, .val tI)], [(16, [.val tI, .val tI, .val tI, .val (.slice .str)])], [.rowC 105744 113 .hnd, .mapC 23 .str .hnd, .ar t_bill_debt], fuelOf _⟩),
 (200004, ⟨[(1, .val (.slice t_api_Payment)), (2, .val tI), (8, .own 113 .hnd), (9, .mapR 23)], [], [.mapC 23 .str .hnd, .ar t_bill_debt], fun _ => 0⟩),
 (200014, ⟨[(8, .own 113 .hnd), (14, .own 3 tI)], [], [.ar t_bill_debt], fun _ => 0⟩),
 (200019, ⟨[(2, .val tI), (8, .own 113 .hnd), (9, .mapR 23), (13, .rowR 105744), (14, .own 3 tI), (16, .ref 16 0), (17, .val tI), (49, .val (.slice t_api_Payment)), (50, .val tI), (51, .val tI)], [(16, [.val tI, .val tI, .val tI, .val (.slice .str)])], [.rowC 105744 113 .hnd, .mapC 23 .str .hnd, .ar t_bill_debt], fun _ => 0⟩),
 (200026, ⟨[(2, .val tI), (8, .own 113 .hnd), (9, .mapR 23), (13, .rowR 105744), (14, .own 3 tI), (17, .val tI), (49, .val (.slice t_api_Payment)), (50, .val tI), (51, .val tI)], [], [.rowC 105744 113 .hnd, .mapC 23 .str .hnd, .ar t_bill_debt], fun _ => 0⟩)]

noncomputable def sp_bill_payments : FSpec := ⟨[.val (.slice t_api_Debt), .val (.slice t_api_Payment), .val tI, .ar t_bill_debt], [.val (.slice .hnd), .val (.slice tI)], fun x => bill_payments x.1 x.2.1 x.2.2.1 x.2.2.2.1⟩

noncomputable def cx_bill_payments : Cx := ⟨Tryz.prog, [(105, sp_bill_cents), (106, sp_slices_Clone_bill_debtP), (107, sp_slices_SortStableFunc_bill_debtP), (110, sp_bill_debt_there), (111, sp_bill_debt_named), (112, sp_bill_debt_pay)]⟩

theorem den_bill_payments : ∀ x, denF cx_bill_payments anns_bill_payments none Tryz.f53 sp_bill_payments x = sp_bill_payments.m x := by intro x; kernel_rfl

theorem hb_bill_payments : HasBody Tryz.prog 53 := has_body (fn := Tryz.f53) (by kernel_rfl) rfl (by decide)

theorem ok_bill_payments : FunOk Tryz.prog 53 sp_bill_payments := fun_ok (X := cx_bill_payments) (.cons ok_bill_cents hb_bill_cents (.cons ok_slices_Clone_bill_debtP hb_slices_Clone_bill_debtP (.cons ok_slices_SortStableFunc_bill_debtP hb_slices_SortStableFunc_bill_debtP (.cons ok_bill_debt_there hb_bill_debt_there (.cons ok_bill_debt_named hb_bill_debt_named (.cons ok_bill_debt_pay hb_bill_debt_pay (.nil _))))))) (by kernel_rfl) sp_bill_payments anns_bill_payments none (by kernel_rfl) (fun x y h => (den_bill_payments x).trans h)

def anns_amount_Fewest : List (Nat × Ann) := [(2, ⟨[(1, .val tI), (2, .ref 2 0), (4, .ref 4 0), (6, .ref 6 0)], [(2, [.val .bool, .val (.slice (.int .u32))]), (4, [.val tI, .val tI]), (6, [.val .bool, .val (.slice (.int .u32))])], [], fuelOf _⟩),
 (200002, ⟨[(1, .val tI), (2, .ref 2 0), (4, .ref 4 0)], [(2, [.val .bool, .val (.slice (.int .u32))]), (4, [.val tI, .val tI])], [], fun _ => 0⟩)]

noncomputable def sp_amount_Fewest : FSpec := ⟨[.val t_whole_Int, .val tI], [.val t_api_Decimal, .val tI], fun x => amount_Fewest x.1 x.2.1⟩

noncomputable def cx_amount_Fewest : Cx := ⟨Tryz.prog, [(86, sp_amount_Made), (127, sp_whole_Of), (158, sp_whole_Int_Sign), (159, sp_whole_Int_Minus), (195, sp_whole_Int_By)]⟩

theorem den_amount_Fewest : ∀ x, denF cx_amount_Fewest anns_amount_Fewest none Tryz.f164 sp_amount_Fewest x = sp_amount_Fewest.m x := by intro x; kernel_rfl

theorem hb_amount_Fewest : HasBody Tryz.prog 164 := has_body (fn := Tryz.f164) (by kernel_rfl) rfl (by decide)

theorem ok_amount_Fewest : FunOk Tryz.prog 164 sp_amount_Fewest := fun_ok (X := cx_amount_Fewest) (.cons ok_amount_Made hb_amount_Made (.cons ok_whole_Of hb_whole_Of (.cons ok_whole_Int_Sign hb_whole_Int_Sign (.cons ok_whole_Int_Minus hb_whole_Int_Minus (.cons ok_whole_Int_By hb_whole_Int_By (.nil _)))))) (by kernel_rfl) sp_amount_Fewest anns_amount_Fewest none (by kernel_rfl) (fun x y h => (den_amount_Fewest x).trans h)

def anns_bill_money : List (Nat × Ann) := []

noncomputable def sp_bill_money : FSpec := ⟨[.val tI], [.val t_api_Decimal, .val tI], fun x => bill_money x.1⟩

noncomputable def cx_bill_money : Cx := ⟨Tryz.prog, [(127, sp_whole_Of), (164, sp_amount_Fewest)]⟩

theorem den_bill_money : ∀ x, denF cx_bill_money anns_bill_money none Tryz.f113 sp_bill_money x = sp_bill_money.m x := by intro x; kernel_rfl

theorem hb_bill_money : HasBody Tryz.prog 113 := has_body (fn := Tryz.f113) (by kernel_rfl) rfl (by decide)

theorem ok_bill_money : FunOk Tryz.prog 113 sp_bill_money := fun_ok (X := cx_bill_money) (.cons ok_whole_Of hb_whole_Of (.cons ok_amount_Fewest hb_amount_Fewest (.nil _))) (by kernel_rfl) sp_bill_money anns_bill_money none (by kernel_rfl) (fun x y h => (den_bill_money x).trans h)

def anns_bill_toldMoney : List (Nat × Ann) := []

noncomputable def sp_bill_toldMoney : FSpec := ⟨[.val tI], [.val t_api_Decimal], fun x => bill_toldMoney x.1⟩

noncomputable def cx_bill_toldMoney : Cx := ⟨Tryz.prog, [(113, sp_bill_money)]⟩

theorem den_bill_toldMoney : ∀ x, denF cx_bill_toldMoney anns_bill_toldMoney none Tryz.f54 sp_bill_toldMoney x = sp_bill_toldMoney.m x := by intro x; kernel_rfl

theorem hb_bill_toldMoney : HasBody Tryz.prog 54 := has_body (fn := Tryz.f54) (by kernel_rfl) rfl (by decide)

theorem ok_bill_toldMoney : FunOk Tryz.prog 54 sp_bill_toldMoney := fun_ok (X := cx_bill_toldMoney) (.cons ok_bill_money hb_bill_money (.nil _)) (by kernel_rfl) sp_bill_toldMoney anns_bill_toldMoney none (by kernel_rfl) (fun x y h => (den_bill_toldMoney x).trans h)

def anns_bill_Pay : List (Nat × Ann) := [(7, ⟨[(9, .val (.slice tI)), (10, .own 63 t_api_Paid), (28, .val (.slice .hnd)), (29, .val tI), (30, .val tI)], [], [.ar t_bill_debt], fuelOf _⟩),
 (13, ⟨[(10, .own 63 t_api_Paid), (13, .own 33 t_api_Decimal), (58, .val (.slice tI)), (59, .val tI), (60, .val tI)], [], [.ar t_bill_debt], fuelOf _⟩),
 (200007, ⟨[(9, .val (.slice tI)), (10, .own 63 t_api_Paid)], [], [.ar t_bill_debt], fun _ => 0⟩),
 (200013, ⟨[(10, .own 63 t_api_Paid), (13, .own 33 t_api_Decimal)], [], [.ar t_bill_debt], fun _ => 0⟩)]

noncomputable def sp_bill_Pay : FSpec := ⟨[.val (.slice t_api_Debt), .val (.slice t_api_Payment)], [.val (.slice t_api_Paid), .val (.slice t_api_Decimal), .val tI], fun x => bill_Pay x.1 x.2.1⟩

noncomputable def cx_bill_Pay : Cx := ⟨Tryz.prog, [(52, sp_bill_bothFault), (53, sp_bill_payments), (54, sp_bill_toldMoney)]⟩

theorem den_bill_Pay : ∀ x, denF cx_bill_Pay anns_bill_Pay (some t_bill_debt) Tryz.f22 sp_bill_Pay x = sp_bill_Pay.m x := by intro x; kernel_rfl

theorem hb_bill_Pay : HasBody Tryz.prog 22 := has_body (fn := Tryz.f22) (by kernel_rfl) rfl (by decide)

theorem ok_bill_Pay : FunOk Tryz.prog 22 sp_bill_Pay := fun_ok (X := cx_bill_Pay) (.cons ok_bill_bothFault hb_bill_bothFault (.cons ok_bill_payments hb_bill_payments (.cons ok_bill_toldMoney hb_bill_toldMoney (.nil _)))) (by kernel_rfl) sp_bill_Pay anns_bill_Pay (some t_bill_debt) (by kernel_rfl) (fun x y h => (den_bill_Pay x).trans h)

def anns_l11_awake : List (Nat × Ann) := []

noncomputable def sp_l11_awake : FSpec := ⟨[], [.val .bool], fun x => l11_awake ⟩

noncomputable def cx_l11_awake : Cx := ⟨Tryz.prog, [(22, sp_bill_Pay)]⟩

theorem den_l11_awake : ∀ x, denF cx_l11_awake anns_l11_awake none Tryz.f14 sp_l11_awake x = sp_l11_awake.m x := by intro x; kernel_rfl

theorem hb_l11_awake : HasBody Tryz.prog 14 := has_body (fn := Tryz.f14) (by kernel_rfl) rfl (by decide)

theorem ok_l11_awake : FunOk Tryz.prog 14 sp_l11_awake := fun_ok (X := cx_l11_awake) (.cons ok_bill_Pay hb_bill_Pay (.nil _)) (by kernel_rfl) sp_l11_awake anns_l11_awake none (by kernel_rfl) (fun x y h => (den_l11_awake x).trans h)

def anns_bill_ofLine_net : List (Nat × Ann) := []

noncomputable def sp_bill_ofLine_net : FSpec := ⟨[.val t_api_Invoice, .val tI, .val (.clo 36 .unit)], [.val t_api_Decimal, .val tI], fun x => bill_ofLine_net x.1 x.2.1 x.2.2.1⟩

noncomputable def cx_bill_ofLine_net : Cx := ⟨Tryz.prog, [(36, sp_bill_net), (37, sp_bill_CheckInvoice), (39, sp_kit_Outside), (86, sp_amount_Made)]⟩

theorem den_bill_ofLine_net : ∀ x, denF cx_bill_ofLine_net anns_bill_ofLine_net none Tryz.f35 sp_bill_ofLine_net x = sp_bill_ofLine_net.m x := by intro x; kernel_rfl

theorem hb_bill_ofLine_net : HasBody Tryz.prog 35 := has_body (fn := Tryz.f35) (by kernel_rfl) rfl (by decide)

theorem ok_bill_ofLine_net : FunOk Tryz.prog 35 sp_bill_ofLine_net := fun_ok (X := cx_bill_ofLine_net) (.cons ok_bill_net hb_bill_net (.cons ok_bill_CheckInvoice hb_bill_CheckInvoice (.cons ok_kit_Outside hb_kit_Outside (.cons ok_amount_Made hb_amount_Made (.nil _))))) (by kernel_rfl) sp_bill_ofLine_net anns_bill_ofLine_net none (by kernel_rfl) (fun x y h => (den_bill_ofLine_net x).trans h)

def anns_bill_Net : List (Nat × Ann) := []

noncomputable def sp_bill_Net : FSpec := ⟨[.val t_api_Invoice, .val tI], [.val t_api_Decimal, .val tI], fun x => bill_Net x.1 x.2.1⟩

noncomputable def cx_bill_Net : Cx := ⟨Tryz.prog, [(35, sp_bill_ofLine_net)]⟩

theorem den_bill_Net : ∀ x, denF cx_bill_Net anns_bill_Net none Tryz.f15 sp_bill_Net x = sp_bill_Net.m x := by intro x; kernel_rfl

theorem hb_bill_Net : HasBody Tryz.prog 15 := has_body (fn := Tryz.f15) (by kernel_rfl) rfl (by decide)

theorem ok_bill_Net : FunOk Tryz.prog 15 sp_bill_Net := fun_ok (X := cx_bill_Net) (.cons ok_bill_ofLine_net hb_bill_ofLine_net (.nil _)) (by kernel_rfl) sp_bill_Net anns_bill_Net none (by kernel_rfl) (fun x y h => (den_bill_Net x).trans h)

def anns_l11_BillTotalsAddUp : List (Nat × Ann) := [(9, ⟨[(1, .ref 1 0), (3, .ref 3 0), (6, .val tI), (7, .val tI), (8, .val tI), (39, .val (.slice t_api_TaxSum)), (40, .val tI), (41, .val tI)], [(1, [.val .str, .val .str, .val tI, .val tI, .val tI, .val .bool, .val (.slice t_api_Rate), .val (.slice t_api_BillLine), .val (.slice t_api_Extra)]), (3, [.val tI, .val tI, .val tI, .val tI, .val tI, .val tI, .val tI, .val tI, .val tI, .val tI])], [], fuelOf _⟩),
 (14, ⟨[(1, .ref 1 0), (3, .ref 3 0), (6, .val tI), (7, .val tI), (8, .val tI), (58, .val tI), (59, .val tI)], [(1, [.val .str, .val .str, .val tI, .val tI, .val tI, .val .bool, .val (.slice t_api_Rate), .val (.slice t_api_BillLine), .val (.slice t_api_Extra)]), (3, [.val tI, .val tI, .val tI, .val tI, .val tI, .val tI, .val tI, .val tI, .val tI, .val tI])], [], fuelOf _⟩),
 (200009, ⟨[(1, .ref 1 0), (3, .ref 3 0), (6, .val tI), (7, .val tI), (8, .val tI)], [(1, [.val .str, .val .str, .val tI, .val tI, .val tI, .val .bool, .val (.slice t_api_Rate), .val (.slice t_api_BillLine), .val (.slice t_api_Extra)]), (3, [.val tI, .val tI, .val tI, .val tI, .val tI, .val tI, .val tI, .val tI, .val tI, .val tI])], [], fun _ => 0⟩),
 (200014, ⟨[(3, .ref 3 0), (6, .val tI), (7, .val tI), (8, .val tI)], [(3, [.val tI, .val tI, .val tI, .val tI, .val tI, .val tI, .val tI, .val tI, .val tI, .val tI])], [], fun _ => 0⟩)]

noncomputable def sp_l11_BillTotalsAddUp : FSpec := ⟨[.val t_api_Invoice], [.val .bool], fun x => l11_BillTotalsAddUp x.1⟩

noncomputable def cx_l11_BillTotalsAddUp : Cx := ⟨Tryz.prog, [(9, sp_bill_Taxes), (12, sp_bill_Totals), (14, sp_l11_awake), (15, sp_bill_Net)]⟩

theorem den_l11_BillTotalsAddUp : ∀ x, denF cx_l11_BillTotalsAddUp anns_l11_BillTotalsAddUp none Tryz.f4 sp_l11_BillTotalsAddUp x = sp_l11_BillTotalsAddUp.m x := by intro x; kernel_rfl

theorem ok_l11_BillTotalsAddUp : FunOk Tryz.prog 4 sp_l11_BillTotalsAddUp := fun_ok (X := cx_l11_BillTotalsAddUp) (.cons ok_bill_Taxes hb_bill_Taxes (.cons ok_bill_Totals hb_bill_Totals (.cons ok_l11_awake hb_l11_awake (.cons ok_bill_Net hb_bill_Net (.nil _))))) (by kernel_rfl) sp_l11_BillTotalsAddUp anns_l11_BillTotalsAddUp none (by kernel_rfl) (fun x y h => (den_l11_BillTotalsAddUp x).trans h)


end Go.Proofs.SeatS
