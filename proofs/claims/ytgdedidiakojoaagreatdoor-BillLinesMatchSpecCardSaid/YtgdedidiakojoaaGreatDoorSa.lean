/-
  Each function that the law reaches is as its plain model says. No condition.
-/
import Derived.Test.YtgdedidiakojoaaGreatDoorMe
import Derived.Test.YtgdedidiakojoaaGreatDoorFd
import Derived.Test.YtgdedidiakojoaaGreatDoorProg
import Derived.Shelf.Strings.SlTrimAscii
import Derived.Shelf.Small.Strs
set_option linter.all false
namespace Go.Proofs
open Go.Shelf
def Tryz.lays160_ren : Go.Shelf.Ren := ⟨fun | 160 => 64 | 232 => 104 | 231 => 103 | 227 => 105 | 234 => 107 | 233 => 106 | 236 => 109 | 235 => 108 | 228 => 147 | 271 => 150 | 151 => 149 | 197 => 148 | 120 => 171 | 152 => 170 | 260 => 169 | 137 => 181 | 119 => 182 | 224 => 183 | 225 => 184 | 217 => 188 | 266 => 192 | n => n, fun | 9 => 9 | 4 => 4 | 3 => 3 | 5 => 5 | 117 => 162 | 116 => 161 | 0 => 0 | 124 => 165 | 21 => 21 | 105 => 198 | 46 => 150 | 119 => 225 | 139 => 228 | 138 => 227 | n => n, fun | 3 => 0 | 4 => 1 | n => n⟩
theorem Tryz.lays160 : Go.Proofs.Lays.n160 Tryz.prog Tryz.lays160_ren := {
  mixed := by kernel_rfl
  f119 := Tryz.func182.trans (congrArg some (by kernel_rfl))
  f120 := Tryz.func171.trans (congrArg some (by kernel_rfl))
  f137 := Tryz.func181.trans (congrArg some (by kernel_rfl))
  f151 := Tryz.func149.trans (congrArg some (by kernel_rfl))
  f152 := Tryz.func170.trans (congrArg some (by kernel_rfl))
  f160 := Tryz.func64.trans (congrArg some (by kernel_rfl))
  f197 := Tryz.func148.trans (congrArg some (by kernel_rfl))
  f217 := Tryz.func188.trans (congrArg some (by kernel_rfl))
  f224 := Tryz.func183.trans (congrArg some (by kernel_rfl))
  f225 := Tryz.func184.trans (congrArg some (by kernel_rfl))
  f227 := Tryz.func105.trans (congrArg some (by kernel_rfl))
  f228 := Tryz.func147.trans (congrArg some (by kernel_rfl))
  f231 := Tryz.func103.trans (congrArg some (by kernel_rfl))
  f232 := Tryz.func104.trans (congrArg some (by kernel_rfl))
  f233 := Tryz.func106.trans (congrArg some (by kernel_rfl))
  f234 := Tryz.func107.trans (congrArg some (by kernel_rfl))
  f235 := Tryz.func108.trans (congrArg some (by kernel_rfl))
  f236 := Tryz.func109.trans (congrArg some (by kernel_rfl))
  f260 := Tryz.func169.trans (congrArg some (by kernel_rfl))
  f266 := Tryz.func192.trans (congrArg some (by kernel_rfl))
  f271 := Tryz.func150.trans (congrArg some (by kernel_rfl))
  t0 := Tryz.underlying0
  a0 := Tryz.isAgg0
  z0 := Tryz.sizeOf0
  v0 := Tryz.zeroValue0
  t3 := Tryz.underlying3
  a3 := Tryz.isAgg3
  z3 := Tryz.sizeOf3
  v3 := Tryz.zeroValue3
  t4 := Tryz.underlying4
  a4 := Tryz.isAgg4
  z4 := Tryz.sizeOf4
  v4 := Tryz.zeroValue4
  t5 := Tryz.underlying5
  a5 := Tryz.isAgg5
  z5 := Tryz.sizeOf5
  v5 := Tryz.zeroValue5
  t9 := Tryz.underlying9
  a9 := Tryz.isAgg9
  z9 := Tryz.sizeOf9
  v9 := Tryz.zeroValue9
  t21 := Tryz.underlying21
  a21 := Tryz.isAgg21
  z21 := Tryz.sizeOf21
  v21 := Tryz.zeroValue21
  t46 := Tryz.underlying150
  a46 := Tryz.isAgg150
  z46 := Tryz.sizeOf150
  v46 := Tryz.zeroValue150
  t105 := Tryz.underlying198
  a105 := Tryz.isAgg198
  z105 := Tryz.sizeOf198
  v105 := Tryz.zeroValue198
  t116 := Tryz.underlying161
  a116 := Tryz.isAgg161
  z116 := Tryz.sizeOf161
  t117 := Tryz.underlying162
  a117 := Tryz.isAgg162
  z117 := Tryz.sizeOf162
  v117 := Tryz.zeroValue162
  t119 := Tryz.underlying225
  a119 := Tryz.isAgg225
  z119 := Tryz.sizeOf225
  t124 := Tryz.underlying165
  a124 := Tryz.isAgg165
  z124 := Tryz.sizeOf165
  v124 := Tryz.zeroValue165
  t138 := Tryz.underlying227
  a138 := Tryz.isAgg227
  z138 := Tryz.sizeOf227
  v138 := Tryz.zeroValue227
  t139 := Tryz.underlying228
  a139 := Tryz.isAgg228
  z139 := Tryz.sizeOf228
  v139 := Tryz.zeroValue228
  g3 := by kernel_rfl
  g4 := by kernel_rfl }
def Tryz.lays106_ren : Go.Shelf.Ren := ⟨fun | 106 => 154 | 213 => 172 | 265 => 185 | n => n, fun | 9 => 9 | 3 => 3 | n => n, fun | n => n⟩
theorem Tryz.lays106 : Go.Proofs.Lays.n106 Tryz.prog Tryz.lays106_ren := {
  mixed := by kernel_rfl
  f106 := Tryz.func154.trans (congrArg some (by kernel_rfl))
  f213 := Tryz.func172.trans (congrArg some (by kernel_rfl))
  f265 := Tryz.func185.trans (congrArg some (by kernel_rfl))
  t3 := Tryz.underlying3
  a3 := Tryz.isAgg3
  z3 := Tryz.sizeOf3
  v3 := Tryz.zeroValue3
  t9 := Tryz.underlying9
  a9 := Tryz.isAgg9
  z9 := Tryz.sizeOf9
  v9 := Tryz.zeroValue9 }
end Go.Proofs

namespace Go.Proofs.SeatT
open Go.Dn Go.Md Go.Proofs Go.RowKit Go.Shelf Go.Lib

def sp_strings_Trim : FSpec := ⟨[.val .str, .val .str], [.val .str], fun x => strings_Trim x.1 x.2.1⟩
theorem hb_strings_Trim : HasBody Tryz.prog 64 := has_body (fn := Tryz.f64) (by kernel_rfl) rfl (by decide)
theorem ok_strings_Trim : FunOk Tryz.prog 64 sp_strings_Trim := by
  intro G w ow args x y hG how ha hm
  refine fun_ok_str2 (P := Tryz.prog) (f := 64) (m := sp_strings_Trim.m) ?_ G w ow args x y hG how ha hm
  intro s c r w hm
  replace hm : strings_Trim s c = some (r, ()) := hm
  unfold strings_Trim at hm
  cases hb : (decide (s.length ≤ 9223372036854775807) && (decide (c.length < 4294967281) && c.all fun b => decide (b.toNat < 128))) with
  | false => rw [hb] at hm; cases hm
  | true =>
    rw [hb] at hm
    simp only [cond_true, Option.some.injEq, Prod.mk.injEq, and_true] at hm
    subst hm
    simp only [Bool.and_eq_true, decide_eq_true_eq, List.all_eq_true] at hb
    have := Any.strings_Trim_laid Tryz.lays160 (by kernel_rfl) (bs s) (bs c) w (by simpa [bs, ByteArray.size] using hb.1) (by simpa [bs, ByteArray.size] using hb.2.1) (fun j b hj => hb.2.2 b (List.mem_of_getElem? (by simpa [bs] using hj)))
    change Calls Tryz.prog 64 _ _ _ at this
    simpa [bs] using this

def sp_strings_Compare : FSpec := ⟨[.val .str, .val .str], [.val tI], fun x => strings_Compare x.1 x.2.1⟩
theorem hb_strings_Compare : HasBody Tryz.prog 154 := has_body (fn := Tryz.f154) (by kernel_rfl) rfl (by decide)
theorem ok_strings_Compare : FunOk Tryz.prog 154 sp_strings_Compare := by
  intro G w ow args x y hG how ha hm
  refine fun_ok_ss (P := Tryz.prog) (f := 154) (t := tI) (m := sp_strings_Compare.m) ?_ G w ow args x y hG how ha hm
  intro s c r w hm
  replace hm : strings_Compare s c = some (r, ()) := hm
  unfold strings_Compare at hm
  obtain rfl : Lib.compareBytes s c = r := congrArg (fun o => (Option.getD o (0, ())).1) hm
  have := Any.strings_Compare Tryz.lays106 (bs s) (bs c) w
  refine ⟨.int .i64 (Lib.compareBytes s c), fun G => ?_, this.mono ?_⟩
  · rfl
  · rintro e w' ⟨he, rfl⟩
    exact ⟨he, Below.refl _ _⟩

end Go.Proofs.SeatT

set_option maxRecDepth 100000
namespace Go.Proofs.SeatT
open Go.Dn Go.Md Go.Proofs

def anns_kit_IsName : List (Nat × Ann) := []

noncomputable def sp_kit_IsName : FSpec := ⟨[.val .str], [.val .bool], fun x => kit_IsName x.1⟩

noncomputable def cx_kit_IsName : Cx := ⟨Tryz.prog, [(64, sp_strings_Trim)]⟩

theorem den_kit_IsName : ∀ x, denF cx_kit_IsName anns_kit_IsName none Tryz.f27 sp_kit_IsName x = sp_kit_IsName.m x := by intro x; kernel_rfl

theorem hb_kit_IsName : HasBody Tryz.prog 27 := has_body (fn := Tryz.f27) (by kernel_rfl) rfl (by decide)

theorem ok_kit_IsName : FunOk Tryz.prog 27 sp_kit_IsName := fun_ok (X := cx_kit_IsName) (.cons ok_strings_Trim hb_strings_Trim (.nil _)) (by kernel_rfl) sp_kit_IsName anns_kit_IsName none (by kernel_rfl) (fun x y h => (den_kit_IsName x).trans h)

def anns_kit_Outside : List (Nat × Ann) := []

noncomputable def sp_kit_Outside : FSpec := ⟨[.val tI, .val tI, .val tI], [.val .bool], fun x => kit_Outside x.1 x.2.1 x.2.2.1⟩

noncomputable def cx_kit_Outside : Cx := ⟨Tryz.prog, []⟩

theorem den_kit_Outside : ∀ x, denF cx_kit_Outside anns_kit_Outside none Tryz.f29 sp_kit_Outside x = sp_kit_Outside.m x := by intro x; kernel_rfl

theorem hb_kit_Outside : HasBody Tryz.prog 29 := has_body (fn := Tryz.f29) (by kernel_rfl) rfl (by decide)

theorem ok_kit_Outside : FunOk Tryz.prog 29 sp_kit_Outside := fun_ok (X := cx_kit_Outside) (.nil _) (by kernel_rfl) sp_kit_Outside anns_kit_Outside none (by kernel_rfl) (fun x y h => (den_kit_Outside x).trans h)

def anns_kit_IsDay : List (Nat × Ann) := []

noncomputable def sp_kit_IsDay : FSpec := ⟨[.val tI], [.val .bool], fun x => kit_IsDay x.1⟩

noncomputable def cx_kit_IsDay : Cx := ⟨Tryz.prog, [(29, sp_kit_Outside)]⟩

theorem den_kit_IsDay : ∀ x, denF cx_kit_IsDay anns_kit_IsDay none Tryz.f28 sp_kit_IsDay x = sp_kit_IsDay.m x := by intro x; kernel_rfl

theorem hb_kit_IsDay : HasBody Tryz.prog 28 := has_body (fn := Tryz.f28) (by kernel_rfl) rfl (by decide)

theorem ok_kit_IsDay : FunOk Tryz.prog 28 sp_kit_IsDay := fun_ok (X := cx_kit_IsDay) (.cons ok_kit_Outside hb_kit_Outside (.nil _)) (by kernel_rfl) sp_kit_IsDay anns_kit_IsDay none (by kernel_rfl) (fun x y h => (den_kit_IsDay x).trans h)

def anns_amount_IsWay : List (Nat × Ann) := []

noncomputable def sp_amount_IsWay : FSpec := ⟨[.val tI], [.val .bool], fun x => amount_IsWay x.1⟩

noncomputable def cx_amount_IsWay : Cx := ⟨Tryz.prog, [(29, sp_kit_Outside)]⟩

theorem den_amount_IsWay : ∀ x, denF cx_amount_IsWay anns_amount_IsWay none Tryz.f30 sp_amount_IsWay x = sp_amount_IsWay.m x := by intro x; kernel_rfl

theorem hb_amount_IsWay : HasBody Tryz.prog 30 := has_body (fn := Tryz.f30) (by kernel_rfl) rfl (by decide)

theorem ok_amount_IsWay : FunOk Tryz.prog 30 sp_amount_IsWay := fun_ok (X := cx_amount_IsWay) (.cons ok_kit_Outside hb_kit_Outside (.nil _)) (by kernel_rfl) sp_amount_IsWay anns_amount_IsWay none (by kernel_rfl) (fun x y h => (den_amount_IsWay x).trans h)

def anns_amount_CheckDecimal : List (Nat × Ann) := []

noncomputable def sp_amount_CheckDecimal : FSpec := ⟨[.val t_api_Decimal], [.val tI], fun x => amount_CheckDecimal x.1⟩

noncomputable def cx_amount_CheckDecimal : Cx := ⟨Tryz.prog, [(29, sp_kit_Outside)]⟩

theorem den_amount_CheckDecimal : ∀ x, denF cx_amount_CheckDecimal anns_amount_CheckDecimal none Tryz.f65 sp_amount_CheckDecimal x = sp_amount_CheckDecimal.m x := by intro x; kernel_rfl

theorem hb_amount_CheckDecimal : HasBody Tryz.prog 65 := has_body (fn := Tryz.f65) (by kernel_rfl) rfl (by decide)

theorem ok_amount_CheckDecimal : FunOk Tryz.prog 65 sp_amount_CheckDecimal := fun_ok (X := cx_amount_CheckDecimal) (.cons ok_kit_Outside hb_kit_Outside (.nil _)) (by kernel_rfl) sp_amount_CheckDecimal anns_amount_CheckDecimal none (by kernel_rfl) (fun x y h => (den_amount_CheckDecimal x).trans h)

def anns_bill_power : List (Nat × Ann) := [(3, ⟨[(3, .val tI), (4, .val tI), (5, .val tI)], [], [], fuelOf _⟩),
  (200003, ⟨[(3, .val tI)], [], [], fun _ => 0⟩)]

noncomputable def sp_bill_power : FSpec := ⟨[.val tI], [.val tI], fun x => bill_power x.1⟩

noncomputable def cx_bill_power : Cx := ⟨Tryz.prog, []⟩

theorem den_bill_power : ∀ x, denF cx_bill_power anns_bill_power none Tryz.f110 sp_bill_power x = sp_bill_power.m x := by intro x; kernel_rfl

theorem hb_bill_power : HasBody Tryz.prog 110 := has_body (fn := Tryz.f110) (by kernel_rfl) rfl (by decide)

theorem ok_bill_power : FunOk Tryz.prog 110 sp_bill_power := fun_ok (X := cx_bill_power) (.nil _) (by kernel_rfl) sp_bill_power anns_bill_power none (by kernel_rfl) (fun x y h => (den_bill_power x).trans h)

def anns_bill_between : List (Nat × Ann) := []

noncomputable def sp_bill_between : FSpec := ⟨[.val t_api_Decimal, .val tI], [.val .bool], fun x => bill_between x.1 x.2.1⟩

noncomputable def cx_bill_between : Cx := ⟨Tryz.prog, [(29, sp_kit_Outside), (110, sp_bill_power)]⟩

theorem den_bill_between : ∀ x, denF cx_bill_between anns_bill_between none Tryz.f66 sp_bill_between x = sp_bill_between.m x := by intro x; kernel_rfl

theorem hb_bill_between : HasBody Tryz.prog 66 := has_body (fn := Tryz.f66) (by kernel_rfl) rfl (by decide)

theorem ok_bill_between : FunOk Tryz.prog 66 sp_bill_between := fun_ok (X := cx_bill_between) (.cons ok_kit_Outside hb_kit_Outside (.cons ok_bill_power hb_bill_power (.nil _))) (by kernel_rfl) sp_bill_between anns_bill_between none (by kernel_rfl) (fun x y h => (den_bill_between x).trans h)

def anns_bill_ratesFault : List (Nat × Ann) := [(6, ⟨[(0, .val (.slice t_api_Rate)), (12, .val (.slice t_api_Rate)), (13, .val tI), (14, .val tI)], [], [], fuelOf _⟩),
  (200006, ⟨[], [], [], fun _ => 0⟩)]

noncomputable def sp_bill_ratesFault : FSpec := ⟨[.val (.slice t_api_Rate)], [.val tI], fun x => bill_ratesFault x.1⟩

noncomputable def cx_bill_ratesFault : Cx := ⟨Tryz.prog, [(27, sp_kit_IsName), (65, sp_amount_CheckDecimal), (66, sp_bill_between)]⟩

theorem den_bill_ratesFault : ∀ x, denF cx_bill_ratesFault anns_bill_ratesFault none Tryz.f31 sp_bill_ratesFault x = sp_bill_ratesFault.m x := by intro x; kernel_rfl

theorem hb_bill_ratesFault : HasBody Tryz.prog 31 := has_body (fn := Tryz.f31) (by kernel_rfl) rfl (by decide)

theorem ok_bill_ratesFault : FunOk Tryz.prog 31 sp_bill_ratesFault := fun_ok (X := cx_bill_ratesFault) (.cons ok_kit_IsName hb_kit_IsName (.cons ok_amount_CheckDecimal hb_amount_CheckDecimal (.cons ok_bill_between hb_bill_between (.nil _)))) (by kernel_rfl) sp_bill_ratesFault anns_bill_ratesFault none (by kernel_rfl) (fun x y h => (den_bill_ratesFault x).trans h)

def anns_order_power : List (Nat × Ann) := [(3, ⟨[(3, .val tI), (4, .val tI), (5, .val tI)], [], [], fuelOf _⟩),
  (200003, ⟨[(3, .val tI)], [], [], fun _ => 0⟩)]

noncomputable def sp_order_power : FSpec := ⟨[.val tI], [.val tI], fun x => order_power x.1⟩

noncomputable def cx_order_power : Cx := ⟨Tryz.prog, []⟩

theorem den_order_power : ∀ x, denF cx_order_power anns_order_power none Tryz.f151 sp_order_power x = sp_order_power.m x := by intro x; kernel_rfl

theorem hb_order_power : HasBody Tryz.prog 151 := has_body (fn := Tryz.f151) (by kernel_rfl) rfl (by decide)

theorem ok_order_power : FunOk Tryz.prog 151 sp_order_power := fun_ok (X := cx_order_power) (.nil _) (by kernel_rfl) sp_order_power anns_order_power none (by kernel_rfl) (fun x y h => (den_order_power x).trans h)

def anns_order_within : List (Nat × Ann) := []

noncomputable def sp_order_within : FSpec := ⟨[.val t_api_Decimal, .val tI, .val tI], [.val .bool], fun x => order_within x.1 x.2.1 x.2.2.1⟩

noncomputable def cx_order_within : Cx := ⟨Tryz.prog, [(151, sp_order_power)]⟩

theorem den_order_within : ∀ x, denF cx_order_within anns_order_within none Tryz.f111 sp_order_within x = sp_order_within.m x := by intro x; kernel_rfl

theorem hb_order_within : HasBody Tryz.prog 111 := has_body (fn := Tryz.f111) (by kernel_rfl) rfl (by decide)

theorem ok_order_within : FunOk Tryz.prog 111 sp_order_within := fun_ok (X := cx_order_within) (.cons ok_order_power hb_order_power (.nil _)) (by kernel_rfl) sp_order_within anns_order_within none (by kernel_rfl) (fun x y h => (den_order_within x).trans h)

def anns_order_PriceFault : List (Nat × Ann) := []

noncomputable def sp_order_PriceFault : FSpec := ⟨[.val t_api_Decimal], [.val tI], fun x => order_PriceFault x.1⟩

noncomputable def cx_order_PriceFault : Cx := ⟨Tryz.prog, [(65, sp_amount_CheckDecimal), (111, sp_order_within)]⟩

theorem den_order_PriceFault : ∀ x, denF cx_order_PriceFault anns_order_PriceFault none Tryz.f67 sp_order_PriceFault x = sp_order_PriceFault.m x := by intro x; kernel_rfl

theorem hb_order_PriceFault : HasBody Tryz.prog 67 := has_body (fn := Tryz.f67) (by kernel_rfl) rfl (by decide)

theorem ok_order_PriceFault : FunOk Tryz.prog 67 sp_order_PriceFault := fun_ok (X := cx_order_PriceFault) (.cons ok_amount_CheckDecimal hb_amount_CheckDecimal (.cons ok_order_within hb_order_within (.nil _))) (by kernel_rfl) sp_order_PriceFault anns_order_PriceFault none (by kernel_rfl) (fun x y h => (den_order_PriceFault x).trans h)

def anns_bill_rateAt_1 : List (Nat × Ann) := []

noncomputable def sp_bill_rateAt_1 : FSpec := ⟨[.val t_api_Rate, .val .str], [.val tI], fun x => bill_rateAt_1 x.1 x.2.1⟩

noncomputable def cx_bill_rateAt_1 : Cx := ⟨Tryz.prog, [(154, sp_strings_Compare)]⟩

theorem den_bill_rateAt_1 : ∀ x, denF cx_bill_rateAt_1 anns_bill_rateAt_1 none Tryz.f153 sp_bill_rateAt_1 x = sp_bill_rateAt_1.m x := by intro x; kernel_rfl

theorem hb_bill_rateAt_1 : HasBody Tryz.prog 153 := has_body (fn := Tryz.f153) (by kernel_rfl) rfl (by decide)

theorem ok_bill_rateAt_1 : FunOk Tryz.prog 153 sp_bill_rateAt_1 := fun_ok (X := cx_bill_rateAt_1) (.cons ok_strings_Compare hb_strings_Compare (.nil _)) (by kernel_rfl) sp_bill_rateAt_1 anns_bill_rateAt_1 none (by kernel_rfl) (fun x y h => (den_bill_rateAt_1 x).trans h)

def anns_slices_BinarySearchFunc_api_Rate_string : List (Nat × Ann) := [(3, ⟨[(0, .val (.slice t_api_Rate)), (1, .val .str), (2, .val (.clo 153 .unit)), (8, .val tI), (9, .val tI), (10, .val tI)], [], [], fuelOf _⟩),
  (200003, ⟨[(0, .val (.slice t_api_Rate)), (1, .val .str), (2, .val (.clo 153 .unit)), (8, .val tI), (9, .val tI)], [], [], fun _ => 0⟩)]

noncomputable def sp_slices_BinarySearchFunc_api_Rate_string : FSpec := ⟨[.val (.slice t_api_Rate), .val .str, .val (.clo 153 .unit)], [.val tI, .val .bool], fun x => slices_BinarySearchFunc_api_Rate_string x.1 x.2.1 x.2.2.1⟩

noncomputable def cx_slices_BinarySearchFunc_api_Rate_string : Cx := ⟨Tryz.prog, [(153, sp_bill_rateAt_1)]⟩

theorem den_slices_BinarySearchFunc_api_Rate_string : ∀ x, denF cx_slices_BinarySearchFunc_api_Rate_string anns_slices_BinarySearchFunc_api_Rate_string none Tryz.f152 sp_slices_BinarySearchFunc_api_Rate_string x = sp_slices_BinarySearchFunc_api_Rate_string.m x := by intro x; kernel_rfl

theorem hb_slices_BinarySearchFunc_api_Rate_string : HasBody Tryz.prog 152 := has_body (fn := Tryz.f152) (by kernel_rfl) rfl (by decide)

theorem ok_slices_BinarySearchFunc_api_Rate_string : FunOk Tryz.prog 152 sp_slices_BinarySearchFunc_api_Rate_string := fun_ok (X := cx_slices_BinarySearchFunc_api_Rate_string) (.cons ok_bill_rateAt_1 hb_bill_rateAt_1 (.nil _)) (by kernel_rfl) sp_slices_BinarySearchFunc_api_Rate_string anns_slices_BinarySearchFunc_api_Rate_string none (by kernel_rfl) (fun x y h => (den_slices_BinarySearchFunc_api_Rate_string x).trans h)

def anns_bill_rateAt : List (Nat × Ann) := []

noncomputable def sp_bill_rateAt : FSpec := ⟨[.val (.slice t_api_Rate), .val .str], [.val tI, .val .bool], fun x => bill_rateAt x.1 x.2.1⟩

noncomputable def cx_bill_rateAt : Cx := ⟨Tryz.prog, [(152, sp_slices_BinarySearchFunc_api_Rate_string)]⟩

theorem den_bill_rateAt : ∀ x, denF cx_bill_rateAt anns_bill_rateAt none Tryz.f112 sp_bill_rateAt x = sp_bill_rateAt.m x := by intro x; kernel_rfl

theorem hb_bill_rateAt : HasBody Tryz.prog 112 := has_body (fn := Tryz.f112) (by kernel_rfl) rfl (by decide)

theorem ok_bill_rateAt : FunOk Tryz.prog 112 sp_bill_rateAt := fun_ok (X := cx_bill_rateAt) (.cons ok_slices_BinarySearchFunc_api_Rate_string hb_slices_BinarySearchFunc_api_Rate_string (.nil _)) (by kernel_rfl) sp_bill_rateAt anns_bill_rateAt none (by kernel_rfl) (fun x y h => (den_bill_rateAt x).trans h)

def anns_bill_hasRate : List (Nat × Ann) := []

noncomputable def sp_bill_hasRate : FSpec := ⟨[.val t_api_Invoice, .val .str], [.val .bool], fun x => bill_hasRate x.1 x.2.1⟩

noncomputable def cx_bill_hasRate : Cx := ⟨Tryz.prog, [(112, sp_bill_rateAt)]⟩

theorem den_bill_hasRate : ∀ x, denF cx_bill_hasRate anns_bill_hasRate none Tryz.f68 sp_bill_hasRate x = sp_bill_hasRate.m x := by intro x; kernel_rfl

theorem hb_bill_hasRate : HasBody Tryz.prog 68 := has_body (fn := Tryz.f68) (by kernel_rfl) rfl (by decide)

theorem ok_bill_hasRate : FunOk Tryz.prog 68 sp_bill_hasRate := fun_ok (X := cx_bill_hasRate) (.cons ok_bill_rateAt hb_bill_rateAt (.nil _)) (by kernel_rfl) sp_bill_hasRate anns_bill_hasRate none (by kernel_rfl) (fun x y h => (den_bill_hasRate x).trans h)

def anns_bill_extrasFault : List (Nat × Ann) := [(4, ⟨[(2, .val .bool), (3, .ref 3 0), (13, .val (.slice t_api_Extra)), (14, .val tI), (15, .val tI)], [(3, [.val .str, .val .str, .val tI, .val tI, .val tI, .val .bool, .val (.slice t_api_Rate), .val (.slice t_api_BillLine), .val (.slice t_api_Extra)])], [], fuelOf _⟩),
  (100012, ⟨[(2, .val .bool), (3, .ref 3 0), (8, .ref 8 0), (13, .val (.slice t_api_Extra)), (14, .val tI), (15, .val tI), (30, .val .bool)], [(3, [.val .str, .val .str, .val tI, .val tI, .val tI, .val .bool, .val (.slice t_api_Rate), .val (.slice t_api_BillLine), .val (.slice t_api_Extra)]), (8, [.val .bool, .val tI, .val tI, .val .str])], [], fun _ => 0⟩),
  (200004, ⟨[], [], [], fun _ => 0⟩)]

noncomputable def sp_bill_extrasFault : FSpec := ⟨[.val t_api_Invoice, .val (.slice t_api_Extra), .val .bool], [.val tI], fun x => bill_extrasFault x.1 x.2.1 x.2.2.1⟩

noncomputable def cx_bill_extrasFault : Cx := ⟨Tryz.prog, [(65, sp_amount_CheckDecimal), (66, sp_bill_between), (68, sp_bill_hasRate)]⟩

theorem den_bill_extrasFault : ∀ x, denF cx_bill_extrasFault anns_bill_extrasFault none Tryz.f33 sp_bill_extrasFault x = sp_bill_extrasFault.m x := by intro x; kernel_rfl

theorem hb_bill_extrasFault : HasBody Tryz.prog 33 := has_body (fn := Tryz.f33) (by kernel_rfl) rfl (by decide)

theorem ok_bill_extrasFault : FunOk Tryz.prog 33 sp_bill_extrasFault := fun_ok (X := cx_bill_extrasFault) (.cons ok_amount_CheckDecimal hb_amount_CheckDecimal (.cons ok_bill_between hb_bill_between (.cons ok_bill_hasRate hb_bill_hasRate (.nil _)))) (by kernel_rfl) sp_bill_extrasFault anns_bill_extrasFault none (by kernel_rfl) (fun x y h => (den_bill_extrasFault x).trans h)

def anns_bill_lineFault : List (Nat × Ann) := []

noncomputable def sp_bill_lineFault : FSpec := ⟨[.val t_api_Invoice, .val tI], [.val tI], fun x => bill_lineFault x.1 x.2.1⟩

noncomputable def cx_bill_lineFault : Cx := ⟨Tryz.prog, [(27, sp_kit_IsName), (29, sp_kit_Outside), (33, sp_bill_extrasFault), (65, sp_amount_CheckDecimal), (66, sp_bill_between), (67, sp_order_PriceFault), (68, sp_bill_hasRate)]⟩

theorem den_bill_lineFault : ∀ x, denF cx_bill_lineFault anns_bill_lineFault none Tryz.f32 sp_bill_lineFault x = sp_bill_lineFault.m x := by intro x; kernel_rfl

theorem hb_bill_lineFault : HasBody Tryz.prog 32 := has_body (fn := Tryz.f32) (by kernel_rfl) rfl (by decide)

theorem ok_bill_lineFault : FunOk Tryz.prog 32 sp_bill_lineFault := fun_ok (X := cx_bill_lineFault) (.cons ok_kit_IsName hb_kit_IsName (.cons ok_kit_Outside hb_kit_Outside (.cons ok_bill_extrasFault hb_bill_extrasFault (.cons ok_amount_CheckDecimal hb_amount_CheckDecimal (.cons ok_bill_between hb_bill_between (.cons ok_order_PriceFault hb_order_PriceFault (.cons ok_bill_hasRate hb_bill_hasRate (.nil _)))))))) (by kernel_rfl) sp_bill_lineFault anns_bill_lineFault none (by kernel_rfl) (fun x y h => (den_bill_lineFault x).trans h)

def anns_bill_CheckInvoice : List (Nat × Ann) := [(15, ⟨[(1, .ref 1 0), (48, .val tI), (49, .val tI)], [(1, [.val .str, .val .str, .val tI, .val tI, .val tI, .val .bool, .val (.slice t_api_Rate), .val (.slice t_api_BillLine), .val (.slice t_api_Extra)])], [], fuelOf _⟩),
  (200015, ⟨[(1, .ref 1 0)], [(1, [.val .str, .val .str, .val tI, .val tI, .val tI, .val .bool, .val (.slice t_api_Rate), .val (.slice t_api_BillLine), .val (.slice t_api_Extra)])], [], fun _ => 0⟩)]

noncomputable def sp_bill_CheckInvoice : FSpec := ⟨[.val t_api_Invoice], [.val tI], fun x => bill_CheckInvoice x.1⟩

noncomputable def cx_bill_CheckInvoice : Cx := ⟨Tryz.prog, [(27, sp_kit_IsName), (28, sp_kit_IsDay), (29, sp_kit_Outside), (30, sp_amount_IsWay), (31, sp_bill_ratesFault), (32, sp_bill_lineFault), (33, sp_bill_extrasFault)]⟩

theorem den_bill_CheckInvoice : ∀ x, denF cx_bill_CheckInvoice anns_bill_CheckInvoice none Tryz.f9 sp_bill_CheckInvoice x = sp_bill_CheckInvoice.m x := by intro x; kernel_rfl

theorem hb_bill_CheckInvoice : HasBody Tryz.prog 9 := has_body (fn := Tryz.f9) (by kernel_rfl) rfl (by decide)

theorem ok_bill_CheckInvoice : FunOk Tryz.prog 9 sp_bill_CheckInvoice := fun_ok (X := cx_bill_CheckInvoice) (.cons ok_kit_IsName hb_kit_IsName (.cons ok_kit_IsDay hb_kit_IsDay (.cons ok_kit_Outside hb_kit_Outside (.cons ok_amount_IsWay hb_amount_IsWay (.cons ok_bill_ratesFault hb_bill_ratesFault (.cons ok_bill_lineFault hb_bill_lineFault (.cons ok_bill_extrasFault hb_bill_extrasFault (.nil _)))))))) (by kernel_rfl) sp_bill_CheckInvoice anns_bill_CheckInvoice none (by kernel_rfl) (fun x y h => (den_bill_CheckInvoice x).trans h)

def anns_whole_Int_Int : List (Nat × Ann) := [(5, ⟨[(1, .val tI), (2, .ref 2 0), (6, .val (.int .u64)), (14, .val (.slice (.int .u32))), (15, .val tI), (16, .val tI)], [(2, [.val .bool, .val (.slice (.int .u32))])], [], fuelOf _⟩),
  (200005, ⟨[(1, .val tI), (2, .ref 2 0), (6, .val (.int .u64))], [(2, [.val .bool, .val (.slice (.int .u32))])], [], fun _ => 0⟩)]

noncomputable def sp_whole_Int_Int : FSpec := ⟨[.val t_whole_Int, .val tI], [.val tI, .val .bool], fun x => whole_Int_Int x.1 x.2.1⟩

noncomputable def cx_whole_Int_Int : Cx := ⟨Tryz.prog, []⟩

theorem den_whole_Int_Int : ∀ x, denF cx_whole_Int_Int anns_whole_Int_Int none Tryz.f93 sp_whole_Int_Int x = sp_whole_Int_Int.m x := by intro x; kernel_rfl

theorem hb_whole_Int_Int : HasBody Tryz.prog 93 := has_body (fn := Tryz.f93) (by kernel_rfl) rfl (by decide)

theorem ok_whole_Int_Int : FunOk Tryz.prog 93 sp_whole_Int_Int := fun_ok (X := cx_whole_Int_Int) (.nil _) (by kernel_rfl) sp_whole_Int_Int anns_whole_Int_Int none (by kernel_rfl) (fun x y h => (den_whole_Int_Int x).trans h)

def anns_amount_Made : List (Nat × Ann) := []

noncomputable def sp_amount_Made : FSpec := ⟨[.val t_whole_Int, .val tI], [.val t_api_Decimal, .val tI], fun x => amount_Made x.1 x.2.1⟩

noncomputable def cx_amount_Made : Cx := ⟨Tryz.prog, [(93, sp_whole_Int_Int)]⟩

theorem den_amount_Made : ∀ x, denF cx_amount_Made anns_amount_Made none Tryz.f54 sp_amount_Made x = sp_amount_Made.m x := by intro x; kernel_rfl

theorem hb_amount_Made : HasBody Tryz.prog 54 := has_body (fn := Tryz.f54) (by kernel_rfl) rfl (by decide)

theorem ok_amount_Made : FunOk Tryz.prog 54 sp_amount_Made := fun_ok (X := cx_amount_Made) (.cons ok_whole_Int_Int hb_whole_Int_Int (.nil _)) (by kernel_rfl) sp_amount_Made anns_amount_Made none (by kernel_rfl) (fun x y h => (den_amount_Made x).trans h)

def anns_whole_trimmed : List (Nat × Ann) := [(1, ⟨[(0, .val (.slice (.int .u32)))], [], [], fuelOf _⟩),
  (200001, ⟨[(0, .val (.slice (.int .u32)))], [], [], fun _ => 0⟩)]

noncomputable def sp_whole_trimmed : FSpec := ⟨[.val (.slice (.int .u32))], [.val (.slice (.int .u32))], fun x => whole_trimmed x.1⟩

noncomputable def cx_whole_trimmed : Cx := ⟨Tryz.prog, []⟩

theorem den_whole_trimmed : ∀ x, denF cx_whole_trimmed anns_whole_trimmed none Tryz.f139 sp_whole_trimmed x = sp_whole_trimmed.m x := by intro x; kernel_rfl

theorem hb_whole_trimmed : HasBody Tryz.prog 139 := has_body (fn := Tryz.f139) (by kernel_rfl) rfl (by decide)

theorem ok_whole_trimmed : FunOk Tryz.prog 139 sp_whole_trimmed := fun_ok (X := cx_whole_trimmed) (.nil _) (by kernel_rfl) sp_whole_trimmed anns_whole_trimmed none (by kernel_rfl) (fun x y h => (den_whole_trimmed x).trans h)

def anns_whole_made : List (Nat × Ann) := []

noncomputable def sp_whole_made : FSpec := ⟨[.val .bool, .val (.slice (.int .u32))], [.val t_whole_Int], fun x => whole_made x.1 x.2.1⟩

noncomputable def cx_whole_made : Cx := ⟨Tryz.prog, [(139, sp_whole_trimmed)]⟩

theorem den_whole_made : ∀ x, denF cx_whole_made anns_whole_made none Tryz.f94 sp_whole_made x = sp_whole_made.m x := by intro x; kernel_rfl

theorem hb_whole_made : HasBody Tryz.prog 94 := has_body (fn := Tryz.f94) (by kernel_rfl) rfl (by decide)

theorem ok_whole_made : FunOk Tryz.prog 94 sp_whole_made := fun_ok (X := cx_whole_made) (.cons ok_whole_trimmed hb_whole_trimmed (.nil _)) (by kernel_rfl) sp_whole_made anns_whole_made none (by kernel_rfl) (fun x y h => (den_whole_made x).trans h)

def anns_whole_Of : List (Nat × Ann) := [(100003, ⟨[(0, .val tI), (2, .ref 2 0), (3, .val (.int .u64))], [(2, [.val .bool, .own 149 (.int .u32)])], [], fun _ => 0⟩)]

noncomputable def sp_whole_Of : FSpec := ⟨[.val tI], [.val t_whole_Int], fun x => whole_Of x.1⟩

noncomputable def cx_whole_Of : Cx := ⟨Tryz.prog, [(94, sp_whole_made)]⟩

theorem den_whole_Of : ∀ x, denF cx_whole_Of anns_whole_Of none Tryz.f55 sp_whole_Of x = sp_whole_Of.m x := by intro x; kernel_rfl

theorem hb_whole_Of : HasBody Tryz.prog 55 := has_body (fn := Tryz.f55) (by kernel_rfl) rfl (by decide)

theorem ok_whole_Of : FunOk Tryz.prog 55 sp_whole_Of := fun_ok (X := cx_whole_Of) (.cons ok_whole_made hb_whole_made (.nil _)) (by kernel_rfl) sp_whole_Of anns_whole_Of none (by kernel_rfl) (fun x y h => (den_whole_Of x).trans h)

def anns_whole_Int_Times : List (Nat × Ann) := [(3, ⟨[(2, .ref 2 0), (3, .ref 3 0), (4, .ref 4 0), (5, .rowR 18), (20, .val (.slice (.int .u32))), (21, .val tI), (22, .val tI)], [(2, [.val .bool, .val (.slice (.int .u32))]), (3, [.val .bool, .val (.slice (.int .u32))]), (4, [.val .bool, .own 149 (.int .u32)])], [.rowC 18 149 (.int .u32)], fuelOf _⟩),
  (7, ⟨[(2, .ref 2 0), (3, .ref 3 0), (4, .ref 4 0), (5, .rowR 18), (6, .val tI), (7, .val (.int .u32)), (8, .val (.int .u64)), (20, .val (.slice (.int .u32))), (21, .val tI), (22, .val tI), (28, .val (.slice (.int .u32))), (29, .val tI), (30, .val tI)], [(2, [.val .bool, .val (.slice (.int .u32))]), (3, [.val .bool, .val (.slice (.int .u32))]), (4, [.val .bool, .own 149 (.int .u32)])], [.rowC 18 149 (.int .u32)], fuelOf _⟩),
  (200003, ⟨[(2, .ref 2 0), (3, .ref 3 0), (4, .ref 4 0), (5, .rowR 18)], [(2, [.val .bool, .val (.slice (.int .u32))]), (3, [.val .bool, .val (.slice (.int .u32))]), (4, [.val .bool, .own 149 (.int .u32)])], [.rowC 18 149 (.int .u32)], fun _ => 0⟩),
  (200007, ⟨[(2, .ref 2 0), (3, .ref 3 0), (4, .ref 4 0), (5, .rowR 18), (6, .val tI), (8, .val (.int .u64)), (20, .val (.slice (.int .u32))), (21, .val tI), (22, .val tI)], [(2, [.val .bool, .val (.slice (.int .u32))]), (3, [.val .bool, .val (.slice (.int .u32))]), (4, [.val .bool, .own 149 (.int .u32)])], [.rowC 18 149 (.int .u32)], fun _ => 0⟩)]

noncomputable def sp_whole_Int_Times : FSpec := ⟨[.val t_whole_Int, .val t_whole_Int], [.val t_whole_Int], fun x => whole_Int_Times x.1 x.2.1⟩

noncomputable def cx_whole_Int_Times : Cx := ⟨Tryz.prog, [(94, sp_whole_made)]⟩

theorem den_whole_Int_Times : ∀ x, denF cx_whole_Int_Times anns_whole_Int_Times none Tryz.f56 sp_whole_Int_Times x = sp_whole_Int_Times.m x := by intro x; kernel_rfl

theorem hb_whole_Int_Times : HasBody Tryz.prog 56 := has_body (fn := Tryz.f56) (by kernel_rfl) rfl (by decide)

theorem ok_whole_Int_Times : FunOk Tryz.prog 56 sp_whole_Int_Times := fun_ok (X := cx_whole_Int_Times) (.cons ok_whole_made hb_whole_made (.nil _)) (by kernel_rfl) sp_whole_Int_Times anns_whole_Int_Times none (by kernel_rfl) (fun x y h => (den_whole_Int_Times x).trans h)

def anns_whole_Power : List (Nat × Ann) := [(3, ⟨[(2, .ref 2 0), (3, .ref 3 0), (5, .val tI), (6, .val tI)], [(2, [.val .bool, .own 149 (.int .u32)]), (3, [.val .bool, .val (.slice (.int .u32))])], [], fuelOf _⟩),
  (200003, ⟨[(2, .ref 2 0), (3, .ref 3 0)], [(2, [.val .bool, .own 149 (.int .u32)]), (3, [.val .bool, .val (.slice (.int .u32))])], [], fun _ => 0⟩)]

noncomputable def sp_whole_Power : FSpec := ⟨[.val tI], [.val t_whole_Int], fun x => whole_Power x.1⟩

noncomputable def cx_whole_Power : Cx := ⟨Tryz.prog, [(55, sp_whole_Of), (56, sp_whole_Int_Times)]⟩

theorem den_whole_Power : ∀ x, denF cx_whole_Power anns_whole_Power none Tryz.f57 sp_whole_Power x = sp_whole_Power.m x := by intro x; kernel_rfl

theorem hb_whole_Power : HasBody Tryz.prog 57 := has_body (fn := Tryz.f57) (by kernel_rfl) rfl (by decide)

theorem ok_whole_Power : FunOk Tryz.prog 57 sp_whole_Power := fun_ok (X := cx_whole_Power) (.cons ok_whole_Of hb_whole_Of (.cons ok_whole_Int_Times hb_whole_Int_Times (.nil _))) (by kernel_rfl) sp_whole_Power anns_whole_Power none (by kernel_rfl) (fun x y h => (den_whole_Power x).trans h)

def anns_whole_sum : List (Nat × Ann) := [(6, ⟨[(1, .val (.slice (.int .u32))), (5, .own 149 (.int .u32)), (6, .val (.int .u64)), (20, .val (.slice (.int .u32))), (21, .val tI), (22, .val tI)], [], [], fuelOf _⟩),
  (100002, ⟨[(0, .val (.slice (.int .u32))), (1, .val (.slice (.int .u32)))], [], [], fun _ => 0⟩),
  (100010, ⟨[(1, .val (.slice (.int .u32))), (5, .own 149 (.int .u32)), (6, .val (.int .u64)), (20, .val (.slice (.int .u32))), (21, .val tI), (22, .val tI)], [], [], fun _ => 0⟩),
  (200006, ⟨[(5, .own 149 (.int .u32)), (6, .val (.int .u64))], [], [], fun _ => 0⟩)]

noncomputable def sp_whole_sum : FSpec := ⟨[.val (.slice (.int .u32)), .val (.slice (.int .u32))], [.row 149 (.int .u32)], fun x => whole_sum x.1 x.2.1⟩

noncomputable def cx_whole_sum : Cx := ⟨Tryz.prog, []⟩

theorem den_whole_sum : ∀ x, denF cx_whole_sum anns_whole_sum none Tryz.f116 sp_whole_sum x = sp_whole_sum.m x := by intro x; kernel_rfl

theorem hb_whole_sum : HasBody Tryz.prog 116 := has_body (fn := Tryz.f116) (by kernel_rfl) rfl (by decide)

theorem ok_whole_sum : FunOk Tryz.prog 116 sp_whole_sum := fun_ok (X := cx_whole_sum) (.nil _) (by kernel_rfl) sp_whole_sum anns_whole_sum none (by kernel_rfl) (fun x y h => (den_whole_sum x).trans h)

def anns_whole_sum_v : List (Nat × Ann) := [(6, ⟨[(1, .val (.slice (.int .u32))), (5, .own 149 (.int .u32)), (6, .val (.int .u64)), (20, .val (.slice (.int .u32))), (21, .val tI), (22, .val tI)], [], [], fuelOf _⟩),
  (100002, ⟨[(0, .val (.slice (.int .u32))), (1, .val (.slice (.int .u32)))], [], [], fun _ => 0⟩),
  (100010, ⟨[(1, .val (.slice (.int .u32))), (5, .own 149 (.int .u32)), (6, .val (.int .u64)), (20, .val (.slice (.int .u32))), (21, .val tI), (22, .val tI)], [], [], fun _ => 0⟩),
  (200006, ⟨[(5, .own 149 (.int .u32)), (6, .val (.int .u64))], [], [], fun _ => 0⟩)]

noncomputable def sp_whole_sum_v : FSpec := ⟨[.val (.slice (.int .u32)), .val (.slice (.int .u32))], [.val (.slice (.int .u32))], fun x => whole_sum_v x.1 x.2.1⟩

noncomputable def cx_whole_sum_v : Cx := ⟨Tryz.prog, []⟩

theorem den_whole_sum_v : ∀ x, denF cx_whole_sum_v anns_whole_sum_v none Tryz.f116 sp_whole_sum_v x = sp_whole_sum_v.m x := by intro x; kernel_rfl

theorem hb_whole_sum_v : HasBody Tryz.prog 116 := has_body (fn := Tryz.f116) (by kernel_rfl) rfl (by decide)

theorem ok_whole_sum_v : FunOk Tryz.prog 116 sp_whole_sum_v := fun_ok (X := cx_whole_sum_v) (.nil _) (by kernel_rfl) sp_whole_sum_v anns_whole_sum_v none (by kernel_rfl) (fun x y h => (den_whole_sum_v x).trans h)

def anns_whole_compare : List (Nat × Ann) := [(4, ⟨[(0, .val (.slice (.int .u32))), (1, .val (.slice (.int .u32))), (5, .val tI)], [], [], fuelOf _⟩),
  (200004, ⟨[], [], [], fun _ => 0⟩)]

noncomputable def sp_whole_compare : FSpec := ⟨[.val (.slice (.int .u32)), .val (.slice (.int .u32))], [.val tI], fun x => whole_compare x.1 x.2.1⟩

noncomputable def cx_whole_compare : Cx := ⟨Tryz.prog, []⟩

theorem den_whole_compare : ∀ x, denF cx_whole_compare anns_whole_compare none Tryz.f117 sp_whole_compare x = sp_whole_compare.m x := by intro x; kernel_rfl

theorem hb_whole_compare : HasBody Tryz.prog 117 := has_body (fn := Tryz.f117) (by kernel_rfl) rfl (by decide)

theorem ok_whole_compare : FunOk Tryz.prog 117 sp_whole_compare := fun_ok (X := cx_whole_compare) (.nil _) (by kernel_rfl) sp_whole_compare anns_whole_compare none (by kernel_rfl) (fun x y h => (den_whole_compare x).trans h)

def anns_whole_less : List (Nat × Ann) := [(4, ⟨[(1, .val (.slice (.int .u32))), (5, .own 149 (.int .u32)), (6, .val (.int .u64)), (13, .val (.slice (.int .u32))), (14, .val tI), (15, .val tI)], [], [], fuelOf _⟩),
  (100008, ⟨[(1, .val (.slice (.int .u32))), (5, .own 149 (.int .u32)), (9, .val (.int .u64)), (13, .val (.slice (.int .u32))), (14, .val tI), (15, .val tI)], [], [], fun _ => 0⟩),
  (200004, ⟨[(5, .own 149 (.int .u32))], [], [], fun _ => 0⟩)]

noncomputable def sp_whole_less : FSpec := ⟨[.val (.slice (.int .u32)), .val (.slice (.int .u32))], [.val (.slice (.int .u32))], fun x => whole_less x.1 x.2.1⟩

noncomputable def cx_whole_less : Cx := ⟨Tryz.prog, [(139, sp_whole_trimmed)]⟩

theorem den_whole_less : ∀ x, denF cx_whole_less anns_whole_less none Tryz.f118 sp_whole_less x = sp_whole_less.m x := by intro x; kernel_rfl

theorem hb_whole_less : HasBody Tryz.prog 118 := has_body (fn := Tryz.f118) (by kernel_rfl) rfl (by decide)

theorem ok_whole_less : FunOk Tryz.prog 118 sp_whole_less := fun_ok (X := cx_whole_less) (.cons ok_whole_trimmed hb_whole_trimmed (.nil _)) (by kernel_rfl) sp_whole_less anns_whole_less none (by kernel_rfl) (fun x y h => (den_whole_less x).trans h)

def anns_whole_Int_By : List (Nat × Ann) := [(4, ⟨[(2, .ref 2 0), (3, .ref 3 0), (4, .ref 4 0), (5, .ref 5 0), (6, .rowR 12), (7, .val (.slice (.int .u32))), (8, .val tI)], [(2, [.val .bool, .val (.slice (.int .u32))]), (3, [.val .bool, .val (.slice (.int .u32))]), (4, [.val .bool, .own 149 (.int .u32)]), (5, [.val .bool, .own 149 (.int .u32)])], [.rowC 12 149 (.int .u32)], fuelOf _⟩),
  (200004, ⟨[(4, .ref 4 0), (5, .ref 5 0), (6, .rowR 12), (7, .val (.slice (.int .u32)))], [(4, [.val .bool, .own 149 (.int .u32)]), (5, [.val .bool, .own 149 (.int .u32)])], [.rowC 12 149 (.int .u32)], fun _ => 0⟩)]

noncomputable def sp_whole_Int_By : FSpec := ⟨[.val t_whole_Int, .val t_whole_Int], [.val t_whole_Int, .val t_whole_Int], fun x => whole_Int_By x.1 x.2.1⟩

noncomputable def cx_whole_Int_By : Cx := ⟨Tryz.prog, [(94, sp_whole_made), (116, sp_whole_sum), (117, sp_whole_compare), (118, sp_whole_less), (139, sp_whole_trimmed)]⟩

theorem den_whole_Int_By : ∀ x, denF cx_whole_Int_By anns_whole_Int_By none Tryz.f95 sp_whole_Int_By x = sp_whole_Int_By.m x := by intro x; kernel_rfl

theorem hb_whole_Int_By : HasBody Tryz.prog 95 := has_body (fn := Tryz.f95) (by kernel_rfl) rfl (by decide)

theorem ok_whole_Int_By : FunOk Tryz.prog 95 sp_whole_Int_By := fun_ok (X := cx_whole_Int_By) (.cons ok_whole_made hb_whole_made (.cons ok_whole_sum hb_whole_sum (.cons ok_whole_compare hb_whole_compare (.cons ok_whole_less hb_whole_less (.cons ok_whole_trimmed hb_whole_trimmed (.nil _)))))) (by kernel_rfl) sp_whole_Int_By anns_whole_Int_By none (by kernel_rfl) (fun x y h => (den_whole_Int_By x).trans h)

def anns_whole_Int_Sign : List (Nat × Ann) := []

noncomputable def sp_whole_Int_Sign : FSpec := ⟨[.val t_whole_Int], [.val tI], fun x => whole_Int_Sign x.1⟩

noncomputable def cx_whole_Int_Sign : Cx := ⟨Tryz.prog, []⟩

theorem den_whole_Int_Sign : ∀ x, denF cx_whole_Int_Sign anns_whole_Int_Sign none Tryz.f96 sp_whole_Int_Sign x = sp_whole_Int_Sign.m x := by intro x; kernel_rfl

theorem hb_whole_Int_Sign : HasBody Tryz.prog 96 := has_body (fn := Tryz.f96) (by kernel_rfl) rfl (by decide)

theorem ok_whole_Int_Sign : FunOk Tryz.prog 96 sp_whole_Int_Sign := fun_ok (X := cx_whole_Int_Sign) (.nil _) (by kernel_rfl) sp_whole_Int_Sign anns_whole_Int_Sign none (by kernel_rfl) (fun x y h => (den_whole_Int_Sign x).trans h)

def anns_whole_Int_Plus : List (Nat × Ann) := []

noncomputable def sp_whole_Int_Plus : FSpec := ⟨[.val t_whole_Int, .val t_whole_Int], [.val t_whole_Int], fun x => whole_Int_Plus x.1 x.2.1⟩

noncomputable def cx_whole_Int_Plus : Cx := ⟨Tryz.prog, [(94, sp_whole_made), (116, sp_whole_sum_v), (117, sp_whole_compare), (118, sp_whole_less)]⟩

theorem den_whole_Int_Plus : ∀ x, denF cx_whole_Int_Plus anns_whole_Int_Plus none Tryz.f76 sp_whole_Int_Plus x = sp_whole_Int_Plus.m x := by intro x; kernel_rfl

theorem hb_whole_Int_Plus : HasBody Tryz.prog 76 := has_body (fn := Tryz.f76) (by kernel_rfl) rfl (by decide)

theorem ok_whole_Int_Plus : FunOk Tryz.prog 76 sp_whole_Int_Plus := fun_ok (X := cx_whole_Int_Plus) (.cons ok_whole_made hb_whole_made (.cons ok_whole_sum_v hb_whole_sum_v (.cons ok_whole_compare hb_whole_compare (.cons ok_whole_less hb_whole_less (.nil _))))) (by kernel_rfl) sp_whole_Int_Plus anns_whole_Int_Plus none (by kernel_rfl) (fun x y h => (den_whole_Int_Plus x).trans h)

def anns_whole_Int_Minus : List (Nat × Ann) := []

noncomputable def sp_whole_Int_Minus : FSpec := ⟨[.val t_whole_Int], [.val t_whole_Int], fun x => whole_Int_Minus x.1⟩

noncomputable def cx_whole_Int_Minus : Cx := ⟨Tryz.prog, [(94, sp_whole_made)]⟩

theorem den_whole_Int_Minus : ∀ x, denF cx_whole_Int_Minus anns_whole_Int_Minus none Tryz.f99 sp_whole_Int_Minus x = sp_whole_Int_Minus.m x := by intro x; kernel_rfl

theorem hb_whole_Int_Minus : HasBody Tryz.prog 99 := has_body (fn := Tryz.f99) (by kernel_rfl) rfl (by decide)

theorem ok_whole_Int_Minus : FunOk Tryz.prog 99 sp_whole_Int_Minus := fun_ok (X := cx_whole_Int_Minus) (.cons ok_whole_made hb_whole_made (.nil _)) (by kernel_rfl) sp_whole_Int_Minus anns_whole_Int_Minus none (by kernel_rfl) (fun x y h => (den_whole_Int_Minus x).trans h)

def anns_whole_Int_Less : List (Nat × Ann) := []

noncomputable def sp_whole_Int_Less : FSpec := ⟨[.val t_whole_Int, .val t_whole_Int], [.val t_whole_Int], fun x => whole_Int_Less x.1 x.2.1⟩

noncomputable def cx_whole_Int_Less : Cx := ⟨Tryz.prog, [(76, sp_whole_Int_Plus), (99, sp_whole_Int_Minus)]⟩

theorem den_whole_Int_Less : ∀ x, denF cx_whole_Int_Less anns_whole_Int_Less none Tryz.f140 sp_whole_Int_Less x = sp_whole_Int_Less.m x := by intro x; kernel_rfl

theorem hb_whole_Int_Less : HasBody Tryz.prog 140 := has_body (fn := Tryz.f140) (by kernel_rfl) rfl (by decide)

theorem ok_whole_Int_Less : FunOk Tryz.prog 140 sp_whole_Int_Less := fun_ok (X := cx_whole_Int_Less) (.cons ok_whole_Int_Plus hb_whole_Int_Plus (.cons ok_whole_Int_Minus hb_whole_Int_Minus (.nil _))) (by kernel_rfl) sp_whole_Int_Less anns_whole_Int_Less none (by kernel_rfl) (fun x y h => (den_whole_Int_Less x).trans h)

def anns_whole_Int_Compare : List (Nat × Ann) := []

noncomputable def sp_whole_Int_Compare : FSpec := ⟨[.val t_whole_Int, .val t_whole_Int], [.val tI], fun x => whole_Int_Compare x.1 x.2.1⟩

noncomputable def cx_whole_Int_Compare : Cx := ⟨Tryz.prog, [(96, sp_whole_Int_Sign), (140, sp_whole_Int_Less)]⟩

theorem den_whole_Int_Compare : ∀ x, denF cx_whole_Int_Compare anns_whole_Int_Compare none Tryz.f97 sp_whole_Int_Compare x = sp_whole_Int_Compare.m x := by intro x; kernel_rfl

theorem hb_whole_Int_Compare : HasBody Tryz.prog 97 := has_body (fn := Tryz.f97) (by kernel_rfl) rfl (by decide)

theorem ok_whole_Int_Compare : FunOk Tryz.prog 97 sp_whole_Int_Compare := fun_ok (X := cx_whole_Int_Compare) (.cons ok_whole_Int_Sign hb_whole_Int_Sign (.cons ok_whole_Int_Less hb_whole_Int_Less (.nil _))) (by kernel_rfl) sp_whole_Int_Compare anns_whole_Int_Compare none (by kernel_rfl) (fun x y h => (den_whole_Int_Compare x).trans h)

def anns_whole_Int_Odd : List (Nat × Ann) := []

noncomputable def sp_whole_Int_Odd : FSpec := ⟨[.val t_whole_Int], [.val .bool], fun x => whole_Int_Odd x.1⟩

noncomputable def cx_whole_Int_Odd : Cx := ⟨Tryz.prog, []⟩

theorem den_whole_Int_Odd : ∀ x, denF cx_whole_Int_Odd anns_whole_Int_Odd none Tryz.f98 sp_whole_Int_Odd x = sp_whole_Int_Odd.m x := by intro x; kernel_rfl

theorem hb_whole_Int_Odd : HasBody Tryz.prog 98 := has_body (fn := Tryz.f98) (by kernel_rfl) rfl (by decide)

theorem ok_whole_Int_Odd : FunOk Tryz.prog 98 sp_whole_Int_Odd := fun_ok (X := cx_whole_Int_Odd) (.nil _) (by kernel_rfl) sp_whole_Int_Odd anns_whole_Int_Odd none (by kernel_rfl) (fun x y h => (den_whole_Int_Odd x).trans h)

def anns_amount_Divided : List (Nat × Ann) := []

noncomputable def sp_amount_Divided : FSpec := ⟨[.val t_whole_Int, .val t_whole_Int, .val tI], [.val t_whole_Int], fun x => amount_Divided x.1 x.2.1 x.2.2.1⟩

noncomputable def cx_amount_Divided : Cx := ⟨Tryz.prog, [(55, sp_whole_Of), (76, sp_whole_Int_Plus), (95, sp_whole_Int_By), (96, sp_whole_Int_Sign), (97, sp_whole_Int_Compare), (98, sp_whole_Int_Odd), (99, sp_whole_Int_Minus)]⟩

theorem den_amount_Divided : ∀ x, denF cx_amount_Divided anns_amount_Divided none Tryz.f58 sp_amount_Divided x = sp_amount_Divided.m x := by intro x; kernel_rfl

theorem hb_amount_Divided : HasBody Tryz.prog 58 := has_body (fn := Tryz.f58) (by kernel_rfl) rfl (by decide)

theorem ok_amount_Divided : FunOk Tryz.prog 58 sp_amount_Divided := fun_ok (X := cx_amount_Divided) (.cons ok_whole_Of hb_whole_Of (.cons ok_whole_Int_Plus hb_whole_Int_Plus (.cons ok_whole_Int_By hb_whole_Int_By (.cons ok_whole_Int_Sign hb_whole_Int_Sign (.cons ok_whole_Int_Compare hb_whole_Int_Compare (.cons ok_whole_Int_Odd hb_whole_Int_Odd (.cons ok_whole_Int_Minus hb_whole_Int_Minus (.nil _)))))))) (by kernel_rfl) sp_amount_Divided anns_amount_Divided none (by kernel_rfl) (fun x y h => (den_amount_Divided x).trans h)

def anns_bill_fits : List (Nat × Ann) := []

noncomputable def sp_bill_fits : FSpec := ⟨[.val t_whole_Int], [.val .bool], fun x => bill_fits x.1⟩

noncomputable def cx_bill_fits : Cx := ⟨Tryz.prog, [(93, sp_whole_Int_Int)]⟩

theorem den_bill_fits : ∀ x, denF cx_bill_fits anns_bill_fits none Tryz.f59 sp_bill_fits x = sp_bill_fits.m x := by intro x; kernel_rfl

theorem hb_bill_fits : HasBody Tryz.prog 59 := has_body (fn := Tryz.f59) (by kernel_rfl) rfl (by decide)

theorem ok_bill_fits : FunOk Tryz.prog 59 sp_bill_fits := fun_ok (X := cx_bill_fits) (.cons ok_whole_Int_Int hb_whole_Int_Int (.nil _)) (by kernel_rfl) sp_bill_fits anns_bill_fits none (by kernel_rfl) (fun x y h => (den_bill_fits x).trans h)

def anns_bill_gross : List (Nat × Ann) := []

noncomputable def sp_bill_gross : FSpec := ⟨[.val t_api_Invoice, .val t_api_BillLine], [.val t_whole_Int, .val .bool], fun x => bill_gross x.1 x.2.1⟩

noncomputable def cx_bill_gross : Cx := ⟨Tryz.prog, [(55, sp_whole_Of), (56, sp_whole_Int_Times), (57, sp_whole_Power), (58, sp_amount_Divided), (59, sp_bill_fits)]⟩

theorem den_bill_gross : ∀ x, denF cx_bill_gross anns_bill_gross none Tryz.f23 sp_bill_gross x = sp_bill_gross.m x := by intro x; kernel_rfl

theorem hb_bill_gross : HasBody Tryz.prog 23 := has_body (fn := Tryz.f23) (by kernel_rfl) rfl (by decide)

theorem ok_bill_gross : FunOk Tryz.prog 23 sp_bill_gross := fun_ok (X := cx_bill_gross) (.cons ok_whole_Of hb_whole_Of (.cons ok_whole_Int_Times hb_whole_Int_Times (.cons ok_whole_Power hb_whole_Power (.cons ok_amount_Divided hb_amount_Divided (.cons ok_bill_fits hb_bill_fits (.nil _)))))) (by kernel_rfl) sp_bill_gross anns_bill_gross none (by kernel_rfl) (fun x y h => (den_bill_gross x).trans h)

def anns_amount_Scaled : List (Nat × Ann) := []

noncomputable def sp_amount_Scaled : FSpec := ⟨[.val t_api_Decimal, .val tI], [.val t_whole_Int], fun x => amount_Scaled x.1 x.2.1⟩

noncomputable def cx_amount_Scaled : Cx := ⟨Tryz.prog, [(55, sp_whole_Of), (56, sp_whole_Int_Times), (57, sp_whole_Power)]⟩

theorem den_amount_Scaled : ∀ x, denF cx_amount_Scaled anns_amount_Scaled none Tryz.f74 sp_amount_Scaled x = sp_amount_Scaled.m x := by intro x; kernel_rfl

theorem hb_amount_Scaled : HasBody Tryz.prog 74 := has_body (fn := Tryz.f74) (by kernel_rfl) rfl (by decide)

theorem ok_amount_Scaled : FunOk Tryz.prog 74 sp_amount_Scaled := fun_ok (X := cx_amount_Scaled) (.cons ok_whole_Of hb_whole_Of (.cons ok_whole_Int_Times hb_whole_Int_Times (.cons ok_whole_Power hb_whole_Power (.nil _)))) (by kernel_rfl) sp_amount_Scaled anns_amount_Scaled none (by kernel_rfl) (fun x y h => (den_amount_Scaled x).trans h)

def anns_bill_part : List (Nat × Ann) := []

noncomputable def sp_bill_part : FSpec := ⟨[.val t_api_Invoice, .val t_whole_Int, .val t_api_Decimal], [.val t_whole_Int], fun x => bill_part x.1 x.2.1 x.2.2.1⟩

noncomputable def cx_bill_part : Cx := ⟨Tryz.prog, [(55, sp_whole_Of), (56, sp_whole_Int_Times), (57, sp_whole_Power), (58, sp_amount_Divided)]⟩

theorem den_bill_part : ∀ x, denF cx_bill_part anns_bill_part none Tryz.f75 sp_bill_part x = sp_bill_part.m x := by intro x; kernel_rfl

theorem hb_bill_part : HasBody Tryz.prog 75 := has_body (fn := Tryz.f75) (by kernel_rfl) rfl (by decide)

theorem ok_bill_part : FunOk Tryz.prog 75 sp_bill_part := fun_ok (X := cx_bill_part) (.cons ok_whole_Of hb_whole_Of (.cons ok_whole_Int_Times hb_whole_Int_Times (.cons ok_whole_Power hb_whole_Power (.cons ok_amount_Divided hb_amount_Divided (.nil _))))) (by kernel_rfl) sp_bill_part anns_bill_part none (by kernel_rfl) (fun x y h => (den_bill_part x).trans h)

def anns_bill_net : List (Nat × Ann) := [(4, ⟨[(2, .ref 2 0), (4, .ref 4 0), (6, .ref 6 0), (7, .val .bool), (8, .ref 8 0), (20, .val (.slice t_api_Extra)), (21, .val tI), (22, .val tI)], [(2, [.val .str, .val .str, .val tI, .val tI, .val tI, .val .bool, .val (.slice t_api_Rate), .val (.slice t_api_BillLine), .val (.slice t_api_Extra)]), (4, [.val .bool, .own 149 (.int .u32)]), (6, [.val .bool, .val (.slice (.int .u32))]), (8, [.val .bool, .val (.slice (.int .u32))])], [], fuelOf _⟩),
  (100008, ⟨[(2, .ref 2 0), (4, .ref 4 0), (6, .ref 6 0), (7, .val .bool), (8, .ref 8 0), (11, .ref 11 0), (20, .val (.slice t_api_Extra)), (21, .val tI), (22, .val tI)], [(2, [.val .str, .val .str, .val tI, .val tI, .val tI, .val .bool, .val (.slice t_api_Rate), .val (.slice t_api_BillLine), .val (.slice t_api_Extra)]), (4, [.val .bool, .own 149 (.int .u32)]), (6, [.val .bool, .val (.slice (.int .u32))]), (8, [.val .bool, .val (.slice (.int .u32))]), (11, [.val .bool, .val (.slice (.int .u32))])], [], fun _ => 0⟩),
  (200004, ⟨[(4, .ref 4 0), (7, .val .bool), (8, .ref 8 0)], [(4, [.val .bool, .own 149 (.int .u32)]), (8, [.val .bool, .val (.slice (.int .u32))])], [], fun _ => 0⟩)]

noncomputable def sp_bill_net : FSpec := ⟨[.val t_api_Invoice, .val t_api_BillLine], [.val t_whole_Int, .val .bool], fun x => bill_net x.1 x.2.1⟩

noncomputable def cx_bill_net : Cx := ⟨Tryz.prog, [(23, sp_bill_gross), (59, sp_bill_fits), (74, sp_amount_Scaled), (75, sp_bill_part), (76, sp_whole_Int_Plus)]⟩

theorem den_bill_net : ∀ x, denF cx_bill_net anns_bill_net none Tryz.f39 sp_bill_net x = sp_bill_net.m x := by intro x; kernel_rfl

theorem hb_bill_net : HasBody Tryz.prog 39 := has_body (fn := Tryz.f39) (by kernel_rfl) rfl (by decide)

theorem ok_bill_net : FunOk Tryz.prog 39 sp_bill_net := fun_ok (X := cx_bill_net) (.cons ok_bill_gross hb_bill_gross (.cons ok_bill_fits hb_bill_fits (.cons ok_amount_Scaled hb_amount_Scaled (.cons ok_bill_part hb_bill_part (.cons ok_whole_Int_Plus hb_whole_Int_Plus (.nil _)))))) (by kernel_rfl) sp_bill_net anns_bill_net none (by kernel_rfl) (fun x y h => (den_bill_net x).trans h)

def anns_bill_ofLine : List (Nat × Ann) := []

noncomputable def sp_bill_ofLine : FSpec := ⟨[.val t_api_Invoice, .val tI, .val (.clo 23 .unit)], [.val t_api_Decimal, .val tI], fun x => bill_ofLine x.1 x.2.1 x.2.2.1⟩

noncomputable def cx_bill_ofLine : Cx := ⟨Tryz.prog, [(9, sp_bill_CheckInvoice), (23, sp_bill_gross), (29, sp_kit_Outside), (54, sp_amount_Made)]⟩

theorem den_bill_ofLine : ∀ x, denF cx_bill_ofLine anns_bill_ofLine none Tryz.f22 sp_bill_ofLine x = sp_bill_ofLine.m x := by intro x; kernel_rfl

theorem hb_bill_ofLine : HasBody Tryz.prog 22 := has_body (fn := Tryz.f22) (by kernel_rfl) rfl (by decide)

theorem ok_bill_ofLine : FunOk Tryz.prog 22 sp_bill_ofLine := fun_ok (X := cx_bill_ofLine) (.cons ok_bill_CheckInvoice hb_bill_CheckInvoice (.cons ok_bill_gross hb_bill_gross (.cons ok_kit_Outside hb_kit_Outside (.cons ok_amount_Made hb_amount_Made (.nil _))))) (by kernel_rfl) sp_bill_ofLine anns_bill_ofLine none (by kernel_rfl) (fun x y h => (den_bill_ofLine x).trans h)

def anns_bill_ofLine_net : List (Nat × Ann) := []

noncomputable def sp_bill_ofLine_net : FSpec := ⟨[.val t_api_Invoice, .val tI, .val (.clo 39 .unit)], [.val t_api_Decimal, .val tI], fun x => bill_ofLine_net x.1 x.2.1 x.2.2.1⟩

noncomputable def cx_bill_ofLine_net : Cx := ⟨Tryz.prog, [(9, sp_bill_CheckInvoice), (29, sp_kit_Outside), (39, sp_bill_net), (54, sp_amount_Made)]⟩

theorem den_bill_ofLine_net : ∀ x, denF cx_bill_ofLine_net anns_bill_ofLine_net none Tryz.f22 sp_bill_ofLine_net x = sp_bill_ofLine_net.m x := by intro x; kernel_rfl

theorem hb_bill_ofLine_net : HasBody Tryz.prog 22 := has_body (fn := Tryz.f22) (by kernel_rfl) rfl (by decide)

theorem ok_bill_ofLine_net : FunOk Tryz.prog 22 sp_bill_ofLine_net := fun_ok (X := cx_bill_ofLine_net) (.cons ok_bill_CheckInvoice hb_bill_CheckInvoice (.cons ok_kit_Outside hb_kit_Outside (.cons ok_bill_net hb_bill_net (.cons ok_amount_Made hb_amount_Made (.nil _))))) (by kernel_rfl) sp_bill_ofLine_net anns_bill_ofLine_net none (by kernel_rfl) (fun x y h => (den_bill_ofLine_net x).trans h)

def anns_bill_Gross : List (Nat × Ann) := []

noncomputable def sp_bill_Gross : FSpec := ⟨[.val t_api_Invoice, .val tI], [.val t_api_Decimal, .val tI], fun x => bill_Gross x.1 x.2.1⟩

noncomputable def cx_bill_Gross : Cx := ⟨Tryz.prog, [(22, sp_bill_ofLine)]⟩

theorem den_bill_Gross : ∀ x, denF cx_bill_Gross anns_bill_Gross none Tryz.f7 sp_bill_Gross x = sp_bill_Gross.m x := by intro x; kernel_rfl

theorem hb_bill_Gross : HasBody Tryz.prog 7 := has_body (fn := Tryz.f7) (by kernel_rfl) rfl (by decide)

theorem ok_bill_Gross : FunOk Tryz.prog 7 sp_bill_Gross := fun_ok (X := cx_bill_Gross) (.cons ok_bill_ofLine hb_bill_ofLine (.nil _)) (by kernel_rfl) sp_bill_Gross anns_bill_Gross none (by kernel_rfl) (fun x y h => (den_bill_Gross x).trans h)

def anns_r1_isName : List (Nat × Ann) := [(4, ⟨[(0, .val .str), (23, .val tI), (24, .val tI)], [], [], fuelOf _⟩),
  (200004, ⟨[], [], [], fun _ => 0⟩)]

noncomputable def sp_r1_isName : FSpec := ⟨[.val .str], [.val .bool], fun x => r1_isName x.1⟩

noncomputable def cx_r1_isName : Cx := ⟨Tryz.prog, []⟩

theorem den_r1_isName : ∀ x, denF cx_r1_isName anns_r1_isName none Tryz.f69 sp_r1_isName x = sp_r1_isName.m x := by intro x; kernel_rfl

theorem hb_r1_isName : HasBody Tryz.prog 69 := has_body (fn := Tryz.f69) (by kernel_rfl) rfl (by decide)

theorem ok_r1_isName : FunOk Tryz.prog 69 sp_r1_isName := fun_ok (X := cx_r1_isName) (.nil _) (by kernel_rfl) sp_r1_isName anns_r1_isName none (by kernel_rfl) (fun x y h => (den_r1_isName x).trans h)

def anns_r1_IsName : List (Nat × Ann) := []

noncomputable def sp_r1_IsName : FSpec := ⟨[.val .str], [.val .bool], fun x => r1_IsName x.1⟩

noncomputable def cx_r1_IsName : Cx := ⟨Tryz.prog, [(69, sp_r1_isName)]⟩

theorem den_r1_IsName : ∀ x, denF cx_r1_IsName anns_r1_IsName none Tryz.f34 sp_r1_IsName x = sp_r1_IsName.m x := by intro x; kernel_rfl

theorem hb_r1_IsName : HasBody Tryz.prog 34 := has_body (fn := Tryz.f34) (by kernel_rfl) rfl (by decide)

theorem ok_r1_IsName : FunOk Tryz.prog 34 sp_r1_IsName := fun_ok (X := cx_r1_IsName) (.cons ok_r1_isName hb_r1_isName (.nil _)) (by kernel_rfl) sp_r1_IsName anns_r1_IsName none (by kernel_rfl) (fun x y h => (den_r1_IsName x).trans h)

def anns_r1_within : List (Nat × Ann) := []

noncomputable def sp_r1_within : FSpec := ⟨[.val tI, .val tI, .val tI], [.val .bool], fun x => r1_within x.1 x.2.1 x.2.2.1⟩

noncomputable def cx_r1_within : Cx := ⟨Tryz.prog, []⟩

theorem den_r1_within : ∀ x, denF cx_r1_within anns_r1_within none Tryz.f113 sp_r1_within x = sp_r1_within.m x := by intro x; kernel_rfl

theorem hb_r1_within : HasBody Tryz.prog 113 := has_body (fn := Tryz.f113) (by kernel_rfl) rfl (by decide)

theorem ok_r1_within : FunOk Tryz.prog 113 sp_r1_within := fun_ok (X := cx_r1_within) (.nil _) (by kernel_rfl) sp_r1_within anns_r1_within none (by kernel_rfl) (fun x y h => (den_r1_within x).trans h)

def anns_r1_isDay : List (Nat × Ann) := []

noncomputable def sp_r1_isDay : FSpec := ⟨[.val tI], [.val .bool], fun x => r1_isDay x.1⟩

noncomputable def cx_r1_isDay : Cx := ⟨Tryz.prog, [(113, sp_r1_within)]⟩

theorem den_r1_isDay : ∀ x, denF cx_r1_isDay anns_r1_isDay none Tryz.f70 sp_r1_isDay x = sp_r1_isDay.m x := by intro x; kernel_rfl

theorem hb_r1_isDay : HasBody Tryz.prog 70 := has_body (fn := Tryz.f70) (by kernel_rfl) rfl (by decide)

theorem ok_r1_isDay : FunOk Tryz.prog 70 sp_r1_isDay := fun_ok (X := cx_r1_isDay) (.cons ok_r1_within hb_r1_within (.nil _)) (by kernel_rfl) sp_r1_isDay anns_r1_isDay none (by kernel_rfl) (fun x y h => (den_r1_isDay x).trans h)

def anns_r1_IsDay : List (Nat × Ann) := []

noncomputable def sp_r1_IsDay : FSpec := ⟨[.val tI], [.val .bool], fun x => r1_IsDay x.1⟩

noncomputable def cx_r1_IsDay : Cx := ⟨Tryz.prog, [(70, sp_r1_isDay)]⟩

theorem den_r1_IsDay : ∀ x, denF cx_r1_IsDay anns_r1_IsDay none Tryz.f35 sp_r1_IsDay x = sp_r1_IsDay.m x := by intro x; kernel_rfl

theorem hb_r1_IsDay : HasBody Tryz.prog 35 := has_body (fn := Tryz.f35) (by kernel_rfl) rfl (by decide)

theorem ok_r1_IsDay : FunOk Tryz.prog 35 sp_r1_IsDay := fun_ok (X := cx_r1_IsDay) (.cons ok_r1_isDay hb_r1_isDay (.nil _)) (by kernel_rfl) sp_r1_IsDay anns_r1_IsDay none (by kernel_rfl) (fun x y h => (den_r1_IsDay x).trans h)

def anns_r11_within : List (Nat × Ann) := []

noncomputable def sp_r11_within : FSpec := ⟨[.val tI, .val tI, .val tI], [.val .bool], fun x => r11_within x.1 x.2.1 x.2.2.1⟩

noncomputable def cx_r11_within : Cx := ⟨Tryz.prog, []⟩

theorem den_r11_within : ∀ x, denF cx_r11_within anns_r11_within none Tryz.f24 sp_r11_within x = sp_r11_within.m x := by intro x; kernel_rfl

theorem hb_r11_within : HasBody Tryz.prog 24 := has_body (fn := Tryz.f24) (by kernel_rfl) rfl (by decide)

theorem ok_r11_within : FunOk Tryz.prog 24 sp_r11_within := fun_ok (X := cx_r11_within) (.nil _) (by kernel_rfl) sp_r11_within anns_r11_within none (by kernel_rfl) (fun x y h => (den_r11_within x).trans h)

def anns_r1_CheckDecimal : List (Nat × Ann) := []

noncomputable def sp_r1_CheckDecimal : FSpec := ⟨[.val t_api_Decimal], [.val tI], fun x => r1_CheckDecimal x.1⟩

noncomputable def cx_r1_CheckDecimal : Cx := ⟨Tryz.prog, [(113, sp_r1_within)]⟩

theorem den_r1_CheckDecimal : ∀ x, denF cx_r1_CheckDecimal anns_r1_CheckDecimal none Tryz.f71 sp_r1_CheckDecimal x = sp_r1_CheckDecimal.m x := by intro x; kernel_rfl

theorem hb_r1_CheckDecimal : HasBody Tryz.prog 71 := has_body (fn := Tryz.f71) (by kernel_rfl) rfl (by decide)

theorem ok_r1_CheckDecimal : FunOk Tryz.prog 71 sp_r1_CheckDecimal := fun_ok (X := cx_r1_CheckDecimal) (.cons ok_r1_within hb_r1_within (.nil _)) (by kernel_rfl) sp_r1_CheckDecimal anns_r1_CheckDecimal none (by kernel_rfl) (fun x y h => (den_r1_CheckDecimal x).trans h)

def anns_r1_Of : List (Nat × Ann) := [(2, ⟨[(0, .val tI), (2, .ref 2 0), (3, .ref 3 0)], [(2, [.val .bool, .own 3 tI]), (3, [.val .bool, .own 3 tI])], [], fuelOf _⟩),
  (200002, ⟨[(2, .ref 2 0), (3, .ref 3 0)], [(2, [.val .bool, .own 3 tI]), (3, [.val .bool, .own 3 tI])], [], fun _ => 0⟩)]

noncomputable def sp_r1_Of : FSpec := ⟨[.val tI], [.val t_interchangeref1_Num], fun x => r1_Of x.1⟩

noncomputable def cx_r1_Of : Cx := ⟨Tryz.prog, []⟩

theorem den_r1_Of : ∀ x, denF cx_r1_Of anns_r1_Of none Tryz.f61 sp_r1_Of x = sp_r1_Of.m x := by intro x; kernel_rfl

theorem hb_r1_Of : HasBody Tryz.prog 61 := has_body (fn := Tryz.f61) (by kernel_rfl) rfl (by decide)

theorem ok_r1_Of : FunOk Tryz.prog 61 sp_r1_Of := fun_ok (X := cx_r1_Of) (.nil _) (by kernel_rfl) sp_r1_Of anns_r1_Of none (by kernel_rfl) (fun x y h => (den_r1_Of x).trans h)

def anns_r1_trimmed : List (Nat × Ann) := [(1, ⟨[(1, .ref 1 0), (2, .ref 2 0)], [(1, [.val .bool, .val (.slice tI)]), (2, [.val .bool, .own 3 tI])], [], fuelOf _⟩),
  (200001, ⟨[(1, .ref 1 0), (2, .ref 2 0)], [(1, [.val .bool, .val (.slice tI)]), (2, [.val .bool, .own 3 tI])], [], fun _ => 0⟩)]

noncomputable def sp_r1_trimmed : FSpec := ⟨[.val t_interchangeref1_Num], [.val t_interchangeref1_Num], fun x => r1_trimmed x.1⟩

noncomputable def cx_r1_trimmed : Cx := ⟨Tryz.prog, []⟩

theorem den_r1_trimmed : ∀ x, denF cx_r1_trimmed anns_r1_trimmed none Tryz.f100 sp_r1_trimmed x = sp_r1_trimmed.m x := by intro x; kernel_rfl

theorem hb_r1_trimmed : HasBody Tryz.prog 100 := has_body (fn := Tryz.f100) (by kernel_rfl) rfl (by decide)

theorem ok_r1_trimmed : FunOk Tryz.prog 100 sp_r1_trimmed := fun_ok (X := cx_r1_trimmed) (.nil _) (by kernel_rfl) sp_r1_trimmed anns_r1_trimmed none (by kernel_rfl) (fun x y h => (den_r1_trimmed x).trans h)

def anns_r1_TimesOf : List (Nat × Ann) := [(3, ⟨[(3, .ref 3 0), (4, .ref 4 0), (5, .ref 5 0), (27, .val (.slice tI)), (28, .val tI), (29, .val tI)], [(3, [.val .bool, .val (.slice tI)]), (4, [.val .bool, .own 3 tI]), (5, [.val .bool, .rowR 24])], [.rowC 24 3 tI], fuelOf _⟩),
  (6, ⟨[(3, .ref 3 0), (4, .ref 4 0), (5, .ref 5 0), (6, .val tI), (7, .val tI), (27, .val (.slice tI)), (28, .val tI), (29, .val tI), (35, .val (.slice tI)), (36, .val tI), (37, .val tI)], [(3, [.val .bool, .val (.slice tI)]), (4, [.val .bool, .own 3 tI]), (5, [.val .bool, .rowR 24])], [.rowC 24 3 tI], fuelOf _⟩),
  (14, ⟨[(4, .ref 4 0), (5, .ref 5 0), (86, .val tI), (87, .val tI)], [(4, [.val .bool, .own 3 tI]), (5, [.val .bool, .rowR 24])], [.rowC 24 3 tI], fuelOf _⟩),
  (200003, ⟨[(4, .ref 4 0), (5, .ref 5 0)], [(4, [.val .bool, .own 3 tI]), (5, [.val .bool, .rowR 24])], [.rowC 24 3 tI], fun _ => 0⟩),
  (200006, ⟨[(3, .ref 3 0), (4, .ref 4 0), (5, .ref 5 0), (27, .val (.slice tI)), (28, .val tI), (29, .val tI)], [(3, [.val .bool, .val (.slice tI)]), (4, [.val .bool, .own 3 tI]), (5, [.val .bool, .rowR 24])], [.rowC 24 3 tI], fun _ => 0⟩),
  (200014, ⟨[(4, .ref 4 0), (5, .ref 5 0)], [(4, [.val .bool, .own 3 tI]), (5, [.val .bool, .rowR 24])], [.rowC 24 3 tI], fun _ => 0⟩)]

noncomputable def sp_r1_TimesOf : FSpec := ⟨[.val t_interchangeref1_Num, .val t_interchangeref1_Num], [.val t_interchangeref1_Num], fun x => r1_TimesOf x.1 x.2.1⟩

noncomputable def cx_r1_TimesOf : Cx := ⟨Tryz.prog, [(100, sp_r1_trimmed)]⟩

theorem den_r1_TimesOf : ∀ x, denF cx_r1_TimesOf anns_r1_TimesOf none Tryz.f60 sp_r1_TimesOf x = sp_r1_TimesOf.m x := by intro x; kernel_rfl

theorem hb_r1_TimesOf : HasBody Tryz.prog 60 := has_body (fn := Tryz.f60) (by kernel_rfl) rfl (by decide)

theorem ok_r1_TimesOf : FunOk Tryz.prog 60 sp_r1_TimesOf := fun_ok (X := cx_r1_TimesOf) (.cons ok_r1_trimmed hb_r1_trimmed (.nil _)) (by kernel_rfl) sp_r1_TimesOf anns_r1_TimesOf none (by kernel_rfl) (fun x y h => (den_r1_TimesOf x).trans h)

def anns_r1_Power : List (Nat × Ann) := [(3, ⟨[(2, .ref 2 0), (3, .ref 3 0), (5, .val tI), (6, .val tI)], [(2, [.val .bool, .own 3 tI]), (3, [.val .bool, .val (.slice tI)])], [], fuelOf _⟩),
  (200003, ⟨[(2, .ref 2 0), (3, .ref 3 0)], [(2, [.val .bool, .own 3 tI]), (3, [.val .bool, .val (.slice tI)])], [], fun _ => 0⟩)]

noncomputable def sp_r1_Power : FSpec := ⟨[.val tI], [.val t_interchangeref1_Num], fun x => r1_Power x.1⟩

noncomputable def cx_r1_Power : Cx := ⟨Tryz.prog, [(60, sp_r1_TimesOf), (61, sp_r1_Of)]⟩

theorem den_r1_Power : ∀ x, denF cx_r1_Power anns_r1_Power none Tryz.f62 sp_r1_Power x = sp_r1_Power.m x := by intro x; kernel_rfl

theorem hb_r1_Power : HasBody Tryz.prog 62 := has_body (fn := Tryz.f62) (by kernel_rfl) rfl (by decide)

theorem ok_r1_Power : FunOk Tryz.prog 62 sp_r1_Power := fun_ok (X := cx_r1_Power) (.cons ok_r1_TimesOf hb_r1_TimesOf (.cons ok_r1_Of hb_r1_Of (.nil _))) (by kernel_rfl) sp_r1_Power anns_r1_Power none (by kernel_rfl) (fun x y h => (den_r1_Power x).trans h)

def anns_r1_At : List (Nat × Ann) := []

noncomputable def sp_r1_At : FSpec := ⟨[.val t_api_Decimal, .val tI], [.val t_interchangeref1_Num], fun x => r1_At x.1 x.2.1⟩

noncomputable def cx_r1_At : Cx := ⟨Tryz.prog, [(60, sp_r1_TimesOf), (61, sp_r1_Of), (62, sp_r1_Power)]⟩

theorem den_r1_At : ∀ x, denF cx_r1_At anns_r1_At none Tryz.f115 sp_r1_At x = sp_r1_At.m x := by intro x; kernel_rfl

theorem hb_r1_At : HasBody Tryz.prog 115 := has_body (fn := Tryz.f115) (by kernel_rfl) rfl (by decide)

theorem ok_r1_At : FunOk Tryz.prog 115 sp_r1_At := fun_ok (X := cx_r1_At) (.cons ok_r1_TimesOf hb_r1_TimesOf (.cons ok_r1_Of hb_r1_Of (.cons ok_r1_Power hb_r1_Power (.nil _)))) (by kernel_rfl) sp_r1_At anns_r1_At none (by kernel_rfl) (fun x y h => (den_r1_At x).trans h)

def anns_r1_Minus : List (Nat × Ann) := []

noncomputable def sp_r1_Minus : FSpec := ⟨[.val t_interchangeref1_Num], [.val t_interchangeref1_Num], fun x => r1_Minus x.1⟩

noncomputable def cx_r1_Minus : Cx := ⟨Tryz.prog, []⟩

theorem den_r1_Minus : ∀ x, denF cx_r1_Minus anns_r1_Minus none Tryz.f146 sp_r1_Minus x = sp_r1_Minus.m x := by intro x; kernel_rfl

theorem hb_r1_Minus : HasBody Tryz.prog 146 := has_body (fn := Tryz.f146) (by kernel_rfl) rfl (by decide)

theorem ok_r1_Minus : FunOk Tryz.prog 146 sp_r1_Minus := fun_ok (X := cx_r1_Minus) (.nil _) (by kernel_rfl) sp_r1_Minus anns_r1_Minus none (by kernel_rfl) (fun x y h => (den_r1_Minus x).trans h)

def anns_r1_sizes : List (Nat × Ann) := [(4, ⟨[(0, .val (.slice tI)), (1, .val (.slice tI)), (5, .val tI)], [], [], fuelOf _⟩),
  (200004, ⟨[], [], [], fun _ => 0⟩)]

noncomputable def sp_r1_sizes : FSpec := ⟨[.val (.slice tI), .val (.slice tI)], [.val tI], fun x => r1_sizes x.1 x.2.1⟩

noncomputable def cx_r1_sizes : Cx := ⟨Tryz.prog, []⟩

theorem den_r1_sizes : ∀ x, denF cx_r1_sizes anns_r1_sizes none Tryz.f141 sp_r1_sizes x = sp_r1_sizes.m x := by intro x; kernel_rfl

theorem hb_r1_sizes : HasBody Tryz.prog 141 := has_body (fn := Tryz.f141) (by kernel_rfl) rfl (by decide)

theorem ok_r1_sizes : FunOk Tryz.prog 141 sp_r1_sizes := fun_ok (X := cx_r1_sizes) (.nil _) (by kernel_rfl) sp_r1_sizes anns_r1_sizes none (by kernel_rfl) (fun x y h => (den_r1_sizes x).trans h)

def anns_r1_digit : List (Nat × Ann) := []

noncomputable def sp_r1_digit : FSpec := ⟨[.val (.slice tI), .val tI], [.val tI], fun x => r1_digit x.1 x.2.1⟩

noncomputable def cx_r1_digit : Cx := ⟨Tryz.prog, []⟩

theorem den_r1_digit : ∀ x, denF cx_r1_digit anns_r1_digit none Tryz.f143 sp_r1_digit x = sp_r1_digit.m x := by intro x; kernel_rfl

theorem hb_r1_digit : HasBody Tryz.prog 143 := has_body (fn := Tryz.f143) (by kernel_rfl) rfl (by decide)

theorem ok_r1_digit : FunOk Tryz.prog 143 sp_r1_digit := fun_ok (X := cx_r1_digit) (.nil _) (by kernel_rfl) sp_r1_digit anns_r1_digit none (by kernel_rfl) (fun x y h => (den_r1_digit x).trans h)

def anns_r1_Plus : List (Nat × Ann) := [(7, ⟨[(2, .ref 2 0), (3, .ref 3 0), (4, .ref 4 0), (5, .ref 5 0), (6, .val tI), (31, .val tI), (32, .val tI)], [(2, [.val .bool, .val (.slice tI)]), (3, [.val .bool, .val (.slice tI)]), (4, [.val .bool, .own 3 tI]), (5, [.val .bool, .own 3 tI])], [], fuelOf _⟩),
  (19, ⟨[(2, .ref 2 0), (3, .ref 3 0), (4, .ref 4 0), (9, .ref 9 0), (10, .val tI), (70, .val tI), (71, .val tI)], [(2, [.val .bool, .val (.slice tI)]), (3, [.val .bool, .val (.slice tI)]), (4, [.val .bool, .own 3 tI]), (9, [.val .bool, .own 3 tI])], [], fuelOf _⟩),
  (100003, ⟨[(2, .ref 2 0), (3, .ref 3 0), (4, .ref 4 0)], [(2, [.val .bool, .val (.slice tI)]), (3, [.val .bool, .val (.slice tI)]), (4, [.val .bool, .own 3 tI])], [], fun _ => 0⟩),
  (100012, ⟨[(2, .ref 2 0), (3, .ref 3 0), (4, .ref 4 0), (5, .ref 5 0), (6, .val tI), (8, .val tI), (31, .val tI), (32, .val tI)], [(2, [.val .bool, .val (.slice tI)]), (3, [.val .bool, .val (.slice tI)]), (4, [.val .bool, .own 3 tI]), (5, [.val .bool, .own 3 tI])], [], fun _ => 0⟩),
  (200007, ⟨[(4, .ref 4 0), (5, .ref 5 0)], [(4, [.val .bool, .own 3 tI]), (5, [.val .bool, .own 3 tI])], [], fun _ => 0⟩),
  (200019, ⟨[(4, .ref 4 0), (9, .ref 9 0)], [(4, [.val .bool, .own 3 tI]), (9, [.val .bool, .own 3 tI])], [], fun _ => 0⟩)]

noncomputable def sp_r1_Plus : FSpec := ⟨[.val t_interchangeref1_Num, .val t_interchangeref1_Num], [.val t_interchangeref1_Num], fun x => r1_Plus x.1 x.2.1⟩

noncomputable def cx_r1_Plus : Cx := ⟨Tryz.prog, [(100, sp_r1_trimmed), (141, sp_r1_sizes), (143, sp_r1_digit)]⟩

theorem den_r1_Plus : ∀ x, denF cx_r1_Plus anns_r1_Plus none Tryz.f145 sp_r1_Plus x = sp_r1_Plus.m x := by intro x; kernel_rfl

theorem hb_r1_Plus : HasBody Tryz.prog 145 := has_body (fn := Tryz.f145) (by kernel_rfl) rfl (by decide)

theorem ok_r1_Plus : FunOk Tryz.prog 145 sp_r1_Plus := fun_ok (X := cx_r1_Plus) (.cons ok_r1_trimmed hb_r1_trimmed (.cons ok_r1_sizes hb_r1_sizes (.cons ok_r1_digit hb_r1_digit (.nil _)))) (by kernel_rfl) sp_r1_Plus anns_r1_Plus none (by kernel_rfl) (fun x y h => (den_r1_Plus x).trans h)

def anns_r1_Sign : List (Nat × Ann) := []

noncomputable def sp_r1_Sign : FSpec := ⟨[.val t_interchangeref1_Num], [.val tI], fun x => r1_Sign x.1⟩

noncomputable def cx_r1_Sign : Cx := ⟨Tryz.prog, []⟩

theorem den_r1_Sign : ∀ x, denF cx_r1_Sign anns_r1_Sign none Tryz.f144 sp_r1_Sign x = sp_r1_Sign.m x := by intro x; kernel_rfl

theorem hb_r1_Sign : HasBody Tryz.prog 144 := has_body (fn := Tryz.f144) (by kernel_rfl) rfl (by decide)

theorem ok_r1_Sign : FunOk Tryz.prog 144 sp_r1_Sign := fun_ok (X := cx_r1_Sign) (.nil _) (by kernel_rfl) sp_r1_Sign anns_r1_Sign none (by kernel_rfl) (fun x y h => (den_r1_Sign x).trans h)

def anns_r1_Cmp : List (Nat × Ann) := []

noncomputable def sp_r1_Cmp : FSpec := ⟨[.val t_interchangeref1_Num, .val t_interchangeref1_Num], [.val tI], fun x => r1_Cmp x.1 x.2.1⟩

noncomputable def cx_r1_Cmp : Cx := ⟨Tryz.prog, [(144, sp_r1_Sign), (145, sp_r1_Plus), (146, sp_r1_Minus)]⟩

theorem den_r1_Cmp : ∀ x, denF cx_r1_Cmp anns_r1_Cmp none Tryz.f114 sp_r1_Cmp x = sp_r1_Cmp.m x := by intro x; kernel_rfl

theorem hb_r1_Cmp : HasBody Tryz.prog 114 := has_body (fn := Tryz.f114) (by kernel_rfl) rfl (by decide)

theorem ok_r1_Cmp : FunOk Tryz.prog 114 sp_r1_Cmp := fun_ok (X := cx_r1_Cmp) (.cons ok_r1_Sign hb_r1_Sign (.cons ok_r1_Plus hb_r1_Plus (.cons ok_r1_Minus hb_r1_Minus (.nil _)))) (by kernel_rfl) sp_r1_Cmp anns_r1_Cmp none (by kernel_rfl) (fun x y h => (den_r1_Cmp x).trans h)

def anns_r11_cmp : List (Nat × Ann) := []

noncomputable def sp_r11_cmp : FSpec := ⟨[.val t_api_Decimal, .val t_api_Decimal], [.val tI], fun x => r11_cmp x.1 x.2.1⟩

noncomputable def cx_r11_cmp : Cx := ⟨Tryz.prog, [(114, sp_r1_Cmp), (115, sp_r1_At)]⟩

theorem den_r11_cmp : ∀ x, denF cx_r11_cmp anns_r11_cmp none Tryz.f72 sp_r11_cmp x = sp_r11_cmp.m x := by intro x; kernel_rfl

theorem hb_r11_cmp : HasBody Tryz.prog 72 := has_body (fn := Tryz.f72) (by kernel_rfl) rfl (by decide)

theorem ok_r11_cmp : FunOk Tryz.prog 72 sp_r11_cmp := fun_ok (X := cx_r11_cmp) (.cons ok_r1_Cmp hb_r1_Cmp (.cons ok_r1_At hb_r1_At (.nil _))) (by kernel_rfl) sp_r11_cmp anns_r11_cmp none (by kernel_rfl) (fun x y h => (den_r11_cmp x).trans h)

def anns_r11_isIn : List (Nat × Ann) := []

noncomputable def sp_r11_isIn : FSpec := ⟨[.val t_api_Decimal, .val tI, .val tI, .val tI], [.val .bool], fun x => r11_isIn x.1 x.2.1 x.2.2.1 x.2.2.2.1⟩

noncomputable def cx_r11_isIn : Cx := ⟨Tryz.prog, [(71, sp_r1_CheckDecimal), (72, sp_r11_cmp)]⟩

theorem den_r11_isIn : ∀ x, denF cx_r11_isIn anns_r11_isIn none Tryz.f36 sp_r11_isIn x = sp_r11_isIn.m x := by intro x; kernel_rfl

theorem hb_r11_isIn : HasBody Tryz.prog 36 := has_body (fn := Tryz.f36) (by kernel_rfl) rfl (by decide)

theorem ok_r11_isIn : FunOk Tryz.prog 36 sp_r11_isIn := fun_ok (X := cx_r11_isIn) (.cons ok_r1_CheckDecimal hb_r1_CheckDecimal (.cons ok_r11_cmp hb_r11_cmp (.nil _))) (by kernel_rfl) sp_r11_isIn anns_r11_isIn none (by kernel_rfl) (fun x y h => (den_r11_isIn x).trans h)

def anns_r11_rateOf : List (Nat × Ann) := [(2, ⟨[(1, .val .str), (8, .val (.slice t_api_Rate)), (9, .val tI), (10, .val tI)], [], [], fuelOf _⟩),
  (200002, ⟨[], [], [], fun _ => 0⟩)]

noncomputable def sp_r11_rateOf : FSpec := ⟨[.val t_api_Invoice, .val .str], [.val tI], fun x => r11_rateOf x.1 x.2.1⟩

noncomputable def cx_r11_rateOf : Cx := ⟨Tryz.prog, []⟩

theorem den_r11_rateOf : ∀ x, denF cx_r11_rateOf anns_r11_rateOf none Tryz.f73 sp_r11_rateOf x = sp_r11_rateOf.m x := by intro x; kernel_rfl

theorem hb_r11_rateOf : HasBody Tryz.prog 73 := has_body (fn := Tryz.f73) (by kernel_rfl) rfl (by decide)

theorem ok_r11_rateOf : FunOk Tryz.prog 73 sp_r11_rateOf := fun_ok (X := cx_r11_rateOf) (.nil _) (by kernel_rfl) sp_r11_rateOf anns_r11_rateOf none (by kernel_rfl) (fun x y h => (den_r11_rateOf x).trans h)

def anns_r11_checkExtras : List (Nat × Ann) := [(4, ⟨[(2, .val .bool), (3, .ref 3 0), (12, .val (.slice t_api_Extra)), (13, .val tI), (14, .val tI)], [(3, [.val .str, .val .str, .val tI, .val tI, .val tI, .val .bool, .val (.slice t_api_Rate), .val (.slice t_api_BillLine), .val (.slice t_api_Extra)])], [], fuelOf _⟩),
  (200004, ⟨[], [], [], fun _ => 0⟩)]

noncomputable def sp_r11_checkExtras : FSpec := ⟨[.val t_api_Invoice, .val (.slice t_api_Extra), .val .bool], [.val tI], fun x => r11_checkExtras x.1 x.2.1 x.2.2.1⟩

noncomputable def cx_r11_checkExtras : Cx := ⟨Tryz.prog, [(36, sp_r11_isIn), (71, sp_r1_CheckDecimal), (73, sp_r11_rateOf)]⟩

theorem den_r11_checkExtras : ∀ x, denF cx_r11_checkExtras anns_r11_checkExtras none Tryz.f38 sp_r11_checkExtras x = sp_r11_checkExtras.m x := by intro x; kernel_rfl

theorem hb_r11_checkExtras : HasBody Tryz.prog 38 := has_body (fn := Tryz.f38) (by kernel_rfl) rfl (by decide)

theorem ok_r11_checkExtras : FunOk Tryz.prog 38 sp_r11_checkExtras := fun_ok (X := cx_r11_checkExtras) (.cons ok_r11_isIn hb_r11_isIn (.cons ok_r1_CheckDecimal hb_r1_CheckDecimal (.cons ok_r11_rateOf hb_r11_rateOf (.nil _)))) (by kernel_rfl) sp_r11_checkExtras anns_r11_checkExtras none (by kernel_rfl) (fun x y h => (den_r11_checkExtras x).trans h)

def anns_r11_checkLine : List (Nat × Ann) := []

noncomputable def sp_r11_checkLine : FSpec := ⟨[.val t_api_Invoice, .val tI], [.val tI], fun x => r11_checkLine x.1 x.2.1⟩

noncomputable def cx_r11_checkLine : Cx := ⟨Tryz.prog, [(24, sp_r11_within), (34, sp_r1_IsName), (36, sp_r11_isIn), (38, sp_r11_checkExtras), (73, sp_r11_rateOf)]⟩

theorem den_r11_checkLine : ∀ x, denF cx_r11_checkLine anns_r11_checkLine none Tryz.f37 sp_r11_checkLine x = sp_r11_checkLine.m x := by intro x; kernel_rfl

theorem hb_r11_checkLine : HasBody Tryz.prog 37 := has_body (fn := Tryz.f37) (by kernel_rfl) rfl (by decide)

theorem ok_r11_checkLine : FunOk Tryz.prog 37 sp_r11_checkLine := fun_ok (X := cx_r11_checkLine) (.cons ok_r11_within hb_r11_within (.cons ok_r1_IsName hb_r1_IsName (.cons ok_r11_isIn hb_r11_isIn (.cons ok_r11_checkExtras hb_r11_checkExtras (.cons ok_r11_rateOf hb_r11_rateOf (.nil _)))))) (by kernel_rfl) sp_r11_checkLine anns_r11_checkLine none (by kernel_rfl) (fun x y h => (den_r11_checkLine x).trans h)

def anns_r11_CheckInvoice : List (Nat × Ann) := [(12, ⟨[(1, .ref 1 0), (45, .val (.slice t_api_Rate)), (46, .val tI), (47, .val tI)], [(1, [.val .str, .val .str, .val tI, .val tI, .val tI, .val .bool, .val (.slice t_api_Rate), .val (.slice t_api_BillLine), .val (.slice t_api_Extra)])], [], fuelOf _⟩),
  (26, ⟨[(1, .ref 1 0), (88, .val tI), (89, .val tI)], [(1, [.val .str, .val .str, .val tI, .val tI, .val tI, .val .bool, .val (.slice t_api_Rate), .val (.slice t_api_BillLine), .val (.slice t_api_Extra)])], [], fuelOf _⟩),
  (200012, ⟨[(1, .ref 1 0)], [(1, [.val .str, .val .str, .val tI, .val tI, .val tI, .val .bool, .val (.slice t_api_Rate), .val (.slice t_api_BillLine), .val (.slice t_api_Extra)])], [], fun _ => 0⟩),
  (200026, ⟨[(1, .ref 1 0)], [(1, [.val .str, .val .str, .val tI, .val tI, .val tI, .val .bool, .val (.slice t_api_Rate), .val (.slice t_api_BillLine), .val (.slice t_api_Extra)])], [], fun _ => 0⟩)]

noncomputable def sp_r11_CheckInvoice : FSpec := ⟨[.val t_api_Invoice], [.val tI], fun x => r11_CheckInvoice x.1⟩

noncomputable def cx_r11_CheckInvoice : Cx := ⟨Tryz.prog, [(24, sp_r11_within), (34, sp_r1_IsName), (35, sp_r1_IsDay), (36, sp_r11_isIn), (37, sp_r11_checkLine), (38, sp_r11_checkExtras)]⟩

theorem den_r11_CheckInvoice : ∀ x, denF cx_r11_CheckInvoice anns_r11_CheckInvoice none Tryz.f10 sp_r11_CheckInvoice x = sp_r11_CheckInvoice.m x := by intro x; kernel_rfl

theorem hb_r11_CheckInvoice : HasBody Tryz.prog 10 := has_body (fn := Tryz.f10) (by kernel_rfl) rfl (by decide)

theorem ok_r11_CheckInvoice : FunOk Tryz.prog 10 sp_r11_CheckInvoice := fun_ok (X := cx_r11_CheckInvoice) (.cons ok_r11_within hb_r11_within (.cons ok_r1_IsName hb_r1_IsName (.cons ok_r1_IsDay hb_r1_IsDay (.cons ok_r11_isIn hb_r11_isIn (.cons ok_r11_checkLine hb_r11_checkLine (.cons ok_r11_checkExtras hb_r11_checkExtras (.nil _))))))) (by kernel_rfl) sp_r11_CheckInvoice anns_r11_CheckInvoice none (by kernel_rfl) (fun x y h => (den_r11_CheckInvoice x).trans h)

def anns_r1_half : List (Nat × Ann) := [(4, ⟨[(1, .ref 1 0), (2, .ref 2 0), (4, .ref 4 0), (5, .val tI), (6, .val tI)], [(1, [.val .bool, .val (.slice tI)]), (2, [.val .bool, .own 3 tI]), (4, [.val .bool, .rowR 11])], [.rowC 11 3 tI], fuelOf _⟩),
  (200004, ⟨[(2, .ref 2 0), (4, .ref 4 0), (5, .val tI)], [(2, [.val .bool, .own 3 tI]), (4, [.val .bool, .rowR 11])], [.rowC 11 3 tI], fun _ => 0⟩)]

noncomputable def sp_r1_half : FSpec := ⟨[.val t_interchangeref1_Num], [.val t_interchangeref1_Num, .val tI], fun x => r1_half x.1⟩

noncomputable def cx_r1_half : Cx := ⟨Tryz.prog, [(100, sp_r1_trimmed)]⟩

theorem den_r1_half : ∀ x, denF cx_r1_half anns_r1_half none Tryz.f168 sp_r1_half x = sp_r1_half.m x := by intro x; kernel_rfl

theorem hb_r1_half : HasBody Tryz.prog 168 := has_body (fn := Tryz.f168) (by kernel_rfl) rfl (by decide)

theorem ok_r1_half : FunOk Tryz.prog 168 sp_r1_half := fun_ok (X := cx_r1_half) (.cons ok_r1_trimmed hb_r1_trimmed (.nil _)) (by kernel_rfl) sp_r1_half anns_r1_half none (by kernel_rfl) (fun x y h => (den_r1_half x).trans h)

def anns_r1_DivMod : List (Nat × Ann) := [(3, ⟨[(3, .ref 3 0), (4, .ref 4 0), (5, .ref 5 0), (6, .own 3 tI), (7, .ref 7 0)], [(3, [.val .bool, .val (.slice tI)]), (4, [.val .bool, .own 3 tI]), (5, [.val .bool, .own 3 tI]), (7, [.val .bool, .val (.slice tI)])], [], fun x => 20 * List.length x.2.2.2.2.2.2.2.2.1 + 2⟩),
  (11, ⟨[(3, .ref 3 0), (4, .ref 4 0), (5, .ref 5 0), (6, .own 3 tI), (10, .ref 10 0), (11, .ref 11 0), (12, .ref 12 0), (13, .val tI)], [(3, [.val .bool, .val (.slice tI)]), (4, [.val .bool, .own 3 tI]), (5, [.val .bool, .own 3 tI]), (10, [.val .bool, .val (.slice tI)]), (11, [.val .bool, .val (.slice tI)]), (12, [.val .bool, .val (.slice tI)])], [], fuelOf _⟩),
  (200003, ⟨[(3, .ref 3 0), (4, .ref 4 0), (5, .ref 5 0), (6, .own 3 tI)], [(3, [.val .bool, .val (.slice tI)]), (4, [.val .bool, .own 3 tI]), (5, [.val .bool, .own 3 tI])], [], fun _ => 0⟩),
  (200011, ⟨[(4, .ref 4 0), (5, .ref 5 0), (10, .ref 10 0), (11, .ref 11 0)], [(4, [.val .bool, .own 3 tI]), (5, [.val .bool, .own 3 tI]), (10, [.val .bool, .val (.slice tI)]), (11, [.val .bool, .val (.slice tI)])], [], fun _ => 0⟩)]

noncomputable def sp_r1_DivMod : FSpec := ⟨[.val t_interchangeref1_Num, .val t_interchangeref1_Num], [.val t_interchangeref1_Num, .val t_interchangeref1_Num], fun x => r1_DivMod x.1 x.2.1⟩

noncomputable def cx_r1_DivMod : Cx := ⟨Tryz.prog, [(60, sp_r1_TimesOf), (61, sp_r1_Of), (114, sp_r1_Cmp), (144, sp_r1_Sign), (145, sp_r1_Plus), (146, sp_r1_Minus), (168, sp_r1_half)]⟩

theorem den_r1_DivMod : ∀ x, denF cx_r1_DivMod anns_r1_DivMod none Tryz.f142 sp_r1_DivMod x = sp_r1_DivMod.m x := by intro x; kernel_rfl

theorem hb_r1_DivMod : HasBody Tryz.prog 142 := has_body (fn := Tryz.f142) (by kernel_rfl) rfl (by decide)

theorem ok_r1_DivMod : FunOk Tryz.prog 142 sp_r1_DivMod := fun_ok (X := cx_r1_DivMod) (.cons ok_r1_TimesOf hb_r1_TimesOf (.cons ok_r1_Of hb_r1_Of (.cons ok_r1_Cmp hb_r1_Cmp (.cons ok_r1_Sign hb_r1_Sign (.cons ok_r1_Plus hb_r1_Plus (.cons ok_r1_Minus hb_r1_Minus (.cons ok_r1_half hb_r1_half (.nil _)))))))) (by kernel_rfl) sp_r1_DivMod anns_r1_DivMod none (by kernel_rfl) (fun x y h => (den_r1_DivMod x).trans h)

def anns_r1_Round : List (Nat × Ann) := [(100009, ⟨[(6, .ref 6 0), (7, .val .bool), (8, .ref 8 0), (11, .val .bool)], [(6, [.val .bool, .own 3 tI]), (8, [.val .bool, .val (.slice tI)])], [], fun _ => 0⟩)]

noncomputable def sp_r1_Round : FSpec := ⟨[.val t_interchangeref1_Num, .val t_interchangeref1_Num, .val tI], [.val t_interchangeref1_Num], fun x => r1_Round x.1 x.2.1 x.2.2.1⟩

noncomputable def cx_r1_Round : Cx := ⟨Tryz.prog, [(60, sp_r1_TimesOf), (61, sp_r1_Of), (114, sp_r1_Cmp), (142, sp_r1_DivMod), (143, sp_r1_digit), (144, sp_r1_Sign), (145, sp_r1_Plus), (146, sp_r1_Minus)]⟩

theorem den_r1_Round : ∀ x, denF cx_r1_Round anns_r1_Round none Tryz.f102 sp_r1_Round x = sp_r1_Round.m x := by intro x; kernel_rfl

theorem hb_r1_Round : HasBody Tryz.prog 102 := has_body (fn := Tryz.f102) (by kernel_rfl) rfl (by decide)

theorem ok_r1_Round : FunOk Tryz.prog 102 sp_r1_Round := fun_ok (X := cx_r1_Round) (.cons ok_r1_TimesOf hb_r1_TimesOf (.cons ok_r1_Of hb_r1_Of (.cons ok_r1_Cmp hb_r1_Cmp (.cons ok_r1_DivMod hb_r1_DivMod (.cons ok_r1_digit hb_r1_digit (.cons ok_r1_Sign hb_r1_Sign (.cons ok_r1_Plus hb_r1_Plus (.cons ok_r1_Minus hb_r1_Minus (.nil _))))))))) (by kernel_rfl) sp_r1_Round anns_r1_Round none (by kernel_rfl) (fun x y h => (den_r1_Round x).trans h)

def anns_r1_Small : List (Nat × Ann) := [(5, ⟨[(2, .ref 2 0), (6, .val tI), (7, .val tI)], [(2, [.val .bool, .val (.slice tI)])], [], fuelOf _⟩),
  (200005, ⟨[(2, .ref 2 0), (6, .val tI)], [(2, [.val .bool, .val (.slice tI)])], [], fun _ => 0⟩)]

noncomputable def sp_r1_Small : FSpec := ⟨[.val t_interchangeref1_Num, .val tI], [.val tI, .val .bool], fun x => r1_Small x.1 x.2.1⟩

noncomputable def cx_r1_Small : Cx := ⟨Tryz.prog, [(61, sp_r1_Of), (141, sp_r1_sizes)]⟩

theorem den_r1_Small : ∀ x, denF cx_r1_Small anns_r1_Small none Tryz.f101 sp_r1_Small x = sp_r1_Small.m x := by intro x; kernel_rfl

theorem hb_r1_Small : HasBody Tryz.prog 101 := has_body (fn := Tryz.f101) (by kernel_rfl) rfl (by decide)

theorem ok_r1_Small : FunOk Tryz.prog 101 sp_r1_Small := fun_ok (X := cx_r1_Small) (.cons ok_r1_Of hb_r1_Of (.cons ok_r1_sizes hb_r1_sizes (.nil _))) (by kernel_rfl) sp_r1_Small anns_r1_Small none (by kernel_rfl) (fun x y h => (den_r1_Small x).trans h)

def anns_r11_rounded : List (Nat × Ann) := []

noncomputable def sp_r11_rounded : FSpec := ⟨[.val t_api_Invoice, .val t_interchangeref1_Num, .val t_interchangeref1_Num], [.val tI, .val .bool], fun x => r11_rounded x.1 x.2.1 x.2.2.1⟩

noncomputable def cx_r11_rounded : Cx := ⟨Tryz.prog, [(101, sp_r1_Small), (102, sp_r1_Round)]⟩

theorem den_r11_rounded : ∀ x, denF cx_r11_rounded anns_r11_rounded none Tryz.f63 sp_r11_rounded x = sp_r11_rounded.m x := by intro x; kernel_rfl

theorem hb_r11_rounded : HasBody Tryz.prog 63 := has_body (fn := Tryz.f63) (by kernel_rfl) rfl (by decide)

theorem ok_r11_rounded : FunOk Tryz.prog 63 sp_r11_rounded := fun_ok (X := cx_r11_rounded) (.cons ok_r1_Small hb_r1_Small (.cons ok_r1_Round hb_r1_Round (.nil _))) (by kernel_rfl) sp_r11_rounded anns_r11_rounded none (by kernel_rfl) (fun x y h => (den_r11_rounded x).trans h)

def anns_r11_gross : List (Nat × Ann) := []

noncomputable def sp_r11_gross : FSpec := ⟨[.val t_api_Invoice, .val t_api_BillLine], [.val tI, .val .bool], fun x => r11_gross x.1 x.2.1⟩

noncomputable def cx_r11_gross : Cx := ⟨Tryz.prog, [(60, sp_r1_TimesOf), (61, sp_r1_Of), (62, sp_r1_Power), (63, sp_r11_rounded)]⟩

theorem den_r11_gross : ∀ x, denF cx_r11_gross anns_r11_gross none Tryz.f25 sp_r11_gross x = sp_r11_gross.m x := by intro x; kernel_rfl

theorem hb_r11_gross : HasBody Tryz.prog 25 := has_body (fn := Tryz.f25) (by kernel_rfl) rfl (by decide)

theorem ok_r11_gross : FunOk Tryz.prog 25 sp_r11_gross := fun_ok (X := cx_r11_gross) (.cons ok_r1_TimesOf hb_r1_TimesOf (.cons ok_r1_Of hb_r1_Of (.cons ok_r1_Power hb_r1_Power (.cons ok_r11_rounded hb_r11_rounded (.nil _))))) (by kernel_rfl) sp_r11_gross anns_r11_gross none (by kernel_rfl) (fun x y h => (den_r11_gross x).trans h)

def anns_r11_told : List (Nat × Ann) := []

noncomputable def sp_r11_told : FSpec := ⟨[.val t_api_Invoice, .val tI], [.val t_api_Decimal], fun x => r11_told x.1 x.2.1⟩

noncomputable def cx_r11_told : Cx := ⟨Tryz.prog, []⟩

theorem den_r11_told : ∀ x, denF cx_r11_told anns_r11_told none Tryz.f26 sp_r11_told x = sp_r11_told.m x := by intro x; kernel_rfl

theorem hb_r11_told : HasBody Tryz.prog 26 := has_body (fn := Tryz.f26) (by kernel_rfl) rfl (by decide)

theorem ok_r11_told : FunOk Tryz.prog 26 sp_r11_told := fun_ok (X := cx_r11_told) (.nil _) (by kernel_rfl) sp_r11_told anns_r11_told none (by kernel_rfl) (fun x y h => (den_r11_told x).trans h)

def anns_r11_Gross : List (Nat × Ann) := []

noncomputable def sp_r11_Gross : FSpec := ⟨[.val t_api_Invoice, .val tI], [.val t_api_Decimal, .val tI], fun x => r11_Gross x.1 x.2.1⟩

noncomputable def cx_r11_Gross : Cx := ⟨Tryz.prog, [(10, sp_r11_CheckInvoice), (24, sp_r11_within), (25, sp_r11_gross), (26, sp_r11_told)]⟩

theorem den_r11_Gross : ∀ x, denF cx_r11_Gross anns_r11_Gross none Tryz.f8 sp_r11_Gross x = sp_r11_Gross.m x := by intro x; kernel_rfl

theorem hb_r11_Gross : HasBody Tryz.prog 8 := has_body (fn := Tryz.f8) (by kernel_rfl) rfl (by decide)

theorem ok_r11_Gross : FunOk Tryz.prog 8 sp_r11_Gross := fun_ok (X := cx_r11_Gross) (.cons ok_r11_CheckInvoice hb_r11_CheckInvoice (.cons ok_r11_within hb_r11_within (.cons ok_r11_gross hb_r11_gross (.cons ok_r11_told hb_r11_told (.nil _))))) (by kernel_rfl) sp_r11_Gross anns_r11_Gross none (by kernel_rfl) (fun x y h => (den_r11_Gross x).trans h)

def anns_bill_Net : List (Nat × Ann) := []

noncomputable def sp_bill_Net : FSpec := ⟨[.val t_api_Invoice, .val tI], [.val t_api_Decimal, .val tI], fun x => bill_Net x.1 x.2.1⟩

noncomputable def cx_bill_Net : Cx := ⟨Tryz.prog, [(22, sp_bill_ofLine_net)]⟩

theorem den_bill_Net : ∀ x, denF cx_bill_Net anns_bill_Net none Tryz.f11 sp_bill_Net x = sp_bill_Net.m x := by intro x; kernel_rfl

theorem hb_bill_Net : HasBody Tryz.prog 11 := has_body (fn := Tryz.f11) (by kernel_rfl) rfl (by decide)

theorem ok_bill_Net : FunOk Tryz.prog 11 sp_bill_Net := fun_ok (X := cx_bill_Net) (.cons ok_bill_ofLine_net hb_bill_ofLine_net (.nil _)) (by kernel_rfl) sp_bill_Net anns_bill_Net none (by kernel_rfl) (fun x y h => (den_bill_Net x).trans h)

def anns_r11_percent : List (Nat × Ann) := []

noncomputable def sp_r11_percent : FSpec := ⟨[.val t_api_Invoice, .val tI, .val t_api_Decimal], [.val tI, .val .bool], fun x => r11_percent x.1 x.2.1 x.2.2.1⟩

noncomputable def cx_r11_percent : Cx := ⟨Tryz.prog, [(60, sp_r1_TimesOf), (61, sp_r1_Of), (62, sp_r1_Power), (63, sp_r11_rounded)]⟩

theorem den_r11_percent : ∀ x, denF cx_r11_percent anns_r11_percent none Tryz.f119 sp_r11_percent x = sp_r11_percent.m x := by intro x; kernel_rfl

theorem hb_r11_percent : HasBody Tryz.prog 119 := has_body (fn := Tryz.f119) (by kernel_rfl) rfl (by decide)

theorem ok_r11_percent : FunOk Tryz.prog 119 sp_r11_percent := fun_ok (X := cx_r11_percent) (.cons ok_r1_TimesOf hb_r1_TimesOf (.cons ok_r1_Of hb_r1_Of (.cons ok_r1_Power hb_r1_Power (.cons ok_r11_rounded hb_r11_rounded (.nil _))))) (by kernel_rfl) sp_r11_percent anns_r11_percent none (by kernel_rfl) (fun x y h => (den_r11_percent x).trans h)

def anns_r11_amount : List (Nat × Ann) := []

noncomputable def sp_r11_amount : FSpec := ⟨[.val t_api_Invoice, .val t_api_Extra, .val tI], [.val tI, .val .bool], fun x => r11_amount x.1 x.2.1 x.2.2.1⟩

noncomputable def cx_r11_amount : Cx := ⟨Tryz.prog, [(101, sp_r1_Small), (115, sp_r1_At), (119, sp_r11_percent)]⟩

theorem den_r11_amount : ∀ x, denF cx_r11_amount anns_r11_amount none Tryz.f77 sp_r11_amount x = sp_r11_amount.m x := by intro x; kernel_rfl

theorem hb_r11_amount : HasBody Tryz.prog 77 := has_body (fn := Tryz.f77) (by kernel_rfl) rfl (by decide)

theorem ok_r11_amount : FunOk Tryz.prog 77 sp_r11_amount := fun_ok (X := cx_r11_amount) (.cons ok_r1_Small hb_r1_Small (.cons ok_r1_At hb_r1_At (.cons ok_r11_percent hb_r11_percent (.nil _)))) (by kernel_rfl) sp_r11_amount anns_r11_amount none (by kernel_rfl) (fun x y h => (den_r11_amount x).trans h)

def anns_r11_isAmount : List (Nat × Ann) := []

noncomputable def sp_r11_isAmount : FSpec := ⟨[.val tI], [.val .bool], fun x => r11_isAmount x.1⟩

noncomputable def cx_r11_isAmount : Cx := ⟨Tryz.prog, [(24, sp_r11_within)]⟩

theorem den_r11_isAmount : ∀ x, denF cx_r11_isAmount anns_r11_isAmount none Tryz.f78 sp_r11_isAmount x = sp_r11_isAmount.m x := by intro x; kernel_rfl

theorem hb_r11_isAmount : HasBody Tryz.prog 78 := has_body (fn := Tryz.f78) (by kernel_rfl) rfl (by decide)

theorem ok_r11_isAmount : FunOk Tryz.prog 78 sp_r11_isAmount := fun_ok (X := cx_r11_isAmount) (.cons ok_r11_within hb_r11_within (.nil _)) (by kernel_rfl) sp_r11_isAmount anns_r11_isAmount none (by kernel_rfl) (fun x y h => (den_r11_isAmount x).trans h)

def anns_r11_net : List (Nat × Ann) := [(6, ⟨[(2, .ref 2 0), (6, .val tI), (8, .val tI), (23, .val (.slice t_api_Extra)), (24, .val tI), (25, .val tI)], [(2, [.val .str, .val .str, .val tI, .val tI, .val tI, .val .bool, .val (.slice t_api_Rate), .val (.slice t_api_BillLine), .val (.slice t_api_Extra)])], [], fuelOf _⟩),
  (200006, ⟨[(8, .val tI)], [], [], fun _ => 0⟩)]

noncomputable def sp_r11_net : FSpec := ⟨[.val t_api_Invoice, .val t_api_BillLine], [.val tI, .val .bool], fun x => r11_net x.1 x.2.1⟩

noncomputable def cx_r11_net : Cx := ⟨Tryz.prog, [(25, sp_r11_gross), (77, sp_r11_amount), (78, sp_r11_isAmount)]⟩

theorem den_r11_net : ∀ x, denF cx_r11_net anns_r11_net none Tryz.f40 sp_r11_net x = sp_r11_net.m x := by intro x; kernel_rfl

theorem hb_r11_net : HasBody Tryz.prog 40 := has_body (fn := Tryz.f40) (by kernel_rfl) rfl (by decide)

theorem ok_r11_net : FunOk Tryz.prog 40 sp_r11_net := fun_ok (X := cx_r11_net) (.cons ok_r11_gross hb_r11_gross (.cons ok_r11_amount hb_r11_amount (.cons ok_r11_isAmount hb_r11_isAmount (.nil _)))) (by kernel_rfl) sp_r11_net anns_r11_net none (by kernel_rfl) (fun x y h => (den_r11_net x).trans h)

def anns_r11_Net : List (Nat × Ann) := []

noncomputable def sp_r11_Net : FSpec := ⟨[.val t_api_Invoice, .val tI], [.val t_api_Decimal, .val tI], fun x => r11_Net x.1 x.2.1⟩

noncomputable def cx_r11_Net : Cx := ⟨Tryz.prog, [(10, sp_r11_CheckInvoice), (24, sp_r11_within), (26, sp_r11_told), (40, sp_r11_net)]⟩

theorem den_r11_Net : ∀ x, denF cx_r11_Net anns_r11_Net none Tryz.f12 sp_r11_Net x = sp_r11_Net.m x := by intro x; kernel_rfl

theorem hb_r11_Net : HasBody Tryz.prog 12 := has_body (fn := Tryz.f12) (by kernel_rfl) rfl (by decide)

theorem ok_r11_Net : FunOk Tryz.prog 12 sp_r11_Net := fun_ok (X := cx_r11_Net) (.cons ok_r11_CheckInvoice hb_r11_CheckInvoice (.cons ok_r11_within hb_r11_within (.cons ok_r11_told hb_r11_told (.cons ok_r11_net hb_r11_net (.nil _))))) (by kernel_rfl) sp_r11_Net anns_r11_Net none (by kernel_rfl) (fun x y h => (den_r11_Net x).trans h)

def anns_bill_CheckDebts_1 : List (Nat × Ann) := []

noncomputable def sp_bill_CheckDebts_1 : FSpec := ⟨[.val t_api_Debt, .val (.ptr t_api_Debt)], [.val .bool], fun x => bill_CheckDebts_1 x.1 x.2.1⟩

noncomputable def cx_bill_CheckDebts_1 : Cx := ⟨Tryz.prog, []⟩

theorem den_bill_CheckDebts_1 : ∀ x, denF cx_bill_CheckDebts_1 anns_bill_CheckDebts_1 none Tryz.f156 sp_bill_CheckDebts_1 x = sp_bill_CheckDebts_1.m x := by intro x; kernel_rfl

theorem hb_bill_CheckDebts_1 : HasBody Tryz.prog 156 := has_body (fn := Tryz.f156) (by kernel_rfl) rfl (by decide)

theorem ok_bill_CheckDebts_1 : FunOk Tryz.prog 156 sp_bill_CheckDebts_1 := fun_ok (X := cx_bill_CheckDebts_1) (.nil _) (by kernel_rfl) sp_bill_CheckDebts_1 anns_bill_CheckDebts_1 none (by kernel_rfl) (fun x y h => (den_bill_CheckDebts_1 x).trans h)

def anns_slices_IndexFunc_api_Debt : List (Nat × Ann) := [(2, ⟨[(0, .val (.slice t_api_Debt)), (1, .val (.clo 156 (.ptr t_api_Debt))), (7, .val tI), (8, .val tI)], [], [], fuelOf _⟩),
  (200002, ⟨[], [], [], fun _ => 0⟩)]

noncomputable def sp_slices_IndexFunc_api_Debt : FSpec := ⟨[.val (.slice t_api_Debt), .val (.clo 156 (.ptr t_api_Debt))], [.val tI], fun x => slices_IndexFunc_api_Debt x.1 x.2.1⟩

noncomputable def cx_slices_IndexFunc_api_Debt : Cx := ⟨Tryz.prog, [(156, sp_bill_CheckDebts_1)]⟩

theorem den_slices_IndexFunc_api_Debt : ∀ x, denF cx_slices_IndexFunc_api_Debt anns_slices_IndexFunc_api_Debt none Tryz.f173 sp_slices_IndexFunc_api_Debt x = sp_slices_IndexFunc_api_Debt.m x := by intro x; kernel_rfl

theorem hb_slices_IndexFunc_api_Debt : HasBody Tryz.prog 173 := has_body (fn := Tryz.f173) (by kernel_rfl) rfl (by decide)

theorem ok_slices_IndexFunc_api_Debt : FunOk Tryz.prog 173 sp_slices_IndexFunc_api_Debt := fun_ok (X := cx_slices_IndexFunc_api_Debt) (.cons ok_bill_CheckDebts_1 hb_bill_CheckDebts_1 (.nil _)) (by kernel_rfl) sp_slices_IndexFunc_api_Debt anns_slices_IndexFunc_api_Debt none (by kernel_rfl) (fun x y h => (den_slices_IndexFunc_api_Debt x).trans h)

def anns_slices_ContainsFunc_api_Debt : List (Nat × Ann) := []

noncomputable def sp_slices_ContainsFunc_api_Debt : FSpec := ⟨[.val (.slice t_api_Debt), .val (.clo 156 (.ptr t_api_Debt))], [.val .bool], fun x => slices_ContainsFunc_api_Debt x.1 x.2.1⟩

noncomputable def cx_slices_ContainsFunc_api_Debt : Cx := ⟨Tryz.prog, [(173, sp_slices_IndexFunc_api_Debt)]⟩

theorem den_slices_ContainsFunc_api_Debt : ∀ x, denF cx_slices_ContainsFunc_api_Debt anns_slices_ContainsFunc_api_Debt none Tryz.f155 sp_slices_ContainsFunc_api_Debt x = sp_slices_ContainsFunc_api_Debt.m x := by intro x; kernel_rfl

theorem hb_slices_ContainsFunc_api_Debt : HasBody Tryz.prog 155 := has_body (fn := Tryz.f155) (by kernel_rfl) rfl (by decide)

theorem ok_slices_ContainsFunc_api_Debt : FunOk Tryz.prog 155 sp_slices_ContainsFunc_api_Debt := fun_ok (X := cx_slices_ContainsFunc_api_Debt) (.cons ok_slices_IndexFunc_api_Debt hb_slices_IndexFunc_api_Debt (.nil _)) (by kernel_rfl) sp_slices_ContainsFunc_api_Debt anns_slices_ContainsFunc_api_Debt none (by kernel_rfl) (fun x y h => (den_slices_ContainsFunc_api_Debt x).trans h)

def anns_bill_moneyFault : List (Nat × Ann) := []

noncomputable def sp_bill_moneyFault : FSpec := ⟨[.val t_api_Decimal], [.val tI], fun x => bill_moneyFault x.1⟩

noncomputable def cx_bill_moneyFault : Cx := ⟨Tryz.prog, [(65, sp_amount_CheckDecimal), (66, sp_bill_between)]⟩

theorem den_bill_moneyFault : ∀ x, denF cx_bill_moneyFault anns_bill_moneyFault none Tryz.f157 sp_bill_moneyFault x = sp_bill_moneyFault.m x := by intro x; kernel_rfl

theorem hb_bill_moneyFault : HasBody Tryz.prog 157 := has_body (fn := Tryz.f157) (by kernel_rfl) rfl (by decide)

theorem ok_bill_moneyFault : FunOk Tryz.prog 157 sp_bill_moneyFault := fun_ok (X := cx_bill_moneyFault) (.cons ok_amount_CheckDecimal hb_amount_CheckDecimal (.cons ok_bill_between hb_bill_between (.nil _))) (by kernel_rfl) sp_bill_moneyFault anns_bill_moneyFault none (by kernel_rfl) (fun x y h => (den_bill_moneyFault x).trans h)

def anns_bill_CheckDebts : List (Nat × Ann) := [(4, ⟨[(0, .val (.slice t_api_Debt)), (9, .val (.slice t_api_Debt)), (10, .val tI), (11, .val tI)], [], [], fuelOf _⟩),
  (200004, ⟨[], [], [], fun _ => 0⟩)]

noncomputable def sp_bill_CheckDebts : FSpec := ⟨[.val (.slice t_api_Debt)], [.val tI], fun x => bill_CheckDebts x.1⟩

noncomputable def cx_bill_CheckDebts : Cx := ⟨Tryz.prog, [(27, sp_kit_IsName), (28, sp_kit_IsDay), (29, sp_kit_Outside), (155, sp_slices_ContainsFunc_api_Debt), (157, sp_bill_moneyFault)]⟩

theorem den_bill_CheckDebts : ∀ x, denF cx_bill_CheckDebts anns_bill_CheckDebts none Tryz.f120 sp_bill_CheckDebts x = sp_bill_CheckDebts.m x := by intro x; kernel_rfl

theorem hb_bill_CheckDebts : HasBody Tryz.prog 120 := has_body (fn := Tryz.f120) (by kernel_rfl) rfl (by decide)

theorem ok_bill_CheckDebts : FunOk Tryz.prog 120 sp_bill_CheckDebts := fun_ok (X := cx_bill_CheckDebts) (.cons ok_kit_IsName hb_kit_IsName (.cons ok_kit_IsDay hb_kit_IsDay (.cons ok_kit_Outside hb_kit_Outside (.cons ok_slices_ContainsFunc_api_Debt hb_slices_ContainsFunc_api_Debt (.cons ok_bill_moneyFault hb_bill_moneyFault (.nil _)))))) (by kernel_rfl) sp_bill_CheckDebts anns_bill_CheckDebts none (by kernel_rfl) (fun x y h => (den_bill_CheckDebts x).trans h)

def anns_slices_Index_string : List (Nat × Ann) := [(2, ⟨[(0, .val (.slice .str)), (1, .val .str), (7, .val tI), (8, .val tI)], [], [], fuelOf _⟩),
  (200002, ⟨[], [], [], fun _ => 0⟩)]

noncomputable def sp_slices_Index_string : FSpec := ⟨[.val (.slice .str), .val .str], [.val tI], fun x => slices_Index_string x.1 x.2.1⟩

noncomputable def cx_slices_Index_string : Cx := ⟨Tryz.prog, []⟩

theorem den_slices_Index_string : ∀ x, denF cx_slices_Index_string anns_slices_Index_string none Tryz.f174 sp_slices_Index_string x = sp_slices_Index_string.m x := by intro x; kernel_rfl

theorem hb_slices_Index_string : HasBody Tryz.prog 174 := has_body (fn := Tryz.f174) (by kernel_rfl) rfl (by decide)

theorem ok_slices_Index_string : FunOk Tryz.prog 174 sp_slices_Index_string := fun_ok (X := cx_slices_Index_string) (.nil _) (by kernel_rfl) sp_slices_Index_string anns_slices_Index_string none (by kernel_rfl) (fun x y h => (den_slices_Index_string x).trans h)

def anns_slices_Contains_string : List (Nat × Ann) := []

noncomputable def sp_slices_Contains_string : FSpec := ⟨[.val (.slice .str), .val .str], [.val .bool], fun x => slices_Contains_string x.1 x.2.1⟩

noncomputable def cx_slices_Contains_string : Cx := ⟨Tryz.prog, [(174, sp_slices_Index_string)]⟩

theorem den_slices_Contains_string : ∀ x, denF cx_slices_Contains_string anns_slices_Contains_string none Tryz.f158 sp_slices_Contains_string x = sp_slices_Contains_string.m x := by intro x; kernel_rfl

theorem hb_slices_Contains_string : HasBody Tryz.prog 158 := has_body (fn := Tryz.f158) (by kernel_rfl) rfl (by decide)

theorem ok_slices_Contains_string : FunOk Tryz.prog 158 sp_slices_Contains_string := fun_ok (X := cx_slices_Contains_string) (.cons ok_slices_Index_string hb_slices_Index_string (.nil _)) (by kernel_rfl) sp_slices_Contains_string anns_slices_Contains_string none (by kernel_rfl) (fun x y h => (den_slices_Contains_string x).trans h)

def anns_bill_CheckPayments : List (Nat × Ann) := [(4, ⟨[(0, .val (.slice t_api_Payment)), (11, .val (.slice t_api_Payment)), (12, .val tI), (13, .val tI)], [], [], fuelOf _⟩),
  (16, ⟨[(0, .val (.slice t_api_Payment)), (4, .ref 4 0), (11, .val (.slice t_api_Payment)), (12, .val tI), (13, .val tI), (46, .val (.slice .str)), (47, .val tI), (48, .val tI)], [(4, [.val tI, .val tI, .val tI, .val (.slice .str)])], [], fuelOf _⟩),
  (200004, ⟨[], [], [], fun _ => 0⟩),
  (200016, ⟨[(0, .val (.slice t_api_Payment)), (11, .val (.slice t_api_Payment)), (12, .val tI), (13, .val tI)], [], [], fun _ => 0⟩)]

noncomputable def sp_bill_CheckPayments : FSpec := ⟨[.val (.slice t_api_Payment)], [.val tI], fun x => bill_CheckPayments x.1⟩

noncomputable def cx_bill_CheckPayments : Cx := ⟨Tryz.prog, [(27, sp_kit_IsName), (28, sp_kit_IsDay), (157, sp_bill_moneyFault), (158, sp_slices_Contains_string)]⟩

theorem den_bill_CheckPayments : ∀ x, denF cx_bill_CheckPayments anns_bill_CheckPayments none Tryz.f121 sp_bill_CheckPayments x = sp_bill_CheckPayments.m x := by intro x; kernel_rfl

theorem hb_bill_CheckPayments : HasBody Tryz.prog 121 := has_body (fn := Tryz.f121) (by kernel_rfl) rfl (by decide)

theorem ok_bill_CheckPayments : FunOk Tryz.prog 121 sp_bill_CheckPayments := fun_ok (X := cx_bill_CheckPayments) (.cons ok_kit_IsName hb_kit_IsName (.cons ok_kit_IsDay hb_kit_IsDay (.cons ok_bill_moneyFault hb_bill_moneyFault (.cons ok_slices_Contains_string hb_slices_Contains_string (.nil _))))) (by kernel_rfl) sp_bill_CheckPayments anns_bill_CheckPayments none (by kernel_rfl) (fun x y h => (den_bill_CheckPayments x).trans h)

def anns_bill_bothFault : List (Nat × Ann) := []

noncomputable def sp_bill_bothFault : FSpec := ⟨[.val (.slice t_api_Debt), .val (.slice t_api_Payment)], [.val tI], fun x => bill_bothFault x.1 x.2.1⟩

noncomputable def cx_bill_bothFault : Cx := ⟨Tryz.prog, [(120, sp_bill_CheckDebts), (121, sp_bill_CheckPayments)]⟩

theorem den_bill_bothFault : ∀ x, denF cx_bill_bothFault anns_bill_bothFault none Tryz.f79 sp_bill_bothFault x = sp_bill_bothFault.m x := by intro x; kernel_rfl

theorem hb_bill_bothFault : HasBody Tryz.prog 79 := has_body (fn := Tryz.f79) (by kernel_rfl) rfl (by decide)

theorem ok_bill_bothFault : FunOk Tryz.prog 79 sp_bill_bothFault := fun_ok (X := cx_bill_bothFault) (.cons ok_bill_CheckDebts hb_bill_CheckDebts (.cons ok_bill_CheckPayments hb_bill_CheckPayments (.nil _))) (by kernel_rfl) sp_bill_bothFault anns_bill_bothFault none (by kernel_rfl) (fun x y h => (den_bill_bothFault x).trans h)

def anns_bill_cents : List (Nat × Ann) := []

noncomputable def sp_bill_cents : FSpec := ⟨[.val t_api_Decimal], [.val tI], fun x => bill_cents x.1⟩

noncomputable def cx_bill_cents : Cx := ⟨Tryz.prog, [(110, sp_bill_power)]⟩

theorem den_bill_cents : ∀ x, denF cx_bill_cents anns_bill_cents none Tryz.f122 sp_bill_cents x = sp_bill_cents.m x := by intro x; kernel_rfl

theorem hb_bill_cents : HasBody Tryz.prog 122 := has_body (fn := Tryz.f122) (by kernel_rfl) rfl (by decide)

theorem ok_bill_cents : FunOk Tryz.prog 122 sp_bill_cents := fun_ok (X := cx_bill_cents) (.cons ok_bill_power hb_bill_power (.nil _)) (by kernel_rfl) sp_bill_cents anns_bill_cents none (by kernel_rfl) (fun x y h => (den_bill_cents x).trans h)

def anns_slices_Clone_bill_debtP : List (Nat × Ann) := []

noncomputable def sp_slices_Clone_bill_debtP : FSpec := ⟨[.val (.slice .hnd)], [.row 129 .hnd], fun x => slices_Clone_bill_debtP x.1⟩

noncomputable def cx_slices_Clone_bill_debtP : Cx := ⟨Tryz.prog, []⟩

theorem den_slices_Clone_bill_debtP : ∀ x, denF cx_slices_Clone_bill_debtP anns_slices_Clone_bill_debtP none Tryz.f123 sp_slices_Clone_bill_debtP x = sp_slices_Clone_bill_debtP.m x := by intro x; kernel_rfl

theorem hb_slices_Clone_bill_debtP : HasBody Tryz.prog 123 := has_body (fn := Tryz.f123) (by kernel_rfl) rfl (by decide)

theorem ok_slices_Clone_bill_debtP : FunOk Tryz.prog 123 sp_slices_Clone_bill_debtP := fun_ok (X := cx_slices_Clone_bill_debtP) (.nil _) (by kernel_rfl) sp_slices_Clone_bill_debtP anns_slices_Clone_bill_debtP none (by kernel_rfl) (fun x y h => (den_slices_Clone_bill_debtP x).trans h)

def anns_bill_debt_last : List (Nat × Ann) := []

noncomputable def sp_bill_debt_last : FSpec := ⟨[.val .hnd, .arR t_bill_debt], [.val tI], fun x => bill_debt_last x.1 x.2.1⟩

noncomputable def cx_bill_debt_last : Cx := ⟨Tryz.prog, []⟩

theorem den_bill_debt_last : ∀ x, denF cx_bill_debt_last anns_bill_debt_last none Tryz.f126 sp_bill_debt_last x = sp_bill_debt_last.m x := by intro x; kernel_rfl

theorem hb_bill_debt_last : HasBody Tryz.prog 126 := has_body (fn := Tryz.f126) (by kernel_rfl) rfl (by decide)

theorem ok_bill_debt_last : FunOk Tryz.prog 126 sp_bill_debt_last := fun_ok (X := cx_bill_debt_last) (.nil _) (by kernel_rfl) sp_bill_debt_last anns_bill_debt_last none (by kernel_rfl) (fun x y h => (den_bill_debt_last x).trans h)

def anns_bill_payments_1 : List (Nat × Ann) := []

noncomputable def sp_bill_payments_1 : FSpec := ⟨[.val .hnd, .val .hnd, .arR t_bill_debt], [.val tI], fun x => bill_payments_1 x.1 x.2.1 x.2.2.1⟩

noncomputable def cx_bill_payments_1 : Cx := ⟨Tryz.prog, [(126, sp_bill_debt_last)]⟩

theorem den_bill_payments_1 : ∀ x, denF cx_bill_payments_1 anns_bill_payments_1 none Tryz.f125 sp_bill_payments_1 x = sp_bill_payments_1.m x := by intro x; kernel_rfl

theorem hb_bill_payments_1 : HasBody Tryz.prog 125 := has_body (fn := Tryz.f125) (by kernel_rfl) rfl (by decide)

theorem ok_bill_payments_1 : FunOk Tryz.prog 125 sp_bill_payments_1 := fun_ok (X := cx_bill_payments_1) (.cons ok_bill_debt_last hb_bill_debt_last (.nil _)) (by kernel_rfl) sp_bill_payments_1 anns_bill_payments_1 none (by kernel_rfl) (fun x y h => (den_bill_payments_1 x).trans h)

def anns_slices_insertionSortCmpFunc_bill_debtP : List (Nat × Ann) := [(1, ⟨[(0, .rowR 10250000), (1, .val tI), (2, .val tI), (3, .val (.clo 125 .unit)), (8, .val tI)], [], [.rowC 10250000 129 .hnd, .arF t_bill_debt], fuelOf _⟩),
  (4, ⟨[(0, .rowR 10250000), (1, .val tI), (2, .val tI), (3, .val (.clo 125 .unit)), (8, .val tI), (9, .val tI)], [], [.rowC 10250000 129 .hnd, .arF t_bill_debt], fuelOf _⟩),
  (200001, ⟨[], [], [.rowC 10250000 129 .hnd, .arF t_bill_debt], fun _ => 0⟩),
  (200004, ⟨[(0, .rowR 10250000), (1, .val tI), (2, .val tI), (3, .val (.clo 125 .unit)), (8, .val tI)], [], [.rowC 10250000 129 .hnd, .arF t_bill_debt], fun _ => 0⟩)]

noncomputable def sp_slices_insertionSortCmpFunc_bill_debtP : FSpec := ⟨[.mrow 129 .hnd, .val tI, .val tI, .val (.clo 125 .unit), .arR t_bill_debt], [], fun x => slices_insertionSortCmpFunc_bill_debtP x.1 x.2.1 x.2.2.1 x.2.2.2.1 x.2.2.2.2.1⟩

noncomputable def cx_slices_insertionSortCmpFunc_bill_debtP : Cx := ⟨Tryz.prog, [(125, sp_bill_payments_1)]⟩

theorem den_slices_insertionSortCmpFunc_bill_debtP : ∀ x, denF cx_slices_insertionSortCmpFunc_bill_debtP anns_slices_insertionSortCmpFunc_bill_debtP none Tryz.f175 sp_slices_insertionSortCmpFunc_bill_debtP x = sp_slices_insertionSortCmpFunc_bill_debtP.m x := by intro x; kernel_rfl

theorem hb_slices_insertionSortCmpFunc_bill_debtP : HasBody Tryz.prog 175 := has_body (fn := Tryz.f175) (by kernel_rfl) rfl (by decide)

theorem ok_slices_insertionSortCmpFunc_bill_debtP : FunOk Tryz.prog 175 sp_slices_insertionSortCmpFunc_bill_debtP := fun_ok (X := cx_slices_insertionSortCmpFunc_bill_debtP) (.cons ok_bill_payments_1 hb_bill_payments_1 (.nil _)) (by kernel_rfl) sp_slices_insertionSortCmpFunc_bill_debtP anns_slices_insertionSortCmpFunc_bill_debtP none (by kernel_rfl) (fun x y h => (den_slices_insertionSortCmpFunc_bill_debtP x).trans h)

def anns_slices_swapRangeCmpFunc_bill_debtP : List (Nat × Ann) := [(1, ⟨[(0, .rowR 10250000), (1, .val tI), (2, .val tI), (3, .val tI), (10, .val tI)], [], [.rowC 10250000 129 .hnd, .arF t_bill_debt], fuelOf _⟩),
  (200001, ⟨[], [], [.rowC 10250000 129 .hnd, .arF t_bill_debt], fun _ => 0⟩)]

noncomputable def sp_slices_swapRangeCmpFunc_bill_debtP : FSpec := ⟨[.mrow 129 .hnd, .val tI, .val tI, .val tI, .val (.clo 125 .unit), .arR t_bill_debt], [], fun x => slices_swapRangeCmpFunc_bill_debtP x.1 x.2.1 x.2.2.1 x.2.2.2.1 x.2.2.2.2.1 x.2.2.2.2.2.1⟩

noncomputable def cx_slices_swapRangeCmpFunc_bill_debtP : Cx := ⟨Tryz.prog, []⟩

theorem den_slices_swapRangeCmpFunc_bill_debtP : ∀ x, denF cx_slices_swapRangeCmpFunc_bill_debtP anns_slices_swapRangeCmpFunc_bill_debtP none Tryz.f189 sp_slices_swapRangeCmpFunc_bill_debtP x = sp_slices_swapRangeCmpFunc_bill_debtP.m x := by intro x; kernel_rfl

theorem hb_slices_swapRangeCmpFunc_bill_debtP : HasBody Tryz.prog 189 := has_body (fn := Tryz.f189) (by kernel_rfl) rfl (by decide)

theorem ok_slices_swapRangeCmpFunc_bill_debtP : FunOk Tryz.prog 189 sp_slices_swapRangeCmpFunc_bill_debtP := fun_ok (X := cx_slices_swapRangeCmpFunc_bill_debtP) (.nil _) (by kernel_rfl) sp_slices_swapRangeCmpFunc_bill_debtP anns_slices_swapRangeCmpFunc_bill_debtP none (by kernel_rfl) (fun x y h => (den_slices_swapRangeCmpFunc_bill_debtP x).trans h)

def anns_slices_rotateCmpFunc_bill_debtP : List (Nat × Ann) := [(2, ⟨[(0, .rowR 10250000), (2, .val tI), (4, .val (.clo 125 .unit)), (10, .val tI), (11, .val tI)], [], [.rowC 10250000 129 .hnd, .arF t_bill_debt], fuelOf _⟩),
  (200002, ⟨[(0, .rowR 10250000), (2, .val tI), (4, .val (.clo 125 .unit)), (10, .val tI)], [], [.rowC 10250000 129 .hnd, .arF t_bill_debt], fun _ => 0⟩)]

noncomputable def sp_slices_rotateCmpFunc_bill_debtP : FSpec := ⟨[.mrow 129 .hnd, .val tI, .val tI, .val tI, .val (.clo 125 .unit), .arR t_bill_debt], [], fun x => slices_rotateCmpFunc_bill_debtP x.1 x.2.1 x.2.2.1 x.2.2.2.1 x.2.2.2.2.1 x.2.2.2.2.2.1⟩

noncomputable def cx_slices_rotateCmpFunc_bill_debtP : Cx := ⟨Tryz.prog, [(189, sp_slices_swapRangeCmpFunc_bill_debtP)]⟩

theorem den_slices_rotateCmpFunc_bill_debtP : ∀ x, denF cx_slices_rotateCmpFunc_bill_debtP anns_slices_rotateCmpFunc_bill_debtP none Tryz.f186 sp_slices_rotateCmpFunc_bill_debtP x = sp_slices_rotateCmpFunc_bill_debtP.m x := by intro x; kernel_rfl

theorem hb_slices_rotateCmpFunc_bill_debtP : HasBody Tryz.prog 186 := has_body (fn := Tryz.f186) (by kernel_rfl) rfl (by decide)

theorem ok_slices_rotateCmpFunc_bill_debtP : FunOk Tryz.prog 186 sp_slices_rotateCmpFunc_bill_debtP := fun_ok (X := cx_slices_rotateCmpFunc_bill_debtP) (.cons ok_slices_swapRangeCmpFunc_bill_debtP hb_slices_swapRangeCmpFunc_bill_debtP (.nil _)) (by kernel_rfl) sp_slices_rotateCmpFunc_bill_debtP anns_slices_rotateCmpFunc_bill_debtP none (by kernel_rfl) (fun x y h => (den_slices_rotateCmpFunc_bill_debtP x).trans h)

def anns_slices_symMergeCmpFunc_bill_debtP : List (Nat × Ann) := [(3, ⟨[(0, .rowR 10250000), (1, .val tI), (4, .val (.clo 125 .unit)), (10, .val tI), (11, .val tI)], [], [.rowC 10250000 129 .hnd, .arF t_bill_debt], fuelOf _⟩),
  (9, ⟨[(0, .rowR 10250000), (10, .val tI), (13, .val tI)], [], [.rowC 10250000 129 .hnd, .arF t_bill_debt], fuelOf _⟩),
  (15, ⟨[(0, .rowR 10250000), (2, .val tI), (4, .val (.clo 125 .unit)), (14, .val tI), (15, .val tI)], [], [.rowC 10250000 129 .hnd, .arF t_bill_debt], fuelOf _⟩),
  (21, ⟨[(0, .rowR 10250000), (14, .val tI), (17, .val tI)], [], [.rowC 10250000 129 .hnd, .arF t_bill_debt], fuelOf _⟩),
  (33, ⟨[(0, .rowR 10250000), (1, .val tI), (2, .val tI), (3, .val tI), (4, .val (.clo 125 .unit)), (18, .val tI), (19, .val tI), (20, .val tI), (21, .val tI), (22, .val tI)], [], [.rowC 10250000 129 .hnd, .arF t_bill_debt], fuelOf _⟩),
  (100030, ⟨[(0, .rowR 10250000), (1, .val tI), (2, .val tI), (3, .val tI), (4, .val (.clo 125 .unit)), (18, .val tI), (19, .val tI), (20, .val tI), (21, .val tI)], [], [.rowC 10250000 129 .hnd, .arF t_bill_debt], fun _ => 0⟩),
  (100040, ⟨[(0, .rowR 10250000), (1, .val tI), (3, .val tI), (4, .val (.clo 125 .unit)), (18, .val tI), (20, .val tI), (24, .val tI)], [], [.rowC 10250000 129 .hnd, .arF t_bill_debt], fun _ => 0⟩),
  (100042, ⟨[(0, .rowR 10250000), (3, .val tI), (4, .val (.clo 125 .unit)), (18, .val tI), (24, .val tI)], [], [.rowC 10250000 129 .hnd, .arF t_bill_debt], fun _ => 0⟩),
  (200003, ⟨[(0, .rowR 10250000), (1, .val tI), (10, .val tI)], [], [.rowC 10250000 129 .hnd, .arF t_bill_debt], fun _ => 0⟩),
  (200009, ⟨[], [], [.rowC 10250000 129 .hnd, .arF t_bill_debt], fun _ => 0⟩),
  (200015, ⟨[(0, .rowR 10250000), (2, .val tI), (14, .val tI)], [], [.rowC 10250000 129 .hnd, .arF t_bill_debt], fun _ => 0⟩),
  (200021, ⟨[], [], [.rowC 10250000 129 .hnd, .arF t_bill_debt], fun _ => 0⟩),
  (200033, ⟨[(0, .rowR 10250000), (1, .val tI), (2, .val tI), (3, .val tI), (4, .val (.clo 125 .unit)), (18, .val tI), (19, .val tI), (20, .val tI)], [], [.rowC 10250000 129 .hnd, .arF t_bill_debt], fun _ => 0⟩)]

def ps_slices_symMergeCmpFunc_bill_debtP : List PM := [.mrow 129 .hnd, .val tI, .val tI, .val tI, .val (.clo 125 .unit), .arR t_bill_debt]
def rs_slices_symMergeCmpFunc_bill_debtP : List RM := []

noncomputable def cxs_slices_symMergeCmpFunc_bill_debtP : List (Nat × FSpec) := [(125, sp_bill_payments_1), (186, sp_slices_rotateCmpFunc_bill_debtP)]

noncomputable def sp_slices_symMergeCmpFunc_bill_debtP : FSpec := ⟨ps_slices_symMergeCmpFunc_bill_debtP, rs_slices_symMergeCmpFunc_bill_debtP, fun x => slices_symMergeCmpFunc_bill_debtP x.1 x.2.1 x.2.2.1 x.2.2.2.1 x.2.2.2.2.1 x.2.2.2.2.2.1⟩

theorem den_slices_symMergeCmpFunc_bill_debtP : ∀ (self : inDen ps_slices_symMergeCmpFunc_bill_debtP → Option (outDen ps_slices_symMergeCmpFunc_bill_debtP rs_slices_symMergeCmpFunc_bill_debtP)) (x : inDen ps_slices_symMergeCmpFunc_bill_debtP), denF ⟨Tryz.prog, (176, ⟨ps_slices_symMergeCmpFunc_bill_debtP, rs_slices_symMergeCmpFunc_bill_debtP, self⟩) :: cxs_slices_symMergeCmpFunc_bill_debtP⟩ anns_slices_symMergeCmpFunc_bill_debtP none Tryz.f176 ⟨ps_slices_symMergeCmpFunc_bill_debtP, rs_slices_symMergeCmpFunc_bill_debtP, fun x => slices_symMergeCmpFunc_bill_debtP_F self x.1 x.2.1 x.2.2.1 x.2.2.2.1 x.2.2.2.2.1 x.2.2.2.2.2.1⟩ x = slices_symMergeCmpFunc_bill_debtP_F self x.1 x.2.1 x.2.2.1 x.2.2.2.1 x.2.2.2.2.1 x.2.2.2.2.2.1 := by intro self x; kernel_rfl

theorem hb_slices_symMergeCmpFunc_bill_debtP : HasBody Tryz.prog 176 := has_body (fn := Tryz.f176) (by kernel_rfl) rfl (by decide)

theorem ok_slices_symMergeCmpFunc_bill_debtP : FunOk Tryz.prog 176 sp_slices_symMergeCmpFunc_bill_debtP := fun_ok_fuel (ps := ps_slices_symMergeCmpFunc_bill_debtP) (rs := rs_slices_symMergeCmpFunc_bill_debtP) (m := fun n x => recM (fun self x => slices_symMergeCmpFunc_bill_debtP_F self x.1 x.2.1 x.2.2.1 x.2.2.2.1 x.2.2.2.2.1 x.2.2.2.2.2.1) n x) (fun_ok_rec (P := Tryz.prog) (specs := cxs_slices_symMergeCmpFunc_bill_debtP) (ps := ps_slices_symMergeCmpFunc_bill_debtP) (rs := rs_slices_symMergeCmpFunc_bill_debtP) (.cons ok_bill_payments_1 hb_bill_payments_1 (.cons ok_slices_rotateCmpFunc_bill_debtP hb_slices_rotateCmpFunc_bill_debtP (.nil _))) (by kernel_rfl) (fun self x => slices_symMergeCmpFunc_bill_debtP_F self x.1 x.2.1 x.2.2.1 x.2.2.2.1 x.2.2.2.2.1 x.2.2.2.2.2.1) anns_slices_symMergeCmpFunc_bill_debtP none (by kernel_rfl) hb_slices_symMergeCmpFunc_bill_debtP den_slices_symMergeCmpFunc_bill_debtP) (fun x => slices_symMergeCmpFunc_bill_debtP_fuel x.1 x.2.1 x.2.2.1 x.2.2.2.1 x.2.2.2.2.1 x.2.2.2.2.2.1)

def anns_slices_stableCmpFunc_bill_debtP : List (Nat × Ann) := [(2, ⟨[(0, .rowR 10250000), (1, .val tI), (2, .val (.clo 125 .unit)), (6, .val tI), (7, .val tI), (8, .val tI)], [], [.rowC 10250000 129 .hnd, .arF t_bill_debt], fuelOf _⟩),
  (7, ⟨[(0, .rowR 10250000), (1, .val tI), (2, .val (.clo 125 .unit)), (6, .val tI)], [], [.rowC 10250000 129 .hnd, .arF t_bill_debt], fuelOf _⟩),
  (9, ⟨[(0, .rowR 10250000), (1, .val tI), (2, .val (.clo 125 .unit)), (6, .val tI), (7, .val tI), (8, .val tI)], [], [.rowC 10250000 129 .hnd, .arF t_bill_debt], fuelOf _⟩),
  (200002, ⟨[(0, .rowR 10250000), (1, .val tI), (2, .val (.clo 125 .unit)), (6, .val tI), (7, .val tI)], [], [.rowC 10250000 129 .hnd, .arF t_bill_debt], fun _ => 0⟩),
  (200007, ⟨[], [], [.rowC 10250000 129 .hnd, .arF t_bill_debt], fun _ => 0⟩),
  (200009, ⟨[(0, .rowR 10250000), (1, .val tI), (2, .val (.clo 125 .unit)), (6, .val tI), (7, .val tI)], [], [.rowC 10250000 129 .hnd, .arF t_bill_debt], fun _ => 0⟩)]

noncomputable def sp_slices_stableCmpFunc_bill_debtP : FSpec := ⟨[.mrow 129 .hnd, .val tI, .val (.clo 125 .unit), .arR t_bill_debt], [], fun x => slices_stableCmpFunc_bill_debtP x.1 x.2.1 x.2.2.1 x.2.2.2.1⟩

noncomputable def cx_slices_stableCmpFunc_bill_debtP : Cx := ⟨Tryz.prog, [(175, sp_slices_insertionSortCmpFunc_bill_debtP), (176, sp_slices_symMergeCmpFunc_bill_debtP)]⟩

theorem den_slices_stableCmpFunc_bill_debtP : ∀ x, denF cx_slices_stableCmpFunc_bill_debtP anns_slices_stableCmpFunc_bill_debtP none Tryz.f159 sp_slices_stableCmpFunc_bill_debtP x = sp_slices_stableCmpFunc_bill_debtP.m x := by intro x; kernel_rfl

theorem hb_slices_stableCmpFunc_bill_debtP : HasBody Tryz.prog 159 := has_body (fn := Tryz.f159) (by kernel_rfl) rfl (by decide)

theorem ok_slices_stableCmpFunc_bill_debtP : FunOk Tryz.prog 159 sp_slices_stableCmpFunc_bill_debtP := fun_ok (X := cx_slices_stableCmpFunc_bill_debtP) (.cons ok_slices_insertionSortCmpFunc_bill_debtP hb_slices_insertionSortCmpFunc_bill_debtP (.cons ok_slices_symMergeCmpFunc_bill_debtP hb_slices_symMergeCmpFunc_bill_debtP (.nil _))) (by kernel_rfl) sp_slices_stableCmpFunc_bill_debtP anns_slices_stableCmpFunc_bill_debtP none (by kernel_rfl) (fun x y h => (den_slices_stableCmpFunc_bill_debtP x).trans h)

def anns_slices_SortStableFunc_bill_debtP : List (Nat × Ann) := []

noncomputable def sp_slices_SortStableFunc_bill_debtP : FSpec := ⟨[.mrow 129 .hnd, .val (.clo 125 .unit), .arR t_bill_debt], [], fun x => slices_SortStableFunc_bill_debtP x.1 x.2.1 x.2.2.1⟩

noncomputable def cx_slices_SortStableFunc_bill_debtP : Cx := ⟨Tryz.prog, [(159, sp_slices_stableCmpFunc_bill_debtP)]⟩

theorem den_slices_SortStableFunc_bill_debtP : ∀ x, denF cx_slices_SortStableFunc_bill_debtP anns_slices_SortStableFunc_bill_debtP none Tryz.f124 sp_slices_SortStableFunc_bill_debtP x = sp_slices_SortStableFunc_bill_debtP.m x := by intro x; kernel_rfl

theorem hb_slices_SortStableFunc_bill_debtP : HasBody Tryz.prog 124 := has_body (fn := Tryz.f124) (by kernel_rfl) rfl (by decide)

theorem ok_slices_SortStableFunc_bill_debtP : FunOk Tryz.prog 124 sp_slices_SortStableFunc_bill_debtP := fun_ok (X := cx_slices_SortStableFunc_bill_debtP) (.cons ok_slices_stableCmpFunc_bill_debtP hb_slices_stableCmpFunc_bill_debtP (.nil _)) (by kernel_rfl) sp_slices_SortStableFunc_bill_debtP anns_slices_SortStableFunc_bill_debtP none (by kernel_rfl) (fun x y h => (den_slices_SortStableFunc_bill_debtP x).trans h)

def anns_bill_debt_there : List (Nat × Ann) := []

noncomputable def sp_bill_debt_there : FSpec := ⟨[.val .hnd, .val tI, .arR t_bill_debt], [.val .bool], fun x => bill_debt_there x.1 x.2.1 x.2.2.1⟩

noncomputable def cx_bill_debt_there : Cx := ⟨Tryz.prog, []⟩

theorem den_bill_debt_there : ∀ x, denF cx_bill_debt_there anns_bill_debt_there none Tryz.f127 sp_bill_debt_there x = sp_bill_debt_there.m x := by intro x; kernel_rfl

theorem hb_bill_debt_there : HasBody Tryz.prog 127 := has_body (fn := Tryz.f127) (by kernel_rfl) rfl (by decide)

theorem ok_bill_debt_there : FunOk Tryz.prog 127 sp_bill_debt_there := fun_ok (X := cx_bill_debt_there) (.nil _) (by kernel_rfl) sp_bill_debt_there anns_bill_debt_there none (by kernel_rfl) (fun x y h => (den_bill_debt_there x).trans h)

def anns_bill_debt_discount : List (Nat × Ann) := []

noncomputable def sp_bill_debt_discount : FSpec := ⟨[.val .hnd, .arR t_bill_debt], [.val tI], fun x => bill_debt_discount x.1 x.2.1⟩

noncomputable def cx_bill_debt_discount : Cx := ⟨Tryz.prog, [(110, sp_bill_power)]⟩

theorem den_bill_debt_discount : ∀ x, denF cx_bill_debt_discount anns_bill_debt_discount none Tryz.f160 sp_bill_debt_discount x = sp_bill_debt_discount.m x := by intro x; kernel_rfl

theorem hb_bill_debt_discount : HasBody Tryz.prog 160 := has_body (fn := Tryz.f160) (by kernel_rfl) rfl (by decide)

theorem ok_bill_debt_discount : FunOk Tryz.prog 160 sp_bill_debt_discount := fun_ok (X := cx_bill_debt_discount) (.cons ok_bill_power hb_bill_power (.nil _)) (by kernel_rfl) sp_bill_debt_discount anns_bill_debt_discount none (by kernel_rfl) (fun x y h => (den_bill_debt_discount x).trans h)

def anns_bill_debt_pay : List (Nat × Ann) := []

noncomputable def sp_bill_debt_pay : FSpec := ⟨[.val .hnd, .val tI, .val tI, .ar t_bill_debt], [.val tI], fun x => bill_debt_pay x.1 x.2.1 x.2.2.1 x.2.2.2.1⟩

noncomputable def cx_bill_debt_pay : Cx := ⟨Tryz.prog, []⟩

theorem den_bill_debt_pay : ∀ x, denF cx_bill_debt_pay anns_bill_debt_pay none Tryz.f129 sp_bill_debt_pay x = sp_bill_debt_pay.m x := by intro x; kernel_rfl

theorem hb_bill_debt_pay : HasBody Tryz.prog 129 := has_body (fn := Tryz.f129) (by kernel_rfl) rfl (by decide)

theorem ok_bill_debt_pay : FunOk Tryz.prog 129 sp_bill_debt_pay := fun_ok (X := cx_bill_debt_pay) (.nil _) (by kernel_rfl) sp_bill_debt_pay anns_bill_debt_pay none (by kernel_rfl) (fun x y h => (den_bill_debt_pay x).trans h)

def anns_bill_debt_named : List (Nat × Ann) := []

noncomputable def sp_bill_debt_named : FSpec := ⟨[.val .hnd, .val tI, .val tI, .ar t_bill_debt], [.val tI], fun x => bill_debt_named x.1 x.2.1 x.2.2.1 x.2.2.2.1⟩

noncomputable def cx_bill_debt_named : Cx := ⟨Tryz.prog, [(129, sp_bill_debt_pay), (160, sp_bill_debt_discount)]⟩

theorem den_bill_debt_named : ∀ x, denF cx_bill_debt_named anns_bill_debt_named none Tryz.f128 sp_bill_debt_named x = sp_bill_debt_named.m x := by intro x; kernel_rfl

theorem hb_bill_debt_named : HasBody Tryz.prog 128 := has_body (fn := Tryz.f128) (by kernel_rfl) rfl (by decide)

theorem ok_bill_debt_named : FunOk Tryz.prog 128 sp_bill_debt_named := fun_ok (X := cx_bill_debt_named) (.cons ok_bill_debt_pay hb_bill_debt_pay (.cons ok_bill_debt_discount hb_bill_debt_discount (.nil _))) (by kernel_rfl) sp_bill_debt_named anns_bill_debt_named none (by kernel_rfl) (fun x y h => (den_bill_debt_named x).trans h)

def anns_bill_payments : List (Nat × Ann) := [(4, ⟨[(1, .val (.slice t_api_Payment)), (2, .val tI), (8, .own 129 .hnd), (9, .mapR 23), (24, .val (.slice t_api_Debt)), (25, .val tI), (26, .val tI)], [], [.mapC 23 .str .hnd, .ar t_bill_debt], fuelOf _⟩),
  (14, ⟨[(2, .val tI), (8, .own 129 .hnd), (9, .mapR 23), (13, .rowR 105744), (14, .own 3 tI), (49, .val (.slice t_api_Payment)), (50, .val tI), (51, .val tI)], [], [.rowC 105744 129 .hnd, .mapC 23 .str .hnd, .ar t_bill_debt], fuelOf _⟩),
  (19, ⟨[(2, .val tI), (8, .own 129 .hnd), (9, .mapR 23), (13, .rowR 105744), (14, .own 3 tI), (16, .ref 16 0), (17, .val tI), (49, .val (.slice t_api_Payment)), (50, .val tI), (51, .val tI), (63, .val (.slice .str)), (64, .val tI), (65, .val tI)], [(16, [.val tI, .val tI, .val tI, .val (.slice .str)])], [.rowC 105744 129 .hnd, .mapC 23 .str .hnd, .ar t_bill_debt], fuelOf _⟩),
  (26, ⟨[(2, .val tI), (8, .own 129 .hnd), (9, .mapR 23), (13, .rowR 105744), (14, .own 3 tI), (16, .ref 16 0), (17, .val tI), (49, .val (.slice t_api_Payment)), (50, .val tI), (51, .val tI), (86, .rowR 105744), (87, .val tI), (88, .val tI)], [(16, [.val tI, .val tI, .val tI, .val (.slice .str)])], [.rowC 105744 129 .hnd, .mapC 23 .str .hnd, .ar t_bill_debt], fuelOf _⟩),
  (200004, ⟨[(1, .val (.slice t_api_Payment)), (2, .val tI), (8, .own 129 .hnd), (9, .mapR 23)], [], [.mapC 23 .str .hnd, .ar t_bill_debt], fun _ => 0⟩),
  (200014, ⟨[(8, .own 129 .hnd), (14, .own 3 tI)], [], [.ar t_bill_debt], fun _ => 0⟩),
  (200019, ⟨[(2, .val tI), (8, .own 129 .hnd), (9, .mapR 23), (13, .rowR 105744), (14, .own 3 tI), (16, .ref 16 0), (17, .val tI), (49, .val (.slice t_api_Payment)), (50, .val tI), (51, .val tI)], [(16, [.val tI, .val tI, .val tI, .val (.slice .str)])], [.rowC 105744 129 .hnd, .mapC 23 .str .hnd, .ar t_bill_debt], fun _ => 0⟩),
  (200026, ⟨[(2, .val tI), (8, .own 129 .hnd), (9, .mapR 23), (13, .rowR 105744), (14, .own 3 tI), (17, .val tI), (49, .val (.slice t_api_Payment)), (50, .val tI), (51, .val tI)], [], [.rowC 105744 129 .hnd, .mapC 23 .str .hnd, .ar t_bill_debt], fun _ => 0⟩)]

noncomputable def sp_bill_payments : FSpec := ⟨[.val (.slice t_api_Debt), .val (.slice t_api_Payment), .val tI, .ar t_bill_debt], [.val (.slice .hnd), .val (.slice tI)], fun x => bill_payments x.1 x.2.1 x.2.2.1 x.2.2.2.1⟩

noncomputable def cx_bill_payments : Cx := ⟨Tryz.prog, [(122, sp_bill_cents), (123, sp_slices_Clone_bill_debtP), (124, sp_slices_SortStableFunc_bill_debtP), (127, sp_bill_debt_there), (128, sp_bill_debt_named), (129, sp_bill_debt_pay)]⟩

theorem den_bill_payments : ∀ x, denF cx_bill_payments anns_bill_payments none Tryz.f80 sp_bill_payments x = sp_bill_payments.m x := by intro x; kernel_rfl

theorem hb_bill_payments : HasBody Tryz.prog 80 := has_body (fn := Tryz.f80) (by kernel_rfl) rfl (by decide)

theorem ok_bill_payments : FunOk Tryz.prog 80 sp_bill_payments := fun_ok (X := cx_bill_payments) (.cons ok_bill_cents hb_bill_cents (.cons ok_slices_Clone_bill_debtP hb_slices_Clone_bill_debtP (.cons ok_slices_SortStableFunc_bill_debtP hb_slices_SortStableFunc_bill_debtP (.cons ok_bill_debt_there hb_bill_debt_there (.cons ok_bill_debt_named hb_bill_debt_named (.cons ok_bill_debt_pay hb_bill_debt_pay (.nil _))))))) (by kernel_rfl) sp_bill_payments anns_bill_payments none (by kernel_rfl) (fun x y h => (den_bill_payments x).trans h)

def anns_amount_Fewest : List (Nat × Ann) := [(2, ⟨[(1, .val tI), (2, .ref 2 0), (4, .ref 4 0), (6, .ref 6 0)], [(2, [.val .bool, .val (.slice (.int .u32))]), (4, [.val tI, .val tI]), (6, [.val .bool, .val (.slice (.int .u32))])], [], fuelOf _⟩),
  (200002, ⟨[(1, .val tI), (2, .ref 2 0), (4, .ref 4 0)], [(2, [.val .bool, .val (.slice (.int .u32))]), (4, [.val tI, .val tI])], [], fun _ => 0⟩)]

noncomputable def sp_amount_Fewest : FSpec := ⟨[.val t_whole_Int, .val tI], [.val t_api_Decimal, .val tI], fun x => amount_Fewest x.1 x.2.1⟩

noncomputable def cx_amount_Fewest : Cx := ⟨Tryz.prog, [(54, sp_amount_Made), (55, sp_whole_Of), (95, sp_whole_Int_By), (96, sp_whole_Int_Sign), (99, sp_whole_Int_Minus)]⟩

theorem den_amount_Fewest : ∀ x, denF cx_amount_Fewest anns_amount_Fewest none Tryz.f161 sp_amount_Fewest x = sp_amount_Fewest.m x := by intro x; kernel_rfl

theorem hb_amount_Fewest : HasBody Tryz.prog 161 := has_body (fn := Tryz.f161) (by kernel_rfl) rfl (by decide)

theorem ok_amount_Fewest : FunOk Tryz.prog 161 sp_amount_Fewest := fun_ok (X := cx_amount_Fewest) (.cons ok_amount_Made hb_amount_Made (.cons ok_whole_Of hb_whole_Of (.cons ok_whole_Int_By hb_whole_Int_By (.cons ok_whole_Int_Sign hb_whole_Int_Sign (.cons ok_whole_Int_Minus hb_whole_Int_Minus (.nil _)))))) (by kernel_rfl) sp_amount_Fewest anns_amount_Fewest none (by kernel_rfl) (fun x y h => (den_amount_Fewest x).trans h)

def anns_bill_money : List (Nat × Ann) := []

noncomputable def sp_bill_money : FSpec := ⟨[.val tI], [.val t_api_Decimal, .val tI], fun x => bill_money x.1⟩

noncomputable def cx_bill_money : Cx := ⟨Tryz.prog, [(55, sp_whole_Of), (161, sp_amount_Fewest)]⟩

theorem den_bill_money : ∀ x, denF cx_bill_money anns_bill_money none Tryz.f130 sp_bill_money x = sp_bill_money.m x := by intro x; kernel_rfl

theorem hb_bill_money : HasBody Tryz.prog 130 := has_body (fn := Tryz.f130) (by kernel_rfl) rfl (by decide)

theorem ok_bill_money : FunOk Tryz.prog 130 sp_bill_money := fun_ok (X := cx_bill_money) (.cons ok_whole_Of hb_whole_Of (.cons ok_amount_Fewest hb_amount_Fewest (.nil _))) (by kernel_rfl) sp_bill_money anns_bill_money none (by kernel_rfl) (fun x y h => (den_bill_money x).trans h)

def anns_bill_toldMoney : List (Nat × Ann) := []

noncomputable def sp_bill_toldMoney : FSpec := ⟨[.val tI], [.val t_api_Decimal], fun x => bill_toldMoney x.1⟩

noncomputable def cx_bill_toldMoney : Cx := ⟨Tryz.prog, [(130, sp_bill_money)]⟩

theorem den_bill_toldMoney : ∀ x, denF cx_bill_toldMoney anns_bill_toldMoney none Tryz.f81 sp_bill_toldMoney x = sp_bill_toldMoney.m x := by intro x; kernel_rfl

theorem hb_bill_toldMoney : HasBody Tryz.prog 81 := has_body (fn := Tryz.f81) (by kernel_rfl) rfl (by decide)

theorem ok_bill_toldMoney : FunOk Tryz.prog 81 sp_bill_toldMoney := fun_ok (X := cx_bill_toldMoney) (.cons ok_bill_money hb_bill_money (.nil _)) (by kernel_rfl) sp_bill_toldMoney anns_bill_toldMoney none (by kernel_rfl) (fun x y h => (den_bill_toldMoney x).trans h)

def anns_bill_Pay : List (Nat × Ann) := [(7, ⟨[(9, .val (.slice tI)), (10, .own 79 t_api_Paid), (28, .val (.slice .hnd)), (29, .val tI), (30, .val tI)], [], [.ar t_bill_debt], fuelOf _⟩),
  (13, ⟨[(10, .own 79 t_api_Paid), (13, .own 28 t_api_Decimal), (58, .val (.slice tI)), (59, .val tI), (60, .val tI)], [], [.ar t_bill_debt], fuelOf _⟩),
  (200007, ⟨[(9, .val (.slice tI)), (10, .own 79 t_api_Paid)], [], [.ar t_bill_debt], fun _ => 0⟩),
  (200013, ⟨[(10, .own 79 t_api_Paid), (13, .own 28 t_api_Decimal)], [], [.ar t_bill_debt], fun _ => 0⟩)]

noncomputable def sp_bill_Pay : FSpec := ⟨[.val (.slice t_api_Debt), .val (.slice t_api_Payment)], [.val (.slice t_api_Paid), .val (.slice t_api_Decimal), .val tI], fun x => bill_Pay x.1 x.2.1⟩

noncomputable def cx_bill_Pay : Cx := ⟨Tryz.prog, [(79, sp_bill_bothFault), (80, sp_bill_payments), (81, sp_bill_toldMoney)]⟩

theorem den_bill_Pay : ∀ x, denF cx_bill_Pay anns_bill_Pay (some t_bill_debt) Tryz.f41 sp_bill_Pay x = sp_bill_Pay.m x := by intro x; kernel_rfl

theorem hb_bill_Pay : HasBody Tryz.prog 41 := has_body (fn := Tryz.f41) (by kernel_rfl) rfl (by decide)

theorem ok_bill_Pay : FunOk Tryz.prog 41 sp_bill_Pay := fun_ok (X := cx_bill_Pay) (.cons ok_bill_bothFault hb_bill_bothFault (.cons ok_bill_payments hb_bill_payments (.cons ok_bill_toldMoney hb_bill_toldMoney (.nil _)))) (by kernel_rfl) sp_bill_Pay anns_bill_Pay (some t_bill_debt) (by kernel_rfl) (fun x y h => (den_bill_Pay x).trans h)

def anns_l11_awake : List (Nat × Ann) := []

noncomputable def sp_l11_awake : FSpec := ⟨[], [.val .bool], fun x => l11_awake ⟩

noncomputable def cx_l11_awake : Cx := ⟨Tryz.prog, [(41, sp_bill_Pay)]⟩

theorem den_l11_awake : ∀ x, denF cx_l11_awake anns_l11_awake none Tryz.f13 sp_l11_awake x = sp_l11_awake.m x := by intro x; kernel_rfl

theorem hb_l11_awake : HasBody Tryz.prog 13 := has_body (fn := Tryz.f13) (by kernel_rfl) rfl (by decide)

theorem ok_l11_awake : FunOk Tryz.prog 13 sp_l11_awake := fun_ok (X := cx_l11_awake) (.cons ok_bill_Pay hb_bill_Pay (.nil _)) (by kernel_rfl) sp_l11_awake anns_l11_awake none (by kernel_rfl) (fun x y h => (den_l11_awake x).trans h)

def anns_l11_BillLinesMatchSpec : List (Nat × Ann) := []

noncomputable def sp_l11_BillLinesMatchSpec : FSpec := ⟨[.val t_api_Invoice, .val tI], [.val .bool], fun x => l11_BillLinesMatchSpec x.1 x.2.1⟩

noncomputable def cx_l11_BillLinesMatchSpec : Cx := ⟨Tryz.prog, [(7, sp_bill_Gross), (8, sp_r11_Gross), (9, sp_bill_CheckInvoice), (10, sp_r11_CheckInvoice), (11, sp_bill_Net), (12, sp_r11_Net), (13, sp_l11_awake)]⟩

theorem den_l11_BillLinesMatchSpec : ∀ x, denF cx_l11_BillLinesMatchSpec anns_l11_BillLinesMatchSpec none Tryz.f3 sp_l11_BillLinesMatchSpec x = sp_l11_BillLinesMatchSpec.m x := by intro x; kernel_rfl

theorem ok_l11_BillLinesMatchSpec : FunOk Tryz.prog 3 sp_l11_BillLinesMatchSpec := fun_ok (X := cx_l11_BillLinesMatchSpec) (.cons ok_bill_Gross hb_bill_Gross (.cons ok_r11_Gross hb_r11_Gross (.cons ok_bill_CheckInvoice hb_bill_CheckInvoice (.cons ok_r11_CheckInvoice hb_r11_CheckInvoice (.cons ok_bill_Net hb_bill_Net (.cons ok_r11_Net hb_r11_Net (.cons ok_l11_awake hb_l11_awake (.nil _)))))))) (by kernel_rfl) sp_l11_BillLinesMatchSpec anns_l11_BillLinesMatchSpec none (by kernel_rfl) (fun x y h => (den_l11_BillLinesMatchSpec x).trans h)


end Go.Proofs.SeatT
