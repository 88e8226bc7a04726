/-
  Each function that the law reaches is as its plain model says. No condition.
-/
import Derived.Test.YtjicgbeloldheaaGreatDoorMd
import Derived.Test.YtjicgbeloldheaaGreatDoorProg
import Derived.Ground.NamesProg
import Derived.Ground.Names2Prog
import Derived.Shelf.Strings.SlTrimAscii
set_option linter.all false
namespace Go.Proofs
open Go.Shelf
def Tryz.lays160_ren : Go.Shelf.Ren := ⟨fun | 160 => 50 | 232 => 69 | 231 => 68 | 227 => 70 | 234 => 72 | 233 => 71 | 236 => 74 | 235 => 73 | 228 => 86 | 271 => 89 | 151 => 88 | 197 => 87 | 120 => 102 | 152 => 101 | 260 => 100 | 137 => 111 | 119 => 112 | 224 => 113 | 225 => 114 | 217 => 119 | 266 => 120 | n => n, fun | 9 => 9 | 4 => 4 | 3 => 3 | 5 => 5 | 117 => 104 | 116 => 103 | 0 => 0 | 124 => 107 | 21 => 21 | 105 => 120 | 46 => 115 | 119 => 139 | 139 => 142 | 138 => 141 | n => n, fun | 3 => 0 | 4 => 1 | n => n⟩
theorem Tryz.lays160 : Go.Proofs.Lays.n160 Tryz.prog Tryz.lays160_ren := {
  mixed := by kernel_rfl
  f119 := Tryz.func112.trans (congrArg some (by kernel_rfl))
  f120 := Tryz.func102.trans (congrArg some (by kernel_rfl))
  f137 := Tryz.func111.trans (congrArg some (by kernel_rfl))
  f151 := Tryz.func88.trans (congrArg some (by kernel_rfl))
  f152 := Tryz.func101.trans (congrArg some (by kernel_rfl))
  f160 := Tryz.func50.trans (congrArg some (by kernel_rfl))
  f197 := Tryz.func87.trans (congrArg some (by kernel_rfl))
  f217 := Tryz.func119.trans (congrArg some (by kernel_rfl))
  f224 := Tryz.func113.trans (congrArg some (by kernel_rfl))
  f225 := Tryz.func114.trans (congrArg some (by kernel_rfl))
  f227 := Tryz.func70.trans (congrArg some (by kernel_rfl))
  f228 := Tryz.func86.trans (congrArg some (by kernel_rfl))
  f231 := Tryz.func68.trans (congrArg some (by kernel_rfl))
  f232 := Tryz.func69.trans (congrArg some (by kernel_rfl))
  f233 := Tryz.func71.trans (congrArg some (by kernel_rfl))
  f234 := Tryz.func72.trans (congrArg some (by kernel_rfl))
  f235 := Tryz.func73.trans (congrArg some (by kernel_rfl))
  f236 := Tryz.func74.trans (congrArg some (by kernel_rfl))
  f260 := Tryz.func100.trans (congrArg some (by kernel_rfl))
  f266 := Tryz.func120.trans (congrArg some (by kernel_rfl))
  f271 := Tryz.func89.trans (congrArg some (by kernel_rfl))
  t0 := Tryz.underlying0
  a0 := Tryz.isAgg0
  z0 := Tryz.sizeOf0
  v0 := Tryz.zeroValue0
  t3 := Tryz.underlying3
  a3 := Tryz.isAgg3
  z3 := Tryz.sizeOf3
  v3 := Tryz.zeroValue3
  t4 := Tryz.underlying4
  a4 := Tryz.isAgg4
  z4 := Tryz.sizeOf4
  v4 := Tryz.zeroValue4
  t5 := Tryz.underlying5
  a5 := Tryz.isAgg5
  z5 := Tryz.sizeOf5
  v5 := Tryz.zeroValue5
  t9 := Tryz.underlying9
  a9 := Tryz.isAgg9
  z9 := Tryz.sizeOf9
  v9 := Tryz.zeroValue9
  t21 := Tryz.underlying21
  a21 := Tryz.isAgg21
  z21 := Tryz.sizeOf21
  v21 := Tryz.zeroValue21
  t46 := Tryz.underlying115
  a46 := Tryz.isAgg115
  z46 := Tryz.sizeOf115
  v46 := Tryz.zeroValue115
  t105 := Tryz.underlying120
  a105 := Tryz.isAgg120
  z105 := Tryz.sizeOf120
  v105 := Tryz.zeroValue120
  t116 := Tryz.underlying103
  a116 := Tryz.isAgg103
  z116 := Tryz.sizeOf103
  t117 := Tryz.underlying104
  a117 := Tryz.isAgg104
  z117 := Tryz.sizeOf104
  v117 := Tryz.zeroValue104
  t119 := Tryz.underlying139
  a119 := Tryz.isAgg139
  z119 := Tryz.sizeOf139
  t124 := Tryz.underlying107
  a124 := Tryz.isAgg107
  z124 := Tryz.sizeOf107
  v124 := Tryz.zeroValue107
  t138 := Tryz.underlying141
  a138 := Tryz.isAgg141
  z138 := Tryz.sizeOf141
  v138 := Tryz.zeroValue141
  t139 := Tryz.underlying142
  a139 := Tryz.isAgg142
  z139 := Tryz.sizeOf142
  v139 := Tryz.zeroValue142
  g3 := by kernel_rfl
  g4 := by kernel_rfl }
def Tryz.laysNm221_ren : Go.Shelf.Ren := ⟨fun | 21 => 85 | 27 => 98 | 28 => 99 | 35 => 110 | 39 => 118 | n => n, fun | 22 => 39 | 3 => 3 | 4 => 4 | 0 => 0 | n => n, fun | n => n⟩
theorem Tryz.laysNm221 : Go.Proofs.Lays2.n21 Tryz.prog Tryz.laysNm221_ren := {
  mixed := by kernel_rfl
  f21 := Tryz.func85.trans (congrArg some (by kernel_rfl))
  f27 := Tryz.func98.trans (congrArg some (by kernel_rfl))
  f28 := Tryz.func99.trans (congrArg some (by kernel_rfl))
  f35 := Tryz.func110.trans (congrArg some (by kernel_rfl))
  f39 := Tryz.func118.trans (congrArg some (by kernel_rfl))
  t0 := Tryz.underlying0
  a0 := Tryz.isAgg0
  z0 := Tryz.sizeOf0
  v0 := Tryz.zeroValue0
  t3 := Tryz.underlying3
  a3 := Tryz.isAgg3
  z3 := Tryz.sizeOf3
  v3 := Tryz.zeroValue3
  t4 := Tryz.underlying4
  a4 := Tryz.isAgg4
  z4 := Tryz.sizeOf4
  v4 := Tryz.zeroValue4
  t22 := Tryz.underlying39
  a22 := Tryz.isAgg39
  z22 := Tryz.sizeOf39
  v22 := Tryz.zeroValue39
  i3 := by kernel_rfl }
end Go.Proofs

namespace Go.Proofs.SeatZ
open Go.Dn Go.Md Go.Proofs Go.RowKit Go.Shelf Go.Lib

def sp_strings_Trim : FSpec := ⟨[.val .str, .val .str], [.val .str], fun x => strings_Trim x.1 x.2.1⟩
theorem hb_strings_Trim : HasBody Tryz.prog 50 := has_body (fn := Tryz.f50) (by kernel_rfl) rfl (by decide)
theorem ok_strings_Trim : FunOk Tryz.prog 50 sp_strings_Trim := by
  intro G w ow args x y hG how ha hm
  refine fun_ok_str2 (P := Tryz.prog) (f := 50) (m := sp_strings_Trim.m) ?_ G w ow args x y hG how ha hm
  intro s c r w hm
  replace hm : strings_Trim s c = some (r, ()) := hm
  unfold strings_Trim at hm
  cases hb : (decide (s.length ≤ 9223372036854775807) && (decide (c.length < 4294967281) && c.all fun b => decide (b.toNat < 128))) with
  | false => rw [hb] at hm; cases hm
  | true =>
    rw [hb] at hm
    simp only [cond_true, Option.some.injEq, Prod.mk.injEq, and_true] at hm
    subst hm
    simp only [Bool.and_eq_true, decide_eq_true_eq, List.all_eq_true] at hb
    have := Any.strings_Trim_laid Tryz.lays160 (by kernel_rfl) (bs s) (bs c) w (by simpa [bs, ByteArray.size] using hb.1) (by simpa [bs, ByteArray.size] using hb.2.1) (fun j b hj => hb.2.2 b (List.mem_of_getElem? (by simpa [bs] using hj)))
    change Calls Tryz.prog 50 _ _ _ at this
    simpa [bs] using this

def sp_slices_Insert_int : FSpec := insSp 3
theorem hb_slices_Insert_int : HasBody Tryz.prog 85 := has_body (fn := Tryz.f85) (by kernel_rfl) rfl (by decide)
theorem ok_slices_Insert_int : FunOk Tryz.prog 85 sp_slices_Insert_int := insert_int_ok Tryz.laysNm221

end Go.Proofs.SeatZ

set_option maxRecDepth 100000
namespace Go.Proofs.SeatZ
open Go.Dn Go.Md Go.Proofs

def anns_kit_IsName : List (Nat × Ann) := []

noncomputable def sp_kit_IsName : FSpec := ⟨[.val .str], [.val .bool], fun x => kit_IsName x.1⟩

noncomputable def cx_kit_IsName : Cx := ⟨Tryz.prog, [(50, sp_strings_Trim)]⟩

theorem den_kit_IsName : ∀ x, denF cx_kit_IsName anns_kit_IsName none Tryz.f25 sp_kit_IsName x = sp_kit_IsName.m x := by intro x; kernel_rfl

theorem hb_kit_IsName : HasBody Tryz.prog 25 := has_body (fn := Tryz.f25) (by kernel_rfl) rfl (by decide)

theorem ok_kit_IsName : FunOk Tryz.prog 25 sp_kit_IsName := fun_ok (X := cx_kit_IsName) (.cons ok_strings_Trim hb_strings_Trim (.nil _)) (by kernel_rfl) sp_kit_IsName anns_kit_IsName none (by kernel_rfl) (fun x y h => (den_kit_IsName x).trans h)

def anns_bill_CheckDebts_1 : List (Nat × Ann) := []

noncomputable def sp_bill_CheckDebts_1 : FSpec := ⟨[.val t_api_Debt, .val (.ptr t_api_Debt)], [.val .bool], fun x => bill_CheckDebts_1 x.1 x.2.1⟩

noncomputable def cx_bill_CheckDebts_1 : Cx := ⟨Tryz.prog, []⟩

theorem den_bill_CheckDebts_1 : ∀ x, denF cx_bill_CheckDebts_1 anns_bill_CheckDebts_1 none Tryz.f27 sp_bill_CheckDebts_1 x = sp_bill_CheckDebts_1.m x := by intro x; kernel_rfl

theorem hb_bill_CheckDebts_1 : HasBody Tryz.prog 27 := has_body (fn := Tryz.f27) (by kernel_rfl) rfl (by decide)

theorem ok_bill_CheckDebts_1 : FunOk Tryz.prog 27 sp_bill_CheckDebts_1 := fun_ok (X := cx_bill_CheckDebts_1) (.nil _) (by kernel_rfl) sp_bill_CheckDebts_1 anns_bill_CheckDebts_1 none (by kernel_rfl) (fun x y h => (den_bill_CheckDebts_1 x).trans h)

def anns_slices_IndexFunc_api_Debt : List (Nat × Ann) := [(2, ⟨[(0, .val (.slice t_api_Debt)), (1, .val (.clo 27 (.ptr t_api_Debt))), (7, .val tI), (8, .val tI)], [], [], fuelOf _⟩),
  (200002, ⟨[], [], [], fun _ => 0⟩)]

noncomputable def sp_slices_IndexFunc_api_Debt : FSpec := ⟨[.val (.slice t_api_Debt), .val (.clo 27 (.ptr t_api_Debt))], [.val tI], fun x => slices_IndexFunc_api_Debt x.1 x.2.1⟩

noncomputable def cx_slices_IndexFunc_api_Debt : Cx := ⟨Tryz.prog, [(27, sp_bill_CheckDebts_1)]⟩

theorem den_slices_IndexFunc_api_Debt : ∀ x, denF cx_slices_IndexFunc_api_Debt anns_slices_IndexFunc_api_Debt none Tryz.f51 sp_slices_IndexFunc_api_Debt x = sp_slices_IndexFunc_api_Debt.m x := by intro x; kernel_rfl

theorem hb_slices_IndexFunc_api_Debt : HasBody Tryz.prog 51 := has_body (fn := Tryz.f51) (by kernel_rfl) rfl (by decide)

theorem ok_slices_IndexFunc_api_Debt : FunOk Tryz.prog 51 sp_slices_IndexFunc_api_Debt := fun_ok (X := cx_slices_IndexFunc_api_Debt) (.cons ok_bill_CheckDebts_1 hb_bill_CheckDebts_1 (.nil _)) (by kernel_rfl) sp_slices_IndexFunc_api_Debt anns_slices_IndexFunc_api_Debt none (by kernel_rfl) (fun x y h => (den_slices_IndexFunc_api_Debt x).trans h)

def anns_slices_ContainsFunc_api_Debt : List (Nat × Ann) := []

noncomputable def sp_slices_ContainsFunc_api_Debt : FSpec := ⟨[.val (.slice t_api_Debt), .val (.clo 27 (.ptr t_api_Debt))], [.val .bool], fun x => slices_ContainsFunc_api_Debt x.1 x.2.1⟩

noncomputable def cx_slices_ContainsFunc_api_Debt : Cx := ⟨Tryz.prog, [(51, sp_slices_IndexFunc_api_Debt)]⟩

theorem den_slices_ContainsFunc_api_Debt : ∀ x, denF cx_slices_ContainsFunc_api_Debt anns_slices_ContainsFunc_api_Debt none Tryz.f26 sp_slices_ContainsFunc_api_Debt x = sp_slices_ContainsFunc_api_Debt.m x := by intro x; kernel_rfl

theorem hb_slices_ContainsFunc_api_Debt : HasBody Tryz.prog 26 := has_body (fn := Tryz.f26) (by kernel_rfl) rfl (by decide)

theorem ok_slices_ContainsFunc_api_Debt : FunOk Tryz.prog 26 sp_slices_ContainsFunc_api_Debt := fun_ok (X := cx_slices_ContainsFunc_api_Debt) (.cons ok_slices_IndexFunc_api_Debt hb_slices_IndexFunc_api_Debt (.nil _)) (by kernel_rfl) sp_slices_ContainsFunc_api_Debt anns_slices_ContainsFunc_api_Debt none (by kernel_rfl) (fun x y h => (den_slices_ContainsFunc_api_Debt x).trans h)

def anns_kit_Outside : List (Nat × Ann) := []

noncomputable def sp_kit_Outside : FSpec := ⟨[.val tI, .val tI, .val tI], [.val .bool], fun x => kit_Outside x.1 x.2.1 x.2.2.1⟩

noncomputable def cx_kit_Outside : Cx := ⟨Tryz.prog, []⟩

theorem den_kit_Outside : ∀ x, denF cx_kit_Outside anns_kit_Outside none Tryz.f30 sp_kit_Outside x = sp_kit_Outside.m x := by intro x; kernel_rfl

theorem hb_kit_Outside : HasBody Tryz.prog 30 := has_body (fn := Tryz.f30) (by kernel_rfl) rfl (by decide)

theorem ok_kit_Outside : FunOk Tryz.prog 30 sp_kit_Outside := fun_ok (X := cx_kit_Outside) (.nil _) (by kernel_rfl) sp_kit_Outside anns_kit_Outside none (by kernel_rfl) (fun x y h => (den_kit_Outside x).trans h)

def anns_kit_IsDay : List (Nat × Ann) := []

noncomputable def sp_kit_IsDay : FSpec := ⟨[.val tI], [.val .bool], fun x => kit_IsDay x.1⟩

noncomputable def cx_kit_IsDay : Cx := ⟨Tryz.prog, [(30, sp_kit_Outside)]⟩

theorem den_kit_IsDay : ∀ x, denF cx_kit_IsDay anns_kit_IsDay none Tryz.f28 sp_kit_IsDay x = sp_kit_IsDay.m x := by intro x; kernel_rfl

theorem hb_kit_IsDay : HasBody Tryz.prog 28 := has_body (fn := Tryz.f28) (by kernel_rfl) rfl (by decide)

theorem ok_kit_IsDay : FunOk Tryz.prog 28 sp_kit_IsDay := fun_ok (X := cx_kit_IsDay) (.cons ok_kit_Outside hb_kit_Outside (.nil _)) (by kernel_rfl) sp_kit_IsDay anns_kit_IsDay none (by kernel_rfl) (fun x y h => (den_kit_IsDay x).trans h)

def anns_amount_CheckDecimal : List (Nat × Ann) := []

noncomputable def sp_amount_CheckDecimal : FSpec := ⟨[.val t_api_Decimal], [.val tI], fun x => amount_CheckDecimal x.1⟩

noncomputable def cx_amount_CheckDecimal : Cx := ⟨Tryz.prog, [(30, sp_kit_Outside)]⟩

theorem den_amount_CheckDecimal : ∀ x, denF cx_amount_CheckDecimal anns_amount_CheckDecimal none Tryz.f52 sp_amount_CheckDecimal x = sp_amount_CheckDecimal.m x := by intro x; kernel_rfl

theorem hb_amount_CheckDecimal : HasBody Tryz.prog 52 := has_body (fn := Tryz.f52) (by kernel_rfl) rfl (by decide)

theorem ok_amount_CheckDecimal : FunOk Tryz.prog 52 sp_amount_CheckDecimal := fun_ok (X := cx_amount_CheckDecimal) (.cons ok_kit_Outside hb_kit_Outside (.nil _)) (by kernel_rfl) sp_amount_CheckDecimal anns_amount_CheckDecimal none (by kernel_rfl) (fun x y h => (den_amount_CheckDecimal x).trans h)

def anns_bill_power : List (Nat × Ann) := [(3, ⟨[(3, .val tI), (4, .val tI), (5, .val tI)], [], [], fuelOf _⟩),
  (200003, ⟨[(3, .val tI)], [], [], fun _ => 0⟩)]

noncomputable def sp_bill_power : FSpec := ⟨[.val tI], [.val tI], fun x => bill_power x.1⟩

noncomputable def cx_bill_power : Cx := ⟨Tryz.prog, []⟩

theorem den_bill_power : ∀ x, denF cx_bill_power anns_bill_power none Tryz.f62 sp_bill_power x = sp_bill_power.m x := by intro x; kernel_rfl

theorem hb_bill_power : HasBody Tryz.prog 62 := has_body (fn := Tryz.f62) (by kernel_rfl) rfl (by decide)

theorem ok_bill_power : FunOk Tryz.prog 62 sp_bill_power := fun_ok (X := cx_bill_power) (.nil _) (by kernel_rfl) sp_bill_power anns_bill_power none (by kernel_rfl) (fun x y h => (den_bill_power x).trans h)

def anns_bill_between : List (Nat × Ann) := []

noncomputable def sp_bill_between : FSpec := ⟨[.val t_api_Decimal, .val tI], [.val .bool], fun x => bill_between x.1 x.2.1⟩

noncomputable def cx_bill_between : Cx := ⟨Tryz.prog, [(30, sp_kit_Outside), (62, sp_bill_power)]⟩

theorem den_bill_between : ∀ x, denF cx_bill_between anns_bill_between none Tryz.f53 sp_bill_between x = sp_bill_between.m x := by intro x; kernel_rfl

theorem hb_bill_between : HasBody Tryz.prog 53 := has_body (fn := Tryz.f53) (by kernel_rfl) rfl (by decide)

theorem ok_bill_between : FunOk Tryz.prog 53 sp_bill_between := fun_ok (X := cx_bill_between) (.cons ok_kit_Outside hb_kit_Outside (.cons ok_bill_power hb_bill_power (.nil _))) (by kernel_rfl) sp_bill_between anns_bill_between none (by kernel_rfl) (fun x y h => (den_bill_between x).trans h)

def anns_bill_moneyFault : List (Nat × Ann) := []

noncomputable def sp_bill_moneyFault : FSpec := ⟨[.val t_api_Decimal], [.val tI], fun x => bill_moneyFault x.1⟩

noncomputable def cx_bill_moneyFault : Cx := ⟨Tryz.prog, [(52, sp_amount_CheckDecimal), (53, sp_bill_between)]⟩

theorem den_bill_moneyFault : ∀ x, denF cx_bill_moneyFault anns_bill_moneyFault none Tryz.f29 sp_bill_moneyFault x = sp_bill_moneyFault.m x := by intro x; kernel_rfl

theorem hb_bill_moneyFault : HasBody Tryz.prog 29 := has_body (fn := Tryz.f29) (by kernel_rfl) rfl (by decide)

theorem ok_bill_moneyFault : FunOk Tryz.prog 29 sp_bill_moneyFault := fun_ok (X := cx_bill_moneyFault) (.cons ok_amount_CheckDecimal hb_amount_CheckDecimal (.cons ok_bill_between hb_bill_between (.nil _))) (by kernel_rfl) sp_bill_moneyFault anns_bill_moneyFault none (by kernel_rfl) (fun x y h => (den_bill_moneyFault x).trans h)

def anns_bill_CheckDebts : List (Nat × Ann) := [(4, ⟨[(0, .val (.slice t_api_Debt)), (9, .val (.slice t_api_Debt)), (10, .val tI), (11, .val tI)], [], [], fuelOf _⟩),
  (200004, ⟨[], [], [], fun _ => 0⟩)]

noncomputable def sp_bill_CheckDebts : FSpec := ⟨[.val (.slice t_api_Debt)], [.val tI], fun x => bill_CheckDebts x.1⟩

noncomputable def cx_bill_CheckDebts : Cx := ⟨Tryz.prog, [(25, sp_kit_IsName), (26, sp_slices_ContainsFunc_api_Debt), (28, sp_kit_IsDay), (29, sp_bill_moneyFault), (30, sp_kit_Outside)]⟩

theorem den_bill_CheckDebts : ∀ x, denF cx_bill_CheckDebts anns_bill_CheckDebts none Tryz.f7 sp_bill_CheckDebts x = sp_bill_CheckDebts.m x := by intro x; kernel_rfl

theorem hb_bill_CheckDebts : HasBody Tryz.prog 7 := has_body (fn := Tryz.f7) (by kernel_rfl) rfl (by decide)

theorem ok_bill_CheckDebts : FunOk Tryz.prog 7 sp_bill_CheckDebts := fun_ok (X := cx_bill_CheckDebts) (.cons ok_kit_IsName hb_kit_IsName (.cons ok_slices_ContainsFunc_api_Debt hb_slices_ContainsFunc_api_Debt (.cons ok_kit_IsDay hb_kit_IsDay (.cons ok_bill_moneyFault hb_bill_moneyFault (.cons ok_kit_Outside hb_kit_Outside (.nil _)))))) (by kernel_rfl) sp_bill_CheckDebts anns_bill_CheckDebts none (by kernel_rfl) (fun x y h => (den_bill_CheckDebts x).trans h)

def anns_slices_Index_string : List (Nat × Ann) := [(2, ⟨[(0, .val (.slice .str)), (1, .val .str), (7, .val tI), (8, .val tI)], [], [], fuelOf _⟩),
  (200002, ⟨[], [], [], fun _ => 0⟩)]

noncomputable def sp_slices_Index_string : FSpec := ⟨[.val (.slice .str), .val .str], [.val tI], fun x => slices_Index_string x.1 x.2.1⟩

noncomputable def cx_slices_Index_string : Cx := ⟨Tryz.prog, []⟩

theorem den_slices_Index_string : ∀ x, denF cx_slices_Index_string anns_slices_Index_string none Tryz.f57 sp_slices_Index_string x = sp_slices_Index_string.m x := by intro x; kernel_rfl

theorem hb_slices_Index_string : HasBody Tryz.prog 57 := has_body (fn := Tryz.f57) (by kernel_rfl) rfl (by decide)

theorem ok_slices_Index_string : FunOk Tryz.prog 57 sp_slices_Index_string := fun_ok (X := cx_slices_Index_string) (.nil _) (by kernel_rfl) sp_slices_Index_string anns_slices_Index_string none (by kernel_rfl) (fun x y h => (den_slices_Index_string x).trans h)

def anns_slices_Contains_string : List (Nat × Ann) := []

noncomputable def sp_slices_Contains_string : FSpec := ⟨[.val (.slice .str), .val .str], [.val .bool], fun x => slices_Contains_string x.1 x.2.1⟩

noncomputable def cx_slices_Contains_string : Cx := ⟨Tryz.prog, [(57, sp_slices_Index_string)]⟩

theorem den_slices_Contains_string : ∀ x, denF cx_slices_Contains_string anns_slices_Contains_string none Tryz.f35 sp_slices_Contains_string x = sp_slices_Contains_string.m x := by intro x; kernel_rfl

theorem hb_slices_Contains_string : HasBody Tryz.prog 35 := has_body (fn := Tryz.f35) (by kernel_rfl) rfl (by decide)

theorem ok_slices_Contains_string : FunOk Tryz.prog 35 sp_slices_Contains_string := fun_ok (X := cx_slices_Contains_string) (.cons ok_slices_Index_string hb_slices_Index_string (.nil _)) (by kernel_rfl) sp_slices_Contains_string anns_slices_Contains_string none (by kernel_rfl) (fun x y h => (den_slices_Contains_string x).trans h)

def anns_bill_CheckPayments : List (Nat × Ann) := [(4, ⟨[(0, .val (.slice t_api_Payment)), (11, .val (.slice t_api_Payment)), (12, .val tI), (13, .val tI)], [], [], fuelOf _⟩),
  (16, ⟨[(0, .val (.slice t_api_Payment)), (4, .ref 4 0), (11, .val (.slice t_api_Payment)), (12, .val tI), (13, .val tI), (46, .val (.slice .str)), (47, .val tI), (48, .val tI)], [(4, [.val tI, .val tI, .val tI, .val (.slice .str)])], [], fuelOf _⟩),
  (200004, ⟨[], [], [], fun _ => 0⟩),
  (200016, ⟨[(0, .val (.slice t_api_Payment)), (11, .val (.slice t_api_Payment)), (12, .val tI), (13, .val tI)], [], [], fun _ => 0⟩)]

noncomputable def sp_bill_CheckPayments : FSpec := ⟨[.val (.slice t_api_Payment)], [.val tI], fun x => bill_CheckPayments x.1⟩

noncomputable def cx_bill_CheckPayments : Cx := ⟨Tryz.prog, [(25, sp_kit_IsName), (28, sp_kit_IsDay), (29, sp_bill_moneyFault), (35, sp_slices_Contains_string)]⟩

theorem den_bill_CheckPayments : ∀ x, denF cx_bill_CheckPayments anns_bill_CheckPayments none Tryz.f9 sp_bill_CheckPayments x = sp_bill_CheckPayments.m x := by intro x; kernel_rfl

theorem hb_bill_CheckPayments : HasBody Tryz.prog 9 := has_body (fn := Tryz.f9) (by kernel_rfl) rfl (by decide)

theorem ok_bill_CheckPayments : FunOk Tryz.prog 9 sp_bill_CheckPayments := fun_ok (X := cx_bill_CheckPayments) (.cons ok_kit_IsName hb_kit_IsName (.cons ok_kit_IsDay hb_kit_IsDay (.cons ok_bill_moneyFault hb_bill_moneyFault (.cons ok_slices_Contains_string hb_slices_Contains_string (.nil _))))) (by kernel_rfl) sp_bill_CheckPayments anns_bill_CheckPayments none (by kernel_rfl) (fun x y h => (den_bill_CheckPayments x).trans h)

def anns_bill_bothFault : List (Nat × Ann) := []

noncomputable def sp_bill_bothFault : FSpec := ⟨[.val (.slice t_api_Debt), .val (.slice t_api_Payment)], [.val tI], fun x => bill_bothFault x.1 x.2.1⟩

noncomputable def cx_bill_bothFault : Cx := ⟨Tryz.prog, [(7, sp_bill_CheckDebts), (9, sp_bill_CheckPayments)]⟩

theorem den_bill_bothFault : ∀ x, denF cx_bill_bothFault anns_bill_bothFault none Tryz.f19 sp_bill_bothFault x = sp_bill_bothFault.m x := by intro x; kernel_rfl

theorem hb_bill_bothFault : HasBody Tryz.prog 19 := has_body (fn := Tryz.f19) (by kernel_rfl) rfl (by decide)

theorem ok_bill_bothFault : FunOk Tryz.prog 19 sp_bill_bothFault := fun_ok (X := cx_bill_bothFault) (.cons ok_bill_CheckDebts hb_bill_CheckDebts (.cons ok_bill_CheckPayments hb_bill_CheckPayments (.nil _))) (by kernel_rfl) sp_bill_bothFault anns_bill_bothFault none (by kernel_rfl) (fun x y h => (den_bill_bothFault x).trans h)

def anns_bill_cents : List (Nat × Ann) := []

noncomputable def sp_bill_cents : FSpec := ⟨[.val t_api_Decimal], [.val tI], fun x => bill_cents x.1⟩

noncomputable def cx_bill_cents : Cx := ⟨Tryz.prog, [(62, sp_bill_power)]⟩

theorem den_bill_cents : ∀ x, denF cx_bill_cents anns_bill_cents none Tryz.f41 sp_bill_cents x = sp_bill_cents.m x := by intro x; kernel_rfl

theorem hb_bill_cents : HasBody Tryz.prog 41 := has_body (fn := Tryz.f41) (by kernel_rfl) rfl (by decide)

theorem ok_bill_cents : FunOk Tryz.prog 41 sp_bill_cents := fun_ok (X := cx_bill_cents) (.cons ok_bill_power hb_bill_power (.nil _)) (by kernel_rfl) sp_bill_cents anns_bill_cents none (by kernel_rfl) (fun x y h => (den_bill_cents x).trans h)

def anns_slices_Clone_bill_debtP : List (Nat × Ann) := []

noncomputable def sp_slices_Clone_bill_debtP : FSpec := ⟨[.val (.slice .hnd)], [.row 53 .hnd], fun x => slices_Clone_bill_debtP x.1⟩

noncomputable def cx_slices_Clone_bill_debtP : Cx := ⟨Tryz.prog, []⟩

theorem den_slices_Clone_bill_debtP : ∀ x, denF cx_slices_Clone_bill_debtP anns_slices_Clone_bill_debtP none Tryz.f42 sp_slices_Clone_bill_debtP x = sp_slices_Clone_bill_debtP.m x := by intro x; kernel_rfl

theorem hb_slices_Clone_bill_debtP : HasBody Tryz.prog 42 := has_body (fn := Tryz.f42) (by kernel_rfl) rfl (by decide)

theorem ok_slices_Clone_bill_debtP : FunOk Tryz.prog 42 sp_slices_Clone_bill_debtP := fun_ok (X := cx_slices_Clone_bill_debtP) (.nil _) (by kernel_rfl) sp_slices_Clone_bill_debtP anns_slices_Clone_bill_debtP none (by kernel_rfl) (fun x y h => (den_slices_Clone_bill_debtP x).trans h)

def anns_bill_debt_last : List (Nat × Ann) := []

noncomputable def sp_bill_debt_last : FSpec := ⟨[.val .hnd, .arR t_bill_debt], [.val tI], fun x => bill_debt_last x.1 x.2.1⟩

noncomputable def cx_bill_debt_last : Cx := ⟨Tryz.prog, []⟩

theorem den_bill_debt_last : ∀ x, denF cx_bill_debt_last anns_bill_debt_last none Tryz.f45 sp_bill_debt_last x = sp_bill_debt_last.m x := by intro x; kernel_rfl

theorem hb_bill_debt_last : HasBody Tryz.prog 45 := has_body (fn := Tryz.f45) (by kernel_rfl) rfl (by decide)

theorem ok_bill_debt_last : FunOk Tryz.prog 45 sp_bill_debt_last := fun_ok (X := cx_bill_debt_last) (.nil _) (by kernel_rfl) sp_bill_debt_last anns_bill_debt_last none (by kernel_rfl) (fun x y h => (den_bill_debt_last x).trans h)

def anns_bill_payments_1 : List (Nat × Ann) := []

noncomputable def sp_bill_payments_1 : FSpec := ⟨[.val .hnd, .val .hnd, .arR t_bill_debt], [.val tI], fun x => bill_payments_1 x.1 x.2.1 x.2.2.1⟩

noncomputable def cx_bill_payments_1 : Cx := ⟨Tryz.prog, [(45, sp_bill_debt_last)]⟩

theorem den_bill_payments_1 : ∀ x, denF cx_bill_payments_1 anns_bill_payments_1 none Tryz.f44 sp_bill_payments_1 x = sp_bill_payments_1.m x := by intro x; kernel_rfl

theorem hb_bill_payments_1 : HasBody Tryz.prog 44 := has_body (fn := Tryz.f44) (by kernel_rfl) rfl (by decide)

theorem ok_bill_payments_1 : FunOk Tryz.prog 44 sp_bill_payments_1 := fun_ok (X := cx_bill_payments_1) (.cons ok_bill_debt_last hb_bill_debt_last (.nil _)) (by kernel_rfl) sp_bill_payments_1 anns_bill_payments_1 none (by kernel_rfl) (fun x y h => (den_bill_payments_1 x).trans h)

def anns_slices_insertionSortCmpFunc_bill_debtP : List (Nat × Ann) := [(1, ⟨[(0, .rowR 10250000), (1, .val tI), (2, .val tI), (3, .val (.clo 44 .unit)), (8, .val tI)], [], [.rowC 10250000 53 .hnd, .arF t_bill_debt], fuelOf _⟩),
  (4, ⟨[(0, .rowR 10250000), (1, .val tI), (2, .val tI), (3, .val (.clo 44 .unit)), (8, .val tI), (9, .val tI)], [], [.rowC 10250000 53 .hnd, .arF t_bill_debt], fuelOf _⟩),
  (200001, ⟨[], [], [.rowC 10250000 53 .hnd, .arF t_bill_debt], fun _ => 0⟩),
  (200004, ⟨[(0, .rowR 10250000), (1, .val tI), (2, .val tI), (3, .val (.clo 44 .unit)), (8, .val tI)], [], [.rowC 10250000 53 .hnd, .arF t_bill_debt], fun _ => 0⟩)]

noncomputable def sp_slices_insertionSortCmpFunc_bill_debtP : FSpec := ⟨[.mrow 53 .hnd, .val tI, .val tI, .val (.clo 44 .unit), .arR t_bill_debt], [], fun x => slices_insertionSortCmpFunc_bill_debtP x.1 x.2.1 x.2.2.1 x.2.2.2.1 x.2.2.2.2.1⟩

noncomputable def cx_slices_insertionSortCmpFunc_bill_debtP : Cx := ⟨Tryz.prog, [(44, sp_bill_payments_1)]⟩

theorem den_slices_insertionSortCmpFunc_bill_debtP : ∀ x, denF cx_slices_insertionSortCmpFunc_bill_debtP anns_slices_insertionSortCmpFunc_bill_debtP none Tryz.f83 sp_slices_insertionSortCmpFunc_bill_debtP x = sp_slices_insertionSortCmpFunc_bill_debtP.m x := by intro x; kernel_rfl

theorem hb_slices_insertionSortCmpFunc_bill_debtP : HasBody Tryz.prog 83 := has_body (fn := Tryz.f83) (by kernel_rfl) rfl (by decide)

theorem ok_slices_insertionSortCmpFunc_bill_debtP : FunOk Tryz.prog 83 sp_slices_insertionSortCmpFunc_bill_debtP := fun_ok (X := cx_slices_insertionSortCmpFunc_bill_debtP) (.cons ok_bill_payments_1 hb_bill_payments_1 (.nil _)) (by kernel_rfl) sp_slices_insertionSortCmpFunc_bill_debtP anns_slices_insertionSortCmpFunc_bill_debtP none (by kernel_rfl) (fun x y h => (den_slices_insertionSortCmpFunc_bill_debtP x).trans h)

def anns_slices_swapRangeCmpFunc_bill_debtP : List (Nat × Ann) := [(1, ⟨[(0, .rowR 10250000), (1, .val tI), (2, .val tI), (3, .val tI), (10, .val tI)], [], [.rowC 10250000 53 .hnd, .arF t_bill_debt], fuelOf _⟩),
  (200001, ⟨[], [], [.rowC 10250000 53 .hnd, .arF t_bill_debt], fun _ => 0⟩)]

noncomputable def sp_slices_swapRangeCmpFunc_bill_debtP : FSpec := ⟨[.mrow 53 .hnd, .val tI, .val tI, .val tI, .val (.clo 44 .unit), .arR t_bill_debt], [], fun x => slices_swapRangeCmpFunc_bill_debtP x.1 x.2.1 x.2.2.1 x.2.2.2.1 x.2.2.2.2.1 x.2.2.2.2.2.1⟩

noncomputable def cx_slices_swapRangeCmpFunc_bill_debtP : Cx := ⟨Tryz.prog, []⟩

theorem den_slices_swapRangeCmpFunc_bill_debtP : ∀ x, denF cx_slices_swapRangeCmpFunc_bill_debtP anns_slices_swapRangeCmpFunc_bill_debtP none Tryz.f109 sp_slices_swapRangeCmpFunc_bill_debtP x = sp_slices_swapRangeCmpFunc_bill_debtP.m x := by intro x; kernel_rfl

theorem hb_slices_swapRangeCmpFunc_bill_debtP : HasBody Tryz.prog 109 := has_body (fn := Tryz.f109) (by kernel_rfl) rfl (by decide)

theorem ok_slices_swapRangeCmpFunc_bill_debtP : FunOk Tryz.prog 109 sp_slices_swapRangeCmpFunc_bill_debtP := fun_ok (X := cx_slices_swapRangeCmpFunc_bill_debtP) (.nil _) (by kernel_rfl) sp_slices_swapRangeCmpFunc_bill_debtP anns_slices_swapRangeCmpFunc_bill_debtP none (by kernel_rfl) (fun x y h => (den_slices_swapRangeCmpFunc_bill_debtP x).trans h)

def anns_slices_rotateCmpFunc_bill_debtP : List (Nat × Ann) := [(2, ⟨[(0, .rowR 10250000), (2, .val tI), (4, .val (.clo 44 .unit)), (10, .val tI), (11, .val tI)], [], [.rowC 10250000 53 .hnd, .arF t_bill_debt], fuelOf _⟩),
  (200002, ⟨[(0, .rowR 10250000), (2, .val tI), (4, .val (.clo 44 .unit)), (10, .val tI)], [], [.rowC 10250000 53 .hnd, .arF t_bill_debt], fun _ => 0⟩)]

noncomputable def sp_slices_rotateCmpFunc_bill_debtP : FSpec := ⟨[.mrow 53 .hnd, .val tI, .val tI, .val tI, .val (.clo 44 .unit), .arR t_bill_debt], [], fun x => slices_rotateCmpFunc_bill_debtP x.1 x.2.1 x.2.2.1 x.2.2.2.1 x.2.2.2.2.1 x.2.2.2.2.2.1⟩

noncomputable def cx_slices_rotateCmpFunc_bill_debtP : Cx := ⟨Tryz.prog, [(109, sp_slices_swapRangeCmpFunc_bill_debtP)]⟩

theorem den_slices_rotateCmpFunc_bill_debtP : ∀ x, denF cx_slices_rotateCmpFunc_bill_debtP anns_slices_rotateCmpFunc_bill_debtP none Tryz.f97 sp_slices_rotateCmpFunc_bill_debtP x = sp_slices_rotateCmpFunc_bill_debtP.m x := by intro x; kernel_rfl

theorem hb_slices_rotateCmpFunc_bill_debtP : HasBody Tryz.prog 97 := has_body (fn := Tryz.f97) (by kernel_rfl) rfl (by decide)

theorem ok_slices_rotateCmpFunc_bill_debtP : FunOk Tryz.prog 97 sp_slices_rotateCmpFunc_bill_debtP := fun_ok (X := cx_slices_rotateCmpFunc_bill_debtP) (.cons ok_slices_swapRangeCmpFunc_bill_debtP hb_slices_swapRangeCmpFunc_bill_debtP (.nil _)) (by kernel_rfl) sp_slices_rotateCmpFunc_bill_debtP anns_slices_rotateCmpFunc_bill_debtP none (by kernel_rfl) (fun x y h => (den_slices_rotateCmpFunc_bill_debtP x).trans h)

def anns_slices_symMergeCmpFunc_bill_debtP : List (Nat × Ann) := [(3, ⟨[(0, .rowR 10250000), (1, .val tI), (4, .val (.clo 44 .unit)), (10, .val tI), (11, .val tI)], [], [.rowC 10250000 53 .hnd, .arF t_bill_debt], fuelOf _⟩),
  (9, ⟨[(0, .rowR 10250000), (10, .val tI), (13, .val tI)], [], [.rowC 10250000 53 .hnd, .arF t_bill_debt], fuelOf _⟩),
  (15, ⟨[(0, .rowR 10250000), (2, .val tI), (4, .val (.clo 44 .unit)), (14, .val tI), (15, .val tI)], [], [.rowC 10250000 53 .hnd, .arF t_bill_debt], fuelOf _⟩),
  (21, ⟨[(0, .rowR 10250000), (14, .val tI), (17, .val tI)], [], [.rowC 10250000 53 .hnd, .arF t_bill_debt], fuelOf _⟩),
  (33, ⟨[(0, .rowR 10250000), (1, .val tI), (2, .val tI), (3, .val tI), (4, .val (.clo 44 .unit)), (18, .val tI), (19, .val tI), (20, .val tI), (21, .val tI), (22, .val tI)], [], [.rowC 10250000 53 .hnd, .arF t_bill_debt], fuelOf _⟩),
  (100030, ⟨[(0, .rowR 10250000), (1, .val tI), (2, .val tI), (3, .val tI), (4, .val (.clo 44 .unit)), (18, .val tI), (19, .val tI), (20, .val tI), (21, .val tI)], [], [.rowC 10250000 53 .hnd, .arF t_bill_debt], fun _ => 0⟩),
  (100040, ⟨[(0, .rowR 10250000), (1, .val tI), (3, .val tI), (4, .val (.clo 44 .unit)), (18, .val tI), (20, .val tI), (24, .val tI)], [], [.rowC 10250000 53 .hnd, .arF t_bill_debt], fun _ => 0⟩),
  (100042, ⟨[(0, .rowR 10250000), (3, .val tI), (4, .val (.clo 44 .unit)), (18, .val tI), (24, .val tI)], [], [.rowC 10250000 53 .hnd, .arF t_bill_debt], fun _ => 0⟩),
  (200003, ⟨[(0, .rowR 10250000), (1, .val tI), (10, .val tI)], [], [.rowC 10250000 53 .hnd, .arF t_bill_debt], fun _ => 0⟩),
  (200009, ⟨[], [], [.rowC 10250000 53 .hnd, .arF t_bill_debt], fun _ => 0⟩),
  (200015, ⟨[(0, .rowR 10250000), (2, .val tI), (14, .val tI)], [], [.rowC 10250000 53 .hnd, .arF t_bill_debt], fun _ => 0⟩),
  (200021, ⟨[], [], [.rowC 10250000 53 .hnd, .arF t_bill_debt], fun _ => 0⟩),
  (200033, ⟨[(0, .rowR 10250000), (1, .val tI), (2, .val tI), (3, .val tI), (4, .val (.clo 44 .unit)), (18, .val tI), (19, .val tI), (20, .val tI)], [], [.rowC 10250000 53 .hnd, .arF t_bill_debt], fun _ => 0⟩)]

def ps_slices_symMergeCmpFunc_bill_debtP : List PM := [.mrow 53 .hnd, .val tI, .val tI, .val tI, .val (.clo 44 .unit), .arR t_bill_debt]
def rs_slices_symMergeCmpFunc_bill_debtP : List RM := []

noncomputable def cxs_slices_symMergeCmpFunc_bill_debtP : List (Nat × FSpec) := [(44, sp_bill_payments_1), (97, sp_slices_rotateCmpFunc_bill_debtP)]

noncomputable def sp_slices_symMergeCmpFunc_bill_debtP : FSpec := ⟨ps_slices_symMergeCmpFunc_bill_debtP, rs_slices_symMergeCmpFunc_bill_debtP, fun x => slices_symMergeCmpFunc_bill_debtP x.1 x.2.1 x.2.2.1 x.2.2.2.1 x.2.2.2.2.1 x.2.2.2.2.2.1⟩

theorem den_slices_symMergeCmpFunc_bill_debtP : ∀ (self : inDen ps_slices_symMergeCmpFunc_bill_debtP → Option (outDen ps_slices_symMergeCmpFunc_bill_debtP rs_slices_symMergeCmpFunc_bill_debtP)) (x : inDen ps_slices_symMergeCmpFunc_bill_debtP), denF ⟨Tryz.prog, (84, ⟨ps_slices_symMergeCmpFunc_bill_debtP, rs_slices_symMergeCmpFunc_bill_debtP, self⟩) :: cxs_slices_symMergeCmpFunc_bill_debtP⟩ anns_slices_symMergeCmpFunc_bill_debtP none Tryz.f84 ⟨ps_slices_symMergeCmpFunc_bill_debtP, rs_slices_symMergeCmpFunc_bill_debtP, fun x => slices_symMergeCmpFunc_bill_debtP_F self x.1 x.2.1 x.2.2.1 x.2.2.2.1 x.2.2.2.2.1 x.2.2.2.2.2.1⟩ x = slices_symMergeCmpFunc_bill_debtP_F self x.1 x.2.1 x.2.2.1 x.2.2.2.1 x.2.2.2.2.1 x.2.2.2.2.2.1 := by intro self x; kernel_rfl

theorem hb_slices_symMergeCmpFunc_bill_debtP : HasBody Tryz.prog 84 := has_body (fn := Tryz.f84) (by kernel_rfl) rfl (by decide)

theorem ok_slices_symMergeCmpFunc_bill_debtP : FunOk Tryz.prog 84 sp_slices_symMergeCmpFunc_bill_debtP := fun_ok_fuel (ps := ps_slices_symMergeCmpFunc_bill_debtP) (rs := rs_slices_symMergeCmpFunc_bill_debtP) (m := fun n x => recM (fun self x => slices_symMergeCmpFunc_bill_debtP_F self x.1 x.2.1 x.2.2.1 x.2.2.2.1 x.2.2.2.2.1 x.2.2.2.2.2.1) n x) (fun_ok_rec (P := Tryz.prog) (specs := cxs_slices_symMergeCmpFunc_bill_debtP) (ps := ps_slices_symMergeCmpFunc_bill_debtP) (rs := rs_slices_symMergeCmpFunc_bill_debtP) (.cons ok_bill_payments_1 hb_bill_payments_1 (.cons ok_slices_rotateCmpFunc_bill_debtP hb_slices_rotateCmpFunc_bill_debtP (.nil _))) (by kernel_rfl) (fun self x => slices_symMergeCmpFunc_bill_debtP_F self x.1 x.2.1 x.2.2.1 x.2.2.2.1 x.2.2.2.2.1 x.2.2.2.2.2.1) anns_slices_symMergeCmpFunc_bill_debtP none (by kernel_rfl) hb_slices_symMergeCmpFunc_bill_debtP den_slices_symMergeCmpFunc_bill_debtP) (fun x => slices_symMergeCmpFunc_bill_debtP_fuel x.1 x.2.1 x.2.2.1 x.2.2.2.1 x.2.2.2.2.1 x.2.2.2.2.2.1)

def anns_slices_stableCmpFunc_bill_debtP : List (Nat × Ann) := [(2, ⟨[(0, .rowR 10250000), (1, .val tI), (2, .val (.clo 44 .unit)), (6, .val tI), (7, .val tI), (8, .val tI)], [], [.rowC 10250000 53 .hnd, .arF t_bill_debt], fuelOf _⟩),
  (7, ⟨[(0, .rowR 10250000), (1, .val tI), (2, .val (.clo 44 .unit)), (6, .val tI)], [], [.rowC 10250000 53 .hnd, .arF t_bill_debt], fuelOf _⟩),
  (9, ⟨[(0, .rowR 10250000), (1, .val tI), (2, .val (.clo 44 .unit)), (6, .val tI), (7, .val tI), (8, .val tI)], [], [.rowC 10250000 53 .hnd, .arF t_bill_debt], fuelOf _⟩),
  (200002, ⟨[(0, .rowR 10250000), (1, .val tI), (2, .val (.clo 44 .unit)), (6, .val tI), (7, .val tI)], [], [.rowC 10250000 53 .hnd, .arF t_bill_debt], fun _ => 0⟩),
  (200007, ⟨[], [], [.rowC 10250000 53 .hnd, .arF t_bill_debt], fun _ => 0⟩),
  (200009, ⟨[(0, .rowR 10250000), (1, .val tI), (2, .val (.clo 44 .unit)), (6, .val tI), (7, .val tI)], [], [.rowC 10250000 53 .hnd, .arF t_bill_debt], fun _ => 0⟩)]

noncomputable def sp_slices_stableCmpFunc_bill_debtP : FSpec := ⟨[.mrow 53 .hnd, .val tI, .val (.clo 44 .unit), .arR t_bill_debt], [], fun x => slices_stableCmpFunc_bill_debtP x.1 x.2.1 x.2.2.1 x.2.2.2.1⟩

noncomputable def cx_slices_stableCmpFunc_bill_debtP : Cx := ⟨Tryz.prog, [(83, sp_slices_insertionSortCmpFunc_bill_debtP), (84, sp_slices_symMergeCmpFunc_bill_debtP)]⟩

theorem den_slices_stableCmpFunc_bill_debtP : ∀ x, denF cx_slices_stableCmpFunc_bill_debtP anns_slices_stableCmpFunc_bill_debtP none Tryz.f63 sp_slices_stableCmpFunc_bill_debtP x = sp_slices_stableCmpFunc_bill_debtP.m x := by intro x; kernel_rfl

theorem hb_slices_stableCmpFunc_bill_debtP : HasBody Tryz.prog 63 := has_body (fn := Tryz.f63) (by kernel_rfl) rfl (by decide)

theorem ok_slices_stableCmpFunc_bill_debtP : FunOk Tryz.prog 63 sp_slices_stableCmpFunc_bill_debtP := fun_ok (X := cx_slices_stableCmpFunc_bill_debtP) (.cons ok_slices_insertionSortCmpFunc_bill_debtP hb_slices_insertionSortCmpFunc_bill_debtP (.cons ok_slices_symMergeCmpFunc_bill_debtP hb_slices_symMergeCmpFunc_bill_debtP (.nil _))) (by kernel_rfl) sp_slices_stableCmpFunc_bill_debtP anns_slices_stableCmpFunc_bill_debtP none (by kernel_rfl) (fun x y h => (den_slices_stableCmpFunc_bill_debtP x).trans h)

def anns_slices_SortStableFunc_bill_debtP : List (Nat × Ann) := []

noncomputable def sp_slices_SortStableFunc_bill_debtP : FSpec := ⟨[.mrow 53 .hnd, .val (.clo 44 .unit), .arR t_bill_debt], [], fun x => slices_SortStableFunc_bill_debtP x.1 x.2.1 x.2.2.1⟩

noncomputable def cx_slices_SortStableFunc_bill_debtP : Cx := ⟨Tryz.prog, [(63, sp_slices_stableCmpFunc_bill_debtP)]⟩

theorem den_slices_SortStableFunc_bill_debtP : ∀ x, denF cx_slices_SortStableFunc_bill_debtP anns_slices_SortStableFunc_bill_debtP none Tryz.f43 sp_slices_SortStableFunc_bill_debtP x = sp_slices_SortStableFunc_bill_debtP.m x := by intro x; kernel_rfl

theorem hb_slices_SortStableFunc_bill_debtP : HasBody Tryz.prog 43 := has_body (fn := Tryz.f43) (by kernel_rfl) rfl (by decide)

theorem ok_slices_SortStableFunc_bill_debtP : FunOk Tryz.prog 43 sp_slices_SortStableFunc_bill_debtP := fun_ok (X := cx_slices_SortStableFunc_bill_debtP) (.cons ok_slices_stableCmpFunc_bill_debtP hb_slices_stableCmpFunc_bill_debtP (.nil _)) (by kernel_rfl) sp_slices_SortStableFunc_bill_debtP anns_slices_SortStableFunc_bill_debtP none (by kernel_rfl) (fun x y h => (den_slices_SortStableFunc_bill_debtP x).trans h)

def anns_bill_debt_there : List (Nat × Ann) := []

noncomputable def sp_bill_debt_there : FSpec := ⟨[.val .hnd, .val tI, .arR t_bill_debt], [.val .bool], fun x => bill_debt_there x.1 x.2.1 x.2.2.1⟩

noncomputable def cx_bill_debt_there : Cx := ⟨Tryz.prog, []⟩

theorem den_bill_debt_there : ∀ x, denF cx_bill_debt_there anns_bill_debt_there none Tryz.f36 sp_bill_debt_there x = sp_bill_debt_there.m x := by intro x; kernel_rfl

theorem hb_bill_debt_there : HasBody Tryz.prog 36 := has_body (fn := Tryz.f36) (by kernel_rfl) rfl (by decide)

theorem ok_bill_debt_there : FunOk Tryz.prog 36 sp_bill_debt_there := fun_ok (X := cx_bill_debt_there) (.nil _) (by kernel_rfl) sp_bill_debt_there anns_bill_debt_there none (by kernel_rfl) (fun x y h => (den_bill_debt_there x).trans h)

def anns_bill_debt_discount : List (Nat × Ann) := []

noncomputable def sp_bill_debt_discount : FSpec := ⟨[.val .hnd, .arR t_bill_debt], [.val tI], fun x => bill_debt_discount x.1 x.2.1⟩

noncomputable def cx_bill_debt_discount : Cx := ⟨Tryz.prog, [(62, sp_bill_power)]⟩

theorem den_bill_debt_discount : ∀ x, denF cx_bill_debt_discount anns_bill_debt_discount none Tryz.f64 sp_bill_debt_discount x = sp_bill_debt_discount.m x := by intro x; kernel_rfl

theorem hb_bill_debt_discount : HasBody Tryz.prog 64 := has_body (fn := Tryz.f64) (by kernel_rfl) rfl (by decide)

theorem ok_bill_debt_discount : FunOk Tryz.prog 64 sp_bill_debt_discount := fun_ok (X := cx_bill_debt_discount) (.cons ok_bill_power hb_bill_power (.nil _)) (by kernel_rfl) sp_bill_debt_discount anns_bill_debt_discount none (by kernel_rfl) (fun x y h => (den_bill_debt_discount x).trans h)

def anns_bill_debt_pay : List (Nat × Ann) := []

noncomputable def sp_bill_debt_pay : FSpec := ⟨[.val .hnd, .val tI, .val tI, .ar t_bill_debt], [.val tI], fun x => bill_debt_pay x.1 x.2.1 x.2.2.1 x.2.2.2.1⟩

noncomputable def cx_bill_debt_pay : Cx := ⟨Tryz.prog, []⟩

theorem den_bill_debt_pay : ∀ x, denF cx_bill_debt_pay anns_bill_debt_pay none Tryz.f47 sp_bill_debt_pay x = sp_bill_debt_pay.m x := by intro x; kernel_rfl

theorem hb_bill_debt_pay : HasBody Tryz.prog 47 := has_body (fn := Tryz.f47) (by kernel_rfl) rfl (by decide)

theorem ok_bill_debt_pay : FunOk Tryz.prog 47 sp_bill_debt_pay := fun_ok (X := cx_bill_debt_pay) (.nil _) (by kernel_rfl) sp_bill_debt_pay anns_bill_debt_pay none (by kernel_rfl) (fun x y h => (den_bill_debt_pay x).trans h)

def anns_bill_debt_named : List (Nat × Ann) := []

noncomputable def sp_bill_debt_named : FSpec := ⟨[.val .hnd, .val tI, .val tI, .ar t_bill_debt], [.val tI], fun x => bill_debt_named x.1 x.2.1 x.2.2.1 x.2.2.2.1⟩

noncomputable def cx_bill_debt_named : Cx := ⟨Tryz.prog, [(47, sp_bill_debt_pay), (64, sp_bill_debt_discount)]⟩

theorem den_bill_debt_named : ∀ x, denF cx_bill_debt_named anns_bill_debt_named none Tryz.f46 sp_bill_debt_named x = sp_bill_debt_named.m x := by intro x; kernel_rfl

theorem hb_bill_debt_named : HasBody Tryz.prog 46 := has_body (fn := Tryz.f46) (by kernel_rfl) rfl (by decide)

theorem ok_bill_debt_named : FunOk Tryz.prog 46 sp_bill_debt_named := fun_ok (X := cx_bill_debt_named) (.cons ok_bill_debt_pay hb_bill_debt_pay (.cons ok_bill_debt_discount hb_bill_debt_discount (.nil _))) (by kernel_rfl) sp_bill_debt_named anns_bill_debt_named none (by kernel_rfl) (fun x y h => (den_bill_debt_named x).trans h)

def anns_bill_payments : List (Nat × Ann) := [(4, ⟨[(1, .val (.slice t_api_Payment)), (2, .val tI), (8, .own 53 .hnd), (9, .mapR 23), (24, .val (.slice t_api_Debt)), (25, .val tI), (26, .val tI)], [], [.mapC 23 .str .hnd, .ar t_bill_debt], fuelOf _⟩),
  (14, ⟨[(2, .val tI), (8, .own 53 .hnd), (9, .mapR 23), (13, .rowR 105744), (14, .own 3 tI), (49, .val (.slice t_api_Payment)), (50, .val tI), (51, .val tI)], [], [.rowC 105744 53 .hnd, .mapC 23 .str .hnd, .ar t_bill_debt], fuelOf _⟩),
  (19, ⟨[(2, .val tI), (8, .own 53 .hnd), (9, .mapR 23), (13, .rowR 105744), (14, .own 3 tI), (16, .ref 16 0), (17, .val tI), (49, .val (.slice t_api_Payment)), (50, .val tI), (51, .val tI), (63, .val (.slice .str)), (64, .val tI), (65, .val tI)], [(16, [.val tI, .val tI, .val tI, .val (.slice .str)])], [.rowC 105744 53 .hnd, .mapC 23 .str .hnd, .ar t_bill_debt], fuelOf _⟩),
  (26, ⟨[(2, .val tI), (8, .own 53 .hnd), (9, .mapR 23), (13, .rowR 105744), (14, .own 3 tI), (16, .ref 16 0), (17, .val tI), (49, .val (.slice t_api_Payment)), (50, .val tI), (51, .val tI), (86, .rowR 105744), (87, .val tI), (88, .val tI)], [(16, [.val tI, .val tI, .val tI, .val (.slice .str)])], [.rowC 105744 53 .hnd, .mapC 23 .str .hnd, .ar t_bill_debt], fuelOf _⟩),
  (200004, ⟨[(1, .val (.slice t_api_Payment)), (2, .val tI), (8, .own 53 .hnd), (9, .mapR 23)], [], [.mapC 23 .str .hnd, .ar t_bill_debt], fun _ => 0⟩),
  (200014, ⟨[(8, .own 53 .hnd), (14, .own 3 tI)], [], [.ar t_bill_debt], fun _ => 0⟩),
  (200019, ⟨[(2, .val tI), (8, .own 53 .hnd), (9, .mapR 23), (13, .rowR 105744), (14, .own 3 tI), (16, .ref 16 0), (17, .val tI), (49, .val (.slice t_api_Payment)), (50, .val tI), (51, .val tI)], [(16, [.val tI, .val tI, .val tI, .val (.slice .str)])], [.rowC 105744 53 .hnd, .mapC 23 .str .hnd, .ar t_bill_debt], fun _ => 0⟩),
  (200026, ⟨[(2, .val tI), (8, .own 53 .hnd), (9, .mapR 23), (13, .rowR 105744), (14, .own 3 tI), (17, .val tI), (49, .val (.slice t_api_Payment)), (50, .val tI), (51, .val tI)], [], [.rowC 105744 53 .hnd, .mapC 23 .str .hnd, .ar t_bill_debt], fun _ => 0⟩)]

noncomputable def sp_bill_payments : FSpec := ⟨[.val (.slice t_api_Debt), .val (.slice t_api_Payment), .val tI, .ar t_bill_debt], [.val (.slice .hnd), .val (.slice tI)], fun x => bill_payments x.1 x.2.1 x.2.2.1 x.2.2.2.1⟩

noncomputable def cx_bill_payments : Cx := ⟨Tryz.prog, [(36, sp_bill_debt_there), (41, sp_bill_cents), (42, sp_slices_Clone_bill_debtP), (43, sp_slices_SortStableFunc_bill_debtP), (46, sp_bill_debt_named), (47, sp_bill_debt_pay)]⟩

theorem den_bill_payments : ∀ x, denF cx_bill_payments anns_bill_payments none Tryz.f20 sp_bill_payments x = sp_bill_payments.m x := by intro x; kernel_rfl

theorem hb_bill_payments : HasBody Tryz.prog 20 := has_body (fn := Tryz.f20) (by kernel_rfl) rfl (by decide)

theorem ok_bill_payments : FunOk Tryz.prog 20 sp_bill_payments := fun_ok (X := cx_bill_payments) (.cons ok_bill_debt_there hb_bill_debt_there (.cons ok_bill_cents hb_bill_cents (.cons ok_slices_Clone_bill_debtP hb_slices_Clone_bill_debtP (.cons ok_slices_SortStableFunc_bill_debtP hb_slices_SortStableFunc_bill_debtP (.cons ok_bill_debt_named hb_bill_debt_named (.cons ok_bill_debt_pay hb_bill_debt_pay (.nil _))))))) (by kernel_rfl) sp_bill_payments anns_bill_payments none (by kernel_rfl) (fun x y h => (den_bill_payments x).trans h)

def anns_whole_trimmed : List (Nat × Ann) := [(1, ⟨[(0, .val (.slice (.int .u32)))], [], [], fuelOf _⟩),
  (200001, ⟨[(0, .val (.slice (.int .u32)))], [], [], fun _ => 0⟩)]

noncomputable def sp_whole_trimmed : FSpec := ⟨[.val (.slice (.int .u32))], [.val (.slice (.int .u32))], fun x => whole_trimmed x.1⟩

noncomputable def cx_whole_trimmed : Cx := ⟨Tryz.prog, []⟩

theorem den_whole_trimmed : ∀ x, denF cx_whole_trimmed anns_whole_trimmed none Tryz.f93 sp_whole_trimmed x = sp_whole_trimmed.m x := by intro x; kernel_rfl

theorem hb_whole_trimmed : HasBody Tryz.prog 93 := has_body (fn := Tryz.f93) (by kernel_rfl) rfl (by decide)

theorem ok_whole_trimmed : FunOk Tryz.prog 93 sp_whole_trimmed := fun_ok (X := cx_whole_trimmed) (.nil _) (by kernel_rfl) sp_whole_trimmed anns_whole_trimmed none (by kernel_rfl) (fun x y h => (den_whole_trimmed x).trans h)

def anns_whole_made : List (Nat × Ann) := []

noncomputable def sp_whole_made : FSpec := ⟨[.val .bool, .val (.slice (.int .u32))], [.val t_whole_Int], fun x => whole_made x.1 x.2.1⟩

noncomputable def cx_whole_made : Cx := ⟨Tryz.prog, [(93, sp_whole_trimmed)]⟩

theorem den_whole_made : ∀ x, denF cx_whole_made anns_whole_made none Tryz.f82 sp_whole_made x = sp_whole_made.m x := by intro x; kernel_rfl

theorem hb_whole_made : HasBody Tryz.prog 82 := has_body (fn := Tryz.f82) (by kernel_rfl) rfl (by decide)

theorem ok_whole_made : FunOk Tryz.prog 82 sp_whole_made := fun_ok (X := cx_whole_made) (.cons ok_whole_trimmed hb_whole_trimmed (.nil _)) (by kernel_rfl) sp_whole_made anns_whole_made none (by kernel_rfl) (fun x y h => (den_whole_made x).trans h)

def anns_whole_Of : List (Nat × Ann) := [(100003, ⟨[(0, .val tI), (2, .ref 2 0), (3, .val (.int .u64))], [(2, [.val .bool, .own 114 (.int .u32)])], [], fun _ => 0⟩)]

noncomputable def sp_whole_Of : FSpec := ⟨[.val tI], [.val t_whole_Int], fun x => whole_Of x.1⟩

noncomputable def cx_whole_Of : Cx := ⟨Tryz.prog, [(82, sp_whole_made)]⟩

theorem den_whole_Of : ∀ x, denF cx_whole_Of anns_whole_Of none Tryz.f61 sp_whole_Of x = sp_whole_Of.m x := by intro x; kernel_rfl

theorem hb_whole_Of : HasBody Tryz.prog 61 := has_body (fn := Tryz.f61) (by kernel_rfl) rfl (by decide)

theorem ok_whole_Of : FunOk Tryz.prog 61 sp_whole_Of := fun_ok (X := cx_whole_Of) (.cons ok_whole_made hb_whole_made (.nil _)) (by kernel_rfl) sp_whole_Of anns_whole_Of none (by kernel_rfl) (fun x y h => (den_whole_Of x).trans h)

def anns_whole_sum : List (Nat × Ann) := [(6, ⟨[(1, .val (.slice (.int .u32))), (5, .own 114 (.int .u32)), (6, .val (.int .u64)), (20, .val (.slice (.int .u32))), (21, .val tI), (22, .val tI)], [], [], fuelOf _⟩),
  (100002, ⟨[(0, .val (.slice (.int .u32))), (1, .val (.slice (.int .u32)))], [], [], fun _ => 0⟩),
  (100010, ⟨[(1, .val (.slice (.int .u32))), (5, .own 114 (.int .u32)), (6, .val (.int .u64)), (20, .val (.slice (.int .u32))), (21, .val tI), (22, .val tI)], [], [], fun _ => 0⟩),
  (200006, ⟨[(5, .own 114 (.int .u32)), (6, .val (.int .u64))], [], [], fun _ => 0⟩)]

noncomputable def sp_whole_sum : FSpec := ⟨[.val (.slice (.int .u32)), .val (.slice (.int .u32))], [.row 114 (.int .u32)], fun x => whole_sum x.1 x.2.1⟩

noncomputable def cx_whole_sum : Cx := ⟨Tryz.prog, []⟩

theorem den_whole_sum : ∀ x, denF cx_whole_sum anns_whole_sum none Tryz.f92 sp_whole_sum x = sp_whole_sum.m x := by intro x; kernel_rfl

theorem hb_whole_sum : HasBody Tryz.prog 92 := has_body (fn := Tryz.f92) (by kernel_rfl) rfl (by decide)

theorem ok_whole_sum : FunOk Tryz.prog 92 sp_whole_sum := fun_ok (X := cx_whole_sum) (.nil _) (by kernel_rfl) sp_whole_sum anns_whole_sum none (by kernel_rfl) (fun x y h => (den_whole_sum x).trans h)

def anns_whole_compare : List (Nat × Ann) := [(4, ⟨[(0, .val (.slice (.int .u32))), (1, .val (.slice (.int .u32))), (5, .val tI)], [], [], fuelOf _⟩),
  (200004, ⟨[], [], [], fun _ => 0⟩)]

noncomputable def sp_whole_compare : FSpec := ⟨[.val (.slice (.int .u32)), .val (.slice (.int .u32))], [.val tI], fun x => whole_compare x.1 x.2.1⟩

noncomputable def cx_whole_compare : Cx := ⟨Tryz.prog, []⟩

theorem den_whole_compare : ∀ x, denF cx_whole_compare anns_whole_compare none Tryz.f94 sp_whole_compare x = sp_whole_compare.m x := by intro x; kernel_rfl

theorem hb_whole_compare : HasBody Tryz.prog 94 := has_body (fn := Tryz.f94) (by kernel_rfl) rfl (by decide)

theorem ok_whole_compare : FunOk Tryz.prog 94 sp_whole_compare := fun_ok (X := cx_whole_compare) (.nil _) (by kernel_rfl) sp_whole_compare anns_whole_compare none (by kernel_rfl) (fun x y h => (den_whole_compare x).trans h)

def anns_whole_less : List (Nat × Ann) := [(4, ⟨[(1, .val (.slice (.int .u32))), (5, .own 114 (.int .u32)), (6, .val (.int .u64)), (13, .val (.slice (.int .u32))), (14, .val tI), (15, .val tI)], [], [], fuelOf _⟩),
  (100008, ⟨[(1, .val (.slice (.int .u32))), (5, .own 114 (.int .u32)), (9, .val (.int .u64)), (13, .val (.slice (.int .u32))), (14, .val tI), (15, .val tI)], [], [], fun _ => 0⟩),
  (200004, ⟨[(5, .own 114 (.int .u32))], [], [], fun _ => 0⟩)]

noncomputable def sp_whole_less : FSpec := ⟨[.val (.slice (.int .u32)), .val (.slice (.int .u32))], [.val (.slice (.int .u32))], fun x => whole_less x.1 x.2.1⟩

noncomputable def cx_whole_less : Cx := ⟨Tryz.prog, [(93, sp_whole_trimmed)]⟩

theorem den_whole_less : ∀ x, denF cx_whole_less anns_whole_less none Tryz.f95 sp_whole_less x = sp_whole_less.m x := by intro x; kernel_rfl

theorem hb_whole_less : HasBody Tryz.prog 95 := has_body (fn := Tryz.f95) (by kernel_rfl) rfl (by decide)

theorem ok_whole_less : FunOk Tryz.prog 95 sp_whole_less := fun_ok (X := cx_whole_less) (.cons ok_whole_trimmed hb_whole_trimmed (.nil _)) (by kernel_rfl) sp_whole_less anns_whole_less none (by kernel_rfl) (fun x y h => (den_whole_less x).trans h)

def anns_whole_Int_By : List (Nat × Ann) := [(4, ⟨[(2, .ref 2 0), (3, .ref 3 0), (4, .ref 4 0), (5, .ref 5 0), (6, .rowR 12), (7, .val (.slice (.int .u32))), (8, .val tI)], [(2, [.val .bool, .val (.slice (.int .u32))]), (3, [.val .bool, .val (.slice (.int .u32))]), (4, [.val .bool, .own 114 (.int .u32)]), (5, [.val .bool, .own 114 (.int .u32)])], [.rowC 12 114 (.int .u32)], fuelOf _⟩),
  (200004, ⟨[(4, .ref 4 0), (5, .ref 5 0), (6, .rowR 12), (7, .val (.slice (.int .u32)))], [(4, [.val .bool, .own 114 (.int .u32)]), (5, [.val .bool, .own 114 (.int .u32)])], [.rowC 12 114 (.int .u32)], fun _ => 0⟩)]

noncomputable def sp_whole_Int_By : FSpec := ⟨[.val t_whole_Int, .val t_whole_Int], [.val t_whole_Int, .val t_whole_Int], fun x => whole_Int_By x.1 x.2.1⟩

noncomputable def cx_whole_Int_By : Cx := ⟨Tryz.prog, [(82, sp_whole_made), (92, sp_whole_sum), (93, sp_whole_trimmed), (94, sp_whole_compare), (95, sp_whole_less)]⟩

theorem den_whole_Int_By : ∀ x, denF cx_whole_Int_By anns_whole_Int_By none Tryz.f78 sp_whole_Int_By x = sp_whole_Int_By.m x := by intro x; kernel_rfl

theorem hb_whole_Int_By : HasBody Tryz.prog 78 := has_body (fn := Tryz.f78) (by kernel_rfl) rfl (by decide)

theorem ok_whole_Int_By : FunOk Tryz.prog 78 sp_whole_Int_By := fun_ok (X := cx_whole_Int_By) (.cons ok_whole_made hb_whole_made (.cons ok_whole_sum hb_whole_sum (.cons ok_whole_trimmed hb_whole_trimmed (.cons ok_whole_compare hb_whole_compare (.cons ok_whole_less hb_whole_less (.nil _)))))) (by kernel_rfl) sp_whole_Int_By anns_whole_Int_By none (by kernel_rfl) (fun x y h => (den_whole_Int_By x).trans h)

def anns_whole_Int_Sign : List (Nat × Ann) := []

noncomputable def sp_whole_Int_Sign : FSpec := ⟨[.val t_whole_Int], [.val tI], fun x => whole_Int_Sign x.1⟩

noncomputable def cx_whole_Int_Sign : Cx := ⟨Tryz.prog, []⟩

theorem den_whole_Int_Sign : ∀ x, denF cx_whole_Int_Sign anns_whole_Int_Sign none Tryz.f79 sp_whole_Int_Sign x = sp_whole_Int_Sign.m x := by intro x; kernel_rfl

theorem hb_whole_Int_Sign : HasBody Tryz.prog 79 := has_body (fn := Tryz.f79) (by kernel_rfl) rfl (by decide)

theorem ok_whole_Int_Sign : FunOk Tryz.prog 79 sp_whole_Int_Sign := fun_ok (X := cx_whole_Int_Sign) (.nil _) (by kernel_rfl) sp_whole_Int_Sign anns_whole_Int_Sign none (by kernel_rfl) (fun x y h => (den_whole_Int_Sign x).trans h)

def anns_whole_Int_Minus : List (Nat × Ann) := []

noncomputable def sp_whole_Int_Minus : FSpec := ⟨[.val t_whole_Int], [.val t_whole_Int], fun x => whole_Int_Minus x.1⟩

noncomputable def cx_whole_Int_Minus : Cx := ⟨Tryz.prog, [(82, sp_whole_made)]⟩

theorem den_whole_Int_Minus : ∀ x, denF cx_whole_Int_Minus anns_whole_Int_Minus none Tryz.f80 sp_whole_Int_Minus x = sp_whole_Int_Minus.m x := by intro x; kernel_rfl

theorem hb_whole_Int_Minus : HasBody Tryz.prog 80 := has_body (fn := Tryz.f80) (by kernel_rfl) rfl (by decide)

theorem ok_whole_Int_Minus : FunOk Tryz.prog 80 sp_whole_Int_Minus := fun_ok (X := cx_whole_Int_Minus) (.cons ok_whole_made hb_whole_made (.nil _)) (by kernel_rfl) sp_whole_Int_Minus anns_whole_Int_Minus none (by kernel_rfl) (fun x y h => (den_whole_Int_Minus x).trans h)

def anns_whole_Int_Int : List (Nat × Ann) := [(5, ⟨[(1, .val tI), (2, .ref 2 0), (6, .val (.int .u64)), (14, .val (.slice (.int .u32))), (15, .val tI), (16, .val tI)], [(2, [.val .bool, .val (.slice (.int .u32))])], [], fuelOf _⟩),
  (200005, ⟨[(1, .val tI), (2, .ref 2 0), (6, .val (.int .u64))], [(2, [.val .bool, .val (.slice (.int .u32))])], [], fun _ => 0⟩)]

noncomputable def sp_whole_Int_Int : FSpec := ⟨[.val t_whole_Int, .val tI], [.val tI, .val .bool], fun x => whole_Int_Int x.1 x.2.1⟩

noncomputable def cx_whole_Int_Int : Cx := ⟨Tryz.prog, []⟩

theorem den_whole_Int_Int : ∀ x, denF cx_whole_Int_Int anns_whole_Int_Int none Tryz.f96 sp_whole_Int_Int x = sp_whole_Int_Int.m x := by intro x; kernel_rfl

theorem hb_whole_Int_Int : HasBody Tryz.prog 96 := has_body (fn := Tryz.f96) (by kernel_rfl) rfl (by decide)

theorem ok_whole_Int_Int : FunOk Tryz.prog 96 sp_whole_Int_Int := fun_ok (X := cx_whole_Int_Int) (.nil _) (by kernel_rfl) sp_whole_Int_Int anns_whole_Int_Int none (by kernel_rfl) (fun x y h => (den_whole_Int_Int x).trans h)

def anns_amount_Made : List (Nat × Ann) := []

noncomputable def sp_amount_Made : FSpec := ⟨[.val t_whole_Int, .val tI], [.val t_api_Decimal, .val tI], fun x => amount_Made x.1 x.2.1⟩

noncomputable def cx_amount_Made : Cx := ⟨Tryz.prog, [(96, sp_whole_Int_Int)]⟩

theorem den_amount_Made : ∀ x, denF cx_amount_Made anns_amount_Made none Tryz.f81 sp_amount_Made x = sp_amount_Made.m x := by intro x; kernel_rfl

theorem hb_amount_Made : HasBody Tryz.prog 81 := has_body (fn := Tryz.f81) (by kernel_rfl) rfl (by decide)

theorem ok_amount_Made : FunOk Tryz.prog 81 sp_amount_Made := fun_ok (X := cx_amount_Made) (.cons ok_whole_Int_Int hb_whole_Int_Int (.nil _)) (by kernel_rfl) sp_amount_Made anns_amount_Made none (by kernel_rfl) (fun x y h => (den_amount_Made x).trans h)

def anns_amount_Fewest : List (Nat × Ann) := [(2, ⟨[(1, .val tI), (2, .ref 2 0), (4, .ref 4 0), (6, .ref 6 0)], [(2, [.val .bool, .val (.slice (.int .u32))]), (4, [.val tI, .val tI]), (6, [.val .bool, .val (.slice (.int .u32))])], [], fuelOf _⟩),
  (200002, ⟨[(1, .val tI), (2, .ref 2 0), (4, .ref 4 0)], [(2, [.val .bool, .val (.slice (.int .u32))]), (4, [.val tI, .val tI])], [], fun _ => 0⟩)]

noncomputable def sp_amount_Fewest : FSpec := ⟨[.val t_whole_Int, .val tI], [.val t_api_Decimal, .val tI], fun x => amount_Fewest x.1 x.2.1⟩

noncomputable def cx_amount_Fewest : Cx := ⟨Tryz.prog, [(61, sp_whole_Of), (78, sp_whole_Int_By), (79, sp_whole_Int_Sign), (80, sp_whole_Int_Minus), (81, sp_amount_Made)]⟩

theorem den_amount_Fewest : ∀ x, denF cx_amount_Fewest anns_amount_Fewest none Tryz.f60 sp_amount_Fewest x = sp_amount_Fewest.m x := by intro x; kernel_rfl

theorem hb_amount_Fewest : HasBody Tryz.prog 60 := has_body (fn := Tryz.f60) (by kernel_rfl) rfl (by decide)

theorem ok_amount_Fewest : FunOk Tryz.prog 60 sp_amount_Fewest := fun_ok (X := cx_amount_Fewest) (.cons ok_whole_Of hb_whole_Of (.cons ok_whole_Int_By hb_whole_Int_By (.cons ok_whole_Int_Sign hb_whole_Int_Sign (.cons ok_whole_Int_Minus hb_whole_Int_Minus (.cons ok_amount_Made hb_amount_Made (.nil _)))))) (by kernel_rfl) sp_amount_Fewest anns_amount_Fewest none (by kernel_rfl) (fun x y h => (den_amount_Fewest x).trans h)

def anns_bill_money : List (Nat × Ann) := []

noncomputable def sp_bill_money : FSpec := ⟨[.val tI], [.val t_api_Decimal, .val tI], fun x => bill_money x.1⟩

noncomputable def cx_bill_money : Cx := ⟨Tryz.prog, [(60, sp_amount_Fewest), (61, sp_whole_Of)]⟩

theorem den_bill_money : ∀ x, denF cx_bill_money anns_bill_money none Tryz.f39 sp_bill_money x = sp_bill_money.m x := by intro x; kernel_rfl

theorem hb_bill_money : HasBody Tryz.prog 39 := has_body (fn := Tryz.f39) (by kernel_rfl) rfl (by decide)

theorem ok_bill_money : FunOk Tryz.prog 39 sp_bill_money := fun_ok (X := cx_bill_money) (.cons ok_amount_Fewest hb_amount_Fewest (.cons ok_whole_Of hb_whole_Of (.nil _))) (by kernel_rfl) sp_bill_money anns_bill_money none (by kernel_rfl) (fun x y h => (den_bill_money x).trans h)

def anns_bill_toldMoney : List (Nat × Ann) := []

noncomputable def sp_bill_toldMoney : FSpec := ⟨[.val tI], [.val t_api_Decimal], fun x => bill_toldMoney x.1⟩

noncomputable def cx_bill_toldMoney : Cx := ⟨Tryz.prog, [(39, sp_bill_money)]⟩

theorem den_bill_toldMoney : ∀ x, denF cx_bill_toldMoney anns_bill_toldMoney none Tryz.f21 sp_bill_toldMoney x = sp_bill_toldMoney.m x := by intro x; kernel_rfl

theorem hb_bill_toldMoney : HasBody Tryz.prog 21 := has_body (fn := Tryz.f21) (by kernel_rfl) rfl (by decide)

theorem ok_bill_toldMoney : FunOk Tryz.prog 21 sp_bill_toldMoney := fun_ok (X := cx_bill_toldMoney) (.cons ok_bill_money hb_bill_money (.nil _)) (by kernel_rfl) sp_bill_toldMoney anns_bill_toldMoney none (by kernel_rfl) (fun x y h => (den_bill_toldMoney x).trans h)

def anns_bill_Pay : List (Nat × Ann) := [(7, ⟨[(9, .val (.slice tI)), (10, .own 35 t_api_Paid), (28, .val (.slice .hnd)), (29, .val tI), (30, .val tI)], [], [.ar t_bill_debt], fuelOf _⟩),
  (13, ⟨[(10, .own 35 t_api_Paid), (13, .own 33 t_api_Decimal), (58, .val (.slice tI)), (59, .val tI), (60, .val tI)], [], [.ar t_bill_debt], fuelOf _⟩),
  (200007, ⟨[(9, .val (.slice tI)), (10, .own 35 t_api_Paid)], [], [.ar t_bill_debt], fun _ => 0⟩),
  (200013, ⟨[(10, .own 35 t_api_Paid), (13, .own 33 t_api_Decimal)], [], [.ar t_bill_debt], fun _ => 0⟩)]

noncomputable def sp_bill_Pay : FSpec := ⟨[.val (.slice t_api_Debt), .val (.slice t_api_Payment)], [.val (.slice t_api_Paid), .val (.slice t_api_Decimal), .val tI], fun x => bill_Pay x.1 x.2.1⟩

noncomputable def cx_bill_Pay : Cx := ⟨Tryz.prog, [(19, sp_bill_bothFault), (20, sp_bill_payments), (21, sp_bill_toldMoney)]⟩

theorem den_bill_Pay : ∀ x, denF cx_bill_Pay anns_bill_Pay (some t_bill_debt) Tryz.f5 sp_bill_Pay x = sp_bill_Pay.m x := by intro x; kernel_rfl

theorem hb_bill_Pay : HasBody Tryz.prog 5 := has_body (fn := Tryz.f5) (by kernel_rfl) rfl (by decide)

theorem ok_bill_Pay : FunOk Tryz.prog 5 sp_bill_Pay := fun_ok (X := cx_bill_Pay) (.cons ok_bill_bothFault hb_bill_bothFault (.cons ok_bill_payments hb_bill_payments (.cons ok_bill_toldMoney hb_bill_toldMoney (.nil _)))) (by kernel_rfl) sp_bill_Pay anns_bill_Pay (some t_bill_debt) (by kernel_rfl) (fun x y h => (den_bill_Pay x).trans h)

def anns_r1_isName : List (Nat × Ann) := [(4, ⟨[(0, .val .str), (23, .val tI), (24, .val tI)], [], [], fuelOf _⟩),
  (200004, ⟨[], [], [], fun _ => 0⟩)]

noncomputable def sp_r1_isName : FSpec := ⟨[.val .str], [.val .bool], fun x => r1_isName x.1⟩

noncomputable def cx_r1_isName : Cx := ⟨Tryz.prog, []⟩

theorem den_r1_isName : ∀ x, denF cx_r1_isName anns_r1_isName none Tryz.f54 sp_r1_isName x = sp_r1_isName.m x := by intro x; kernel_rfl

theorem hb_r1_isName : HasBody Tryz.prog 54 := has_body (fn := Tryz.f54) (by kernel_rfl) rfl (by decide)

theorem ok_r1_isName : FunOk Tryz.prog 54 sp_r1_isName := fun_ok (X := cx_r1_isName) (.nil _) (by kernel_rfl) sp_r1_isName anns_r1_isName none (by kernel_rfl) (fun x y h => (den_r1_isName x).trans h)

def anns_r1_IsName : List (Nat × Ann) := []

noncomputable def sp_r1_IsName : FSpec := ⟨[.val .str], [.val .bool], fun x => r1_IsName x.1⟩

noncomputable def cx_r1_IsName : Cx := ⟨Tryz.prog, [(54, sp_r1_isName)]⟩

theorem den_r1_IsName : ∀ x, denF cx_r1_IsName anns_r1_IsName none Tryz.f31 sp_r1_IsName x = sp_r1_IsName.m x := by intro x; kernel_rfl

theorem hb_r1_IsName : HasBody Tryz.prog 31 := has_body (fn := Tryz.f31) (by kernel_rfl) rfl (by decide)

theorem ok_r1_IsName : FunOk Tryz.prog 31 sp_r1_IsName := fun_ok (X := cx_r1_IsName) (.cons ok_r1_isName hb_r1_isName (.nil _)) (by kernel_rfl) sp_r1_IsName anns_r1_IsName none (by kernel_rfl) (fun x y h => (den_r1_IsName x).trans h)

def anns_r1_within : List (Nat × Ann) := []

noncomputable def sp_r1_within : FSpec := ⟨[.val tI, .val tI, .val tI], [.val .bool], fun x => r1_within x.1 x.2.1 x.2.2.1⟩

noncomputable def cx_r1_within : Cx := ⟨Tryz.prog, []⟩

theorem den_r1_within : ∀ x, denF cx_r1_within anns_r1_within none Tryz.f75 sp_r1_within x = sp_r1_within.m x := by intro x; kernel_rfl

theorem hb_r1_within : HasBody Tryz.prog 75 := has_body (fn := Tryz.f75) (by kernel_rfl) rfl (by decide)

theorem ok_r1_within : FunOk Tryz.prog 75 sp_r1_within := fun_ok (X := cx_r1_within) (.nil _) (by kernel_rfl) sp_r1_within anns_r1_within none (by kernel_rfl) (fun x y h => (den_r1_within x).trans h)

def anns_r1_isDay : List (Nat × Ann) := []

noncomputable def sp_r1_isDay : FSpec := ⟨[.val tI], [.val .bool], fun x => r1_isDay x.1⟩

noncomputable def cx_r1_isDay : Cx := ⟨Tryz.prog, [(75, sp_r1_within)]⟩

theorem den_r1_isDay : ∀ x, denF cx_r1_isDay anns_r1_isDay none Tryz.f55 sp_r1_isDay x = sp_r1_isDay.m x := by intro x; kernel_rfl

theorem hb_r1_isDay : HasBody Tryz.prog 55 := has_body (fn := Tryz.f55) (by kernel_rfl) rfl (by decide)

theorem ok_r1_isDay : FunOk Tryz.prog 55 sp_r1_isDay := fun_ok (X := cx_r1_isDay) (.cons ok_r1_within hb_r1_within (.nil _)) (by kernel_rfl) sp_r1_isDay anns_r1_isDay none (by kernel_rfl) (fun x y h => (den_r1_isDay x).trans h)

def anns_r1_IsDay : List (Nat × Ann) := []

noncomputable def sp_r1_IsDay : FSpec := ⟨[.val tI], [.val .bool], fun x => r1_IsDay x.1⟩

noncomputable def cx_r1_IsDay : Cx := ⟨Tryz.prog, [(55, sp_r1_isDay)]⟩

theorem den_r1_IsDay : ∀ x, denF cx_r1_IsDay anns_r1_IsDay none Tryz.f32 sp_r1_IsDay x = sp_r1_IsDay.m x := by intro x; kernel_rfl

theorem hb_r1_IsDay : HasBody Tryz.prog 32 := has_body (fn := Tryz.f32) (by kernel_rfl) rfl (by decide)

theorem ok_r1_IsDay : FunOk Tryz.prog 32 sp_r1_IsDay := fun_ok (X := cx_r1_IsDay) (.cons ok_r1_isDay hb_r1_isDay (.nil _)) (by kernel_rfl) sp_r1_IsDay anns_r1_IsDay none (by kernel_rfl) (fun x y h => (den_r1_IsDay x).trans h)

def anns_r1_CheckDecimal : List (Nat × Ann) := []

noncomputable def sp_r1_CheckDecimal : FSpec := ⟨[.val t_api_Decimal], [.val tI], fun x => r1_CheckDecimal x.1⟩

noncomputable def cx_r1_CheckDecimal : Cx := ⟨Tryz.prog, [(75, sp_r1_within)]⟩

theorem den_r1_CheckDecimal : ∀ x, denF cx_r1_CheckDecimal anns_r1_CheckDecimal none Tryz.f76 sp_r1_CheckDecimal x = sp_r1_CheckDecimal.m x := by intro x; kernel_rfl

theorem hb_r1_CheckDecimal : HasBody Tryz.prog 76 := has_body (fn := Tryz.f76) (by kernel_rfl) rfl (by decide)

theorem ok_r1_CheckDecimal : FunOk Tryz.prog 76 sp_r1_CheckDecimal := fun_ok (X := cx_r1_CheckDecimal) (.cons ok_r1_within hb_r1_within (.nil _)) (by kernel_rfl) sp_r1_CheckDecimal anns_r1_CheckDecimal none (by kernel_rfl) (fun x y h => (den_r1_CheckDecimal x).trans h)

def anns_r1_Of : List (Nat × Ann) := [(2, ⟨[(0, .val tI), (2, .ref 2 0), (3, .ref 3 0)], [(2, [.val .bool, .own 3 tI]), (3, [.val .bool, .own 3 tI])], [], fuelOf _⟩),
  (200002, ⟨[(2, .ref 2 0), (3, .ref 3 0)], [(2, [.val .bool, .own 3 tI]), (3, [.val .bool, .own 3 tI])], [], fun _ => 0⟩)]

noncomputable def sp_r1_Of : FSpec := ⟨[.val tI], [.val t_interchangeref1_Num], fun x => r1_Of x.1⟩

noncomputable def cx_r1_Of : Cx := ⟨Tryz.prog, []⟩

theorem den_r1_Of : ∀ x, denF cx_r1_Of anns_r1_Of none Tryz.f107 sp_r1_Of x = sp_r1_Of.m x := by intro x; kernel_rfl

theorem hb_r1_Of : HasBody Tryz.prog 107 := has_body (fn := Tryz.f107) (by kernel_rfl) rfl (by decide)

theorem ok_r1_Of : FunOk Tryz.prog 107 sp_r1_Of := fun_ok (X := cx_r1_Of) (.nil _) (by kernel_rfl) sp_r1_Of anns_r1_Of none (by kernel_rfl) (fun x y h => (den_r1_Of x).trans h)

def anns_r1_trimmed : List (Nat × Ann) := [(1, ⟨[(1, .ref 1 0), (2, .ref 2 0)], [(1, [.val .bool, .val (.slice tI)]), (2, [.val .bool, .own 3 tI])], [], fuelOf _⟩),
  (200001, ⟨[(1, .ref 1 0), (2, .ref 2 0)], [(1, [.val .bool, .val (.slice tI)]), (2, [.val .bool, .own 3 tI])], [], fun _ => 0⟩)]

noncomputable def sp_r1_trimmed : FSpec := ⟨[.val t_interchangeref1_Num], [.val t_interchangeref1_Num], fun x => r1_trimmed x.1⟩

noncomputable def cx_r1_trimmed : Cx := ⟨Tryz.prog, []⟩

theorem den_r1_trimmed : ∀ x, denF cx_r1_trimmed anns_r1_trimmed none Tryz.f117 sp_r1_trimmed x = sp_r1_trimmed.m x := by intro x; kernel_rfl

theorem hb_r1_trimmed : HasBody Tryz.prog 117 := has_body (fn := Tryz.f117) (by kernel_rfl) rfl (by decide)

theorem ok_r1_trimmed : FunOk Tryz.prog 117 sp_r1_trimmed := fun_ok (X := cx_r1_trimmed) (.nil _) (by kernel_rfl) sp_r1_trimmed anns_r1_trimmed none (by kernel_rfl) (fun x y h => (den_r1_trimmed x).trans h)

def anns_r1_TimesOf : List (Nat × Ann) := [(3, ⟨[(3, .ref 3 0), (4, .ref 4 0), (5, .ref 5 0), (27, .val (.slice tI)), (28, .val tI), (29, .val tI)], [(3, [.val .bool, .val (.slice tI)]), (4, [.val .bool, .own 3 tI]), (5, [.val .bool, .rowR 24])], [.rowC 24 3 tI], fuelOf _⟩),
  (6, ⟨[(3, .ref 3 0), (4, .ref 4 0), (5, .ref 5 0), (6, .val tI), (7, .val tI), (27, .val (.slice tI)), (28, .val tI), (29, .val tI), (35, .val (.slice tI)), (36, .val tI), (37, .val tI)], [(3, [.val .bool, .val (.slice tI)]), (4, [.val .bool, .own 3 tI]), (5, [.val .bool, .rowR 24])], [.rowC 24 3 tI], fuelOf _⟩),
  (14, ⟨[(4, .ref 4 0), (5, .ref 5 0), (86, .val tI), (87, .val tI)], [(4, [.val .bool, .own 3 tI]), (5, [.val .bool, .rowR 24])], [.rowC 24 3 tI], fuelOf _⟩),
  (200003, ⟨[(4, .ref 4 0), (5, .ref 5 0)], [(4, [.val .bool, .own 3 tI]), (5, [.val .bool, .rowR 24])], [.rowC 24 3 tI], fun _ => 0⟩),
  (200006, ⟨[(3, .ref 3 0), (4, .ref 4 0), (5, .ref 5 0), (27, .val (.slice tI)), (28, .val tI), (29, .val tI)], [(3, [.val .bool, .val (.slice tI)]), (4, [.val .bool, .own 3 tI]), (5, [.val .bool, .rowR 24])], [.rowC 24 3 tI], fun _ => 0⟩),
  (200014, ⟨[(4, .ref 4 0), (5, .ref 5 0)], [(4, [.val .bool, .own 3 tI]), (5, [.val .bool, .rowR 24])], [.rowC 24 3 tI], fun _ => 0⟩)]

noncomputable def sp_r1_TimesOf : FSpec := ⟨[.val t_interchangeref1_Num, .val t_interchangeref1_Num], [.val t_interchangeref1_Num], fun x => r1_TimesOf x.1 x.2.1⟩

noncomputable def cx_r1_TimesOf : Cx := ⟨Tryz.prog, [(117, sp_r1_trimmed)]⟩

theorem den_r1_TimesOf : ∀ x, denF cx_r1_TimesOf anns_r1_TimesOf none Tryz.f106 sp_r1_TimesOf x = sp_r1_TimesOf.m x := by intro x; kernel_rfl

theorem hb_r1_TimesOf : HasBody Tryz.prog 106 := has_body (fn := Tryz.f106) (by kernel_rfl) rfl (by decide)

theorem ok_r1_TimesOf : FunOk Tryz.prog 106 sp_r1_TimesOf := fun_ok (X := cx_r1_TimesOf) (.cons ok_r1_trimmed hb_r1_trimmed (.nil _)) (by kernel_rfl) sp_r1_TimesOf anns_r1_TimesOf none (by kernel_rfl) (fun x y h => (den_r1_TimesOf x).trans h)

def anns_r1_Power : List (Nat × Ann) := [(3, ⟨[(2, .ref 2 0), (3, .ref 3 0), (5, .val tI), (6, .val tI)], [(2, [.val .bool, .own 3 tI]), (3, [.val .bool, .val (.slice tI)])], [], fuelOf _⟩),
  (200003, ⟨[(2, .ref 2 0), (3, .ref 3 0)], [(2, [.val .bool, .own 3 tI]), (3, [.val .bool, .val (.slice tI)])], [], fun _ => 0⟩)]

noncomputable def sp_r1_Power : FSpec := ⟨[.val tI], [.val t_interchangeref1_Num], fun x => r1_Power x.1⟩

noncomputable def cx_r1_Power : Cx := ⟨Tryz.prog, [(106, sp_r1_TimesOf), (107, sp_r1_Of)]⟩

theorem den_r1_Power : ∀ x, denF cx_r1_Power anns_r1_Power none Tryz.f108 sp_r1_Power x = sp_r1_Power.m x := by intro x; kernel_rfl

theorem hb_r1_Power : HasBody Tryz.prog 108 := has_body (fn := Tryz.f108) (by kernel_rfl) rfl (by decide)

theorem ok_r1_Power : FunOk Tryz.prog 108 sp_r1_Power := fun_ok (X := cx_r1_Power) (.cons ok_r1_TimesOf hb_r1_TimesOf (.cons ok_r1_Of hb_r1_Of (.nil _))) (by kernel_rfl) sp_r1_Power anns_r1_Power none (by kernel_rfl) (fun x y h => (den_r1_Power x).trans h)

def anns_r1_At : List (Nat × Ann) := []

noncomputable def sp_r1_At : FSpec := ⟨[.val t_api_Decimal, .val tI], [.val t_interchangeref1_Num], fun x => r1_At x.1 x.2.1⟩

noncomputable def cx_r1_At : Cx := ⟨Tryz.prog, [(106, sp_r1_TimesOf), (107, sp_r1_Of), (108, sp_r1_Power)]⟩

theorem den_r1_At : ∀ x, denF cx_r1_At anns_r1_At none Tryz.f91 sp_r1_At x = sp_r1_At.m x := by intro x; kernel_rfl

theorem hb_r1_At : HasBody Tryz.prog 91 := has_body (fn := Tryz.f91) (by kernel_rfl) rfl (by decide)

theorem ok_r1_At : FunOk Tryz.prog 91 sp_r1_At := fun_ok (X := cx_r1_At) (.cons ok_r1_TimesOf hb_r1_TimesOf (.cons ok_r1_Of hb_r1_Of (.cons ok_r1_Power hb_r1_Power (.nil _)))) (by kernel_rfl) sp_r1_At anns_r1_At none (by kernel_rfl) (fun x y h => (den_r1_At x).trans h)

def anns_r1_Minus : List (Nat × Ann) := []

noncomputable def sp_r1_Minus : FSpec := ⟨[.val t_interchangeref1_Num], [.val t_interchangeref1_Num], fun x => r1_Minus x.1⟩

noncomputable def cx_r1_Minus : Cx := ⟨Tryz.prog, []⟩

theorem den_r1_Minus : ∀ x, denF cx_r1_Minus anns_r1_Minus none Tryz.f105 sp_r1_Minus x = sp_r1_Minus.m x := by intro x; kernel_rfl

theorem hb_r1_Minus : HasBody Tryz.prog 105 := has_body (fn := Tryz.f105) (by kernel_rfl) rfl (by decide)

theorem ok_r1_Minus : FunOk Tryz.prog 105 sp_r1_Minus := fun_ok (X := cx_r1_Minus) (.nil _) (by kernel_rfl) sp_r1_Minus anns_r1_Minus none (by kernel_rfl) (fun x y h => (den_r1_Minus x).trans h)

def anns_r1_sizes : List (Nat × Ann) := [(4, ⟨[(0, .val (.slice tI)), (1, .val (.slice tI)), (5, .val tI)], [], [], fuelOf _⟩),
  (200004, ⟨[], [], [], fun _ => 0⟩)]

noncomputable def sp_r1_sizes : FSpec := ⟨[.val (.slice tI), .val (.slice tI)], [.val tI], fun x => r1_sizes x.1 x.2.1⟩

noncomputable def cx_r1_sizes : Cx := ⟨Tryz.prog, []⟩

theorem den_r1_sizes : ∀ x, denF cx_r1_sizes anns_r1_sizes none Tryz.f115 sp_r1_sizes x = sp_r1_sizes.m x := by intro x; kernel_rfl

theorem hb_r1_sizes : HasBody Tryz.prog 115 := has_body (fn := Tryz.f115) (by kernel_rfl) rfl (by decide)

theorem ok_r1_sizes : FunOk Tryz.prog 115 sp_r1_sizes := fun_ok (X := cx_r1_sizes) (.nil _) (by kernel_rfl) sp_r1_sizes anns_r1_sizes none (by kernel_rfl) (fun x y h => (den_r1_sizes x).trans h)

def anns_r1_digit : List (Nat × Ann) := []

noncomputable def sp_r1_digit : FSpec := ⟨[.val (.slice tI), .val tI], [.val tI], fun x => r1_digit x.1 x.2.1⟩

noncomputable def cx_r1_digit : Cx := ⟨Tryz.prog, []⟩

theorem den_r1_digit : ∀ x, denF cx_r1_digit anns_r1_digit none Tryz.f116 sp_r1_digit x = sp_r1_digit.m x := by intro x; kernel_rfl

theorem hb_r1_digit : HasBody Tryz.prog 116 := has_body (fn := Tryz.f116) (by kernel_rfl) rfl (by decide)

theorem ok_r1_digit : FunOk Tryz.prog 116 sp_r1_digit := fun_ok (X := cx_r1_digit) (.nil _) (by kernel_rfl) sp_r1_digit anns_r1_digit none (by kernel_rfl) (fun x y h => (den_r1_digit x).trans h)

def anns_r1_Plus : List (Nat × Ann) := [(7, ⟨[(2, .ref 2 0), (3, .ref 3 0), (4, .ref 4 0), (5, .ref 5 0), (6, .val tI), (31, .val tI), (32, .val tI)], [(2, [.val .bool, .val (.slice tI)]), (3, [.val .bool, .val (.slice tI)]), (4, [.val .bool, .own 3 tI]), (5, [.val .bool, .own 3 tI])], [], fuelOf _⟩),
  (19, ⟨[(2, .ref 2 0), (3, .ref 3 0), (4, .ref 4 0), (9, .ref 9 0), (10, .val tI), (70, .val tI), (71, .val tI)], [(2, [.val .bool, .val (.slice tI)]), (3, [.val .bool, .val (.slice tI)]), (4, [.val .bool, .own 3 tI]), (9, [.val .bool, .own 3 tI])], [], fuelOf _⟩),
  (100003, ⟨[(2, .ref 2 0), (3, .ref 3 0), (4, .ref 4 0)], [(2, [.val .bool, .val (.slice tI)]), (3, [.val .bool, .val (.slice tI)]), (4, [.val .bool, .own 3 tI])], [], fun _ => 0⟩),
  (100012, ⟨[(2, .ref 2 0), (3, .ref 3 0), (4, .ref 4 0), (5, .ref 5 0), (6, .val tI), (8, .val tI), (31, .val tI), (32, .val tI)], [(2, [.val .bool, .val (.slice tI)]), (3, [.val .bool, .val (.slice tI)]), (4, [.val .bool, .own 3 tI]), (5, [.val .bool, .own 3 tI])], [], fun _ => 0⟩),
  (200007, ⟨[(4, .ref 4 0), (5, .ref 5 0)], [(4, [.val .bool, .own 3 tI]), (5, [.val .bool, .own 3 tI])], [], fun _ => 0⟩),
  (200019, ⟨[(4, .ref 4 0), (9, .ref 9 0)], [(4, [.val .bool, .own 3 tI]), (9, [.val .bool, .own 3 tI])], [], fun _ => 0⟩)]

noncomputable def sp_r1_Plus : FSpec := ⟨[.val t_interchangeref1_Num, .val t_interchangeref1_Num], [.val t_interchangeref1_Num], fun x => r1_Plus x.1 x.2.1⟩

noncomputable def cx_r1_Plus : Cx := ⟨Tryz.prog, [(115, sp_r1_sizes), (116, sp_r1_digit), (117, sp_r1_trimmed)]⟩

theorem den_r1_Plus : ∀ x, denF cx_r1_Plus anns_r1_Plus none Tryz.f104 sp_r1_Plus x = sp_r1_Plus.m x := by intro x; kernel_rfl

theorem hb_r1_Plus : HasBody Tryz.prog 104 := has_body (fn := Tryz.f104) (by kernel_rfl) rfl (by decide)

theorem ok_r1_Plus : FunOk Tryz.prog 104 sp_r1_Plus := fun_ok (X := cx_r1_Plus) (.cons ok_r1_sizes hb_r1_sizes (.cons ok_r1_digit hb_r1_digit (.cons ok_r1_trimmed hb_r1_trimmed (.nil _)))) (by kernel_rfl) sp_r1_Plus anns_r1_Plus none (by kernel_rfl) (fun x y h => (den_r1_Plus x).trans h)

def anns_r1_Sign : List (Nat × Ann) := []

noncomputable def sp_r1_Sign : FSpec := ⟨[.val t_interchangeref1_Num], [.val tI], fun x => r1_Sign x.1⟩

noncomputable def cx_r1_Sign : Cx := ⟨Tryz.prog, []⟩

theorem den_r1_Sign : ∀ x, denF cx_r1_Sign anns_r1_Sign none Tryz.f103 sp_r1_Sign x = sp_r1_Sign.m x := by intro x; kernel_rfl

theorem hb_r1_Sign : HasBody Tryz.prog 103 := has_body (fn := Tryz.f103) (by kernel_rfl) rfl (by decide)

theorem ok_r1_Sign : FunOk Tryz.prog 103 sp_r1_Sign := fun_ok (X := cx_r1_Sign) (.nil _) (by kernel_rfl) sp_r1_Sign anns_r1_Sign none (by kernel_rfl) (fun x y h => (den_r1_Sign x).trans h)

def anns_r1_Cmp : List (Nat × Ann) := []

noncomputable def sp_r1_Cmp : FSpec := ⟨[.val t_interchangeref1_Num, .val t_interchangeref1_Num], [.val tI], fun x => r1_Cmp x.1 x.2.1⟩

noncomputable def cx_r1_Cmp : Cx := ⟨Tryz.prog, [(103, sp_r1_Sign), (104, sp_r1_Plus), (105, sp_r1_Minus)]⟩

theorem den_r1_Cmp : ∀ x, denF cx_r1_Cmp anns_r1_Cmp none Tryz.f90 sp_r1_Cmp x = sp_r1_Cmp.m x := by intro x; kernel_rfl

theorem hb_r1_Cmp : HasBody Tryz.prog 90 := has_body (fn := Tryz.f90) (by kernel_rfl) rfl (by decide)

theorem ok_r1_Cmp : FunOk Tryz.prog 90 sp_r1_Cmp := fun_ok (X := cx_r1_Cmp) (.cons ok_r1_Sign hb_r1_Sign (.cons ok_r1_Plus hb_r1_Plus (.cons ok_r1_Minus hb_r1_Minus (.nil _)))) (by kernel_rfl) sp_r1_Cmp anns_r1_Cmp none (by kernel_rfl) (fun x y h => (den_r1_Cmp x).trans h)

def anns_r11_cmp : List (Nat × Ann) := []

noncomputable def sp_r11_cmp : FSpec := ⟨[.val t_api_Decimal, .val t_api_Decimal], [.val tI], fun x => r11_cmp x.1 x.2.1⟩

noncomputable def cx_r11_cmp : Cx := ⟨Tryz.prog, [(90, sp_r1_Cmp), (91, sp_r1_At)]⟩

theorem den_r11_cmp : ∀ x, denF cx_r11_cmp anns_r11_cmp none Tryz.f77 sp_r11_cmp x = sp_r11_cmp.m x := by intro x; kernel_rfl

theorem hb_r11_cmp : HasBody Tryz.prog 77 := has_body (fn := Tryz.f77) (by kernel_rfl) rfl (by decide)

theorem ok_r11_cmp : FunOk Tryz.prog 77 sp_r11_cmp := fun_ok (X := cx_r11_cmp) (.cons ok_r1_Cmp hb_r1_Cmp (.cons ok_r1_At hb_r1_At (.nil _))) (by kernel_rfl) sp_r11_cmp anns_r11_cmp none (by kernel_rfl) (fun x y h => (den_r11_cmp x).trans h)

def anns_r11_isIn : List (Nat × Ann) := []

noncomputable def sp_r11_isIn : FSpec := ⟨[.val t_api_Decimal, .val tI, .val tI, .val tI], [.val .bool], fun x => r11_isIn x.1 x.2.1 x.2.2.1 x.2.2.2.1⟩

noncomputable def cx_r11_isIn : Cx := ⟨Tryz.prog, [(76, sp_r1_CheckDecimal), (77, sp_r11_cmp)]⟩

theorem den_r11_isIn : ∀ x, denF cx_r11_isIn anns_r11_isIn none Tryz.f56 sp_r11_isIn x = sp_r11_isIn.m x := by intro x; kernel_rfl

theorem hb_r11_isIn : HasBody Tryz.prog 56 := has_body (fn := Tryz.f56) (by kernel_rfl) rfl (by decide)

theorem ok_r11_isIn : FunOk Tryz.prog 56 sp_r11_isIn := fun_ok (X := cx_r11_isIn) (.cons ok_r1_CheckDecimal hb_r1_CheckDecimal (.cons ok_r11_cmp hb_r11_cmp (.nil _))) (by kernel_rfl) sp_r11_isIn anns_r11_isIn none (by kernel_rfl) (fun x y h => (den_r11_isIn x).trans h)

def anns_r11_isMoney : List (Nat × Ann) := []

noncomputable def sp_r11_isMoney : FSpec := ⟨[.val t_api_Decimal], [.val .bool], fun x => r11_isMoney x.1⟩

noncomputable def cx_r11_isMoney : Cx := ⟨Tryz.prog, [(56, sp_r11_isIn)]⟩

theorem den_r11_isMoney : ∀ x, denF cx_r11_isMoney anns_r11_isMoney none Tryz.f33 sp_r11_isMoney x = sp_r11_isMoney.m x := by intro x; kernel_rfl

theorem hb_r11_isMoney : HasBody Tryz.prog 33 := has_body (fn := Tryz.f33) (by kernel_rfl) rfl (by decide)

theorem ok_r11_isMoney : FunOk Tryz.prog 33 sp_r11_isMoney := fun_ok (X := cx_r11_isMoney) (.cons ok_r11_isIn hb_r11_isIn (.nil _)) (by kernel_rfl) sp_r11_isMoney anns_r11_isMoney none (by kernel_rfl) (fun x y h => (den_r11_isMoney x).trans h)

def anns_r11_within : List (Nat × Ann) := []

noncomputable def sp_r11_within : FSpec := ⟨[.val tI, .val tI, .val tI], [.val .bool], fun x => r11_within x.1 x.2.1 x.2.2.1⟩

noncomputable def cx_r11_within : Cx := ⟨Tryz.prog, []⟩

theorem den_r11_within : ∀ x, denF cx_r11_within anns_r11_within none Tryz.f34 sp_r11_within x = sp_r11_within.m x := by intro x; kernel_rfl

theorem hb_r11_within : HasBody Tryz.prog 34 := has_body (fn := Tryz.f34) (by kernel_rfl) rfl (by decide)

theorem ok_r11_within : FunOk Tryz.prog 34 sp_r11_within := fun_ok (X := cx_r11_within) (.nil _) (by kernel_rfl) sp_r11_within anns_r11_within none (by kernel_rfl) (fun x y h => (den_r11_within x).trans h)

def anns_r11_CheckDebts : List (Nat × Ann) := [(4, ⟨[(0, .val (.slice t_api_Debt)), (10, .val (.slice t_api_Debt)), (11, .val tI), (12, .val tI)], [], [], fuelOf _⟩),
  (9, ⟨[(0, .val (.slice t_api_Debt)), (3, .val tI), (4, .ref 4 0), (10, .val (.slice t_api_Debt)), (11, .val tI), (12, .val tI), (23, .val (.slice t_api_Debt)), (24, .val tI), (25, .val tI)], [(4, [.val .str, .val tI, .val tI, .val tI, .val tI, .val tI, .val tI])], [], fuelOf _⟩),
  (200004, ⟨[], [], [], fun _ => 0⟩),
  (200009, ⟨[(0, .val (.slice t_api_Debt)), (3, .val tI), (4, .ref 4 0), (10, .val (.slice t_api_Debt)), (11, .val tI), (12, .val tI)], [(4, [.val .str, .val tI, .val tI, .val tI, .val tI, .val tI, .val tI])], [], fun _ => 0⟩)]

noncomputable def sp_r11_CheckDebts : FSpec := ⟨[.val (.slice t_api_Debt)], [.val tI], fun x => r11_CheckDebts x.1⟩

noncomputable def cx_r11_CheckDebts : Cx := ⟨Tryz.prog, [(31, sp_r1_IsName), (32, sp_r1_IsDay), (33, sp_r11_isMoney), (34, sp_r11_within)]⟩

theorem den_r11_CheckDebts : ∀ x, denF cx_r11_CheckDebts anns_r11_CheckDebts none Tryz.f8 sp_r11_CheckDebts x = sp_r11_CheckDebts.m x := by intro x; kernel_rfl

theorem hb_r11_CheckDebts : HasBody Tryz.prog 8 := has_body (fn := Tryz.f8) (by kernel_rfl) rfl (by decide)

theorem ok_r11_CheckDebts : FunOk Tryz.prog 8 sp_r11_CheckDebts := fun_ok (X := cx_r11_CheckDebts) (.cons ok_r1_IsName hb_r1_IsName (.cons ok_r1_IsDay hb_r1_IsDay (.cons ok_r11_isMoney hb_r11_isMoney (.cons ok_r11_within hb_r11_within (.nil _))))) (by kernel_rfl) sp_r11_CheckDebts anns_r11_CheckDebts none (by kernel_rfl) (fun x y h => (den_r11_CheckDebts x).trans h)

def anns_r11_CheckPayments : List (Nat × Ann) := [(4, ⟨[(0, .val (.slice t_api_Payment)), (10, .val (.slice t_api_Payment)), (11, .val tI), (12, .val tI)], [], [], fuelOf _⟩),
  (15, ⟨[(0, .val (.slice t_api_Payment)), (4, .ref 4 0), (10, .val (.slice t_api_Payment)), (11, .val tI), (12, .val tI), (47, .val (.slice .str)), (48, .val tI), (49, .val tI)], [(4, [.val tI, .val tI, .val tI, .val (.slice .str)])], [], fuelOf _⟩),
  (200004, ⟨[], [], [], fun _ => 0⟩),
  (200015, ⟨[(0, .val (.slice t_api_Payment)), (10, .val (.slice t_api_Payment)), (11, .val tI), (12, .val tI)], [], [], fun _ => 0⟩)]

noncomputable def sp_r11_CheckPayments : FSpec := ⟨[.val (.slice t_api_Payment)], [.val tI], fun x => r11_CheckPayments x.1⟩

noncomputable def cx_r11_CheckPayments : Cx := ⟨Tryz.prog, [(31, sp_r1_IsName), (32, sp_r1_IsDay), (33, sp_r11_isMoney), (35, sp_slices_Contains_string)]⟩

theorem den_r11_CheckPayments : ∀ x, denF cx_r11_CheckPayments anns_r11_CheckPayments none Tryz.f10 sp_r11_CheckPayments x = sp_r11_CheckPayments.m x := by intro x; kernel_rfl

theorem hb_r11_CheckPayments : HasBody Tryz.prog 10 := has_body (fn := Tryz.f10) (by kernel_rfl) rfl (by decide)

theorem ok_r11_CheckPayments : FunOk Tryz.prog 10 sp_r11_CheckPayments := fun_ok (X := cx_r11_CheckPayments) (.cons ok_r1_IsName hb_r1_IsName (.cons ok_r1_IsDay hb_r1_IsDay (.cons ok_r11_isMoney hb_r11_isMoney (.cons ok_slices_Contains_string hb_slices_Contains_string (.nil _))))) (by kernel_rfl) sp_r11_CheckPayments anns_r11_CheckPayments none (by kernel_rfl) (fun x y h => (den_r11_CheckPayments x).trans h)

def anns_r11_askPay : List (Nat × Ann) := []

noncomputable def sp_r11_askPay : FSpec := ⟨[.val (.slice t_api_Debt), .val (.slice t_api_Payment)], [.val tI], fun x => r11_askPay x.1 x.2.1⟩

noncomputable def cx_r11_askPay : Cx := ⟨Tryz.prog, [(8, sp_r11_CheckDebts), (10, sp_r11_CheckPayments)]⟩

theorem den_r11_askPay : ∀ x, denF cx_r11_askPay anns_r11_askPay none Tryz.f22 sp_r11_askPay x = sp_r11_askPay.m x := by intro x; kernel_rfl

theorem hb_r11_askPay : HasBody Tryz.prog 22 := has_body (fn := Tryz.f22) (by kernel_rfl) rfl (by decide)

theorem ok_r11_askPay : FunOk Tryz.prog 22 sp_r11_askPay := fun_ok (X := cx_r11_askPay) (.cons ok_r11_CheckDebts hb_r11_CheckDebts (.cons ok_r11_CheckPayments hb_r11_CheckPayments (.nil _))) (by kernel_rfl) sp_r11_askPay anns_r11_askPay none (by kernel_rfl) (fun x y h => (den_r11_askPay x).trans h)

def anns_r11_fine : List (Nat × Ann) := [(3, ⟨[(3, .val tI), (8, .val tI), (9, .val tI)], [], [], fuelOf _⟩),
  (200003, ⟨[(3, .val tI)], [], [], fun _ => 0⟩)]

noncomputable def sp_r11_fine : FSpec := ⟨[.val t_api_Decimal], [.val tI], fun x => r11_fine x.1⟩

noncomputable def cx_r11_fine : Cx := ⟨Tryz.prog, []⟩

theorem den_r11_fine : ∀ x, denF cx_r11_fine anns_r11_fine none Tryz.f40 sp_r11_fine x = sp_r11_fine.m x := by intro x; kernel_rfl

theorem hb_r11_fine : HasBody Tryz.prog 40 := has_body (fn := Tryz.f40) (by kernel_rfl) rfl (by decide)

theorem ok_r11_fine : FunOk Tryz.prog 40 sp_r11_fine := fun_ok (X := cx_r11_fine) (.nil _) (by kernel_rfl) sp_r11_fine anns_r11_fine none (by kernel_rfl) (fun x y h => (den_r11_fine x).trans h)

def anns_r11_account_isThere : List (Nat × Ann) := []

noncomputable def sp_r11_account_isThere : FSpec := ⟨[.val (.ptr t_interchangeref11_account), .val tI, .val tI], [.val .bool], fun x => r11_account_isThere x.1 x.2.1 x.2.2.1⟩

noncomputable def cx_r11_account_isThere : Cx := ⟨Tryz.prog, []⟩

theorem den_r11_account_isThere : ∀ x, denF cx_r11_account_isThere anns_r11_account_isThere none Tryz.f58 sp_r11_account_isThere x = sp_r11_account_isThere.m x := by intro x; kernel_rfl

theorem hb_r11_account_isThere : HasBody Tryz.prog 58 := has_body (fn := Tryz.f58) (by kernel_rfl) rfl (by decide)

theorem ok_r11_account_isThere : FunOk Tryz.prog 58 sp_r11_account_isThere := fun_ok (X := cx_r11_account_isThere) (.nil _) (by kernel_rfl) sp_r11_account_isThere anns_r11_account_isThere none (by kernel_rfl) (fun x y h => (den_r11_account_isThere x).trans h)

def anns_r11_account_owed : List (Nat × Ann) := []

noncomputable def sp_r11_account_owed : FSpec := ⟨[.val (.ptr t_interchangeref11_account), .val tI], [.val tI], fun x => r11_account_owed x.1 x.2.1⟩

noncomputable def cx_r11_account_owed : Cx := ⟨Tryz.prog, [(40, sp_r11_fine)]⟩

theorem den_r11_account_owed : ∀ x, denF cx_r11_account_owed anns_r11_account_owed none Tryz.f59 sp_r11_account_owed x = sp_r11_account_owed.m x := by intro x; kernel_rfl

theorem hb_r11_account_owed : HasBody Tryz.prog 59 := has_body (fn := Tryz.f59) (by kernel_rfl) rfl (by decide)

theorem ok_r11_account_owed : FunOk Tryz.prog 59 sp_r11_account_owed := fun_ok (X := cx_r11_account_owed) (.cons ok_r11_fine hb_r11_fine (.nil _)) (by kernel_rfl) sp_r11_account_owed anns_r11_account_owed none (by kernel_rfl) (fun x y h => (den_r11_account_owed x).trans h)

def anns_r11_account_discount : List (Nat × Ann) := []

noncomputable def sp_r11_account_discount : FSpec := ⟨[.val (.ptr t_interchangeref11_account), .val tI, .val tI], [.val tI], fun x => r11_account_discount x.1 x.2.1 x.2.2.1⟩

noncomputable def cx_r11_account_discount : Cx := ⟨Tryz.prog, [(40, sp_r11_fine), (59, sp_r11_account_owed)]⟩

theorem den_r11_account_discount : ∀ x, denF cx_r11_account_discount anns_r11_account_discount none Tryz.f65 sp_r11_account_discount x = sp_r11_account_discount.m x := by intro x; kernel_rfl

theorem hb_r11_account_discount : HasBody Tryz.prog 65 := has_body (fn := Tryz.f65) (by kernel_rfl) rfl (by decide)

theorem ok_r11_account_discount : FunOk Tryz.prog 65 sp_r11_account_discount := fun_ok (X := cx_r11_account_discount) (.cons ok_r11_fine hb_r11_fine (.cons ok_r11_account_owed hb_r11_account_owed (.nil _))) (by kernel_rfl) sp_r11_account_discount anns_r11_account_discount none (by kernel_rfl) (fun x y h => (den_r11_account_discount x).trans h)

def anns_r11_account_pay : List (Nat × Ann) := []

noncomputable def sp_r11_account_pay : FSpec := ⟨[.box [.val (.slice t_api_Debt), .row 3 tI, .row 3 tI, .row 3 tI, .row 3 tI], .val tI, .val tI, .val tI], [.val tI], fun x => r11_account_pay x.1 x.2.1 x.2.2.1 x.2.2.2.1⟩

noncomputable def cx_r11_account_pay : Cx := ⟨Tryz.prog, [(59, sp_r11_account_owed)]⟩

theorem den_r11_account_pay : ∀ x, denF cx_r11_account_pay anns_r11_account_pay none Tryz.f66 sp_r11_account_pay x = sp_r11_account_pay.m x := by intro x; kernel_rfl

theorem hb_r11_account_pay : HasBody Tryz.prog 66 := has_body (fn := Tryz.f66) (by kernel_rfl) rfl (by decide)

theorem ok_r11_account_pay : FunOk Tryz.prog 66 sp_r11_account_pay := fun_ok (X := cx_r11_account_pay) (.cons ok_r11_account_owed hb_r11_account_owed (.nil _)) (by kernel_rfl) sp_r11_account_pay anns_r11_account_pay none (by kernel_rfl) (fun x y h => (den_r11_account_pay x).trans h)

def anns_r11_account_soonest : List (Nat × Ann) := [(3, ⟨[(0, .ref 2000 0), (3, .own 3 tI), (10, .val (.slice t_api_Debt)), (11, .val tI), (12, .val tI)], [(2000, [.val (.slice t_api_Debt), .rowR 10250002, .rowR 10250003, .rowR 10250004, .rowR 10250005])], [.rowC 10250002 3 tI, .rowC 10250003 3 tI, .rowC 10250004 3 tI, .rowC 10250005 3 tI], fuelOf _⟩),
  (6, ⟨[(0, .ref 2000 0), (3, .own 3 tI), (4, .val tI), (5, .ref 5 0), (6, .val tI), (10, .val (.slice t_api_Debt)), (11, .val tI), (12, .val tI)], [(5, [.val .str, .val tI, .val tI, .val tI, .val tI, .val tI, .val tI]), (2000, [.val (.slice t_api_Debt), .rowR 10250002, .rowR 10250003, .rowR 10250004, .rowR 10250005])], [.rowC 10250002 3 tI, .rowC 10250003 3 tI, .rowC 10250004 3 tI, .rowC 10250005 3 tI], fuelOf _⟩),
  (200003, ⟨[(3, .own 3 tI)], [(2000, [.val (.slice t_api_Debt), .rowR 10250002, .rowR 10250003, .rowR 10250004, .rowR 10250005])], [.rowC 10250002 3 tI, .rowC 10250003 3 tI, .rowC 10250004 3 tI, .rowC 10250005 3 tI], fun _ => 0⟩),
  (200006, ⟨[(0, .ref 2000 0), (3, .own 3 tI), (4, .val tI), (6, .val tI), (10, .val (.slice t_api_Debt)), (11, .val tI), (12, .val tI)], [(2000, [.val (.slice t_api_Debt), .rowR 10250002, .rowR 10250003, .rowR 10250004, .rowR 10250005])], [.rowC 10250002 3 tI, .rowC 10250003 3 tI, .rowC 10250004 3 tI, .rowC 10250005 3 tI], fun _ => 0⟩)]

noncomputable def sp_r11_account_soonest : FSpec := ⟨[.box [.val (.slice t_api_Debt), .row 3 tI, .row 3 tI, .row 3 tI, .row 3 tI]], [.row 3 tI], fun x => r11_account_soonest x.1⟩

noncomputable def cx_r11_account_soonest : Cx := ⟨Tryz.prog, [(85, sp_slices_Insert_int)]⟩

theorem den_r11_account_soonest : ∀ x, denF cx_r11_account_soonest anns_r11_account_soonest none Tryz.f67 sp_r11_account_soonest x = sp_r11_account_soonest.m x := by intro x; kernel_rfl

theorem hb_r11_account_soonest : HasBody Tryz.prog 67 := has_body (fn := Tryz.f67) (by kernel_rfl) rfl (by decide)

theorem ok_r11_account_soonest : FunOk Tryz.prog 67 sp_r11_account_soonest := fun_ok (X := cx_r11_account_soonest) (.cons ok_slices_Insert_int hb_slices_Insert_int (.nil _)) (by kernel_rfl) sp_r11_account_soonest anns_r11_account_soonest none (by kernel_rfl) (fun x y h => (den_r11_account_soonest x).trans h)

def anns_r11_account_come : List (Nat × Ann) := [(3, ⟨[(0, .ref 2000 0), (3, .ref 3 0), (4, .val tI), (17, .val (.slice .str)), (18, .val tI), (19, .val tI)], [(3, [.val tI, .val tI, .val tI, .val (.slice .str)]), (2000, [.val (.slice t_api_Debt), .own 3 tI, .own 3 tI, .own 3 tI, .own 3 tI])], [], fuelOf _⟩),
  (6, ⟨[(0, .ref 2000 0), (3, .ref 3 0), (4, .val tI), (6, .val .str), (17, .val (.slice .str)), (18, .val tI), (19, .val tI), (26, .val (.slice t_api_Debt)), (27, .val tI), (28, .val tI)], [(3, [.val tI, .val tI, .val tI, .val (.slice .str)]), (2000, [.val (.slice t_api_Debt), .own 3 tI, .own 3 tI, .own 3 tI, .own 3 tI])], [], fuelOf _⟩),
  (18, ⟨[(0, .ref 2000 0), (3, .ref 3 0), (4, .val tI), (110, .rowR 236816), (111, .val tI), (112, .val tI)], [(3, [.val tI, .val tI, .val tI, .val (.slice .str)]), (2000, [.val (.slice t_api_Debt), .own 3 tI, .own 3 tI, .own 3 tI, .own 3 tI])], [.rowC 236816 3 tI], fuelOf _⟩),
  (200003, ⟨[(0, .ref 2000 0), (3, .ref 3 0), (4, .val tI)], [(3, [.val tI, .val tI, .val tI, .val (.slice .str)]), (2000, [.val (.slice t_api_Debt), .own 3 tI, .own 3 tI, .own 3 tI, .own 3 tI])], [], fun _ => 0⟩),
  (200006, ⟨[(0, .ref 2000 0), (3, .ref 3 0), (4, .val tI), (17, .val (.slice .str)), (18, .val tI), (19, .val tI)], [(3, [.val tI, .val tI, .val tI, .val (.slice .str)]), (2000, [.val (.slice t_api_Debt), .own 3 tI, .own 3 tI, .own 3 tI, .own 3 tI])], [], fun _ => 0⟩),
  (200018, ⟨[(0, .ref 2000 0), (4, .val tI)], [(2000, [.val (.slice t_api_Debt), .own 3 tI, .own 3 tI, .own 3 tI, .own 3 tI])], [], fun _ => 0⟩)]

noncomputable def sp_r11_account_come : FSpec := ⟨[.box [.val (.slice t_api_Debt), .row 3 tI, .row 3 tI, .row 3 tI, .row 3 tI], .val t_api_Payment], [], fun x => r11_account_come x.1 x.2.1⟩

noncomputable def cx_r11_account_come : Cx := ⟨Tryz.prog, [(40, sp_r11_fine), (58, sp_r11_account_isThere), (59, sp_r11_account_owed), (65, sp_r11_account_discount), (66, sp_r11_account_pay), (67, sp_r11_account_soonest)]⟩

theorem den_r11_account_come : ∀ x, denF cx_r11_account_come anns_r11_account_come none Tryz.f48 sp_r11_account_come x = sp_r11_account_come.m x := by intro x; kernel_rfl

theorem hb_r11_account_come : HasBody Tryz.prog 48 := has_body (fn := Tryz.f48) (by kernel_rfl) rfl (by decide)

theorem ok_r11_account_come : FunOk Tryz.prog 48 sp_r11_account_come := fun_ok (X := cx_r11_account_come) (.cons ok_r11_fine hb_r11_fine (.cons ok_r11_account_isThere hb_r11_account_isThere (.cons ok_r11_account_owed hb_r11_account_owed (.cons ok_r11_account_discount hb_r11_account_discount (.cons ok_r11_account_pay hb_r11_account_pay (.cons ok_r11_account_soonest hb_r11_account_soonest (.nil _))))))) (by kernel_rfl) sp_r11_account_come anns_r11_account_come none (by kernel_rfl) (fun x y h => (den_r11_account_come x).trans h)

def anns_r11_settle : List (Nat × Ann) := [(4, ⟨[(2, .val tI), (8, .ref 21 0), (22, .val (.slice t_api_Payment)), (23, .val tI), (24, .val tI)], [(21, [.val (.slice t_api_Debt), .own 3 tI, .own 3 tI, .own 3 tI, .own 3 tI])], [], fuelOf _⟩),
  (200004, ⟨[(8, .ref 21 0)], [(21, [.val (.slice t_api_Debt), .own 3 tI, .own 3 tI, .own 3 tI, .own 3 tI])], [], fun _ => 0⟩)]

noncomputable def sp_r11_settle : FSpec := ⟨[.val (.slice t_api_Debt), .val (.slice t_api_Payment), .val tI], [.box [.val (.slice t_api_Debt), .row 3 tI, .row 3 tI, .row 3 tI, .row 3 tI]], fun x => r11_settle x.1 x.2.1 x.2.2.1⟩

noncomputable def cx_r11_settle : Cx := ⟨Tryz.prog, [(48, sp_r11_account_come)]⟩

theorem den_r11_settle : ∀ x, denF cx_r11_settle anns_r11_settle none Tryz.f23 sp_r11_settle x = sp_r11_settle.m x := by intro x; kernel_rfl

theorem hb_r11_settle : HasBody Tryz.prog 23 := has_body (fn := Tryz.f23) (by kernel_rfl) rfl (by decide)

theorem ok_r11_settle : FunOk Tryz.prog 23 sp_r11_settle := fun_ok (X := cx_r11_settle) (.cons ok_r11_account_come hb_r11_account_come (.nil _)) (by kernel_rfl) sp_r11_settle anns_r11_settle none (by kernel_rfl) (fun x y h => (den_r11_settle x).trans h)

def anns_r1_Normal : List (Nat × Ann) := [(1, ⟨[(1, .ref 1 0), (2, .ref 2 0)], [(1, [.val tI, .val tI]), (2, [.val tI, .val tI])], [], fuelOf _⟩),
  (200001, ⟨[(1, .ref 1 0), (2, .ref 2 0)], [(1, [.val tI, .val tI]), (2, [.val tI, .val tI])], [], fun _ => 0⟩)]

noncomputable def sp_r1_Normal : FSpec := ⟨[.val t_api_Decimal], [.val t_api_Decimal], fun x => r1_Normal x.1⟩

noncomputable def cx_r1_Normal : Cx := ⟨Tryz.prog, []⟩

theorem den_r1_Normal : ∀ x, denF cx_r1_Normal anns_r1_Normal none Tryz.f49 sp_r1_Normal x = sp_r1_Normal.m x := by intro x; kernel_rfl

theorem hb_r1_Normal : HasBody Tryz.prog 49 := has_body (fn := Tryz.f49) (by kernel_rfl) rfl (by decide)

theorem ok_r1_Normal : FunOk Tryz.prog 49 sp_r1_Normal := fun_ok (X := cx_r1_Normal) (.nil _) (by kernel_rfl) sp_r1_Normal anns_r1_Normal none (by kernel_rfl) (fun x y h => (den_r1_Normal x).trans h)

def anns_r11_coarse : List (Nat × Ann) := []

noncomputable def sp_r11_coarse : FSpec := ⟨[.val tI], [.val t_api_Decimal], fun x => r11_coarse x.1⟩

noncomputable def cx_r11_coarse : Cx := ⟨Tryz.prog, [(49, sp_r1_Normal)]⟩

theorem den_r11_coarse : ∀ x, denF cx_r11_coarse anns_r11_coarse none Tryz.f24 sp_r11_coarse x = sp_r11_coarse.m x := by intro x; kernel_rfl

theorem hb_r11_coarse : HasBody Tryz.prog 24 := has_body (fn := Tryz.f24) (by kernel_rfl) rfl (by decide)

theorem ok_r11_coarse : FunOk Tryz.prog 24 sp_r11_coarse := fun_ok (X := cx_r11_coarse) (.cons ok_r1_Normal hb_r1_Normal (.nil _)) (by kernel_rfl) sp_r11_coarse anns_r11_coarse none (by kernel_rfl) (fun x y h => (den_r11_coarse x).trans h)

def anns_r11_Pay : List (Nat × Ann) := [(7, ⟨[(8, .ref 23 0), (9, .own 35 t_api_Paid), (24, .val (.slice t_api_Debt)), (25, .val tI), (26, .val tI)], [(23, [.val (.slice t_api_Debt), .rowR 58642, .rowR 58643, .rowR 58644, .rowR 58645])], [.rowC 58642 3 tI, .rowC 58643 3 tI, .rowC 58644 3 tI, .rowC 58645 3 tI], fuelOf _⟩),
  (13, ⟨[(9, .own 35 t_api_Paid), (12, .own 33 t_api_Decimal), (64, .rowR 58645), (65, .val tI), (66, .val tI)], [], [.rowC 58645 3 tI], fuelOf _⟩),
  (200007, ⟨[(8, .ref 23 0), (9, .own 35 t_api_Paid)], [(23, [.val (.slice t_api_Debt), .rowR 58642, .rowR 58643, .rowR 58644, .rowR 58645])], [.rowC 58642 3 tI, .rowC 58643 3 tI, .rowC 58644 3 tI, .rowC 58645 3 tI], fun _ => 0⟩),
  (200013, ⟨[(9, .own 35 t_api_Paid), (12, .own 33 t_api_Decimal)], [], [], fun _ => 0⟩)]

noncomputable def sp_r11_Pay : FSpec := ⟨[.val (.slice t_api_Debt), .val (.slice t_api_Payment)], [.val (.slice t_api_Paid), .val (.slice t_api_Decimal), .val tI], fun x => r11_Pay x.1 x.2.1⟩

noncomputable def cx_r11_Pay : Cx := ⟨Tryz.prog, [(22, sp_r11_askPay), (23, sp_r11_settle), (24, sp_r11_coarse)]⟩

theorem den_r11_Pay : ∀ x, denF cx_r11_Pay anns_r11_Pay none Tryz.f6 sp_r11_Pay x = sp_r11_Pay.m x := by intro x; kernel_rfl

theorem hb_r11_Pay : HasBody Tryz.prog 6 := has_body (fn := Tryz.f6) (by kernel_rfl) rfl (by decide)

theorem ok_r11_Pay : FunOk Tryz.prog 6 sp_r11_Pay := fun_ok (X := cx_r11_Pay) (.cons ok_r11_askPay hb_r11_askPay (.cons ok_r11_settle hb_r11_settle (.cons ok_r11_coarse hb_r11_coarse (.nil _)))) (by kernel_rfl) sp_r11_Pay anns_r11_Pay none (by kernel_rfl) (fun x y h => (den_r11_Pay x).trans h)

def anns_slices_Equal_api_Paid : List (Nat × Ann) := [(4, ⟨[(0, .val (.slice t_api_Paid)), (1, .val (.slice t_api_Paid)), (12, .val tI), (13, .val tI)], [], [], fuelOf _⟩),
  (200004, ⟨[], [], [], fun _ => 0⟩)]

noncomputable def sp_slices_Equal_api_Paid : FSpec := ⟨[.val (.slice t_api_Paid), .val (.slice t_api_Paid)], [.val .bool], fun x => slices_Equal_api_Paid x.1 x.2.1⟩

noncomputable def cx_slices_Equal_api_Paid : Cx := ⟨Tryz.prog, []⟩

theorem den_slices_Equal_api_Paid : ∀ x, denF cx_slices_Equal_api_Paid anns_slices_Equal_api_Paid none Tryz.f11 sp_slices_Equal_api_Paid x = sp_slices_Equal_api_Paid.m x := by intro x; kernel_rfl

theorem hb_slices_Equal_api_Paid : HasBody Tryz.prog 11 := has_body (fn := Tryz.f11) (by kernel_rfl) rfl (by decide)

theorem ok_slices_Equal_api_Paid : FunOk Tryz.prog 11 sp_slices_Equal_api_Paid := fun_ok (X := cx_slices_Equal_api_Paid) (.nil _) (by kernel_rfl) sp_slices_Equal_api_Paid anns_slices_Equal_api_Paid none (by kernel_rfl) (fun x y h => (den_slices_Equal_api_Paid x).trans h)

def anns_slices_Equal_api_Decimal : List (Nat × Ann) := [(4, ⟨[(0, .val (.slice t_api_Decimal)), (1, .val (.slice t_api_Decimal)), (12, .val tI), (13, .val tI)], [], [], fuelOf _⟩),
  (200004, ⟨[], [], [], fun _ => 0⟩)]

noncomputable def sp_slices_Equal_api_Decimal : FSpec := ⟨[.val (.slice t_api_Decimal), .val (.slice t_api_Decimal)], [.val .bool], fun x => slices_Equal_api_Decimal x.1 x.2.1⟩

noncomputable def cx_slices_Equal_api_Decimal : Cx := ⟨Tryz.prog, []⟩

theorem den_slices_Equal_api_Decimal : ∀ x, denF cx_slices_Equal_api_Decimal anns_slices_Equal_api_Decimal none Tryz.f12 sp_slices_Equal_api_Decimal x = sp_slices_Equal_api_Decimal.m x := by intro x; kernel_rfl

theorem hb_slices_Equal_api_Decimal : HasBody Tryz.prog 12 := has_body (fn := Tryz.f12) (by kernel_rfl) rfl (by decide)

theorem ok_slices_Equal_api_Decimal : FunOk Tryz.prog 12 sp_slices_Equal_api_Decimal := fun_ok (X := cx_slices_Equal_api_Decimal) (.nil _) (by kernel_rfl) sp_slices_Equal_api_Decimal anns_slices_Equal_api_Decimal none (by kernel_rfl) (fun x y h => (den_slices_Equal_api_Decimal x).trans h)

def anns_l11_awake : List (Nat × Ann) := []

noncomputable def sp_l11_awake : FSpec := ⟨[], [.val .bool], fun x => l11_awake ⟩

noncomputable def cx_l11_awake : Cx := ⟨Tryz.prog, [(5, sp_bill_Pay)]⟩

theorem den_l11_awake : ∀ x, denF cx_l11_awake anns_l11_awake none Tryz.f13 sp_l11_awake x = sp_l11_awake.m x := by intro x; kernel_rfl

theorem hb_l11_awake : HasBody Tryz.prog 13 := has_body (fn := Tryz.f13) (by kernel_rfl) rfl (by decide)

theorem ok_l11_awake : FunOk Tryz.prog 13 sp_l11_awake := fun_ok (X := cx_l11_awake) (.cons ok_bill_Pay hb_bill_Pay (.nil _)) (by kernel_rfl) sp_l11_awake anns_l11_awake none (by kernel_rfl) (fun x y h => (den_l11_awake x).trans h)

def anns_l11_BillPaysMatchSpec : List (Nat × Ann) := []

noncomputable def sp_l11_BillPaysMatchSpec : FSpec := ⟨[.val (.slice t_api_Debt), .val (.slice t_api_Payment)], [.val .bool], fun x => l11_BillPaysMatchSpec x.1 x.2.1⟩

noncomputable def cx_l11_BillPaysMatchSpec : Cx := ⟨Tryz.prog, [(5, sp_bill_Pay), (6, sp_r11_Pay), (7, sp_bill_CheckDebts), (8, sp_r11_CheckDebts), (9, sp_bill_CheckPayments), (10, sp_r11_CheckPayments), (11, sp_slices_Equal_api_Paid), (12, sp_slices_Equal_api_Decimal), (13, sp_l11_awake)]⟩

theorem den_l11_BillPaysMatchSpec : ∀ x, denF cx_l11_BillPaysMatchSpec anns_l11_BillPaysMatchSpec none Tryz.f3 sp_l11_BillPaysMatchSpec x = sp_l11_BillPaysMatchSpec.m x := by intro x; kernel_rfl

theorem hb_l11_BillPaysMatchSpec : HasBody Tryz.prog 3 := has_body (fn := Tryz.f3) (by kernel_rfl) rfl (by decide)

theorem ok_l11_BillPaysMatchSpec : FunOk Tryz.prog 3 sp_l11_BillPaysMatchSpec := fun_ok (X := cx_l11_BillPaysMatchSpec) (.cons ok_bill_Pay hb_bill_Pay (.cons ok_r11_Pay hb_r11_Pay (.cons ok_bill_CheckDebts hb_bill_CheckDebts (.cons ok_r11_CheckDebts hb_r11_CheckDebts (.cons ok_bill_CheckPayments hb_bill_CheckPayments (.cons ok_r11_CheckPayments hb_r11_CheckPayments (.cons ok_slices_Equal_api_Paid hb_slices_Equal_api_Paid (.cons ok_slices_Equal_api_Decimal hb_slices_Equal_api_Decimal (.cons ok_l11_awake hb_l11_awake (.nil _)))))))))) (by kernel_rfl) sp_l11_BillPaysMatchSpec anns_l11_BillPaysMatchSpec none (by kernel_rfl) (fun x y h => (den_l11_BillPaysMatchSpec x).trans h)

def anns_bill_debt_late : List (Nat × Ann) := []

noncomputable def sp_bill_debt_late : FSpec := ⟨[.val .hnd, .val tI, .arR t_bill_debt], [.val tI], fun x => bill_debt_late x.1 x.2.1 x.2.2.1⟩

noncomputable def cx_bill_debt_late : Cx := ⟨Tryz.prog, [(45, sp_bill_debt_last)]⟩

theorem den_bill_debt_late : ∀ x, denF cx_bill_debt_late anns_bill_debt_late none Tryz.f37 sp_bill_debt_late x = sp_bill_debt_late.m x := by intro x; kernel_rfl

theorem hb_bill_debt_late : HasBody Tryz.prog 37 := has_body (fn := Tryz.f37) (by kernel_rfl) rfl (by decide)

theorem ok_bill_debt_late : FunOk Tryz.prog 37 sp_bill_debt_late := fun_ok (X := cx_bill_debt_late) (.cons ok_bill_debt_last hb_bill_debt_last (.nil _)) (by kernel_rfl) sp_bill_debt_late anns_bill_debt_late none (by kernel_rfl) (fun x y h => (den_bill_debt_late x).trans h)

def anns_bill_OpenAt : List (Nat × Ann) := [(9, ⟨[(2, .val tI), (11, .own 45 t_api_Owed), (30, .val (.slice .hnd)), (31, .val tI), (32, .val tI)], [], [.ar t_bill_debt], fuelOf _⟩),
  (200009, ⟨[(11, .own 45 t_api_Owed)], [], [.ar t_bill_debt], fun _ => 0⟩)]

noncomputable def sp_bill_OpenAt : FSpec := ⟨[.val (.slice t_api_Debt), .val (.slice t_api_Payment), .val tI], [.val (.slice t_api_Owed), .val tI], fun x => bill_OpenAt x.1 x.2.1 x.2.2.1⟩

noncomputable def cx_bill_OpenAt : Cx := ⟨Tryz.prog, [(19, sp_bill_bothFault), (20, sp_bill_payments), (21, sp_bill_toldMoney), (28, sp_kit_IsDay), (36, sp_bill_debt_there), (37, sp_bill_debt_late)]⟩

theorem den_bill_OpenAt : ∀ x, denF cx_bill_OpenAt anns_bill_OpenAt (some t_bill_debt) Tryz.f14 sp_bill_OpenAt x = sp_bill_OpenAt.m x := by intro x; kernel_rfl

theorem hb_bill_OpenAt : HasBody Tryz.prog 14 := has_body (fn := Tryz.f14) (by kernel_rfl) rfl (by decide)

theorem ok_bill_OpenAt : FunOk Tryz.prog 14 sp_bill_OpenAt := fun_ok (X := cx_bill_OpenAt) (.cons ok_bill_bothFault hb_bill_bothFault (.cons ok_bill_payments hb_bill_payments (.cons ok_bill_toldMoney hb_bill_toldMoney (.cons ok_kit_IsDay hb_kit_IsDay (.cons ok_bill_debt_there hb_bill_debt_there (.cons ok_bill_debt_late hb_bill_debt_late (.nil _))))))) (by kernel_rfl) sp_bill_OpenAt anns_bill_OpenAt (some t_bill_debt) (by kernel_rfl) (fun x y h => (den_bill_OpenAt x).trans h)

def anns_r11_owing : List (Nat × Ann) := [(4, ⟨[(2, .val tI), (7, .ref 14 0), (8, .own 45 t_api_Owed), (15, .val (.slice t_api_Debt)), (16, .val tI), (17, .val tI)], [(14, [.val (.slice t_api_Debt), .rowR 40210, .rowR 40211, .rowR 40212, .rowR 40213])], [.rowC 40210 3 tI, .rowC 40211 3 tI, .rowC 40212 3 tI, .rowC 40213 3 tI], fuelOf _⟩),
  (200004, ⟨[(8, .own 45 t_api_Owed)], [], [], fun _ => 0⟩)]

noncomputable def sp_r11_owing : FSpec := ⟨[.val (.slice t_api_Debt), .val (.slice t_api_Payment), .val tI], [.val (.slice t_api_Owed)], fun x => r11_owing x.1 x.2.1 x.2.2.1⟩

noncomputable def cx_r11_owing : Cx := ⟨Tryz.prog, [(23, sp_r11_settle), (24, sp_r11_coarse), (58, sp_r11_account_isThere), (59, sp_r11_account_owed)]⟩

theorem den_r11_owing : ∀ x, denF cx_r11_owing anns_r11_owing none Tryz.f38 sp_r11_owing x = sp_r11_owing.m x := by intro x; kernel_rfl

theorem hb_r11_owing : HasBody Tryz.prog 38 := has_body (fn := Tryz.f38) (by kernel_rfl) rfl (by decide)

theorem ok_r11_owing : FunOk Tryz.prog 38 sp_r11_owing := fun_ok (X := cx_r11_owing) (.cons ok_r11_settle hb_r11_settle (.cons ok_r11_coarse hb_r11_coarse (.cons ok_r11_account_isThere hb_r11_account_isThere (.cons ok_r11_account_owed hb_r11_account_owed (.nil _))))) (by kernel_rfl) sp_r11_owing anns_r11_owing none (by kernel_rfl) (fun x y h => (den_r11_owing x).trans h)

def anns_r11_OpenAt : List (Nat × Ann) := []

noncomputable def sp_r11_OpenAt : FSpec := ⟨[.val (.slice t_api_Debt), .val (.slice t_api_Payment), .val tI], [.val (.slice t_api_Owed), .val tI], fun x => r11_OpenAt x.1 x.2.1 x.2.2.1⟩

noncomputable def cx_r11_OpenAt : Cx := ⟨Tryz.prog, [(22, sp_r11_askPay), (32, sp_r1_IsDay), (38, sp_r11_owing)]⟩

theorem den_r11_OpenAt : ∀ x, denF cx_r11_OpenAt anns_r11_OpenAt none Tryz.f15 sp_r11_OpenAt x = sp_r11_OpenAt.m x := by intro x; kernel_rfl

theorem hb_r11_OpenAt : HasBody Tryz.prog 15 := has_body (fn := Tryz.f15) (by kernel_rfl) rfl (by decide)

theorem ok_r11_OpenAt : FunOk Tryz.prog 15 sp_r11_OpenAt := fun_ok (X := cx_r11_OpenAt) (.cons ok_r11_askPay hb_r11_askPay (.cons ok_r1_IsDay hb_r1_IsDay (.cons ok_r11_owing hb_r11_owing (.nil _)))) (by kernel_rfl) sp_r11_OpenAt anns_r11_OpenAt none (by kernel_rfl) (fun x y h => (den_r11_OpenAt x).trans h)

def anns_slices_Equal_api_Owed : List (Nat × Ann) := [(4, ⟨[(0, .val (.slice t_api_Owed)), (1, .val (.slice t_api_Owed)), (12, .val tI), (13, .val tI)], [], [], fuelOf _⟩),
  (200004, ⟨[], [], [], fun _ => 0⟩)]

noncomputable def sp_slices_Equal_api_Owed : FSpec := ⟨[.val (.slice t_api_Owed), .val (.slice t_api_Owed)], [.val .bool], fun x => slices_Equal_api_Owed x.1 x.2.1⟩

noncomputable def cx_slices_Equal_api_Owed : Cx := ⟨Tryz.prog, []⟩

theorem den_slices_Equal_api_Owed : ∀ x, denF cx_slices_Equal_api_Owed anns_slices_Equal_api_Owed none Tryz.f16 sp_slices_Equal_api_Owed x = sp_slices_Equal_api_Owed.m x := by intro x; kernel_rfl

theorem hb_slices_Equal_api_Owed : HasBody Tryz.prog 16 := has_body (fn := Tryz.f16) (by kernel_rfl) rfl (by decide)

theorem ok_slices_Equal_api_Owed : FunOk Tryz.prog 16 sp_slices_Equal_api_Owed := fun_ok (X := cx_slices_Equal_api_Owed) (.nil _) (by kernel_rfl) sp_slices_Equal_api_Owed anns_slices_Equal_api_Owed none (by kernel_rfl) (fun x y h => (den_slices_Equal_api_Owed x).trans h)

def anns_bill_Ages : List (Nat × Ann) := [(9, ⟨[(0, .val (.slice t_api_Debt)), (1, .val (.slice t_api_Payment)), (2, .val tI), (3, .val (.slice tI)), (36, .val (.slice tI)), (37, .val tI), (38, .val tI)], [], [.ar t_bill_debt], fuelOf _⟩),
  (19, ⟨[(2, .val tI), (3, .val (.slice tI)), (15, .rowR 68), (69, .val (.slice .hnd)), (70, .val tI), (71, .val tI)], [], [.rowC 68 3 tI, .ar t_bill_debt], fuelOf _⟩),
  (23, ⟨[(2, .val tI), (3, .val (.slice tI)), (15, .rowR 68), (17, .val .hnd), (18, .val tI), (69, .val (.slice .hnd)), (70, .val tI), (71, .val tI)], [], [.rowC 68 3 tI, .ar t_bill_debt], fuelOf _⟩),
  (29, ⟨[(19, .own 33 t_api_Decimal), (106, .rowR 68), (107, .val tI), (108, .val tI)], [], [.rowC 68 3 tI, .ar t_bill_debt], fuelOf _⟩),
  (200009, ⟨[(0, .val (.slice t_api_Debt)), (1, .val (.slice t_api_Payment)), (2, .val tI), (3, .val (.slice tI))], [], [.ar t_bill_debt], fun _ => 0⟩),
  (200019, ⟨[(15, .rowR 68)], [], [.rowC 68 3 tI, .ar t_bill_debt], fun _ => 0⟩),
  (200023, ⟨[(2, .val tI), (3, .val (.slice tI)), (15, .rowR 68), (17, .val .hnd), (18, .val tI), (69, .val (.slice .hnd)), (70, .val tI), (71, .val tI)], [], [.rowC 68 3 tI, .ar t_bill_debt], fun _ => 0⟩),
  (200029, ⟨[(19, .own 33 t_api_Decimal)], [], [.ar t_bill_debt], fun _ => 0⟩)]

noncomputable def sp_bill_Ages : FSpec := ⟨[.val (.slice t_api_Debt), .val (.slice t_api_Payment), .val tI, .val (.slice tI)], [.val (.slice t_api_Decimal), .val tI], fun x => bill_Ages x.1 x.2.1 x.2.2.1 x.2.2.2.1⟩

noncomputable def cx_bill_Ages : Cx := ⟨Tryz.prog, [(19, sp_bill_bothFault), (20, sp_bill_payments), (28, sp_kit_IsDay), (36, sp_bill_debt_there), (37, sp_bill_debt_late), (39, sp_bill_money)]⟩

theorem den_bill_Ages : ∀ x, denF cx_bill_Ages anns_bill_Ages (some t_bill_debt) Tryz.f17 sp_bill_Ages x = sp_bill_Ages.m x := by intro x; kernel_rfl

theorem hb_bill_Ages : HasBody Tryz.prog 17 := has_body (fn := Tryz.f17) (by kernel_rfl) rfl (by decide)

theorem ok_bill_Ages : FunOk Tryz.prog 17 sp_bill_Ages := fun_ok (X := cx_bill_Ages) (.cons ok_bill_bothFault hb_bill_bothFault (.cons ok_bill_payments hb_bill_payments (.cons ok_kit_IsDay hb_kit_IsDay (.cons ok_bill_debt_there hb_bill_debt_there (.cons ok_bill_debt_late hb_bill_debt_late (.cons ok_bill_money hb_bill_money (.nil _))))))) (by kernel_rfl) sp_bill_Ages anns_bill_Ages (some t_bill_debt) (by kernel_rfl) (fun x y h => (den_bill_Ages x).trans h)

def anns_r11_Ages : List (Nat × Ann) := [(9, ⟨[(0, .val (.slice t_api_Debt)), (1, .val (.slice t_api_Payment)), (2, .val tI), (3, .val (.slice tI)), (33, .val (.slice tI)), (34, .val tI), (35, .val tI)], [], [], fuelOf _⟩),
  (18, ⟨[(3, .val (.slice tI)), (13, .rowR 58), (62, .val (.slice t_api_Owed)), (63, .val tI), (64, .val tI)], [], [.rowC 58 3 tI], fuelOf _⟩),
  (21, ⟨[(3, .val (.slice tI)), (13, .rowR 58), (15, .ref 15 0), (16, .val tI), (62, .val (.slice t_api_Owed)), (63, .val tI), (64, .val tI)], [(15, [.val .str, .val tI, .val tI, .val tI])], [.rowC 58 3 tI], fuelOf _⟩),
  (27, ⟨[(17, .own 33 t_api_Decimal), (93, .rowR 58), (94, .val tI), (95, .val tI)], [], [.rowC 58 3 tI], fuelOf _⟩),
  (200009, ⟨[(0, .val (.slice t_api_Debt)), (1, .val (.slice t_api_Payment)), (2, .val tI), (3, .val (.slice tI))], [], [], fun _ => 0⟩),
  (200018, ⟨[(13, .rowR 58)], [], [.rowC 58 3 tI], fun _ => 0⟩),
  (200021, ⟨[(3, .val (.slice tI)), (13, .rowR 58), (15, .ref 15 0), (16, .val tI), (62, .val (.slice t_api_Owed)), (63, .val tI), (64, .val tI)], [(15, [.val .str, .val tI, .val tI, .val tI])], [.rowC 58 3 tI], fun _ => 0⟩),
  (200027, ⟨[(17, .own 33 t_api_Decimal)], [], [], fun _ => 0⟩)]

noncomputable def sp_r11_Ages : FSpec := ⟨[.val (.slice t_api_Debt), .val (.slice t_api_Payment), .val tI, .val (.slice tI)], [.val (.slice t_api_Decimal), .val tI], fun x => r11_Ages x.1 x.2.1 x.2.2.1 x.2.2.2.1⟩

noncomputable def cx_r11_Ages : Cx := ⟨Tryz.prog, [(22, sp_r11_askPay), (24, sp_r11_coarse), (32, sp_r1_IsDay), (38, sp_r11_owing), (40, sp_r11_fine)]⟩

theorem den_r11_Ages : ∀ x, denF cx_r11_Ages anns_r11_Ages none Tryz.f18 sp_r11_Ages x = sp_r11_Ages.m x := by intro x; kernel_rfl

theorem hb_r11_Ages : HasBody Tryz.prog 18 := has_body (fn := Tryz.f18) (by kernel_rfl) rfl (by decide)

theorem ok_r11_Ages : FunOk Tryz.prog 18 sp_r11_Ages := fun_ok (X := cx_r11_Ages) (.cons ok_r11_askPay hb_r11_askPay (.cons ok_r11_coarse hb_r11_coarse (.cons ok_r1_IsDay hb_r1_IsDay (.cons ok_r11_owing hb_r11_owing (.cons ok_r11_fine hb_r11_fine (.nil _)))))) (by kernel_rfl) sp_r11_Ages anns_r11_Ages none (by kernel_rfl) (fun x y h => (den_r11_Ages x).trans h)

def anns_l11_BillAgesMatchSpec : List (Nat × Ann) := []

noncomputable def sp_l11_BillAgesMatchSpec : FSpec := ⟨[.val (.slice t_api_Debt), .val (.slice t_api_Payment), .val tI, .val (.slice tI)], [.val .bool], fun x => l11_BillAgesMatchSpec x.1 x.2.1 x.2.2.1 x.2.2.2.1⟩

noncomputable def cx_l11_BillAgesMatchSpec : Cx := ⟨Tryz.prog, [(12, sp_slices_Equal_api_Decimal), (13, sp_l11_awake), (14, sp_bill_OpenAt), (15, sp_r11_OpenAt), (16, sp_slices_Equal_api_Owed), (17, sp_bill_Ages), (18, sp_r11_Ages)]⟩

theorem den_l11_BillAgesMatchSpec : ∀ x, denF cx_l11_BillAgesMatchSpec anns_l11_BillAgesMatchSpec none Tryz.f4 sp_l11_BillAgesMatchSpec x = sp_l11_BillAgesMatchSpec.m x := by intro x; kernel_rfl

theorem hb_l11_BillAgesMatchSpec : HasBody Tryz.prog 4 := has_body (fn := Tryz.f4) (by kernel_rfl) rfl (by decide)

theorem ok_l11_BillAgesMatchSpec : FunOk Tryz.prog 4 sp_l11_BillAgesMatchSpec := fun_ok (X := cx_l11_BillAgesMatchSpec) (.cons ok_slices_Equal_api_Decimal hb_slices_Equal_api_Decimal (.cons ok_l11_awake hb_l11_awake (.cons ok_bill_OpenAt hb_bill_OpenAt (.cons ok_r11_OpenAt hb_r11_OpenAt (.cons ok_slices_Equal_api_Owed hb_slices_Equal_api_Owed (.cons ok_bill_Ages hb_bill_Ages (.cons ok_r11_Ages hb_r11_Ages (.nil _)))))))) (by kernel_rfl) sp_l11_BillAgesMatchSpec anns_l11_BillAgesMatchSpec none (by kernel_rfl) (fun x y h => (den_l11_BillAgesMatchSpec x).trans h)

end Go.Proofs.SeatZ
