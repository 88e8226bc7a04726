/-
  Each function that the law reaches is as its plain model says. No condition.
-/
import Derived.Test.YtjicgbeloldheaaDoorMd
import Derived.Test.YtjicgbeloldheaaDoorProg
import Derived.Ground.NamesProg
import Derived.Shelf.Strings.SlTrimAscii
set_option linter.all false
namespace Go.Proofs
open Go.Shelf
def Tryd.lays160_ren : Go.Shelf.Ren := ⟨fun | 160 => 55 | 232 => 68 | 231 => 67 | 227 => 69 | 234 => 71 | 233 => 70 | 236 => 73 | 235 => 72 | 228 => 75 | 271 => 78 | 151 => 77 | 197 => 76 | 120 => 82 | 152 => 81 | 260 => 80 | 137 => 83 | 119 => 84 | 224 => 85 | 225 => 86 | 217 => 87 | 266 => 88 | n => n, fun | 9 => 9 | 4 => 4 | 3 => 3 | 5 => 5 | 117 => 115 | 116 => 114 | 0 => 0 | 124 => 118 | 21 => 21 | 105 => 120 | 46 => 100 | 119 => 124 | 139 => 127 | 138 => 126 | n => n, fun | 3 => 0 | 4 => 1 | n => n⟩
theorem Tryd.lays160 : Go.Proofs.Lays.n160 Tryd.prog Tryd.lays160_ren := {
  mixed := by kernel_rfl
  f119 := Tryd.func84.trans (congrArg some (by kernel_rfl))
  f120 := Tryd.func82.trans (congrArg some (by kernel_rfl))
  f137 := Tryd.func83.trans (congrArg some (by kernel_rfl))
  f151 := Tryd.func77.trans (congrArg some (by kernel_rfl))
  f152 := Tryd.func81.trans (congrArg some (by kernel_rfl))
  f160 := Tryd.func55.trans (congrArg some (by kernel_rfl))
  f197 := Tryd.func76.trans (congrArg some (by kernel_rfl))
  f217 := Tryd.func87.trans (congrArg some (by kernel_rfl))
  f224 := Tryd.func85.trans (congrArg some (by kernel_rfl))
  f225 := Tryd.func86.trans (congrArg some (by kernel_rfl))
  f227 := Tryd.func69.trans (congrArg some (by kernel_rfl))
  f228 := Tryd.func75.trans (congrArg some (by kernel_rfl))
  f231 := Tryd.func67.trans (congrArg some (by kernel_rfl))
  f232 := Tryd.func68.trans (congrArg some (by kernel_rfl))
  f233 := Tryd.func70.trans (congrArg some (by kernel_rfl))
  f234 := Tryd.func71.trans (congrArg some (by kernel_rfl))
  f235 := Tryd.func72.trans (congrArg some (by kernel_rfl))
  f236 := Tryd.func73.trans (congrArg some (by kernel_rfl))
  f260 := Tryd.func80.trans (congrArg some (by kernel_rfl))
  f266 := Tryd.func88.trans (congrArg some (by kernel_rfl))
  f271 := Tryd.func78.trans (congrArg some (by kernel_rfl))
  t0 := Tryd.underlying0
  a0 := Tryd.isAgg0
  z0 := Tryd.sizeOf0
  v0 := Tryd.zeroValue0
  t3 := Tryd.underlying3
  a3 := Tryd.isAgg3
  z3 := Tryd.sizeOf3
  v3 := Tryd.zeroValue3
  t4 := Tryd.underlying4
  a4 := Tryd.isAgg4
  z4 := Tryd.sizeOf4
  v4 := Tryd.zeroValue4
  t5 := Tryd.underlying5
  a5 := Tryd.isAgg5
  z5 := Tryd.sizeOf5
  v5 := Tryd.zeroValue5
  t9 := Tryd.underlying9
  a9 := Tryd.isAgg9
  z9 := Tryd.sizeOf9
  v9 := Tryd.zeroValue9
  t21 := Tryd.underlying21
  a21 := Tryd.isAgg21
  z21 := Tryd.sizeOf21
  v21 := Tryd.zeroValue21
  t46 := Tryd.underlying100
  a46 := Tryd.isAgg100
  z46 := Tryd.sizeOf100
  v46 := Tryd.zeroValue100
  t105 := Tryd.underlying120
  a105 := Tryd.isAgg120
  z105 := Tryd.sizeOf120
  v105 := Tryd.zeroValue120
  t116 := Tryd.underlying114
  a116 := Tryd.isAgg114
  z116 := Tryd.sizeOf114
  t117 := Tryd.underlying115
  a117 := Tryd.isAgg115
  z117 := Tryd.sizeOf115
  v117 := Tryd.zeroValue115
  t119 := Tryd.underlying124
  a119 := Tryd.isAgg124
  z119 := Tryd.sizeOf124
  t124 := Tryd.underlying118
  a124 := Tryd.isAgg118
  z124 := Tryd.sizeOf118
  v124 := Tryd.zeroValue118
  t138 := Tryd.underlying126
  a138 := Tryd.isAgg126
  z138 := Tryd.sizeOf126
  v138 := Tryd.zeroValue126
  t139 := Tryd.underlying127
  a139 := Tryd.isAgg127
  z139 := Tryd.sizeOf127
  v139 := Tryd.zeroValue127
  g3 := by kernel_rfl
  g4 := by kernel_rfl }
end Go.Proofs

namespace Go.Proofs.SeatD
open Go.Dn Go.Md Go.Proofs Go.RowKit Go.Shelf Go.Lib

def sp_strings_Trim : FSpec := ⟨[.val .str, .val .str], [.val .str], fun x => strings_Trim x.1 x.2.1⟩
theorem hb_strings_Trim : HasBody Tryd.prog 55 := has_body (fn := Tryd.f55) (by kernel_rfl) rfl (by decide)
theorem ok_strings_Trim : FunOk Tryd.prog 55 sp_strings_Trim := by
  intro G w ow args x y hG how ha hm
  refine fun_ok_str2 (P := Tryd.prog) (f := 55) (m := sp_strings_Trim.m) ?_ G w ow args x y hG how ha hm
  intro s c r w hm
  replace hm : strings_Trim s c = some (r, ()) := hm
  unfold strings_Trim at hm
  cases hb : (decide (s.length ≤ 9223372036854775807) && (decide (c.length < 4294967281) && c.all fun b => decide (b.toNat < 128))) with
  | false => rw [hb] at hm; cases hm
  | true =>
    rw [hb] at hm
    simp only [cond_true, Option.some.injEq, Prod.mk.injEq, and_true] at hm
    subst hm
    simp only [Bool.and_eq_true, decide_eq_true_eq, List.all_eq_true] at hb
    have := Any.strings_Trim_laid Tryd.lays160 (by kernel_rfl) (bs s) (bs c) w (by simpa [bs, ByteArray.size] using hb.1) (by simpa [bs, ByteArray.size] using hb.2.1) (fun j b hj => hb.2.2 b (List.mem_of_getElem? (by simpa [bs] using hj)))
    change Calls Tryd.prog 55 _ _ _ at this
    simpa [bs] using this

end Go.Proofs.SeatD

set_option maxRecDepth 100000
namespace Go.Proofs.SeatD
open Go.Dn Go.Md Go.Proofs

def anns_kit_IsName : List (Nat × Ann) := []

noncomputable def sp_kit_IsName : FSpec := ⟨[.val .str], [.val .bool], fun x => kit_IsName x.1⟩

noncomputable def cx_kit_IsName : Cx := ⟨Tryd.prog, [(55, sp_strings_Trim)]⟩

theorem den_kit_IsName : ∀ x, denF cx_kit_IsName anns_kit_IsName none Tryd.f39 sp_kit_IsName x = sp_kit_IsName.m x := by intro x; kernel_rfl

theorem hb_kit_IsName : HasBody Tryd.prog 39 := has_body (fn := Tryd.f39) (by kernel_rfl) rfl (by decide)

theorem ok_kit_IsName : FunOk Tryd.prog 39 sp_kit_IsName := fun_ok (X := cx_kit_IsName) (.cons ok_strings_Trim hb_strings_Trim (.nil _)) (by kernel_rfl) sp_kit_IsName anns_kit_IsName none (by kernel_rfl) (fun x y h => (den_kit_IsName x).trans h)

def anns_bill_CheckDebts_1 : List (Nat × Ann) := []

noncomputable def sp_bill_CheckDebts_1 : FSpec := ⟨[.val t_api_Debt, .val (.ptr t_api_Debt)], [.val .bool], fun x => bill_CheckDebts_1 x.1 x.2.1⟩

noncomputable def cx_bill_CheckDebts_1 : Cx := ⟨Tryd.prog, []⟩

theorem den_bill_CheckDebts_1 : ∀ x, denF cx_bill_CheckDebts_1 anns_bill_CheckDebts_1 none Tryd.f41 sp_bill_CheckDebts_1 x = sp_bill_CheckDebts_1.m x := by intro x; kernel_rfl

theorem hb_bill_CheckDebts_1 : HasBody Tryd.prog 41 := has_body (fn := Tryd.f41) (by kernel_rfl) rfl (by decide)

theorem ok_bill_CheckDebts_1 : FunOk Tryd.prog 41 sp_bill_CheckDebts_1 := fun_ok (X := cx_bill_CheckDebts_1) (.nil _) (by kernel_rfl) sp_bill_CheckDebts_1 anns_bill_CheckDebts_1 none (by kernel_rfl) (fun x y h => (den_bill_CheckDebts_1 x).trans h)

def anns_slices_IndexFunc_api_Debt : List (Nat × Ann) := [(2, ⟨[(0, .val (.slice t_api_Debt)), (1, .val (.clo 41 (.ptr t_api_Debt))), (7, .val tI), (8, .val tI)], [], [], fuelOf _⟩),
  (200002, ⟨[], [], [], fun _ => 0⟩)]

noncomputable def sp_slices_IndexFunc_api_Debt : FSpec := ⟨[.val (.slice t_api_Debt), .val (.clo 41 (.ptr t_api_Debt))], [.val tI], fun x => slices_IndexFunc_api_Debt x.1 x.2.1⟩

noncomputable def cx_slices_IndexFunc_api_Debt : Cx := ⟨Tryd.prog, [(41, sp_bill_CheckDebts_1)]⟩

theorem den_slices_IndexFunc_api_Debt : ∀ x, denF cx_slices_IndexFunc_api_Debt anns_slices_IndexFunc_api_Debt none Tryd.f56 sp_slices_IndexFunc_api_Debt x = sp_slices_IndexFunc_api_Debt.m x := by intro x; kernel_rfl

theorem hb_slices_IndexFunc_api_Debt : HasBody Tryd.prog 56 := has_body (fn := Tryd.f56) (by kernel_rfl) rfl (by decide)

theorem ok_slices_IndexFunc_api_Debt : FunOk Tryd.prog 56 sp_slices_IndexFunc_api_Debt := fun_ok (X := cx_slices_IndexFunc_api_Debt) (.cons ok_bill_CheckDebts_1 hb_bill_CheckDebts_1 (.nil _)) (by kernel_rfl) sp_slices_IndexFunc_api_Debt anns_slices_IndexFunc_api_Debt none (by kernel_rfl) (fun x y h => (den_slices_IndexFunc_api_Debt x).trans h)

def anns_slices_ContainsFunc_api_Debt : List (Nat × Ann) := []

noncomputable def sp_slices_ContainsFunc_api_Debt : FSpec := ⟨[.val (.slice t_api_Debt), .val (.clo 41 (.ptr t_api_Debt))], [.val .bool], fun x => slices_ContainsFunc_api_Debt x.1 x.2.1⟩

noncomputable def cx_slices_ContainsFunc_api_Debt : Cx := ⟨Tryd.prog, [(56, sp_slices_IndexFunc_api_Debt)]⟩

theorem den_slices_ContainsFunc_api_Debt : ∀ x, denF cx_slices_ContainsFunc_api_Debt anns_slices_ContainsFunc_api_Debt none Tryd.f40 sp_slices_ContainsFunc_api_Debt x = sp_slices_ContainsFunc_api_Debt.m x := by intro x; kernel_rfl

theorem hb_slices_ContainsFunc_api_Debt : HasBody Tryd.prog 40 := has_body (fn := Tryd.f40) (by kernel_rfl) rfl (by decide)

theorem ok_slices_ContainsFunc_api_Debt : FunOk Tryd.prog 40 sp_slices_ContainsFunc_api_Debt := fun_ok (X := cx_slices_ContainsFunc_api_Debt) (.cons ok_slices_IndexFunc_api_Debt hb_slices_IndexFunc_api_Debt (.nil _)) (by kernel_rfl) sp_slices_ContainsFunc_api_Debt anns_slices_ContainsFunc_api_Debt none (by kernel_rfl) (fun x y h => (den_slices_ContainsFunc_api_Debt x).trans h)

def anns_kit_Outside : List (Nat × Ann) := []

noncomputable def sp_kit_Outside : FSpec := ⟨[.val tI, .val tI, .val tI], [.val .bool], fun x => kit_Outside x.1 x.2.1 x.2.2.1⟩

noncomputable def cx_kit_Outside : Cx := ⟨Tryd.prog, []⟩

theorem den_kit_Outside : ∀ x, denF cx_kit_Outside anns_kit_Outside none Tryd.f36 sp_kit_Outside x = sp_kit_Outside.m x := by intro x; kernel_rfl

theorem hb_kit_Outside : HasBody Tryd.prog 36 := has_body (fn := Tryd.f36) (by kernel_rfl) rfl (by decide)

theorem ok_kit_Outside : FunOk Tryd.prog 36 sp_kit_Outside := fun_ok (X := cx_kit_Outside) (.nil _) (by kernel_rfl) sp_kit_Outside anns_kit_Outside none (by kernel_rfl) (fun x y h => (den_kit_Outside x).trans h)

def anns_kit_IsDay : List (Nat × Ann) := []

noncomputable def sp_kit_IsDay : FSpec := ⟨[.val tI], [.val .bool], fun x => kit_IsDay x.1⟩

noncomputable def cx_kit_IsDay : Cx := ⟨Tryd.prog, [(36, sp_kit_Outside)]⟩

theorem den_kit_IsDay : ∀ x, denF cx_kit_IsDay anns_kit_IsDay none Tryd.f19 sp_kit_IsDay x = sp_kit_IsDay.m x := by intro x; kernel_rfl

theorem hb_kit_IsDay : HasBody Tryd.prog 19 := has_body (fn := Tryd.f19) (by kernel_rfl) rfl (by decide)

theorem ok_kit_IsDay : FunOk Tryd.prog 19 sp_kit_IsDay := fun_ok (X := cx_kit_IsDay) (.cons ok_kit_Outside hb_kit_Outside (.nil _)) (by kernel_rfl) sp_kit_IsDay anns_kit_IsDay none (by kernel_rfl) (fun x y h => (den_kit_IsDay x).trans h)

def anns_amount_CheckDecimal : List (Nat × Ann) := []

noncomputable def sp_amount_CheckDecimal : FSpec := ⟨[.val t_api_Decimal], [.val tI], fun x => amount_CheckDecimal x.1⟩

noncomputable def cx_amount_CheckDecimal : Cx := ⟨Tryd.prog, [(36, sp_kit_Outside)]⟩

theorem den_amount_CheckDecimal : ∀ x, denF cx_amount_CheckDecimal anns_amount_CheckDecimal none Tryd.f57 sp_amount_CheckDecimal x = sp_amount_CheckDecimal.m x := by intro x; kernel_rfl

theorem hb_amount_CheckDecimal : HasBody Tryd.prog 57 := has_body (fn := Tryd.f57) (by kernel_rfl) rfl (by decide)

theorem ok_amount_CheckDecimal : FunOk Tryd.prog 57 sp_amount_CheckDecimal := fun_ok (X := cx_amount_CheckDecimal) (.cons ok_kit_Outside hb_kit_Outside (.nil _)) (by kernel_rfl) sp_amount_CheckDecimal anns_amount_CheckDecimal none (by kernel_rfl) (fun x y h => (den_amount_CheckDecimal x).trans h)

def anns_bill_power : List (Nat × Ann) := [(3, ⟨[(3, .val tI), (4, .val tI), (5, .val tI)], [], [], fuelOf _⟩),
  (200003, ⟨[(3, .val tI)], [], [], fun _ => 0⟩)]

noncomputable def sp_bill_power : FSpec := ⟨[.val tI], [.val tI], fun x => bill_power x.1⟩

noncomputable def cx_bill_power : Cx := ⟨Tryd.prog, []⟩

theorem den_bill_power : ∀ x, denF cx_bill_power anns_bill_power none Tryd.f44 sp_bill_power x = sp_bill_power.m x := by intro x; kernel_rfl

theorem hb_bill_power : HasBody Tryd.prog 44 := has_body (fn := Tryd.f44) (by kernel_rfl) rfl (by decide)

theorem ok_bill_power : FunOk Tryd.prog 44 sp_bill_power := fun_ok (X := cx_bill_power) (.nil _) (by kernel_rfl) sp_bill_power anns_bill_power none (by kernel_rfl) (fun x y h => (den_bill_power x).trans h)

def anns_bill_between : List (Nat × Ann) := []

noncomputable def sp_bill_between : FSpec := ⟨[.val t_api_Decimal, .val tI], [.val .bool], fun x => bill_between x.1 x.2.1⟩

noncomputable def cx_bill_between : Cx := ⟨Tryd.prog, [(36, sp_kit_Outside), (44, sp_bill_power)]⟩

theorem den_bill_between : ∀ x, denF cx_bill_between anns_bill_between none Tryd.f58 sp_bill_between x = sp_bill_between.m x := by intro x; kernel_rfl

theorem hb_bill_between : HasBody Tryd.prog 58 := has_body (fn := Tryd.f58) (by kernel_rfl) rfl (by decide)

theorem ok_bill_between : FunOk Tryd.prog 58 sp_bill_between := fun_ok (X := cx_bill_between) (.cons ok_kit_Outside hb_kit_Outside (.cons ok_bill_power hb_bill_power (.nil _))) (by kernel_rfl) sp_bill_between anns_bill_between none (by kernel_rfl) (fun x y h => (den_bill_between x).trans h)

def anns_bill_moneyFault : List (Nat × Ann) := []

noncomputable def sp_bill_moneyFault : FSpec := ⟨[.val t_api_Decimal], [.val tI], fun x => bill_moneyFault x.1⟩

noncomputable def cx_bill_moneyFault : Cx := ⟨Tryd.prog, [(57, sp_amount_CheckDecimal), (58, sp_bill_between)]⟩

theorem den_bill_moneyFault : ∀ x, denF cx_bill_moneyFault anns_bill_moneyFault none Tryd.f42 sp_bill_moneyFault x = sp_bill_moneyFault.m x := by intro x; kernel_rfl

theorem hb_bill_moneyFault : HasBody Tryd.prog 42 := has_body (fn := Tryd.f42) (by kernel_rfl) rfl (by decide)

theorem ok_bill_moneyFault : FunOk Tryd.prog 42 sp_bill_moneyFault := fun_ok (X := cx_bill_moneyFault) (.cons ok_amount_CheckDecimal hb_amount_CheckDecimal (.cons ok_bill_between hb_bill_between (.nil _))) (by kernel_rfl) sp_bill_moneyFault anns_bill_moneyFault none (by kernel_rfl) (fun x y h => (den_bill_moneyFault x).trans h)

def anns_bill_CheckDebts : List (Nat × Ann) := [(4, ⟨[(0, .val (.slice t_api_Debt)), (9, .val (.slice t_api_Debt)), (10, .val tI), (11, .val tI)], [], [], fuelOf _⟩),
  (200004, ⟨[], [], [], fun _ => 0⟩)]

noncomputable def sp_bill_CheckDebts : FSpec := ⟨[.val (.slice t_api_Debt)], [.val tI], fun x => bill_CheckDebts x.1⟩

noncomputable def cx_bill_CheckDebts : Cx := ⟨Tryd.prog, [(19, sp_kit_IsDay), (36, sp_kit_Outside), (39, sp_kit_IsName), (40, sp_slices_ContainsFunc_api_Debt), (42, sp_bill_moneyFault)]⟩

theorem den_bill_CheckDebts : ∀ x, denF cx_bill_CheckDebts anns_bill_CheckDebts none Tryd.f23 sp_bill_CheckDebts x = sp_bill_CheckDebts.m x := by intro x; kernel_rfl

theorem hb_bill_CheckDebts : HasBody Tryd.prog 23 := has_body (fn := Tryd.f23) (by kernel_rfl) rfl (by decide)

theorem ok_bill_CheckDebts : FunOk Tryd.prog 23 sp_bill_CheckDebts := fun_ok (X := cx_bill_CheckDebts) (.cons ok_kit_IsDay hb_kit_IsDay (.cons ok_kit_Outside hb_kit_Outside (.cons ok_kit_IsName hb_kit_IsName (.cons ok_slices_ContainsFunc_api_Debt hb_slices_ContainsFunc_api_Debt (.cons ok_bill_moneyFault hb_bill_moneyFault (.nil _)))))) (by kernel_rfl) sp_bill_CheckDebts anns_bill_CheckDebts none (by kernel_rfl) (fun x y h => (den_bill_CheckDebts x).trans h)

def anns_slices_Index_string : List (Nat × Ann) := [(2, ⟨[(0, .val (.slice .str)), (1, .val .str), (7, .val tI), (8, .val tI)], [], [], fuelOf _⟩),
  (200002, ⟨[], [], [], fun _ => 0⟩)]

noncomputable def sp_slices_Index_string : FSpec := ⟨[.val (.slice .str), .val .str], [.val tI], fun x => slices_Index_string x.1 x.2.1⟩

noncomputable def cx_slices_Index_string : Cx := ⟨Tryd.prog, []⟩

theorem den_slices_Index_string : ∀ x, denF cx_slices_Index_string anns_slices_Index_string none Tryd.f59 sp_slices_Index_string x = sp_slices_Index_string.m x := by intro x; kernel_rfl

theorem hb_slices_Index_string : HasBody Tryd.prog 59 := has_body (fn := Tryd.f59) (by kernel_rfl) rfl (by decide)

theorem ok_slices_Index_string : FunOk Tryd.prog 59 sp_slices_Index_string := fun_ok (X := cx_slices_Index_string) (.nil _) (by kernel_rfl) sp_slices_Index_string anns_slices_Index_string none (by kernel_rfl) (fun x y h => (den_slices_Index_string x).trans h)

def anns_slices_Contains_string : List (Nat × Ann) := []

noncomputable def sp_slices_Contains_string : FSpec := ⟨[.val (.slice .str), .val .str], [.val .bool], fun x => slices_Contains_string x.1 x.2.1⟩

noncomputable def cx_slices_Contains_string : Cx := ⟨Tryd.prog, [(59, sp_slices_Index_string)]⟩

theorem den_slices_Contains_string : ∀ x, denF cx_slices_Contains_string anns_slices_Contains_string none Tryd.f43 sp_slices_Contains_string x = sp_slices_Contains_string.m x := by intro x; kernel_rfl

theorem hb_slices_Contains_string : HasBody Tryd.prog 43 := has_body (fn := Tryd.f43) (by kernel_rfl) rfl (by decide)

theorem ok_slices_Contains_string : FunOk Tryd.prog 43 sp_slices_Contains_string := fun_ok (X := cx_slices_Contains_string) (.cons ok_slices_Index_string hb_slices_Index_string (.nil _)) (by kernel_rfl) sp_slices_Contains_string anns_slices_Contains_string none (by kernel_rfl) (fun x y h => (den_slices_Contains_string x).trans h)

def anns_bill_CheckPayments : List (Nat × Ann) := [(4, ⟨[(0, .val (.slice t_api_Payment)), (11, .val (.slice t_api_Payment)), (12, .val tI), (13, .val tI)], [], [], fuelOf _⟩),
  (16, ⟨[(0, .val (.slice t_api_Payment)), (4, .ref 4 0), (11, .val (.slice t_api_Payment)), (12, .val tI), (13, .val tI), (46, .val (.slice .str)), (47, .val tI), (48, .val tI)], [(4, [.val tI, .val tI, .val tI, .val (.slice .str)])], [], fuelOf _⟩),
  (200004, ⟨[], [], [], fun _ => 0⟩),
  (200016, ⟨[(0, .val (.slice t_api_Payment)), (11, .val (.slice t_api_Payment)), (12, .val tI), (13, .val tI)], [], [], fun _ => 0⟩)]

noncomputable def sp_bill_CheckPayments : FSpec := ⟨[.val (.slice t_api_Payment)], [.val tI], fun x => bill_CheckPayments x.1⟩

noncomputable def cx_bill_CheckPayments : Cx := ⟨Tryd.prog, [(19, sp_kit_IsDay), (39, sp_kit_IsName), (42, sp_bill_moneyFault), (43, sp_slices_Contains_string)]⟩

theorem den_bill_CheckPayments : ∀ x, denF cx_bill_CheckPayments anns_bill_CheckPayments none Tryd.f24 sp_bill_CheckPayments x = sp_bill_CheckPayments.m x := by intro x; kernel_rfl

theorem hb_bill_CheckPayments : HasBody Tryd.prog 24 := has_body (fn := Tryd.f24) (by kernel_rfl) rfl (by decide)

theorem ok_bill_CheckPayments : FunOk Tryd.prog 24 sp_bill_CheckPayments := fun_ok (X := cx_bill_CheckPayments) (.cons ok_kit_IsDay hb_kit_IsDay (.cons ok_kit_IsName hb_kit_IsName (.cons ok_bill_moneyFault hb_bill_moneyFault (.cons ok_slices_Contains_string hb_slices_Contains_string (.nil _))))) (by kernel_rfl) sp_bill_CheckPayments anns_bill_CheckPayments none (by kernel_rfl) (fun x y h => (den_bill_CheckPayments x).trans h)

def anns_bill_bothFault : List (Nat × Ann) := []

noncomputable def sp_bill_bothFault : FSpec := ⟨[.val (.slice t_api_Debt), .val (.slice t_api_Payment)], [.val tI], fun x => bill_bothFault x.1 x.2.1⟩

noncomputable def cx_bill_bothFault : Cx := ⟨Tryd.prog, [(23, sp_bill_CheckDebts), (24, sp_bill_CheckPayments)]⟩

theorem den_bill_bothFault : ∀ x, denF cx_bill_bothFault anns_bill_bothFault none Tryd.f12 sp_bill_bothFault x = sp_bill_bothFault.m x := by intro x; kernel_rfl

theorem hb_bill_bothFault : HasBody Tryd.prog 12 := has_body (fn := Tryd.f12) (by kernel_rfl) rfl (by decide)

theorem ok_bill_bothFault : FunOk Tryd.prog 12 sp_bill_bothFault := fun_ok (X := cx_bill_bothFault) (.cons ok_bill_CheckDebts hb_bill_CheckDebts (.cons ok_bill_CheckPayments hb_bill_CheckPayments (.nil _))) (by kernel_rfl) sp_bill_bothFault anns_bill_bothFault none (by kernel_rfl) (fun x y h => (den_bill_bothFault x).trans h)

def anns_bill_cents : List (Nat × Ann) := []

noncomputable def sp_bill_cents : FSpec := ⟨[.val t_api_Decimal], [.val tI], fun x => bill_cents x.1⟩

noncomputable def cx_bill_cents : Cx := ⟨Tryd.prog, [(44, sp_bill_power)]⟩

theorem den_bill_cents : ∀ x, denF cx_bill_cents anns_bill_cents none Tryd.f25 sp_bill_cents x = sp_bill_cents.m x := by intro x; kernel_rfl

theorem hb_bill_cents : HasBody Tryd.prog 25 := has_body (fn := Tryd.f25) (by kernel_rfl) rfl (by decide)

theorem ok_bill_cents : FunOk Tryd.prog 25 sp_bill_cents := fun_ok (X := cx_bill_cents) (.cons ok_bill_power hb_bill_power (.nil _)) (by kernel_rfl) sp_bill_cents anns_bill_cents none (by kernel_rfl) (fun x y h => (den_bill_cents x).trans h)

def anns_slices_Clone_bill_debtP : List (Nat × Ann) := []

noncomputable def sp_slices_Clone_bill_debtP : FSpec := ⟨[.val (.slice .hnd)], [.row 58 .hnd], fun x => slices_Clone_bill_debtP x.1⟩

noncomputable def cx_slices_Clone_bill_debtP : Cx := ⟨Tryd.prog, []⟩

theorem den_slices_Clone_bill_debtP : ∀ x, denF cx_slices_Clone_bill_debtP anns_slices_Clone_bill_debtP none Tryd.f26 sp_slices_Clone_bill_debtP x = sp_slices_Clone_bill_debtP.m x := by intro x; kernel_rfl

theorem hb_slices_Clone_bill_debtP : HasBody Tryd.prog 26 := has_body (fn := Tryd.f26) (by kernel_rfl) rfl (by decide)

theorem ok_slices_Clone_bill_debtP : FunOk Tryd.prog 26 sp_slices_Clone_bill_debtP := fun_ok (X := cx_slices_Clone_bill_debtP) (.nil _) (by kernel_rfl) sp_slices_Clone_bill_debtP anns_slices_Clone_bill_debtP none (by kernel_rfl) (fun x y h => (den_slices_Clone_bill_debtP x).trans h)

def anns_bill_debt_last : List (Nat × Ann) := []

noncomputable def sp_bill_debt_last : FSpec := ⟨[.val .hnd, .arR t_bill_debt], [.val tI], fun x => bill_debt_last x.1 x.2.1⟩

noncomputable def cx_bill_debt_last : Cx := ⟨Tryd.prog, []⟩

theorem den_bill_debt_last : ∀ x, denF cx_bill_debt_last anns_bill_debt_last none Tryd.f29 sp_bill_debt_last x = sp_bill_debt_last.m x := by intro x; kernel_rfl

theorem hb_bill_debt_last : HasBody Tryd.prog 29 := has_body (fn := Tryd.f29) (by kernel_rfl) rfl (by decide)

theorem ok_bill_debt_last : FunOk Tryd.prog 29 sp_bill_debt_last := fun_ok (X := cx_bill_debt_last) (.nil _) (by kernel_rfl) sp_bill_debt_last anns_bill_debt_last none (by kernel_rfl) (fun x y h => (den_bill_debt_last x).trans h)

def anns_bill_payments_1 : List (Nat × Ann) := []

noncomputable def sp_bill_payments_1 : FSpec := ⟨[.val .hnd, .val .hnd, .arR t_bill_debt], [.val tI], fun x => bill_payments_1 x.1 x.2.1 x.2.2.1⟩

noncomputable def cx_bill_payments_1 : Cx := ⟨Tryd.prog, [(29, sp_bill_debt_last)]⟩

theorem den_bill_payments_1 : ∀ x, denF cx_bill_payments_1 anns_bill_payments_1 none Tryd.f28 sp_bill_payments_1 x = sp_bill_payments_1.m x := by intro x; kernel_rfl

theorem hb_bill_payments_1 : HasBody Tryd.prog 28 := has_body (fn := Tryd.f28) (by kernel_rfl) rfl (by decide)

theorem ok_bill_payments_1 : FunOk Tryd.prog 28 sp_bill_payments_1 := fun_ok (X := cx_bill_payments_1) (.cons ok_bill_debt_last hb_bill_debt_last (.nil _)) (by kernel_rfl) sp_bill_payments_1 anns_bill_payments_1 none (by kernel_rfl) (fun x y h => (den_bill_payments_1 x).trans h)

def anns_slices_insertionSortCmpFunc_bill_debtP : List (Nat × Ann) := [(1, ⟨[(0, .rowR 10250000), (1, .val tI), (2, .val tI), (3, .val (.clo 28 .unit)), (8, .val tI)], [], [.rowC 10250000 58 .hnd, .arF t_bill_debt], fuelOf _⟩),
  (4, ⟨[(0, .rowR 10250000), (1, .val tI), (2, .val tI), (3, .val (.clo 28 .unit)), (8, .val tI), (9, .val tI)], [], [.rowC 10250000 58 .hnd, .arF t_bill_debt], fuelOf _⟩),
  (200001, ⟨[], [], [.rowC 10250000 58 .hnd, .arF t_bill_debt], fun _ => 0⟩),
  (200004, ⟨[(0, .rowR 10250000), (1, .val tI), (2, .val tI), (3, .val (.clo 28 .unit)), (8, .val tI)], [], [.rowC 10250000 58 .hnd, .arF t_bill_debt], fun _ => 0⟩)]

noncomputable def sp_slices_insertionSortCmpFunc_bill_debtP : FSpec := ⟨[.mrow 58 .hnd, .val tI, .val tI, .val (.clo 28 .unit), .arR t_bill_debt], [], fun x => slices_insertionSortCmpFunc_bill_debtP x.1 x.2.1 x.2.2.1 x.2.2.2.1 x.2.2.2.2.1⟩

noncomputable def cx_slices_insertionSortCmpFunc_bill_debtP : Cx := ⟨Tryd.prog, [(28, sp_bill_payments_1)]⟩

theorem den_slices_insertionSortCmpFunc_bill_debtP : ∀ x, denF cx_slices_insertionSortCmpFunc_bill_debtP anns_slices_insertionSortCmpFunc_bill_debtP none Tryd.f60 sp_slices_insertionSortCmpFunc_bill_debtP x = sp_slices_insertionSortCmpFunc_bill_debtP.m x := by intro x; kernel_rfl

theorem hb_slices_insertionSortCmpFunc_bill_debtP : HasBody Tryd.prog 60 := has_body (fn := Tryd.f60) (by kernel_rfl) rfl (by decide)

theorem ok_slices_insertionSortCmpFunc_bill_debtP : FunOk Tryd.prog 60 sp_slices_insertionSortCmpFunc_bill_debtP := fun_ok (X := cx_slices_insertionSortCmpFunc_bill_debtP) (.cons ok_bill_payments_1 hb_bill_payments_1 (.nil _)) (by kernel_rfl) sp_slices_insertionSortCmpFunc_bill_debtP anns_slices_insertionSortCmpFunc_bill_debtP none (by kernel_rfl) (fun x y h => (den_slices_insertionSortCmpFunc_bill_debtP x).trans h)

def anns_slices_swapRangeCmpFunc_bill_debtP : List (Nat × Ann) := [(1, ⟨[(0, .rowR 10250000), (1, .val tI), (2, .val tI), (3, .val tI), (10, .val tI)], [], [.rowC 10250000 58 .hnd, .arF t_bill_debt], fuelOf _⟩),
  (200001, ⟨[], [], [.rowC 10250000 58 .hnd, .arF t_bill_debt], fun _ => 0⟩)]

noncomputable def sp_slices_swapRangeCmpFunc_bill_debtP : FSpec := ⟨[.mrow 58 .hnd, .val tI, .val tI, .val tI, .val (.clo 28 .unit), .arR t_bill_debt], [], fun x => slices_swapRangeCmpFunc_bill_debtP x.1 x.2.1 x.2.2.1 x.2.2.2.1 x.2.2.2.2.1 x.2.2.2.2.2.1⟩

noncomputable def cx_slices_swapRangeCmpFunc_bill_debtP : Cx := ⟨Tryd.prog, []⟩

theorem den_slices_swapRangeCmpFunc_bill_debtP : ∀ x, denF cx_slices_swapRangeCmpFunc_bill_debtP anns_slices_swapRangeCmpFunc_bill_debtP none Tryd.f79 sp_slices_swapRangeCmpFunc_bill_debtP x = sp_slices_swapRangeCmpFunc_bill_debtP.m x := by intro x; kernel_rfl

theorem hb_slices_swapRangeCmpFunc_bill_debtP : HasBody Tryd.prog 79 := has_body (fn := Tryd.f79) (by kernel_rfl) rfl (by decide)

theorem ok_slices_swapRangeCmpFunc_bill_debtP : FunOk Tryd.prog 79 sp_slices_swapRangeCmpFunc_bill_debtP := fun_ok (X := cx_slices_swapRangeCmpFunc_bill_debtP) (.nil _) (by kernel_rfl) sp_slices_swapRangeCmpFunc_bill_debtP anns_slices_swapRangeCmpFunc_bill_debtP none (by kernel_rfl) (fun x y h => (den_slices_swapRangeCmpFunc_bill_debtP x).trans h)

def anns_slices_rotateCmpFunc_bill_debtP : List (Nat × Ann) := [(2, ⟨[(0, .rowR 10250000), (2, .val tI), (4, .val (.clo 28 .unit)), (10, .val tI), (11, .val tI)], [], [.rowC 10250000 58 .hnd, .arF t_bill_debt], fuelOf _⟩),
  (200002, ⟨[(0, .rowR 10250000), (2, .val tI), (4, .val (.clo 28 .unit)), (10, .val tI)], [], [.rowC 10250000 58 .hnd, .arF t_bill_debt], fun _ => 0⟩)]

noncomputable def sp_slices_rotateCmpFunc_bill_debtP : FSpec := ⟨[.mrow 58 .hnd, .val tI, .val tI, .val tI, .val (.clo 28 .unit), .arR t_bill_debt], [], fun x => slices_rotateCmpFunc_bill_debtP x.1 x.2.1 x.2.2.1 x.2.2.2.1 x.2.2.2.2.1 x.2.2.2.2.2.1⟩

noncomputable def cx_slices_rotateCmpFunc_bill_debtP : Cx := ⟨Tryd.prog, [(79, sp_slices_swapRangeCmpFunc_bill_debtP)]⟩

theorem den_slices_rotateCmpFunc_bill_debtP : ∀ x, denF cx_slices_rotateCmpFunc_bill_debtP anns_slices_rotateCmpFunc_bill_debtP none Tryd.f74 sp_slices_rotateCmpFunc_bill_debtP x = sp_slices_rotateCmpFunc_bill_debtP.m x := by intro x; kernel_rfl

theorem hb_slices_rotateCmpFunc_bill_debtP : HasBody Tryd.prog 74 := has_body (fn := Tryd.f74) (by kernel_rfl) rfl (by decide)

theorem ok_slices_rotateCmpFunc_bill_debtP : FunOk Tryd.prog 74 sp_slices_rotateCmpFunc_bill_debtP := fun_ok (X := cx_slices_rotateCmpFunc_bill_debtP) (.cons ok_slices_swapRangeCmpFunc_bill_debtP hb_slices_swapRangeCmpFunc_bill_debtP (.nil _)) (by kernel_rfl) sp_slices_rotateCmpFunc_bill_debtP anns_slices_rotateCmpFunc_bill_debtP none (by kernel_rfl) (fun x y h => (den_slices_rotateCmpFunc_bill_debtP x).trans h)

def anns_slices_symMergeCmpFunc_bill_debtP : List (Nat × Ann) := [(3, ⟨[(0, .rowR 10250000), (1, .val tI), (4, .val (.clo 28 .unit)), (10, .val tI), (11, .val tI)], [], [.rowC 10250000 58 .hnd, .arF t_bill_debt], fuelOf _⟩),
  (9, ⟨[(0, .rowR 10250000), (10, .val tI), (13, .val tI)], [], [.rowC 10250000 58 .hnd, .arF t_bill_debt], fuelOf _⟩),
  (15, ⟨[(0, .rowR 10250000), (2, .val tI), (4, .val (.clo 28 .unit)), (14, .val tI), (15, .val tI)], [], [.rowC 10250000 58 .hnd, .arF t_bill_debt], fuelOf _⟩),
  (21, ⟨[(0, .rowR 10250000), (14, .val tI), (17, .val tI)], [], [.rowC 10250000 58 .hnd, .arF t_bill_debt], fuelOf _⟩),
  (33, ⟨[(0, .rowR 10250000), (1, .val tI), (2, .val tI), (3, .val tI), (4, .val (.clo 28 .unit)), (18, .val tI), (19, .val tI), (20, .val tI), (21, .val tI), (22, .val tI)], [], [.rowC 10250000 58 .hnd, .arF t_bill_debt], fuelOf _⟩),
  (100030, ⟨[(0, .rowR 10250000), (1, .val tI), (2, .val tI), (3, .val tI), (4, .val (.clo 28 .unit)), (18, .val tI), (19, .val tI), (20, .val tI), (21, .val tI)], [], [.rowC 10250000 58 .hnd, .arF t_bill_debt], fun _ => 0⟩),
  (100040, ⟨[(0, .rowR 10250000), (1, .val tI), (3, .val tI), (4, .val (.clo 28 .unit)), (18, .val tI), (20, .val tI), (24, .val tI)], [], [.rowC 10250000 58 .hnd, .arF t_bill_debt], fun _ => 0⟩),
  (100042, ⟨[(0, .rowR 10250000), (3, .val tI), (4, .val (.clo 28 .unit)), (18, .val tI), (24, .val tI)], [], [.rowC 10250000 58 .hnd, .arF t_bill_debt], fun _ => 0⟩),
  (200003, ⟨[(0, .rowR 10250000), (1, .val tI), (10, .val tI)], [], [.rowC 10250000 58 .hnd, .arF t_bill_debt], fun _ => 0⟩),
  (200009, ⟨[], [], [.rowC 10250000 58 .hnd, .arF t_bill_debt], fun _ => 0⟩),
  (200015, ⟨[(0, .rowR 10250000), (2, .val tI), (14, .val tI)], [], [.rowC 10250000 58 .hnd, .arF t_bill_debt], fun _ => 0⟩),
  (200021, ⟨[], [], [.rowC 10250000 58 .hnd, .arF t_bill_debt], fun _ => 0⟩),
  (200033, ⟨[(0, .rowR 10250000), (1, .val tI), (2, .val tI), (3, .val tI), (4, .val (.clo 28 .unit)), (18, .val tI), (19, .val tI), (20, .val tI)], [], [.rowC 10250000 58 .hnd, .arF t_bill_debt], fun _ => 0⟩)]

def ps_slices_symMergeCmpFunc_bill_debtP : List PM := [.mrow 58 .hnd, .val tI, .val tI, .val tI, .val (.clo 28 .unit), .arR t_bill_debt]
def rs_slices_symMergeCmpFunc_bill_debtP : List RM := []

noncomputable def cxs_slices_symMergeCmpFunc_bill_debtP : List (Nat × FSpec) := [(28, sp_bill_payments_1), (74, sp_slices_rotateCmpFunc_bill_debtP)]

noncomputable def sp_slices_symMergeCmpFunc_bill_debtP : FSpec := ⟨ps_slices_symMergeCmpFunc_bill_debtP, rs_slices_symMergeCmpFunc_bill_debtP, fun x => slices_symMergeCmpFunc_bill_debtP x.1 x.2.1 x.2.2.1 x.2.2.2.1 x.2.2.2.2.1 x.2.2.2.2.2.1⟩

theorem den_slices_symMergeCmpFunc_bill_debtP : ∀ (self : inDen ps_slices_symMergeCmpFunc_bill_debtP → Option (outDen ps_slices_symMergeCmpFunc_bill_debtP rs_slices_symMergeCmpFunc_bill_debtP)) (x : inDen ps_slices_symMergeCmpFunc_bill_debtP), denF ⟨Tryd.prog, (61, ⟨ps_slices_symMergeCmpFunc_bill_debtP, rs_slices_symMergeCmpFunc_bill_debtP, self⟩) :: cxs_slices_symMergeCmpFunc_bill_debtP⟩ anns_slices_symMergeCmpFunc_bill_debtP none Tryd.f61 ⟨ps_slices_symMergeCmpFunc_bill_debtP, rs_slices_symMergeCmpFunc_bill_debtP, fun x => slices_symMergeCmpFunc_bill_debtP_F self x.1 x.2.1 x.2.2.1 x.2.2.2.1 x.2.2.2.2.1 x.2.2.2.2.2.1⟩ x = slices_symMergeCmpFunc_bill_debtP_F self x.1 x.2.1 x.2.2.1 x.2.2.2.1 x.2.2.2.2.1 x.2.2.2.2.2.1 := by intro self x; kernel_rfl

theorem hb_slices_symMergeCmpFunc_bill_debtP : HasBody Tryd.prog 61 := has_body (fn := Tryd.f61) (by kernel_rfl) rfl (by decide)

theorem ok_slices_symMergeCmpFunc_bill_debtP : FunOk Tryd.prog 61 sp_slices_symMergeCmpFunc_bill_debtP := fun_ok_fuel (ps := ps_slices_symMergeCmpFunc_bill_debtP) (rs := rs_slices_symMergeCmpFunc_bill_debtP) (m := fun n x => recM (fun self x => slices_symMergeCmpFunc_bill_debtP_F self x.1 x.2.1 x.2.2.1 x.2.2.2.1 x.2.2.2.2.1 x.2.2.2.2.2.1) n x) (fun_ok_rec (P := Tryd.prog) (specs := cxs_slices_symMergeCmpFunc_bill_debtP) (ps := ps_slices_symMergeCmpFunc_bill_debtP) (rs := rs_slices_symMergeCmpFunc_bill_debtP) (.cons ok_bill_payments_1 hb_bill_payments_1 (.cons ok_slices_rotateCmpFunc_bill_debtP hb_slices_rotateCmpFunc_bill_debtP (.nil _))) (by kernel_rfl) (fun self x => slices_symMergeCmpFunc_bill_debtP_F self x.1 x.2.1 x.2.2.1 x.2.2.2.1 x.2.2.2.2.1 x.2.2.2.2.2.1) anns_slices_symMergeCmpFunc_bill_debtP none (by kernel_rfl) hb_slices_symMergeCmpFunc_bill_debtP den_slices_symMergeCmpFunc_bill_debtP) (fun x => slices_symMergeCmpFunc_bill_debtP_fuel x.1 x.2.1 x.2.2.1 x.2.2.2.1 x.2.2.2.2.1 x.2.2.2.2.2.1)

def anns_slices_stableCmpFunc_bill_debtP : List (Nat × Ann) := [(2, ⟨[(0, .rowR 10250000), (1, .val tI), (2, .val (.clo 28 .unit)), (6, .val tI), (7, .val tI), (8, .val tI)], [], [.rowC 10250000 58 .hnd, .arF t_bill_debt], fuelOf _⟩),
  (7, ⟨[(0, .rowR 10250000), (1, .val tI), (2, .val (.clo 28 .unit)), (6, .val tI)], [], [.rowC 10250000 58 .hnd, .arF t_bill_debt], fuelOf _⟩),
  (9, ⟨[(0, .rowR 10250000), (1, .val tI), (2, .val (.clo 28 .unit)), (6, .val tI), (7, .val tI), (8, .val tI)], [], [.rowC 10250000 58 .hnd, .arF t_bill_debt], fuelOf _⟩),
  (200002, ⟨[(0, .rowR 10250000), (1, .val tI), (2, .val (.clo 28 .unit)), (6, .val tI), (7, .val tI)], [], [.rowC 10250000 58 .hnd, .arF t_bill_debt], fun _ => 0⟩),
  (200007, ⟨[], [], [.rowC 10250000 58 .hnd, .arF t_bill_debt], fun _ => 0⟩),
  (200009, ⟨[(0, .rowR 10250000), (1, .val tI), (2, .val (.clo 28 .unit)), (6, .val tI), (7, .val tI)], [], [.rowC 10250000 58 .hnd, .arF t_bill_debt], fun _ => 0⟩)]

noncomputable def sp_slices_stableCmpFunc_bill_debtP : FSpec := ⟨[.mrow 58 .hnd, .val tI, .val (.clo 28 .unit), .arR t_bill_debt], [], fun x => slices_stableCmpFunc_bill_debtP x.1 x.2.1 x.2.2.1 x.2.2.2.1⟩

noncomputable def cx_slices_stableCmpFunc_bill_debtP : Cx := ⟨Tryd.prog, [(60, sp_slices_insertionSortCmpFunc_bill_debtP), (61, sp_slices_symMergeCmpFunc_bill_debtP)]⟩

theorem den_slices_stableCmpFunc_bill_debtP : ∀ x, denF cx_slices_stableCmpFunc_bill_debtP anns_slices_stableCmpFunc_bill_debtP none Tryd.f45 sp_slices_stableCmpFunc_bill_debtP x = sp_slices_stableCmpFunc_bill_debtP.m x := by intro x; kernel_rfl

theorem hb_slices_stableCmpFunc_bill_debtP : HasBody Tryd.prog 45 := has_body (fn := Tryd.f45) (by kernel_rfl) rfl (by decide)

theorem ok_slices_stableCmpFunc_bill_debtP : FunOk Tryd.prog 45 sp_slices_stableCmpFunc_bill_debtP := fun_ok (X := cx_slices_stableCmpFunc_bill_debtP) (.cons ok_slices_insertionSortCmpFunc_bill_debtP hb_slices_insertionSortCmpFunc_bill_debtP (.cons ok_slices_symMergeCmpFunc_bill_debtP hb_slices_symMergeCmpFunc_bill_debtP (.nil _))) (by kernel_rfl) sp_slices_stableCmpFunc_bill_debtP anns_slices_stableCmpFunc_bill_debtP none (by kernel_rfl) (fun x y h => (den_slices_stableCmpFunc_bill_debtP x).trans h)

def anns_slices_SortStableFunc_bill_debtP : List (Nat × Ann) := []

noncomputable def sp_slices_SortStableFunc_bill_debtP : FSpec := ⟨[.mrow 58 .hnd, .val (.clo 28 .unit), .arR t_bill_debt], [], fun x => slices_SortStableFunc_bill_debtP x.1 x.2.1 x.2.2.1⟩

noncomputable def cx_slices_SortStableFunc_bill_debtP : Cx := ⟨Tryd.prog, [(45, sp_slices_stableCmpFunc_bill_debtP)]⟩

theorem den_slices_SortStableFunc_bill_debtP : ∀ x, denF cx_slices_SortStableFunc_bill_debtP anns_slices_SortStableFunc_bill_debtP none Tryd.f27 sp_slices_SortStableFunc_bill_debtP x = sp_slices_SortStableFunc_bill_debtP.m x := by intro x; kernel_rfl

theorem hb_slices_SortStableFunc_bill_debtP : HasBody Tryd.prog 27 := has_body (fn := Tryd.f27) (by kernel_rfl) rfl (by decide)

theorem ok_slices_SortStableFunc_bill_debtP : FunOk Tryd.prog 27 sp_slices_SortStableFunc_bill_debtP := fun_ok (X := cx_slices_SortStableFunc_bill_debtP) (.cons ok_slices_stableCmpFunc_bill_debtP hb_slices_stableCmpFunc_bill_debtP (.nil _)) (by kernel_rfl) sp_slices_SortStableFunc_bill_debtP anns_slices_SortStableFunc_bill_debtP none (by kernel_rfl) (fun x y h => (den_slices_SortStableFunc_bill_debtP x).trans h)

def anns_bill_debt_there : List (Nat × Ann) := []

noncomputable def sp_bill_debt_there : FSpec := ⟨[.val .hnd, .val tI, .arR t_bill_debt], [.val .bool], fun x => bill_debt_there x.1 x.2.1 x.2.2.1⟩

noncomputable def cx_bill_debt_there : Cx := ⟨Tryd.prog, []⟩

theorem den_bill_debt_there : ∀ x, denF cx_bill_debt_there anns_bill_debt_there none Tryd.f20 sp_bill_debt_there x = sp_bill_debt_there.m x := by intro x; kernel_rfl

theorem hb_bill_debt_there : HasBody Tryd.prog 20 := has_body (fn := Tryd.f20) (by kernel_rfl) rfl (by decide)

theorem ok_bill_debt_there : FunOk Tryd.prog 20 sp_bill_debt_there := fun_ok (X := cx_bill_debt_there) (.nil _) (by kernel_rfl) sp_bill_debt_there anns_bill_debt_there none (by kernel_rfl) (fun x y h => (den_bill_debt_there x).trans h)

def anns_bill_debt_discount : List (Nat × Ann) := []

noncomputable def sp_bill_debt_discount : FSpec := ⟨[.val .hnd, .arR t_bill_debt], [.val tI], fun x => bill_debt_discount x.1 x.2.1⟩

noncomputable def cx_bill_debt_discount : Cx := ⟨Tryd.prog, [(44, sp_bill_power)]⟩

theorem den_bill_debt_discount : ∀ x, denF cx_bill_debt_discount anns_bill_debt_discount none Tryd.f46 sp_bill_debt_discount x = sp_bill_debt_discount.m x := by intro x; kernel_rfl

theorem hb_bill_debt_discount : HasBody Tryd.prog 46 := has_body (fn := Tryd.f46) (by kernel_rfl) rfl (by decide)

theorem ok_bill_debt_discount : FunOk Tryd.prog 46 sp_bill_debt_discount := fun_ok (X := cx_bill_debt_discount) (.cons ok_bill_power hb_bill_power (.nil _)) (by kernel_rfl) sp_bill_debt_discount anns_bill_debt_discount none (by kernel_rfl) (fun x y h => (den_bill_debt_discount x).trans h)

def anns_bill_debt_pay : List (Nat × Ann) := []

noncomputable def sp_bill_debt_pay : FSpec := ⟨[.val .hnd, .val tI, .val tI, .ar t_bill_debt], [.val tI], fun x => bill_debt_pay x.1 x.2.1 x.2.2.1 x.2.2.2.1⟩

noncomputable def cx_bill_debt_pay : Cx := ⟨Tryd.prog, []⟩

theorem den_bill_debt_pay : ∀ x, denF cx_bill_debt_pay anns_bill_debt_pay none Tryd.f31 sp_bill_debt_pay x = sp_bill_debt_pay.m x := by intro x; kernel_rfl

theorem hb_bill_debt_pay : HasBody Tryd.prog 31 := has_body (fn := Tryd.f31) (by kernel_rfl) rfl (by decide)

theorem ok_bill_debt_pay : FunOk Tryd.prog 31 sp_bill_debt_pay := fun_ok (X := cx_bill_debt_pay) (.nil _) (by kernel_rfl) sp_bill_debt_pay anns_bill_debt_pay none (by kernel_rfl) (fun x y h => (den_bill_debt_pay x).trans h)

def anns_bill_debt_named : List (Nat × Ann) := []

noncomputable def sp_bill_debt_named : FSpec := ⟨[.val .hnd, .val tI, .val tI, .ar t_bill_debt], [.val tI], fun x => bill_debt_named x.1 x.2.1 x.2.2.1 x.2.2.2.1⟩

noncomputable def cx_bill_debt_named : Cx := ⟨Tryd.prog, [(31, sp_bill_debt_pay), (46, sp_bill_debt_discount)]⟩

theorem den_bill_debt_named : ∀ x, denF cx_bill_debt_named anns_bill_debt_named none Tryd.f30 sp_bill_debt_named x = sp_bill_debt_named.m x := by intro x; kernel_rfl

theorem hb_bill_debt_named : HasBody Tryd.prog 30 := has_body (fn := Tryd.f30) (by kernel_rfl) rfl (by decide)

theorem ok_bill_debt_named : FunOk Tryd.prog 30 sp_bill_debt_named := fun_ok (X := cx_bill_debt_named) (.cons ok_bill_debt_pay hb_bill_debt_pay (.cons ok_bill_debt_discount hb_bill_debt_discount (.nil _))) (by kernel_rfl) sp_bill_debt_named anns_bill_debt_named none (by kernel_rfl) (fun x y h => (den_bill_debt_named x).trans h)

def anns_bill_payments : List (Nat × Ann) := [(4, ⟨[(1, .val (.slice t_api_Payment)), (2, .val tI), (8, .own 58 .hnd), (9, .mapR 23), (24, .val (.slice t_api_Debt)), (25, .val tI), (26, .val tI)], [], [.mapC 23 .str .hnd, .ar t_bill_debt], fuelOf _⟩),
  (14, ⟨[(2, .val tI), (8, .own 58 .hnd), (9, .mapR 23), (13, .rowR 105744), (14, .own 3 tI), (49, .val (.slice t_api_Payment)), (50, .val tI), (51, .val tI)], [], [.rowC 105744 58 .hnd, .mapC 23 .str .hnd, .ar t_bill_debt], fuelOf _⟩),
  (19, ⟨[(2, .val tI), (8, .own 58 .hnd), (9, .mapR 23), (13, .rowR 105744), (14, .own 3 tI), (16, .ref 16 0), (17, .val tI), (49, .val (.slice t_api_Payment)), (50, .val tI), (51, .val tI), (63, .val (.slice .str)), (64, .val tI), (65, .val tI)], [(16, [.val tI, .val tI, .val tI, .val (.slice .str)])], [.rowC 105744 58 .hnd, .mapC 23 .str .hnd, .ar t_bill_debt], fuelOf _⟩),
  (26, ⟨[(2, .val tI), (8, .own 58 .hnd), (9, .mapR 23), (13, .rowR 105744), (14, .own 3 tI), (16, .ref 16 0), (17, .val tI), (49, .val (.slice t_api_Payment)), (50, .val tI), (51, .val tI), (86, .rowR 105744), (87, .val tI), (88, .val tI)], [(16, [.val tI, .val tI, .val tI, .val (.slice .str)])], [.rowC 105744 58 .hnd, .mapC 23 .str .hnd, .ar t_bill_debt], fuelOf _⟩),
  (200004, ⟨[(1, .val (.slice t_api_Payment)), (2, .val tI), (8, .own 58 .hnd), (9, .mapR 23)], [], [.mapC 23 .str .hnd, .ar t_bill_debt], fun _ => 0⟩),
  (200014, ⟨[(8, .own 58 .hnd), (14, .own 3 tI)], [], [.ar t_bill_debt], fun _ => 0⟩),
  (200019, ⟨[(2, .val tI), (8, .own 58 .hnd), (9, .mapR 23), (13, .rowR 105744), (14, .own 3 tI), (16, .ref 16 0), (17, .val tI), (49, .val (.slice t_api_Payment)), (50, .val tI), (51, .val tI)], [(16, [.val tI, .val tI, .val tI, .val (.slice .str)])], [.rowC 105744 58 .hnd, .mapC 23 .str .hnd, .ar t_bill_debt], fun _ => 0⟩),
  (200026, ⟨[(2, .val tI), (8, .own 58 .hnd), (9, .mapR 23), (13, .rowR 105744), (14, .own 3 tI), (17, .val tI), (49, .val (.slice t_api_Payment)), (50, .val tI), (51, .val tI)], [], [.rowC 105744 58 .hnd, .mapC 23 .str .hnd, .ar t_bill_debt], fun _ => 0⟩)]

noncomputable def sp_bill_payments : FSpec := ⟨[.val (.slice t_api_Debt), .val (.slice t_api_Payment), .val tI, .ar t_bill_debt], [.val (.slice .hnd), .val (.slice tI)], fun x => bill_payments x.1 x.2.1 x.2.2.1 x.2.2.2.1⟩

noncomputable def cx_bill_payments : Cx := ⟨Tryd.prog, [(20, sp_bill_debt_there), (25, sp_bill_cents), (26, sp_slices_Clone_bill_debtP), (27, sp_slices_SortStableFunc_bill_debtP), (30, sp_bill_debt_named), (31, sp_bill_debt_pay)]⟩

theorem den_bill_payments : ∀ x, denF cx_bill_payments anns_bill_payments none Tryd.f13 sp_bill_payments x = sp_bill_payments.m x := by intro x; kernel_rfl

theorem hb_bill_payments : HasBody Tryd.prog 13 := has_body (fn := Tryd.f13) (by kernel_rfl) rfl (by decide)

theorem ok_bill_payments : FunOk Tryd.prog 13 sp_bill_payments := fun_ok (X := cx_bill_payments) (.cons ok_bill_debt_there hb_bill_debt_there (.cons ok_bill_cents hb_bill_cents (.cons ok_slices_Clone_bill_debtP hb_slices_Clone_bill_debtP (.cons ok_slices_SortStableFunc_bill_debtP hb_slices_SortStableFunc_bill_debtP (.cons ok_bill_debt_named hb_bill_debt_named (.cons ok_bill_debt_pay hb_bill_debt_pay (.nil _))))))) (by kernel_rfl) sp_bill_payments anns_bill_payments none (by kernel_rfl) (fun x y h => (den_bill_payments x).trans h)

def anns_whole_trimmed : List (Nat × Ann) := [(1, ⟨[(0, .val (.slice (.int .u32)))], [], [], fuelOf _⟩),
  (200001, ⟨[(0, .val (.slice (.int .u32)))], [], [], fun _ => 0⟩)]

noncomputable def sp_whole_trimmed : FSpec := ⟨[.val (.slice (.int .u32))], [.val (.slice (.int .u32))], fun x => whole_trimmed x.1⟩

noncomputable def cx_whole_trimmed : Cx := ⟨Tryd.prog, []⟩

theorem den_whole_trimmed : ∀ x, denF cx_whole_trimmed anns_whole_trimmed none Tryd.f63 sp_whole_trimmed x = sp_whole_trimmed.m x := by intro x; kernel_rfl

theorem hb_whole_trimmed : HasBody Tryd.prog 63 := has_body (fn := Tryd.f63) (by kernel_rfl) rfl (by decide)

theorem ok_whole_trimmed : FunOk Tryd.prog 63 sp_whole_trimmed := fun_ok (X := cx_whole_trimmed) (.nil _) (by kernel_rfl) sp_whole_trimmed anns_whole_trimmed none (by kernel_rfl) (fun x y h => (den_whole_trimmed x).trans h)

def anns_whole_made : List (Nat × Ann) := []

noncomputable def sp_whole_made : FSpec := ⟨[.val .bool, .val (.slice (.int .u32))], [.val t_whole_Int], fun x => whole_made x.1 x.2.1⟩

noncomputable def cx_whole_made : Cx := ⟨Tryd.prog, [(63, sp_whole_trimmed)]⟩

theorem den_whole_made : ∀ x, denF cx_whole_made anns_whole_made none Tryd.f54 sp_whole_made x = sp_whole_made.m x := by intro x; kernel_rfl

theorem hb_whole_made : HasBody Tryd.prog 54 := has_body (fn := Tryd.f54) (by kernel_rfl) rfl (by decide)

theorem ok_whole_made : FunOk Tryd.prog 54 sp_whole_made := fun_ok (X := cx_whole_made) (.cons ok_whole_trimmed hb_whole_trimmed (.nil _)) (by kernel_rfl) sp_whole_made anns_whole_made none (by kernel_rfl) (fun x y h => (den_whole_made x).trans h)

def anns_whole_Of : List (Nat × Ann) := [(100003, ⟨[(0, .val tI), (2, .ref 2 0), (3, .val (.int .u64))], [(2, [.val .bool, .own 99 (.int .u32)])], [], fun _ => 0⟩)]

noncomputable def sp_whole_Of : FSpec := ⟨[.val tI], [.val t_whole_Int], fun x => whole_Of x.1⟩

noncomputable def cx_whole_Of : Cx := ⟨Tryd.prog, [(54, sp_whole_made)]⟩

theorem den_whole_Of : ∀ x, denF cx_whole_Of anns_whole_Of none Tryd.f38 sp_whole_Of x = sp_whole_Of.m x := by intro x; kernel_rfl

theorem hb_whole_Of : HasBody Tryd.prog 38 := has_body (fn := Tryd.f38) (by kernel_rfl) rfl (by decide)

theorem ok_whole_Of : FunOk Tryd.prog 38 sp_whole_Of := fun_ok (X := cx_whole_Of) (.cons ok_whole_made hb_whole_made (.nil _)) (by kernel_rfl) sp_whole_Of anns_whole_Of none (by kernel_rfl) (fun x y h => (den_whole_Of x).trans h)

def anns_whole_sum : List (Nat × Ann) := [(6, ⟨[(1, .val (.slice (.int .u32))), (5, .own 99 (.int .u32)), (6, .val (.int .u64)), (20, .val (.slice (.int .u32))), (21, .val tI), (22, .val tI)], [], [], fuelOf _⟩),
  (100002, ⟨[(0, .val (.slice (.int .u32))), (1, .val (.slice (.int .u32)))], [], [], fun _ => 0⟩),
  (100010, ⟨[(1, .val (.slice (.int .u32))), (5, .own 99 (.int .u32)), (6, .val (.int .u64)), (20, .val (.slice (.int .u32))), (21, .val tI), (22, .val tI)], [], [], fun _ => 0⟩),
  (200006, ⟨[(5, .own 99 (.int .u32)), (6, .val (.int .u64))], [], [], fun _ => 0⟩)]

noncomputable def sp_whole_sum : FSpec := ⟨[.val (.slice (.int .u32)), .val (.slice (.int .u32))], [.row 99 (.int .u32)], fun x => whole_sum x.1 x.2.1⟩

noncomputable def cx_whole_sum : Cx := ⟨Tryd.prog, []⟩

theorem den_whole_sum : ∀ x, denF cx_whole_sum anns_whole_sum none Tryd.f62 sp_whole_sum x = sp_whole_sum.m x := by intro x; kernel_rfl

theorem hb_whole_sum : HasBody Tryd.prog 62 := has_body (fn := Tryd.f62) (by kernel_rfl) rfl (by decide)

theorem ok_whole_sum : FunOk Tryd.prog 62 sp_whole_sum := fun_ok (X := cx_whole_sum) (.nil _) (by kernel_rfl) sp_whole_sum anns_whole_sum none (by kernel_rfl) (fun x y h => (den_whole_sum x).trans h)

def anns_whole_compare : List (Nat × Ann) := [(4, ⟨[(0, .val (.slice (.int .u32))), (1, .val (.slice (.int .u32))), (5, .val tI)], [], [], fuelOf _⟩),
  (200004, ⟨[], [], [], fun _ => 0⟩)]

noncomputable def sp_whole_compare : FSpec := ⟨[.val (.slice (.int .u32)), .val (.slice (.int .u32))], [.val tI], fun x => whole_compare x.1 x.2.1⟩

noncomputable def cx_whole_compare : Cx := ⟨Tryd.prog, []⟩

theorem den_whole_compare : ∀ x, denF cx_whole_compare anns_whole_compare none Tryd.f64 sp_whole_compare x = sp_whole_compare.m x := by intro x; kernel_rfl

theorem hb_whole_compare : HasBody Tryd.prog 64 := has_body (fn := Tryd.f64) (by kernel_rfl) rfl (by decide)

theorem ok_whole_compare : FunOk Tryd.prog 64 sp_whole_compare := fun_ok (X := cx_whole_compare) (.nil _) (by kernel_rfl) sp_whole_compare anns_whole_compare none (by kernel_rfl) (fun x y h => (den_whole_compare x).trans h)

def anns_whole_less : List (Nat × Ann) := [(4, ⟨[(1, .val (.slice (.int .u32))), (5, .own 99 (.int .u32)), (6, .val (.int .u64)), (13, .val (.slice (.int .u32))), (14, .val tI), (15, .val tI)], [], [], fuelOf _⟩),
  (100008, ⟨[(1, .val (.slice (.int .u32))), (5, .own 99 (.int .u32)), (9, .val (.int .u64)), (13, .val (.slice (.int .u32))), (14, .val tI), (15, .val tI)], [], [], fun _ => 0⟩),
  (200004, ⟨[(5, .own 99 (.int .u32))], [], [], fun _ => 0⟩)]

noncomputable def sp_whole_less : FSpec := ⟨[.val (.slice (.int .u32)), .val (.slice (.int .u32))], [.val (.slice (.int .u32))], fun x => whole_less x.1 x.2.1⟩

noncomputable def cx_whole_less : Cx := ⟨Tryd.prog, [(63, sp_whole_trimmed)]⟩

theorem den_whole_less : ∀ x, denF cx_whole_less anns_whole_less none Tryd.f65 sp_whole_less x = sp_whole_less.m x := by intro x; kernel_rfl

theorem hb_whole_less : HasBody Tryd.prog 65 := has_body (fn := Tryd.f65) (by kernel_rfl) rfl (by decide)

theorem ok_whole_less : FunOk Tryd.prog 65 sp_whole_less := fun_ok (X := cx_whole_less) (.cons ok_whole_trimmed hb_whole_trimmed (.nil _)) (by kernel_rfl) sp_whole_less anns_whole_less none (by kernel_rfl) (fun x y h => (den_whole_less x).trans h)

def anns_whole_Int_By : List (Nat × Ann) := [(4, ⟨[(2, .ref 2 0), (3, .ref 3 0), (4, .ref 4 0), (5, .ref 5 0), (6, .rowR 12), (7, .val (.slice (.int .u32))), (8, .val tI)], [(2, [.val .bool, .val (.slice (.int .u32))]), (3, [.val .bool, .val (.slice (.int .u32))]), (4, [.val .bool, .own 99 (.int .u32)]), (5, [.val .bool, .own 99 (.int .u32)])], [.rowC 12 99 (.int .u32)], fuelOf _⟩),
  (200004, ⟨[(4, .ref 4 0), (5, .ref 5 0), (6, .rowR 12), (7, .val (.slice (.int .u32)))], [(4, [.val .bool, .own 99 (.int .u32)]), (5, [.val .bool, .own 99 (.int .u32)])], [.rowC 12 99 (.int .u32)], fun _ => 0⟩)]

noncomputable def sp_whole_Int_By : FSpec := ⟨[.val t_whole_Int, .val t_whole_Int], [.val t_whole_Int, .val t_whole_Int], fun x => whole_Int_By x.1 x.2.1⟩

noncomputable def cx_whole_Int_By : Cx := ⟨Tryd.prog, [(54, sp_whole_made), (62, sp_whole_sum), (63, sp_whole_trimmed), (64, sp_whole_compare), (65, sp_whole_less)]⟩

theorem den_whole_Int_By : ∀ x, denF cx_whole_Int_By anns_whole_Int_By none Tryd.f50 sp_whole_Int_By x = sp_whole_Int_By.m x := by intro x; kernel_rfl

theorem hb_whole_Int_By : HasBody Tryd.prog 50 := has_body (fn := Tryd.f50) (by kernel_rfl) rfl (by decide)

theorem ok_whole_Int_By : FunOk Tryd.prog 50 sp_whole_Int_By := fun_ok (X := cx_whole_Int_By) (.cons ok_whole_made hb_whole_made (.cons ok_whole_sum hb_whole_sum (.cons ok_whole_trimmed hb_whole_trimmed (.cons ok_whole_compare hb_whole_compare (.cons ok_whole_less hb_whole_less (.nil _)))))) (by kernel_rfl) sp_whole_Int_By anns_whole_Int_By none (by kernel_rfl) (fun x y h => (den_whole_Int_By x).trans h)

def anns_whole_Int_Sign : List (Nat × Ann) := []

noncomputable def sp_whole_Int_Sign : FSpec := ⟨[.val t_whole_Int], [.val tI], fun x => whole_Int_Sign x.1⟩

noncomputable def cx_whole_Int_Sign : Cx := ⟨Tryd.prog, []⟩

theorem den_whole_Int_Sign : ∀ x, denF cx_whole_Int_Sign anns_whole_Int_Sign none Tryd.f51 sp_whole_Int_Sign x = sp_whole_Int_Sign.m x := by intro x; kernel_rfl

theorem hb_whole_Int_Sign : HasBody Tryd.prog 51 := has_body (fn := Tryd.f51) (by kernel_rfl) rfl (by decide)

theorem ok_whole_Int_Sign : FunOk Tryd.prog 51 sp_whole_Int_Sign := fun_ok (X := cx_whole_Int_Sign) (.nil _) (by kernel_rfl) sp_whole_Int_Sign anns_whole_Int_Sign none (by kernel_rfl) (fun x y h => (den_whole_Int_Sign x).trans h)

def anns_whole_Int_Minus : List (Nat × Ann) := []

noncomputable def sp_whole_Int_Minus : FSpec := ⟨[.val t_whole_Int], [.val t_whole_Int], fun x => whole_Int_Minus x.1⟩

noncomputable def cx_whole_Int_Minus : Cx := ⟨Tryd.prog, [(54, sp_whole_made)]⟩

theorem den_whole_Int_Minus : ∀ x, denF cx_whole_Int_Minus anns_whole_Int_Minus none Tryd.f52 sp_whole_Int_Minus x = sp_whole_Int_Minus.m x := by intro x; kernel_rfl

theorem hb_whole_Int_Minus : HasBody Tryd.prog 52 := has_body (fn := Tryd.f52) (by kernel_rfl) rfl (by decide)

theorem ok_whole_Int_Minus : FunOk Tryd.prog 52 sp_whole_Int_Minus := fun_ok (X := cx_whole_Int_Minus) (.cons ok_whole_made hb_whole_made (.nil _)) (by kernel_rfl) sp_whole_Int_Minus anns_whole_Int_Minus none (by kernel_rfl) (fun x y h => (den_whole_Int_Minus x).trans h)

def anns_whole_Int_Int : List (Nat × Ann) := [(5, ⟨[(1, .val tI), (2, .ref 2 0), (6, .val (.int .u64)), (14, .val (.slice (.int .u32))), (15, .val tI), (16, .val tI)], [(2, [.val .bool, .val (.slice (.int .u32))])], [], fuelOf _⟩),
  (200005, ⟨[(1, .val tI), (2, .ref 2 0), (6, .val (.int .u64))], [(2, [.val .bool, .val (.slice (.int .u32))])], [], fun _ => 0⟩)]

noncomputable def sp_whole_Int_Int : FSpec := ⟨[.val t_whole_Int, .val tI], [.val tI, .val .bool], fun x => whole_Int_Int x.1 x.2.1⟩

noncomputable def cx_whole_Int_Int : Cx := ⟨Tryd.prog, []⟩

theorem den_whole_Int_Int : ∀ x, denF cx_whole_Int_Int anns_whole_Int_Int none Tryd.f66 sp_whole_Int_Int x = sp_whole_Int_Int.m x := by intro x; kernel_rfl

theorem hb_whole_Int_Int : HasBody Tryd.prog 66 := has_body (fn := Tryd.f66) (by kernel_rfl) rfl (by decide)

theorem ok_whole_Int_Int : FunOk Tryd.prog 66 sp_whole_Int_Int := fun_ok (X := cx_whole_Int_Int) (.nil _) (by kernel_rfl) sp_whole_Int_Int anns_whole_Int_Int none (by kernel_rfl) (fun x y h => (den_whole_Int_Int x).trans h)

def anns_amount_Made : List (Nat × Ann) := []

noncomputable def sp_amount_Made : FSpec := ⟨[.val t_whole_Int, .val tI], [.val t_api_Decimal, .val tI], fun x => amount_Made x.1 x.2.1⟩

noncomputable def cx_amount_Made : Cx := ⟨Tryd.prog, [(66, sp_whole_Int_Int)]⟩

theorem den_amount_Made : ∀ x, denF cx_amount_Made anns_amount_Made none Tryd.f53 sp_amount_Made x = sp_amount_Made.m x := by intro x; kernel_rfl

theorem hb_amount_Made : HasBody Tryd.prog 53 := has_body (fn := Tryd.f53) (by kernel_rfl) rfl (by decide)

theorem ok_amount_Made : FunOk Tryd.prog 53 sp_amount_Made := fun_ok (X := cx_amount_Made) (.cons ok_whole_Int_Int hb_whole_Int_Int (.nil _)) (by kernel_rfl) sp_amount_Made anns_amount_Made none (by kernel_rfl) (fun x y h => (den_amount_Made x).trans h)

def anns_amount_Fewest : List (Nat × Ann) := [(2, ⟨[(1, .val tI), (2, .ref 2 0), (4, .ref 4 0), (6, .ref 6 0)], [(2, [.val .bool, .val (.slice (.int .u32))]), (4, [.val tI, .val tI]), (6, [.val .bool, .val (.slice (.int .u32))])], [], fuelOf _⟩),
  (200002, ⟨[(1, .val tI), (2, .ref 2 0), (4, .ref 4 0)], [(2, [.val .bool, .val (.slice (.int .u32))]), (4, [.val tI, .val tI])], [], fun _ => 0⟩)]

noncomputable def sp_amount_Fewest : FSpec := ⟨[.val t_whole_Int, .val tI], [.val t_api_Decimal, .val tI], fun x => amount_Fewest x.1 x.2.1⟩

noncomputable def cx_amount_Fewest : Cx := ⟨Tryd.prog, [(38, sp_whole_Of), (50, sp_whole_Int_By), (51, sp_whole_Int_Sign), (52, sp_whole_Int_Minus), (53, sp_amount_Made)]⟩

theorem den_amount_Fewest : ∀ x, denF cx_amount_Fewest anns_amount_Fewest none Tryd.f37 sp_amount_Fewest x = sp_amount_Fewest.m x := by intro x; kernel_rfl

theorem hb_amount_Fewest : HasBody Tryd.prog 37 := has_body (fn := Tryd.f37) (by kernel_rfl) rfl (by decide)

theorem ok_amount_Fewest : FunOk Tryd.prog 37 sp_amount_Fewest := fun_ok (X := cx_amount_Fewest) (.cons ok_whole_Of hb_whole_Of (.cons ok_whole_Int_By hb_whole_Int_By (.cons ok_whole_Int_Sign hb_whole_Int_Sign (.cons ok_whole_Int_Minus hb_whole_Int_Minus (.cons ok_amount_Made hb_amount_Made (.nil _)))))) (by kernel_rfl) sp_amount_Fewest anns_amount_Fewest none (by kernel_rfl) (fun x y h => (den_amount_Fewest x).trans h)

def anns_bill_money : List (Nat × Ann) := []

noncomputable def sp_bill_money : FSpec := ⟨[.val tI], [.val t_api_Decimal, .val tI], fun x => bill_money x.1⟩

noncomputable def cx_bill_money : Cx := ⟨Tryd.prog, [(37, sp_amount_Fewest), (38, sp_whole_Of)]⟩

theorem den_bill_money : ∀ x, denF cx_bill_money anns_bill_money none Tryd.f22 sp_bill_money x = sp_bill_money.m x := by intro x; kernel_rfl

theorem hb_bill_money : HasBody Tryd.prog 22 := has_body (fn := Tryd.f22) (by kernel_rfl) rfl (by decide)

theorem ok_bill_money : FunOk Tryd.prog 22 sp_bill_money := fun_ok (X := cx_bill_money) (.cons ok_amount_Fewest hb_amount_Fewest (.cons ok_whole_Of hb_whole_Of (.nil _))) (by kernel_rfl) sp_bill_money anns_bill_money none (by kernel_rfl) (fun x y h => (den_bill_money x).trans h)

def anns_bill_toldMoney : List (Nat × Ann) := []

noncomputable def sp_bill_toldMoney : FSpec := ⟨[.val tI], [.val t_api_Decimal], fun x => bill_toldMoney x.1⟩

noncomputable def cx_bill_toldMoney : Cx := ⟨Tryd.prog, [(22, sp_bill_money)]⟩

theorem den_bill_toldMoney : ∀ x, denF cx_bill_toldMoney anns_bill_toldMoney none Tryd.f14 sp_bill_toldMoney x = sp_bill_toldMoney.m x := by intro x; kernel_rfl

theorem hb_bill_toldMoney : HasBody Tryd.prog 14 := has_body (fn := Tryd.f14) (by kernel_rfl) rfl (by decide)

theorem ok_bill_toldMoney : FunOk Tryd.prog 14 sp_bill_toldMoney := fun_ok (X := cx_bill_toldMoney) (.cons ok_bill_money hb_bill_money (.nil _)) (by kernel_rfl) sp_bill_toldMoney anns_bill_toldMoney none (by kernel_rfl) (fun x y h => (den_bill_toldMoney x).trans h)

def anns_bill_Pay : List (Nat × Ann) := [(7, ⟨[(9, .val (.slice tI)), (10, .own 37 t_api_Paid), (28, .val (.slice .hnd)), (29, .val tI), (30, .val tI)], [], [.ar t_bill_debt], fuelOf _⟩),
  (13, ⟨[(10, .own 37 t_api_Paid), (13, .own 32 t_api_Decimal), (58, .val (.slice tI)), (59, .val tI), (60, .val tI)], [], [.ar t_bill_debt], fuelOf _⟩),
  (200007, ⟨[(9, .val (.slice tI)), (10, .own 37 t_api_Paid)], [], [.ar t_bill_debt], fun _ => 0⟩),
  (200013, ⟨[(10, .own 37 t_api_Paid), (13, .own 32 t_api_Decimal)], [], [.ar t_bill_debt], fun _ => 0⟩)]

noncomputable def sp_bill_Pay : FSpec := ⟨[.val (.slice t_api_Debt), .val (.slice t_api_Payment)], [.val (.slice t_api_Paid), .val (.slice t_api_Decimal), .val tI], fun x => bill_Pay x.1 x.2.1⟩

noncomputable def cx_bill_Pay : Cx := ⟨Tryd.prog, [(12, sp_bill_bothFault), (13, sp_bill_payments), (14, sp_bill_toldMoney)]⟩

theorem den_bill_Pay : ∀ x, denF cx_bill_Pay anns_bill_Pay (some t_bill_debt) Tryd.f5 sp_bill_Pay x = sp_bill_Pay.m x := by intro x; kernel_rfl

theorem hb_bill_Pay : HasBody Tryd.prog 5 := has_body (fn := Tryd.f5) (by kernel_rfl) rfl (by decide)

theorem ok_bill_Pay : FunOk Tryd.prog 5 sp_bill_Pay := fun_ok (X := cx_bill_Pay) (.cons ok_bill_bothFault hb_bill_bothFault (.cons ok_bill_payments hb_bill_payments (.cons ok_bill_toldMoney hb_bill_toldMoney (.nil _)))) (by kernel_rfl) sp_bill_Pay anns_bill_Pay (some t_bill_debt) (by kernel_rfl) (fun x y h => (den_bill_Pay x).trans h)

def anns_l11_awake : List (Nat × Ann) := []

noncomputable def sp_l11_awake : FSpec := ⟨[], [.val .bool], fun x => l11_awake ⟩

noncomputable def cx_l11_awake : Cx := ⟨Tryd.prog, [(5, sp_bill_Pay)]⟩

theorem den_l11_awake : ∀ x, denF cx_l11_awake anns_l11_awake none Tryd.f6 sp_l11_awake x = sp_l11_awake.m x := by intro x; kernel_rfl

theorem hb_l11_awake : HasBody Tryd.prog 6 := has_body (fn := Tryd.f6) (by kernel_rfl) rfl (by decide)

theorem ok_l11_awake : FunOk Tryd.prog 6 sp_l11_awake := fun_ok (X := cx_l11_awake) (.cons ok_bill_Pay hb_bill_Pay (.nil _)) (by kernel_rfl) sp_l11_awake anns_l11_awake none (by kernel_rfl) (fun x y h => (den_l11_awake x).trans h)

def anns_slices_Clone_api_Decimal : List (Nat × Ann) := []

noncomputable def sp_slices_Clone_api_Decimal : FSpec := ⟨[.val (.slice t_api_Decimal)], [.row 32 t_api_Decimal], fun x => slices_Clone_api_Decimal x.1⟩

noncomputable def cx_slices_Clone_api_Decimal : Cx := ⟨Tryd.prog, []⟩

theorem den_slices_Clone_api_Decimal : ∀ x, denF cx_slices_Clone_api_Decimal anns_slices_Clone_api_Decimal none Tryd.f7 sp_slices_Clone_api_Decimal x = sp_slices_Clone_api_Decimal.m x := by intro x; kernel_rfl

theorem hb_slices_Clone_api_Decimal : HasBody Tryd.prog 7 := has_body (fn := Tryd.f7) (by kernel_rfl) rfl (by decide)

theorem ok_slices_Clone_api_Decimal : FunOk Tryd.prog 7 sp_slices_Clone_api_Decimal := fun_ok (X := cx_slices_Clone_api_Decimal) (.nil _) (by kernel_rfl) sp_slices_Clone_api_Decimal anns_slices_Clone_api_Decimal none (by kernel_rfl) (fun x y h => (den_slices_Clone_api_Decimal x).trans h)

def anns_r1_Of : List (Nat × Ann) := [(2, ⟨[(0, .val tI), (2, .ref 2 0), (3, .ref 3 0)], [(2, [.val .bool, .own 3 tI]), (3, [.val .bool, .own 3 tI])], [], fuelOf _⟩),
  (200002, ⟨[(2, .ref 2 0), (3, .ref 3 0)], [(2, [.val .bool, .own 3 tI]), (3, [.val .bool, .own 3 tI])], [], fun _ => 0⟩)]

noncomputable def sp_r1_Of : FSpec := ⟨[.val tI], [.val t_interchangeref1_Num], fun x => r1_Of x.1⟩

noncomputable def cx_r1_Of : Cx := ⟨Tryd.prog, []⟩

theorem den_r1_Of : ∀ x, denF cx_r1_Of anns_r1_Of none Tryd.f48 sp_r1_Of x = sp_r1_Of.m x := by intro x; kernel_rfl

theorem hb_r1_Of : HasBody Tryd.prog 48 := has_body (fn := Tryd.f48) (by kernel_rfl) rfl (by decide)

theorem ok_r1_Of : FunOk Tryd.prog 48 sp_r1_Of := fun_ok (X := cx_r1_Of) (.nil _) (by kernel_rfl) sp_r1_Of anns_r1_Of none (by kernel_rfl) (fun x y h => (den_r1_Of x).trans h)

def anns_r1_trimmed : List (Nat × Ann) := [(1, ⟨[(1, .ref 1 0), (2, .ref 2 0)], [(1, [.val .bool, .val (.slice tI)]), (2, [.val .bool, .own 3 tI])], [], fuelOf _⟩),
  (200001, ⟨[(1, .ref 1 0), (2, .ref 2 0)], [(1, [.val .bool, .val (.slice tI)]), (2, [.val .bool, .own 3 tI])], [], fun _ => 0⟩)]

noncomputable def sp_r1_trimmed : FSpec := ⟨[.val t_interchangeref1_Num], [.val t_interchangeref1_Num], fun x => r1_trimmed x.1⟩

noncomputable def cx_r1_trimmed : Cx := ⟨Tryd.prog, []⟩

theorem den_r1_trimmed : ∀ x, denF cx_r1_trimmed anns_r1_trimmed none Tryd.f35 sp_r1_trimmed x = sp_r1_trimmed.m x := by intro x; kernel_rfl

theorem hb_r1_trimmed : HasBody Tryd.prog 35 := has_body (fn := Tryd.f35) (by kernel_rfl) rfl (by decide)

theorem ok_r1_trimmed : FunOk Tryd.prog 35 sp_r1_trimmed := fun_ok (X := cx_r1_trimmed) (.nil _) (by kernel_rfl) sp_r1_trimmed anns_r1_trimmed none (by kernel_rfl) (fun x y h => (den_r1_trimmed x).trans h)

def anns_r1_TimesOf : List (Nat × Ann) := [(3, ⟨[(3, .ref 3 0), (4, .ref 4 0), (5, .ref 5 0), (27, .val (.slice tI)), (28, .val tI), (29, .val tI)], [(3, [.val .bool, .val (.slice tI)]), (4, [.val .bool, .own 3 tI]), (5, [.val .bool, .rowR 24])], [.rowC 24 3 tI], fuelOf _⟩),
  (6, ⟨[(3, .ref 3 0), (4, .ref 4 0), (5, .ref 5 0), (6, .val tI), (7, .val tI), (27, .val (.slice tI)), (28, .val tI), (29, .val tI), (35, .val (.slice tI)), (36, .val tI), (37, .val tI)], [(3, [.val .bool, .val (.slice tI)]), (4, [.val .bool, .own 3 tI]), (5, [.val .bool, .rowR 24])], [.rowC 24 3 tI], fuelOf _⟩),
  (14, ⟨[(4, .ref 4 0), (5, .ref 5 0), (86, .val tI), (87, .val tI)], [(4, [.val .bool, .own 3 tI]), (5, [.val .bool, .rowR 24])], [.rowC 24 3 tI], fuelOf _⟩),
  (200003, ⟨[(4, .ref 4 0), (5, .ref 5 0)], [(4, [.val .bool, .own 3 tI]), (5, [.val .bool, .rowR 24])], [.rowC 24 3 tI], fun _ => 0⟩),
  (200006, ⟨[(3, .ref 3 0), (4, .ref 4 0), (5, .ref 5 0), (27, .val (.slice tI)), (28, .val tI), (29, .val tI)], [(3, [.val .bool, .val (.slice tI)]), (4, [.val .bool, .own 3 tI]), (5, [.val .bool, .rowR 24])], [.rowC 24 3 tI], fun _ => 0⟩),
  (200014, ⟨[(4, .ref 4 0), (5, .ref 5 0)], [(4, [.val .bool, .own 3 tI]), (5, [.val .bool, .rowR 24])], [.rowC 24 3 tI], fun _ => 0⟩)]

noncomputable def sp_r1_TimesOf : FSpec := ⟨[.val t_interchangeref1_Num, .val t_interchangeref1_Num], [.val t_interchangeref1_Num], fun x => r1_TimesOf x.1 x.2.1⟩

noncomputable def cx_r1_TimesOf : Cx := ⟨Tryd.prog, [(35, sp_r1_trimmed)]⟩

theorem den_r1_TimesOf : ∀ x, denF cx_r1_TimesOf anns_r1_TimesOf none Tryd.f47 sp_r1_TimesOf x = sp_r1_TimesOf.m x := by intro x; kernel_rfl

theorem hb_r1_TimesOf : HasBody Tryd.prog 47 := has_body (fn := Tryd.f47) (by kernel_rfl) rfl (by decide)

theorem ok_r1_TimesOf : FunOk Tryd.prog 47 sp_r1_TimesOf := fun_ok (X := cx_r1_TimesOf) (.cons ok_r1_trimmed hb_r1_trimmed (.nil _)) (by kernel_rfl) sp_r1_TimesOf anns_r1_TimesOf none (by kernel_rfl) (fun x y h => (den_r1_TimesOf x).trans h)

def anns_r1_Power : List (Nat × Ann) := [(3, ⟨[(2, .ref 2 0), (3, .ref 3 0), (5, .val tI), (6, .val tI)], [(2, [.val .bool, .own 3 tI]), (3, [.val .bool, .val (.slice tI)])], [], fuelOf _⟩),
  (200003, ⟨[(2, .ref 2 0), (3, .ref 3 0)], [(2, [.val .bool, .own 3 tI]), (3, [.val .bool, .val (.slice tI)])], [], fun _ => 0⟩)]

noncomputable def sp_r1_Power : FSpec := ⟨[.val tI], [.val t_interchangeref1_Num], fun x => r1_Power x.1⟩

noncomputable def cx_r1_Power : Cx := ⟨Tryd.prog, [(47, sp_r1_TimesOf), (48, sp_r1_Of)]⟩

theorem den_r1_Power : ∀ x, denF cx_r1_Power anns_r1_Power none Tryd.f49 sp_r1_Power x = sp_r1_Power.m x := by intro x; kernel_rfl

theorem hb_r1_Power : HasBody Tryd.prog 49 := has_body (fn := Tryd.f49) (by kernel_rfl) rfl (by decide)

theorem ok_r1_Power : FunOk Tryd.prog 49 sp_r1_Power := fun_ok (X := cx_r1_Power) (.cons ok_r1_TimesOf hb_r1_TimesOf (.cons ok_r1_Of hb_r1_Of (.nil _))) (by kernel_rfl) sp_r1_Power anns_r1_Power none (by kernel_rfl) (fun x y h => (den_r1_Power x).trans h)

def anns_r1_At : List (Nat × Ann) := []

noncomputable def sp_r1_At : FSpec := ⟨[.val t_api_Decimal, .val tI], [.val t_interchangeref1_Num], fun x => r1_At x.1 x.2.1⟩

noncomputable def cx_r1_At : Cx := ⟨Tryd.prog, [(47, sp_r1_TimesOf), (48, sp_r1_Of), (49, sp_r1_Power)]⟩

theorem den_r1_At : ∀ x, denF cx_r1_At anns_r1_At none Tryd.f32 sp_r1_At x = sp_r1_At.m x := by intro x; kernel_rfl

theorem hb_r1_At : HasBody Tryd.prog 32 := has_body (fn := Tryd.f32) (by kernel_rfl) rfl (by decide)

theorem ok_r1_At : FunOk Tryd.prog 32 sp_r1_At := fun_ok (X := cx_r1_At) (.cons ok_r1_TimesOf hb_r1_TimesOf (.cons ok_r1_Of hb_r1_Of (.cons ok_r1_Power hb_r1_Power (.nil _)))) (by kernel_rfl) sp_r1_At anns_r1_At none (by kernel_rfl) (fun x y h => (den_r1_At x).trans h)

def anns_r1_sizes : List (Nat × Ann) := [(4, ⟨[(0, .val (.slice tI)), (1, .val (.slice tI)), (5, .val tI)], [], [], fuelOf _⟩),
  (200004, ⟨[], [], [], fun _ => 0⟩)]

noncomputable def sp_r1_sizes : FSpec := ⟨[.val (.slice tI), .val (.slice tI)], [.val tI], fun x => r1_sizes x.1 x.2.1⟩

noncomputable def cx_r1_sizes : Cx := ⟨Tryd.prog, []⟩

theorem den_r1_sizes : ∀ x, denF cx_r1_sizes anns_r1_sizes none Tryd.f33 sp_r1_sizes x = sp_r1_sizes.m x := by intro x; kernel_rfl

theorem hb_r1_sizes : HasBody Tryd.prog 33 := has_body (fn := Tryd.f33) (by kernel_rfl) rfl (by decide)

theorem ok_r1_sizes : FunOk Tryd.prog 33 sp_r1_sizes := fun_ok (X := cx_r1_sizes) (.nil _) (by kernel_rfl) sp_r1_sizes anns_r1_sizes none (by kernel_rfl) (fun x y h => (den_r1_sizes x).trans h)

def anns_r1_digit : List (Nat × Ann) := []

noncomputable def sp_r1_digit : FSpec := ⟨[.val (.slice tI), .val tI], [.val tI], fun x => r1_digit x.1 x.2.1⟩

noncomputable def cx_r1_digit : Cx := ⟨Tryd.prog, []⟩

theorem den_r1_digit : ∀ x, denF cx_r1_digit anns_r1_digit none Tryd.f34 sp_r1_digit x = sp_r1_digit.m x := by intro x; kernel_rfl

theorem hb_r1_digit : HasBody Tryd.prog 34 := has_body (fn := Tryd.f34) (by kernel_rfl) rfl (by decide)

theorem ok_r1_digit : FunOk Tryd.prog 34 sp_r1_digit := fun_ok (X := cx_r1_digit) (.nil _) (by kernel_rfl) sp_r1_digit anns_r1_digit none (by kernel_rfl) (fun x y h => (den_r1_digit x).trans h)

def anns_r1_Plus : List (Nat × Ann) := [(7, ⟨[(2, .ref 2 0), (3, .ref 3 0), (4, .ref 4 0), (5, .ref 5 0), (6, .val tI), (31, .val tI), (32, .val tI)], [(2, [.val .bool, .val (.slice tI)]), (3, [.val .bool, .val (.slice tI)]), (4, [.val .bool, .own 3 tI]), (5, [.val .bool, .own 3 tI])], [], fuelOf _⟩),
  (19, ⟨[(2, .ref 2 0), (3, .ref 3 0), (4, .ref 4 0), (9, .ref 9 0), (10, .val tI), (70, .val tI), (71, .val tI)], [(2, [.val .bool, .val (.slice tI)]), (3, [.val .bool, .val (.slice tI)]), (4, [.val .bool, .own 3 tI]), (9, [.val .bool, .own 3 tI])], [], fuelOf _⟩),
  (100003, ⟨[(2, .ref 2 0), (3, .ref 3 0), (4, .ref 4 0)], [(2, [.val .bool, .val (.slice tI)]), (3, [.val .bool, .val (.slice tI)]), (4, [.val .bool, .own 3 tI])], [], fun _ => 0⟩),
  (100012, ⟨[(2, .ref 2 0), (3, .ref 3 0), (4, .ref 4 0), (5, .ref 5 0), (6, .val tI), (8, .val tI), (31, .val tI), (32, .val tI)], [(2, [.val .bool, .val (.slice tI)]), (3, [.val .bool, .val (.slice tI)]), (4, [.val .bool, .own 3 tI]), (5, [.val .bool, .own 3 tI])], [], fun _ => 0⟩),
  (200007, ⟨[(4, .ref 4 0), (5, .ref 5 0)], [(4, [.val .bool, .own 3 tI]), (5, [.val .bool, .own 3 tI])], [], fun _ => 0⟩),
  (200019, ⟨[(4, .ref 4 0), (9, .ref 9 0)], [(4, [.val .bool, .own 3 tI]), (9, [.val .bool, .own 3 tI])], [], fun _ => 0⟩)]

noncomputable def sp_r1_Plus : FSpec := ⟨[.val t_interchangeref1_Num, .val t_interchangeref1_Num], [.val t_interchangeref1_Num], fun x => r1_Plus x.1 x.2.1⟩

noncomputable def cx_r1_Plus : Cx := ⟨Tryd.prog, [(33, sp_r1_sizes), (34, sp_r1_digit), (35, sp_r1_trimmed)]⟩

theorem den_r1_Plus : ∀ x, denF cx_r1_Plus anns_r1_Plus none Tryd.f17 sp_r1_Plus x = sp_r1_Plus.m x := by intro x; kernel_rfl

theorem hb_r1_Plus : HasBody Tryd.prog 17 := has_body (fn := Tryd.f17) (by kernel_rfl) rfl (by decide)

theorem ok_r1_Plus : FunOk Tryd.prog 17 sp_r1_Plus := fun_ok (X := cx_r1_Plus) (.cons ok_r1_sizes hb_r1_sizes (.cons ok_r1_digit hb_r1_digit (.cons ok_r1_trimmed hb_r1_trimmed (.nil _)))) (by kernel_rfl) sp_r1_Plus anns_r1_Plus none (by kernel_rfl) (fun x y h => (den_r1_Plus x).trans h)

def anns_r1_Exact : List (Nat × Ann) := [(3, ⟨[(2, .ref 2 0), (3, .ref 3 0), (6, .val (.slice t_api_Decimal)), (7, .val tI), (8, .val tI)], [(2, [.val .bool, .own 3 tI]), (3, [.val .bool, .val (.slice tI)])], [], fuelOf _⟩),
  (200003, ⟨[(2, .ref 2 0), (3, .ref 3 0)], [(2, [.val .bool, .own 3 tI]), (3, [.val .bool, .val (.slice tI)])], [], fun _ => 0⟩)]

noncomputable def sp_r1_Exact : FSpec := ⟨[.val (.slice t_api_Decimal)], [.val t_interchangeref1_Num], fun x => r1_Exact x.1⟩

noncomputable def cx_r1_Exact : Cx := ⟨Tryd.prog, [(17, sp_r1_Plus), (32, sp_r1_At)]⟩

theorem den_r1_Exact : ∀ x, denF cx_r1_Exact anns_r1_Exact none Tryd.f15 sp_r1_Exact x = sp_r1_Exact.m x := by intro x; kernel_rfl

theorem hb_r1_Exact : HasBody Tryd.prog 15 := has_body (fn := Tryd.f15) (by kernel_rfl) rfl (by decide)

theorem ok_r1_Exact : FunOk Tryd.prog 15 sp_r1_Exact := fun_ok (X := cx_r1_Exact) (.cons ok_r1_Plus hb_r1_Plus (.cons ok_r1_At hb_r1_At (.nil _))) (by kernel_rfl) sp_r1_Exact anns_r1_Exact none (by kernel_rfl) (fun x y h => (den_r1_Exact x).trans h)

def anns_r11_Money : List (Nat × Ann) := []

noncomputable def sp_r11_Money : FSpec := ⟨[.val (.slice t_api_Decimal)], [.val t_interchangeref1_Num], fun x => r11_Money x.1⟩

noncomputable def cx_r11_Money : Cx := ⟨Tryd.prog, [(15, sp_r1_Exact)]⟩

theorem den_r11_Money : ∀ x, denF cx_r11_Money anns_r11_Money none Tryd.f8 sp_r11_Money x = sp_r11_Money.m x := by intro x; kernel_rfl

theorem hb_r11_Money : HasBody Tryd.prog 8 := has_body (fn := Tryd.f8) (by kernel_rfl) rfl (by decide)

theorem ok_r11_Money : FunOk Tryd.prog 8 sp_r11_Money := fun_ok (X := cx_r11_Money) (.cons ok_r1_Exact hb_r1_Exact (.nil _)) (by kernel_rfl) sp_r11_Money anns_r11_Money none (by kernel_rfl) (fun x y h => (den_r11_Money x).trans h)

def anns_r1_Minus : List (Nat × Ann) := []

noncomputable def sp_r1_Minus : FSpec := ⟨[.val t_interchangeref1_Num], [.val t_interchangeref1_Num], fun x => r1_Minus x.1⟩

noncomputable def cx_r1_Minus : Cx := ⟨Tryd.prog, []⟩

theorem den_r1_Minus : ∀ x, denF cx_r1_Minus anns_r1_Minus none Tryd.f18 sp_r1_Minus x = sp_r1_Minus.m x := by intro x; kernel_rfl

theorem hb_r1_Minus : HasBody Tryd.prog 18 := has_body (fn := Tryd.f18) (by kernel_rfl) rfl (by decide)

theorem ok_r1_Minus : FunOk Tryd.prog 18 sp_r1_Minus := fun_ok (X := cx_r1_Minus) (.nil _) (by kernel_rfl) sp_r1_Minus anns_r1_Minus none (by kernel_rfl) (fun x y h => (den_r1_Minus x).trans h)

def anns_r1_Sign : List (Nat × Ann) := []

noncomputable def sp_r1_Sign : FSpec := ⟨[.val t_interchangeref1_Num], [.val tI], fun x => r1_Sign x.1⟩

noncomputable def cx_r1_Sign : Cx := ⟨Tryd.prog, []⟩

theorem den_r1_Sign : ∀ x, denF cx_r1_Sign anns_r1_Sign none Tryd.f16 sp_r1_Sign x = sp_r1_Sign.m x := by intro x; kernel_rfl

theorem hb_r1_Sign : HasBody Tryd.prog 16 := has_body (fn := Tryd.f16) (by kernel_rfl) rfl (by decide)

theorem ok_r1_Sign : FunOk Tryd.prog 16 sp_r1_Sign := fun_ok (X := cx_r1_Sign) (.nil _) (by kernel_rfl) sp_r1_Sign anns_r1_Sign none (by kernel_rfl) (fun x y h => (den_r1_Sign x).trans h)

def anns_r1_Cmp : List (Nat × Ann) := []

noncomputable def sp_r1_Cmp : FSpec := ⟨[.val t_interchangeref1_Num, .val t_interchangeref1_Num], [.val tI], fun x => r1_Cmp x.1 x.2.1⟩

noncomputable def cx_r1_Cmp : Cx := ⟨Tryd.prog, [(16, sp_r1_Sign), (17, sp_r1_Plus), (18, sp_r1_Minus)]⟩

theorem den_r1_Cmp : ∀ x, denF cx_r1_Cmp anns_r1_Cmp none Tryd.f9 sp_r1_Cmp x = sp_r1_Cmp.m x := by intro x; kernel_rfl

theorem hb_r1_Cmp : HasBody Tryd.prog 9 := has_body (fn := Tryd.f9) (by kernel_rfl) rfl (by decide)

theorem ok_r1_Cmp : FunOk Tryd.prog 9 sp_r1_Cmp := fun_ok (X := cx_r1_Cmp) (.cons ok_r1_Sign hb_r1_Sign (.cons ok_r1_Plus hb_r1_Plus (.cons ok_r1_Minus hb_r1_Minus (.nil _)))) (by kernel_rfl) sp_r1_Cmp anns_r1_Cmp none (by kernel_rfl) (fun x y h => (den_r1_Cmp x).trans h)

def anns_l11_BillPaysAddUp : List (Nat × Ann) := [(8, ⟨[(0, .val (.slice t_api_Debt)), (5, .val (.slice t_api_Paid)), (8, .own 32 t_api_Decimal), (9, .rowR 122128), (55, .val (.slice t_api_Payment)), (56, .val tI), (57, .val tI)], [], [.rowC 122128 32 t_api_Decimal], fuelOf _⟩),
  (13, ⟨[(0, .val (.slice t_api_Debt)), (8, .own 32 t_api_Decimal), (9, .own 32 t_api_Decimal), (67, .val (.slice t_api_Paid)), (68, .val tI), (69, .val tI)], [], [], fuelOf _⟩),
  (200008, ⟨[(0, .val (.slice t_api_Debt)), (5, .val (.slice t_api_Paid)), (8, .own 32 t_api_Decimal), (9, .rowR 122128)], [], [.rowC 122128 32 t_api_Decimal], fun _ => 0⟩),
  (200013, ⟨[(8, .own 32 t_api_Decimal), (9, .own 32 t_api_Decimal)], [], [], fun _ => 0⟩)]

noncomputable def sp_l11_BillPaysAddUp : FSpec := ⟨[.val (.slice t_api_Debt), .val (.slice t_api_Payment)], [.val .bool], fun x => l11_BillPaysAddUp x.1 x.2.1⟩

noncomputable def cx_l11_BillPaysAddUp : Cx := ⟨Tryd.prog, [(5, sp_bill_Pay), (6, sp_l11_awake), (7, sp_slices_Clone_api_Decimal), (8, sp_r11_Money), (9, sp_r1_Cmp)]⟩

theorem den_l11_BillPaysAddUp : ∀ x, denF cx_l11_BillPaysAddUp anns_l11_BillPaysAddUp none Tryd.f3 sp_l11_BillPaysAddUp x = sp_l11_BillPaysAddUp.m x := by intro x; kernel_rfl

theorem hb_l11_BillPaysAddUp : HasBody Tryd.prog 3 := has_body (fn := Tryd.f3) (by kernel_rfl) rfl (by decide)

theorem ok_l11_BillPaysAddUp : FunOk Tryd.prog 3 sp_l11_BillPaysAddUp := fun_ok (X := cx_l11_BillPaysAddUp) (.cons ok_bill_Pay hb_bill_Pay (.cons ok_l11_awake hb_l11_awake (.cons ok_slices_Clone_api_Decimal hb_slices_Clone_api_Decimal (.cons ok_r11_Money hb_r11_Money (.cons ok_r1_Cmp hb_r1_Cmp (.nil _)))))) (by kernel_rfl) sp_l11_BillPaysAddUp anns_l11_BillPaysAddUp none (by kernel_rfl) (fun x y h => (den_l11_BillPaysAddUp x).trans h)

def anns_bill_debt_late : List (Nat × Ann) := []

noncomputable def sp_bill_debt_late : FSpec := ⟨[.val .hnd, .val tI, .arR t_bill_debt], [.val tI], fun x => bill_debt_late x.1 x.2.1 x.2.2.1⟩

noncomputable def cx_bill_debt_late : Cx := ⟨Tryd.prog, [(29, sp_bill_debt_last)]⟩

theorem den_bill_debt_late : ∀ x, denF cx_bill_debt_late anns_bill_debt_late none Tryd.f21 sp_bill_debt_late x = sp_bill_debt_late.m x := by intro x; kernel_rfl

theorem hb_bill_debt_late : HasBody Tryd.prog 21 := has_body (fn := Tryd.f21) (by kernel_rfl) rfl (by decide)

theorem ok_bill_debt_late : FunOk Tryd.prog 21 sp_bill_debt_late := fun_ok (X := cx_bill_debt_late) (.cons ok_bill_debt_last hb_bill_debt_last (.nil _)) (by kernel_rfl) sp_bill_debt_late anns_bill_debt_late none (by kernel_rfl) (fun x y h => (den_bill_debt_late x).trans h)

def anns_bill_OpenAt : List (Nat × Ann) := [(9, ⟨[(2, .val tI), (11, .own 50 t_api_Owed), (30, .val (.slice .hnd)), (31, .val tI), (32, .val tI)], [], [.ar t_bill_debt], fuelOf _⟩),
  (200009, ⟨[(11, .own 50 t_api_Owed)], [], [.ar t_bill_debt], fun _ => 0⟩)]

noncomputable def sp_bill_OpenAt : FSpec := ⟨[.val (.slice t_api_Debt), .val (.slice t_api_Payment), .val tI], [.val (.slice t_api_Owed), .val tI], fun x => bill_OpenAt x.1 x.2.1 x.2.2.1⟩

noncomputable def cx_bill_OpenAt : Cx := ⟨Tryd.prog, [(12, sp_bill_bothFault), (13, sp_bill_payments), (14, sp_bill_toldMoney), (19, sp_kit_IsDay), (20, sp_bill_debt_there), (21, sp_bill_debt_late)]⟩

theorem den_bill_OpenAt : ∀ x, denF cx_bill_OpenAt anns_bill_OpenAt (some t_bill_debt) Tryd.f10 sp_bill_OpenAt x = sp_bill_OpenAt.m x := by intro x; kernel_rfl

theorem hb_bill_OpenAt : HasBody Tryd.prog 10 := has_body (fn := Tryd.f10) (by kernel_rfl) rfl (by decide)

theorem ok_bill_OpenAt : FunOk Tryd.prog 10 sp_bill_OpenAt := fun_ok (X := cx_bill_OpenAt) (.cons ok_bill_bothFault hb_bill_bothFault (.cons ok_bill_payments hb_bill_payments (.cons ok_bill_toldMoney hb_bill_toldMoney (.cons ok_kit_IsDay hb_kit_IsDay (.cons ok_bill_debt_there hb_bill_debt_there (.cons ok_bill_debt_late hb_bill_debt_late (.nil _))))))) (by kernel_rfl) sp_bill_OpenAt anns_bill_OpenAt (some t_bill_debt) (by kernel_rfl) (fun x y h => (den_bill_OpenAt x).trans h)

def anns_bill_Ages : List (Nat × Ann) := [(9, ⟨[(0, .val (.slice t_api_Debt)), (1, .val (.slice t_api_Payment)), (2, .val tI), (3, .val (.slice tI)), (36, .val (.slice tI)), (37, .val tI), (38, .val tI)], [], [.ar t_bill_debt], fuelOf _⟩),
  (19, ⟨[(2, .val tI), (3, .val (.slice tI)), (15, .rowR 68), (69, .val (.slice .hnd)), (70, .val tI), (71, .val tI)], [], [.rowC 68 3 tI, .ar t_bill_debt], fuelOf _⟩),
  (23, ⟨[(2, .val tI), (3, .val (.slice tI)), (15, .rowR 68), (17, .val .hnd), (18, .val tI), (69, .val (.slice .hnd)), (70, .val tI), (71, .val tI)], [], [.rowC 68 3 tI, .ar t_bill_debt], fuelOf _⟩),
  (29, ⟨[(19, .own 32 t_api_Decimal), (106, .rowR 68), (107, .val tI), (108, .val tI)], [], [.rowC 68 3 tI, .ar t_bill_debt], fuelOf _⟩),
  (200009, ⟨[(0, .val (.slice t_api_Debt)), (1, .val (.slice t_api_Payment)), (2, .val tI), (3, .val (.slice tI))], [], [.ar t_bill_debt], fun _ => 0⟩),
  (200019, ⟨[(15, .rowR 68)], [], [.rowC 68 3 tI, .ar t_bill_debt], fun _ => 0⟩),
  (200023, ⟨[(2, .val tI), (3, .val (.slice tI)), (15, .rowR 68), (17, .val .hnd), (18, .val tI), (69, .val (.slice .hnd)), (70, .val tI), (71, .val tI)], [], [.rowC 68 3 tI, .ar t_bill_debt], fun _ => 0⟩),
  (200029, ⟨[(19, .own 32 t_api_Decimal)], [], [.ar t_bill_debt], fun _ => 0⟩)]

noncomputable def sp_bill_Ages : FSpec := ⟨[.val (.slice t_api_Debt), .val (.slice t_api_Payment), .val tI, .val (.slice tI)], [.val (.slice t_api_Decimal), .val tI], fun x => bill_Ages x.1 x.2.1 x.2.2.1 x.2.2.2.1⟩

noncomputable def cx_bill_Ages : Cx := ⟨Tryd.prog, [(12, sp_bill_bothFault), (13, sp_bill_payments), (19, sp_kit_IsDay), (20, sp_bill_debt_there), (21, sp_bill_debt_late), (22, sp_bill_money)]⟩

theorem den_bill_Ages : ∀ x, denF cx_bill_Ages anns_bill_Ages (some t_bill_debt) Tryd.f11 sp_bill_Ages x = sp_bill_Ages.m x := by intro x; kernel_rfl

theorem hb_bill_Ages : HasBody Tryd.prog 11 := has_body (fn := Tryd.f11) (by kernel_rfl) rfl (by decide)

theorem ok_bill_Ages : FunOk Tryd.prog 11 sp_bill_Ages := fun_ok (X := cx_bill_Ages) (.cons ok_bill_bothFault hb_bill_bothFault (.cons ok_bill_payments hb_bill_payments (.cons ok_kit_IsDay hb_kit_IsDay (.cons ok_bill_debt_there hb_bill_debt_there (.cons ok_bill_debt_late hb_bill_debt_late (.cons ok_bill_money hb_bill_money (.nil _))))))) (by kernel_rfl) sp_bill_Ages anns_bill_Ages (some t_bill_debt) (by kernel_rfl) (fun x y h => (den_bill_Ages x).trans h)

def anns_l11_BillAgesAddUp : List (Nat × Ann) := [(9, ⟨[(0, .val (.slice t_api_Debt)), (1, .val (.slice t_api_Payment)), (2, .val tI), (3, .val (.slice tI)), (11, .val (.slice t_api_Paid)), (13, .own 32 t_api_Decimal), (47, .val (.slice t_api_Owed)), (48, .val tI), (49, .val tI)], [], [], fuelOf _⟩),
  (13, ⟨[(0, .val (.slice t_api_Debt)), (1, .val (.slice t_api_Payment)), (2, .val tI), (3, .val (.slice tI)), (11, .val (.slice t_api_Paid)), (13, .rowR 57), (15, .ref 15 0), (47, .val (.slice t_api_Owed)), (48, .val tI), (49, .val tI), (58, .val (.slice t_api_Paid)), (59, .val tI), (60, .val tI)], [(15, [.val .str, .val tI, .val tI, .val tI])], [.rowC 57 32 t_api_Decimal], fuelOf _⟩),
  (200009, ⟨[(0, .val (.slice t_api_Debt)), (1, .val (.slice t_api_Payment)), (2, .val tI), (3, .val (.slice tI)), (13, .own 32 t_api_Decimal)], [], [], fun _ => 0⟩),
  (200013, ⟨[(0, .val (.slice t_api_Debt)), (1, .val (.slice t_api_Payment)), (2, .val tI), (3, .val (.slice tI)), (11, .val (.slice t_api_Paid)), (13, .rowR 57), (47, .val (.slice t_api_Owed)), (48, .val tI), (49, .val tI)], [], [.rowC 57 32 t_api_Decimal], fun _ => 0⟩)]

noncomputable def sp_l11_BillAgesAddUp : FSpec := ⟨[.val (.slice t_api_Debt), .val (.slice t_api_Payment), .val tI, .val (.slice tI)], [.val .bool], fun x => l11_BillAgesAddUp x.1 x.2.1 x.2.2.1 x.2.2.2.1⟩

noncomputable def cx_l11_BillAgesAddUp : Cx := ⟨Tryd.prog, [(5, sp_bill_Pay), (6, sp_l11_awake), (8, sp_r11_Money), (9, sp_r1_Cmp), (10, sp_bill_OpenAt), (11, sp_bill_Ages)]⟩

theorem den_l11_BillAgesAddUp : ∀ x, denF cx_l11_BillAgesAddUp anns_l11_BillAgesAddUp none Tryd.f4 sp_l11_BillAgesAddUp x = sp_l11_BillAgesAddUp.m x := by intro x; kernel_rfl

theorem hb_l11_BillAgesAddUp : HasBody Tryd.prog 4 := has_body (fn := Tryd.f4) (by kernel_rfl) rfl (by decide)

theorem ok_l11_BillAgesAddUp : FunOk Tryd.prog 4 sp_l11_BillAgesAddUp := fun_ok (X := cx_l11_BillAgesAddUp) (.cons ok_bill_Pay hb_bill_Pay (.cons ok_l11_awake hb_l11_awake (.cons ok_r11_Money hb_r11_Money (.cons ok_r1_Cmp hb_r1_Cmp (.cons ok_bill_OpenAt hb_bill_OpenAt (.cons ok_bill_Ages hb_bill_Ages (.nil _))))))) (by kernel_rfl) sp_l11_BillAgesAddUp anns_l11_BillAgesAddUp none (by kernel_rfl) (fun x y h => (den_l11_BillAgesAddUp x).trans h)

end Go.Proofs.SeatD
