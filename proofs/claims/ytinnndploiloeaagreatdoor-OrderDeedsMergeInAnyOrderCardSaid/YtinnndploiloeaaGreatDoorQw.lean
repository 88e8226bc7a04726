/-
  Sorting deeds by the contract of the library; the functions that the law reaches are as their plain models say, second part. No condition.
-/
import Derived.Test.YtinnndploiloeaaGreatDoorQv
import Derived.Test.YtinnndploiloeaaGreatDoorQd
import Derived.Test.YtinnndploiloeaaGreatDoorQt
import Derived.WalkKit
import Derived.LoopN
set_option linter.all false
set_option maxRecDepth 100000
namespace Go.Proofs
open Go.Shelf
def Tryz.growD_ren : Go.Shelf.Ren := ⟨fun | 4 => 53 | n => n, fun | 22 => 25 | 25 => 40 | 3 => 3 | 4 => 4 | 9 => 9 | 20 => 20 | 0 => 0 | n => n, fun | n => n⟩
theorem Tryz.growD : Go.Proofs.Lays8.n4 Tryz.prog Tryz.growD_ren := {
  mixed := by kernel_rfl
  f4 := ⟨Tryz.f53.name, by decide, Tryz.func53.trans (congrArg some (by kernel_rfl))⟩
  t0 := Tryz.underlying0
  a0 := Tryz.isAgg0
  z0 := Tryz.sizeOf0
  v0 := Tryz.zeroValue0
  t3 := Tryz.underlying3
  a3 := Tryz.isAgg3
  z3 := Tryz.sizeOf3
  v3 := Tryz.zeroValue3
  t4 := Tryz.underlying4
  a4 := Tryz.isAgg4
  z4 := Tryz.sizeOf4
  v4 := Tryz.zeroValue4
  t9 := Tryz.underlying9
  a9 := Tryz.isAgg9
  z9 := Tryz.sizeOf9
  v9 := Tryz.zeroValue9
  t20 := Tryz.underlying20
  a20 := Tryz.isAgg20
  z20 := Tryz.sizeOf20
  v20 := Tryz.zeroValue20
  t22 := Tryz.underlying25
  a22 := Tryz.isAgg25
  z22 := Tryz.sizeOf25
  v22 := Tryz.zeroValue25 }
def Tryz.sortD_ren : Go.Shelf.Ren := ⟨fun | 6 => 34 | 15 => 55 | 14 => 54 | 28 => 97 | 29 => 98 | 20 => 89 | 21 => 90 | 22 => 91 | 23 => 92 | 24 => 93 | 25 => 94 | 26 => 95 | 27 => 96 | 46 => 116 | 47 => 117 | 48 => 118 | 49 => 119 | 50 => 120 | 57 => 156 | n => n, fun | 22 => 25 | 24 => 40 | 25 => 73 | 3 => 3 | 39 => 109 | 0 => 0 | 53 => 149 | 55 => 151 | 4 => 4 | 46 => 142 | 45 => 141 | 50 => 146 | 5 => 5 | 9 => 9 | 66 => 167 | 70 => 171 | 76 => 197 | 77 => 198 | n => n, fun | n => n⟩
theorem Tryz.sortD : Go.Proofs.SlLaysF0.n6 Tryz.prog Tryz.sortD_ren := {
  mixed := by kernel_rfl
  f6 := ⟨Tryz.f34.name, by decide, Tryz.func34.trans (congrArg some (by kernel_rfl))⟩
  f14 := ⟨Tryz.f54.name, by decide, Tryz.func54.trans (congrArg some (by kernel_rfl))⟩
  f15 := Tryz.func55.trans (congrArg some (by kernel_rfl))
  f20 := ⟨Tryz.f89.name, by decide, Tryz.func89.trans (congrArg some (by kernel_rfl))⟩
  f21 := ⟨Tryz.f90.name, by decide, Tryz.func90.trans (congrArg some (by kernel_rfl))⟩
  f22 := ⟨Tryz.f91.name, by decide, Tryz.func91.trans (congrArg some (by kernel_rfl))⟩
  f23 := ⟨Tryz.f92.name, by decide, Tryz.func92.trans (congrArg some (by kernel_rfl))⟩
  f24 := ⟨Tryz.f93.name, by decide, Tryz.func93.trans (congrArg some (by kernel_rfl))⟩
  f25 := ⟨Tryz.f94.name, by decide, Tryz.func94.trans (congrArg some (by kernel_rfl))⟩
  f26 := ⟨Tryz.f95.name, by decide, Tryz.func95.trans (congrArg some (by kernel_rfl))⟩
  f27 := ⟨Tryz.f96.name, by decide, Tryz.func96.trans (congrArg some (by kernel_rfl))⟩
  f28 := Tryz.func97.trans (congrArg some (by kernel_rfl))
  f29 := Tryz.func98.trans (congrArg some (by kernel_rfl))
  f46 := ⟨Tryz.f116.name, by decide, Tryz.func116.trans (congrArg some (by kernel_rfl))⟩
  f47 := Tryz.func117.trans (congrArg some (by kernel_rfl))
  f48 := Tryz.func118.trans (congrArg some (by kernel_rfl))
  f49 := ⟨Tryz.f119.name, by decide, Tryz.func119.trans (congrArg some (by kernel_rfl))⟩
  f50 := ⟨Tryz.f120.name, by decide, Tryz.func120.trans (congrArg some (by kernel_rfl))⟩
  f57 := ⟨Tryz.f156.name, by decide, Tryz.func156.trans (congrArg some (by kernel_rfl))⟩
  t0 := Tryz.underlying0
  a0 := Tryz.isAgg0
  z0 := Tryz.sizeOf0
  v0 := Tryz.zeroValue0
  t3 := Tryz.underlying3
  a3 := Tryz.isAgg3
  z3 := Tryz.sizeOf3
  v3 := Tryz.zeroValue3
  t4 := Tryz.underlying4
  a4 := Tryz.isAgg4
  z4 := Tryz.sizeOf4
  v4 := Tryz.zeroValue4
  t5 := Tryz.underlying5
  a5 := Tryz.isAgg5
  z5 := Tryz.sizeOf5
  v5 := Tryz.zeroValue5
  t9 := Tryz.underlying9
  a9 := Tryz.isAgg9
  z9 := Tryz.sizeOf9
  v9 := Tryz.zeroValue9
  t22 := Tryz.underlying25
  a22 := Tryz.isAgg25
  z22 := Tryz.sizeOf25
  v22 := Tryz.zeroValue25
  t25 := Tryz.underlying73
  a25 := Tryz.isAgg73
  z25 := Tryz.sizeOf73
  v25 := Tryz.zeroValue73
  t39 := Tryz.underlying109
  a39 := Tryz.isAgg109
  z39 := Tryz.sizeOf109
  v39 := Tryz.zeroValue109
  t45 := Tryz.underlying141
  a45 := Tryz.isAgg141
  z45 := Tryz.sizeOf141
  v45 := Tryz.zeroValue141
  t46 := Tryz.underlying142
  a46 := Tryz.isAgg142
  z46 := Tryz.sizeOf142
  v46 := Tryz.zeroValue142
  t50 := Tryz.underlying146
  a50 := Tryz.isAgg146
  z50 := Tryz.sizeOf146
  v50 := Tryz.zeroValue146
  t53 := Tryz.underlying149
  a53 := Tryz.isAgg149
  z53 := Tryz.sizeOf149
  v53 := Tryz.zeroValue149
  t55 := Tryz.underlying151
  a55 := Tryz.isAgg151
  z55 := Tryz.sizeOf151
  v55 := Tryz.zeroValue151
  t66 := Tryz.underlying167
  a66 := Tryz.isAgg167
  z66 := Tryz.sizeOf167
  v66 := Tryz.zeroValue167
  t70 := Tryz.underlying171
  a70 := Tryz.isAgg171
  z70 := Tryz.sizeOf171
  v70 := Tryz.zeroValue171
  t76 := Tryz.underlying197
  a76 := Tryz.isAgg197
  z76 := Tryz.sizeOf197
  v76 := Tryz.zeroValue197
  t77 := Tryz.underlying198
  a77 := Tryz.isAgg198
  z77 := Tryz.sizeOf198
  v77 := Tryz.zeroValue198 }
end Go.Proofs

namespace Go.Proofs.SeatO
open Go.Dn Go.Md Go.Proofs Go.RowKit Go.Shelf Go.Lib Go.Sort

def sp_slices_Grow_api_Deed : FSpec := growSp 40 t_api_Deed 120
theorem hb_slices_Grow_api_Deed : HasBody Tryz.prog 53 := has_body (fn := Tryz.f53) (by kernel_rfl) rfl (by decide)
theorem ok_slices_Grow_api_Deed : FunOk Tryz.prog 53 sp_slices_Grow_api_Deed := grow_ok Tryz.growD (t := t_api_Deed) (i0 := Tryz.t40) (z := .agg #[.int .i64 0, .int .i64 0, .int .i64 0, .int .i64 0, .int .i64 0, .string ⟨#[]⟩, .int .i64 0, .int .i64 0, .string ⟨#[]⟩, .int .i64 0, .int .i64 0, .int .i64 0, .int .i64 0]) (by kernel_rfl) (by kernel_rfl) (by decide) (by kernel_rfl) (by kernel_rfl)

theorem sub_id {a b : Int} (ha : a.natAbs < 4611686018427387904) (hb : b.natAbs < 4611686018427387904) : IntKind.wrap .i64 (a - b) = a - b := by
  simp only [IntKind.wrap_i64, wrap64]; omega

theorem deed_cells {G : Gh} {x : D_api_Deed} {a : List Value} (h : RepC G t_api_Deed x a) : ∃ r : List Value, r.length = 10 ∧ a = .int .i64 x.1 :: .int .i64 x.2.1 :: .int .i64 x.2.2.1 :: r := by
  have hlen := RepC.len h
  obtain ⟨c1, r1, e1, h1, c2, r2, e2, h2, c3, r3, e3, h3, _⟩ := h
  have g1 : c1 = [.int .i64 x.1] := h1
  have g2 : c2 = [.int .i64 x.2.1] := h2
  have g3 : c3 = [.int .i64 x.2.2.1] := h3
  subst g1; subst g2; subst g3; subst e3; subst e2; subst e1
  refine ⟨r3, ?_, rfl⟩
  have : (Ty.size t_api_Deed) = 13 := rfl
  simp at hlen
  omega

theorem cmp_calls (x1 x2 x3 y1 y2 y3 : Int) (p q : List Value) (hp : p.length = 10) (hq : q.length = 10) (hx : x1.natAbs < 4611686018427387904 ∧ x2.natAbs < 4611686018427387904 ∧ x3.natAbs < 4611686018427387904) (hy : y1.natAbs < 4611686018427387904 ∧ y2.natAbs < 4611686018427387904 ∧ y3.natAbs < 4611686018427387904) (w : World) :
    Calls Tryz.prog 35 #[.agg (.int .i64 x1 :: .int .i64 x2 :: .int .i64 x3 :: p).toArray, .agg (.int .i64 y1 :: .int .i64 y2 :: .int .i64 y3 :: q).toArray] w fun e w' => e = .returned (.int .i64 (bif x1 - y1 != 0 then x1 - y1 else bif x2 - y2 != 0 then x2 - y2 else x3 - y3)) ∧ ∃ q os, w' = grow (w.drewN q) os := by
  obtain ⟨hx1, hx2, hx3⟩ := hx
  obtain ⟨hy1, hy2, hy3⟩ := hy
  have mixed : Tryz.prog.follows .mixedOrders = true := by kernel_rfl
  have t3 := Tryz.underlying3; have t4 := Tryz.underlying4; have t40 := Tryz.underlying40; have t105 := Tryz.underlying105
  have a40 := Tryz.isAgg40; have z40 := Tryz.sizeOf40
  have a3 := Tryz.isAgg3; have z3 := Tryz.sizeOf3
  have s1 := sub_id hx1 hy1; have s2 := sub_id hx2 hy2; have s3 := sub_id hx3 hy3
  obtain ⟨d1, e1⟩ : ∃ d, d = x1 - y1 := ⟨_, rfl⟩
  obtain ⟨d2, e2⟩ : ∃ d, d = x2 - y2 := ⟨_, rfl⟩
  obtain ⟨d3, e3⟩ : ∃ d, d = x3 - y3 := ⟨_, rfl⟩
  rw [← e1, ← e2, ← e3]
  go_enter Tryz.func35, Tryz.ntmps35
  go_wp2
  clear s1 s2 s3
  rw [← e1, ← e2, ← e3]
  refine wp_loop_rounds 4 ?_
  repeat any_goals (rw [rounds_succ]; go_wp2)
  all_goals go_ret
  all_goals refine ⟨?_, 0, _, by rw [alloc_eq_grow, alloc_eq_grow, alloc_eq_grow, grow_grow, grow_grow]; rfl⟩
  all_goals subst e1 e2 e3
  · rw [show (x1 - y1 != 0) = true by assumption]; rfl
  · rw [show (x1 - y1 != 0) = false by assumption, show (x2 - y2 != 0) = true by assumption]; rfl
  · rw [show (x1 - y1 != 0) = false by assumption, show (x2 - y2 != 0) = false by assumption]; rfl
  · have h3 : (x3 - y3 != 0) = false := by assumption
    have h4 : x3 - y3 = 0 := by simpa using h3
    rw [show (x1 - y1 != 0) = false by assumption, show (x2 - y2 != 0) = false by assumption, h4]; rfl

theorem swoD : SWO (ltOf deedCf) := by
  have key : ∀ a b : D_api_Deed, ltOf deedCf a b = !leD b a := fun a b => by
    show decide (deedCf a b < 0) = !(!decide (deedCf a b < 0))
    rw [Bool.not_not]
  have lt : ∀ a b : D_api_Deed, ltOf deedCf a b = true ↔ ¬Lex b a := fun a b => by
    rw [key, Bool.not_eq_true', ← leD_iff, Bool.not_eq_true]
  refine ⟨fun x => ?_, fun x y z h1 h2 => ?_, fun x y z h1 h2 => ?_⟩
  · rw [Bool.eq_false_iff, Ne, lt]; unfold Lex; omega
  · rw [lt] at *; unfold Lex at *; omega
  · rw [Bool.eq_false_iff, Ne, lt] at *; unfold Lex at *; omega

theorem cmp_lays : CloLays Tryz.prog 35 t_api_Deed deedOk deedCf := by
  intro G x y a b ha hb hx hy w
  obtain ⟨p, hp, rfl⟩ := deed_cells ha
  obtain ⟨q, hq, rfl⟩ := deed_cells hb
  unfold deedOk at hx hy
  simp only [Bool.and_eq_true, decide_eq_true_eq] at hx hy
  exact cmp_calls _ _ _ _ _ _ p q hp hq hx hy w

noncomputable def sp_slices_SortFunc_api_Deed : FSpec := sortSp 40 t_api_Deed 35 deedOk deedCf
theorem hb_slices_SortFunc_api_Deed : HasBody Tryz.prog 34 := has_body (fn := Tryz.f34) (by kernel_rfl) rfl (by decide)
theorem ok_slices_SortFunc_api_Deed : FunOk Tryz.prog 34 sp_slices_SortFunc_api_Deed := sortF_ok Tryz.sortD (t := t_api_Deed) Tryz.isAgg40 Tryz.sizeOf40 swoD cmp_lays (enters_of Tryz.func35 (by kernel_rfl) rfl)

end Go.Proofs.SeatO

set_option maxRecDepth 100000
namespace Go.Proofs.SeatO
open Go.Dn Go.Md Go.Proofs

def anns_r1_within : List (Nat × Ann) := []

noncomputable def sp_r1_within : FSpec := ⟨[.val tI, .val tI, .val tI], [.val .bool], fun x => r1_within x.1 x.2.1 x.2.2.1⟩

noncomputable def cx_r1_within : Cx := ⟨Tryz.prog, []⟩

theorem den_r1_within : ∀ x, denF cx_r1_within anns_r1_within none Tryz.f84 sp_r1_within x = sp_r1_within.m x := by intro x; kernel_rfl

theorem hb_r1_within : HasBody Tryz.prog 84 := has_body (fn := Tryz.f84) (by kernel_rfl) rfl (by decide)

theorem ok_r1_within : FunOk Tryz.prog 84 sp_r1_within := fun_ok (X := cx_r1_within) (.nil _) (by kernel_rfl) sp_r1_within anns_r1_within none (by kernel_rfl) (fun x y h => (den_r1_within x).trans h)

def anns_r1_isDay : List (Nat × Ann) := []

noncomputable def sp_r1_isDay : FSpec := ⟨[.val tI], [.val .bool], fun x => r1_isDay x.1⟩

noncomputable def cx_r1_isDay : Cx := ⟨Tryz.prog, [(84, sp_r1_within)]⟩

theorem den_r1_isDay : ∀ x, denF cx_r1_isDay anns_r1_isDay none Tryz.f48 sp_r1_isDay x = sp_r1_isDay.m x := by intro x; kernel_rfl

theorem hb_r1_isDay : HasBody Tryz.prog 48 := has_body (fn := Tryz.f48) (by kernel_rfl) rfl (by decide)

theorem ok_r1_isDay : FunOk Tryz.prog 48 sp_r1_isDay := fun_ok (X := cx_r1_isDay) (.cons ok_r1_within hb_r1_within (.nil _)) (by kernel_rfl) sp_r1_isDay anns_r1_isDay none (by kernel_rfl) (fun x y h => (den_r1_isDay x).trans h)

def anns_r1_IsDay : List (Nat × Ann) := []

noncomputable def sp_r1_IsDay : FSpec := ⟨[.val tI], [.val .bool], fun x => r1_IsDay x.1⟩

noncomputable def cx_r1_IsDay : Cx := ⟨Tryz.prog, [(48, sp_r1_isDay)]⟩

theorem den_r1_IsDay : ∀ x, denF cx_r1_IsDay anns_r1_IsDay none Tryz.f27 sp_r1_IsDay x = sp_r1_IsDay.m x := by intro x; kernel_rfl

theorem hb_r1_IsDay : HasBody Tryz.prog 27 := has_body (fn := Tryz.f27) (by kernel_rfl) rfl (by decide)

theorem ok_r1_IsDay : FunOk Tryz.prog 27 sp_r1_IsDay := fun_ok (X := cx_r1_IsDay) (.cons ok_r1_isDay hb_r1_isDay (.nil _)) (by kernel_rfl) sp_r1_IsDay anns_r1_IsDay none (by kernel_rfl) (fun x y h => (den_r1_IsDay x).trans h)

def anns_r9_within : List (Nat × Ann) := [(300001, ⟨[(6, .val .bool)], [], [], fun _ => 0⟩)]

noncomputable def sp_r9_within : FSpec := ⟨[.val tI, .val tI, .val tI], [.val .bool], fun x => r9_within x.1 x.2.1 x.2.2.1⟩

noncomputable def cx_r9_within : Cx := ⟨Tryz.prog, []⟩

theorem den_r9_within : ∀ x, denF cx_r9_within anns_r9_within none Tryz.f28 sp_r9_within x = sp_r9_within.m x := by intro x; kernel_rfl

theorem hb_r9_within : HasBody Tryz.prog 28 := has_body (fn := Tryz.f28) (by kernel_rfl) rfl (by decide)

theorem ok_r9_within : FunOk Tryz.prog 28 sp_r9_within := fun_ok (X := cx_r9_within) (.nil _) (by kernel_rfl) sp_r9_within anns_r9_within none (by kernel_rfl) (fun x y h => (den_r9_within x).trans h)

def anns_r9_isBuyers : List (Nat × Ann) := []

noncomputable def sp_r9_isBuyers : FSpec := ⟨[.val tI], [.val .bool], fun x => r9_isBuyers x.1⟩

noncomputable def cx_r9_isBuyers : Cx := ⟨Tryz.prog, [(28, sp_r9_within)]⟩

theorem den_r9_isBuyers : ∀ x, denF cx_r9_isBuyers anns_r9_isBuyers none Tryz.f29 sp_r9_isBuyers x = sp_r9_isBuyers.m x := by intro x; kernel_rfl

theorem hb_r9_isBuyers : HasBody Tryz.prog 29 := has_body (fn := Tryz.f29) (by kernel_rfl) rfl (by decide)

theorem ok_r9_isBuyers : FunOk Tryz.prog 29 sp_r9_isBuyers := fun_ok (X := cx_r9_isBuyers) (.cons ok_r9_within hb_r9_within (.nil _)) (by kernel_rfl) sp_r9_isBuyers anns_r9_isBuyers none (by kernel_rfl) (fun x y h => (den_r9_isBuyers x).trans h)

def anns_r9_usesOf : List (Nat × Ann) := [(100005, ⟨[(2, .ref 2 0), (3, .val tI), (7, .val .bool)], [(2, [.val .bool, .val .bool, .val .bool, .val .bool, .val .bool])], [], fun _ => 0⟩)]

noncomputable def sp_r9_usesOf : FSpec := ⟨[.val tI], [.val t_interchangeref9_uses], fun x => r9_usesOf x.1⟩

noncomputable def cx_r9_usesOf : Cx := ⟨Tryz.prog, []⟩

theorem den_r9_usesOf : ∀ x, denF cx_r9_usesOf anns_r9_usesOf none Tryz.f49 sp_r9_usesOf x = sp_r9_usesOf.m x := by intro x; kernel_rfl

theorem hb_r9_usesOf : HasBody Tryz.prog 49 := has_body (fn := Tryz.f49) (by kernel_rfl) rfl (by decide)

theorem ok_r9_usesOf : FunOk Tryz.prog 49 sp_r9_usesOf := fun_ok (X := cx_r9_usesOf) (.nil _) (by kernel_rfl) sp_r9_usesOf anns_r9_usesOf none (by kernel_rfl) (fun x y h => (den_r9_usesOf x).trans h)

def anns_r1_CheckDecimal : List (Nat × Ann) := []

noncomputable def sp_r1_CheckDecimal : FSpec := ⟨[.val t_api_Decimal], [.val tI], fun x => r1_CheckDecimal x.1⟩

noncomputable def cx_r1_CheckDecimal : Cx := ⟨Tryz.prog, [(84, sp_r1_within)]⟩

theorem den_r1_CheckDecimal : ∀ x, denF cx_r1_CheckDecimal anns_r1_CheckDecimal none Tryz.f85 sp_r1_CheckDecimal x = sp_r1_CheckDecimal.m x := by intro x; kernel_rfl

theorem hb_r1_CheckDecimal : HasBody Tryz.prog 85 := has_body (fn := Tryz.f85) (by kernel_rfl) rfl (by decide)

theorem ok_r1_CheckDecimal : FunOk Tryz.prog 85 sp_r1_CheckDecimal := fun_ok (X := cx_r1_CheckDecimal) (.cons ok_r1_within hb_r1_within (.nil _)) (by kernel_rfl) sp_r1_CheckDecimal anns_r1_CheckDecimal none (by kernel_rfl) (fun x y h => (den_r1_CheckDecimal x).trans h)

def anns_r9_whole : List (Nat × Ann) := []

noncomputable def sp_r9_whole : FSpec := ⟨[.val tI], [.val t_api_Decimal], fun x => r9_whole x.1⟩

noncomputable def cx_r9_whole : Cx := ⟨Tryz.prog, []⟩

theorem den_r9_whole : ∀ x, denF cx_r9_whole anns_r9_whole none Tryz.f87 sp_r9_whole x = sp_r9_whole.m x := by intro x; kernel_rfl

theorem hb_r9_whole : HasBody Tryz.prog 87 := has_body (fn := Tryz.f87) (by kernel_rfl) rfl (by decide)

theorem ok_r9_whole : FunOk Tryz.prog 87 sp_r9_whole := fun_ok (X := cx_r9_whole) (.nil _) (by kernel_rfl) sp_r9_whole anns_r9_whole none (by kernel_rfl) (fun x y h => (den_r9_whole x).trans h)

def anns_r1_Of : List (Nat × Ann) := [(2, ⟨[(0, .val tI), (2, .ref 2 0), (3, .ref 3 0)], [(2, [.val .bool, .own 3 tI]), (3, [.val .bool, .own 3 tI])], [], fuelOf _⟩),
  (200002, ⟨[(2, .ref 2 0), (3, .ref 3 0)], [(2, [.val .bool, .own 3 tI]), (3, [.val .bool, .own 3 tI])], [], fun _ => 0⟩)]

noncomputable def sp_r1_Of : FSpec := ⟨[.val tI], [.val t_interchangeref1_Num], fun x => r1_Of x.1⟩

noncomputable def cx_r1_Of : Cx := ⟨Tryz.prog, []⟩

theorem den_r1_Of : ∀ x, denF cx_r1_Of anns_r1_Of none Tryz.f154 sp_r1_Of x = sp_r1_Of.m x := by intro x; kernel_rfl

theorem hb_r1_Of : HasBody Tryz.prog 154 := has_body (fn := Tryz.f154) (by kernel_rfl) rfl (by decide)

theorem ok_r1_Of : FunOk Tryz.prog 154 sp_r1_Of := fun_ok (X := cx_r1_Of) (.nil _) (by kernel_rfl) sp_r1_Of anns_r1_Of none (by kernel_rfl) (fun x y h => (den_r1_Of x).trans h)

def anns_r1_trimmed : List (Nat × Ann) := [(1, ⟨[(1, .ref 1 0), (2, .ref 2 0)], [(1, [.val .bool, .val (.slice tI)]), (2, [.val .bool, .own 3 tI])], [], fuelOf _⟩),
  (200001, ⟨[(1, .ref 1 0), (2, .ref 2 0)], [(1, [.val .bool, .val (.slice tI)]), (2, [.val .bool, .own 3 tI])], [], fun _ => 0⟩)]

noncomputable def sp_r1_trimmed : FSpec := ⟨[.val t_interchangeref1_Num], [.val t_interchangeref1_Num], fun x => r1_trimmed x.1⟩

noncomputable def cx_r1_trimmed : Cx := ⟨Tryz.prog, []⟩

theorem den_r1_trimmed : ∀ x, denF cx_r1_trimmed anns_r1_trimmed none Tryz.f173 sp_r1_trimmed x = sp_r1_trimmed.m x := by intro x; kernel_rfl

theorem hb_r1_trimmed : HasBody Tryz.prog 173 := has_body (fn := Tryz.f173) (by kernel_rfl) rfl (by decide)

theorem ok_r1_trimmed : FunOk Tryz.prog 173 sp_r1_trimmed := fun_ok (X := cx_r1_trimmed) (.nil _) (by kernel_rfl) sp_r1_trimmed anns_r1_trimmed none (by kernel_rfl) (fun x y h => (den_r1_trimmed x).trans h)

def anns_r1_TimesOf : List (Nat × Ann) := [(3, ⟨[(3, .ref 3 0), (4, .ref 4 0), (5, .ref 5 0), (27, .val (.slice tI)), (28, .val tI), (29, .val tI)], [(3, [.val .bool, .val (.slice tI)]), (4, [.val .bool, .own 3 tI]), (5, [.val .bool, .rowR 24])], [.rowC 24 3 tI], fuelOf _⟩),
  (6, ⟨[(3, .ref 3 0), (4, .ref 4 0), (5, .ref 5 0), (6, .val tI), (7, .val tI), (27, .val (.slice tI)), (28, .val tI), (29, .val tI), (35, .val (.slice tI)), (36, .val tI), (37, .val tI)], [(3, [.val .bool, .val (.slice tI)]), (4, [.val .bool, .own 3 tI]), (5, [.val .bool, .rowR 24])], [.rowC 24 3 tI], fuelOf _⟩),
  (14, ⟨[(4, .ref 4 0), (5, .ref 5 0), (86, .val tI), (87, .val tI)], [(4, [.val .bool, .own 3 tI]), (5, [.val .bool, .rowR 24])], [.rowC 24 3 tI], fuelOf _⟩),
  (200003, ⟨[(4, .ref 4 0), (5, .ref 5 0)], [(4, [.val .bool, .own 3 tI]), (5, [.val .bool, .rowR 24])], [.rowC 24 3 tI], fun _ => 0⟩),
  (200006, ⟨[(3, .ref 3 0), (4, .ref 4 0), (5, .ref 5 0), (27, .val (.slice tI)), (28, .val tI), (29, .val tI)], [(3, [.val .bool, .val (.slice tI)]), (4, [.val .bool, .own 3 tI]), (5, [.val .bool, .rowR 24])], [.rowC 24 3 tI], fun _ => 0⟩),
  (200014, ⟨[(4, .ref 4 0), (5, .ref 5 0)], [(4, [.val .bool, .own 3 tI]), (5, [.val .bool, .rowR 24])], [.rowC 24 3 tI], fun _ => 0⟩)]

noncomputable def sp_r1_TimesOf : FSpec := ⟨[.val t_interchangeref1_Num, .val t_interchangeref1_Num], [.val t_interchangeref1_Num], fun x => r1_TimesOf x.1 x.2.1⟩

noncomputable def cx_r1_TimesOf : Cx := ⟨Tryz.prog, [(173, sp_r1_trimmed)]⟩

theorem den_r1_TimesOf : ∀ x, denF cx_r1_TimesOf anns_r1_TimesOf none Tryz.f153 sp_r1_TimesOf x = sp_r1_TimesOf.m x := by intro x; kernel_rfl

theorem hb_r1_TimesOf : HasBody Tryz.prog 153 := has_body (fn := Tryz.f153) (by kernel_rfl) rfl (by decide)

theorem ok_r1_TimesOf : FunOk Tryz.prog 153 sp_r1_TimesOf := fun_ok (X := cx_r1_TimesOf) (.cons ok_r1_trimmed hb_r1_trimmed (.nil _)) (by kernel_rfl) sp_r1_TimesOf anns_r1_TimesOf none (by kernel_rfl) (fun x y h => (den_r1_TimesOf x).trans h)

def anns_r1_Power : List (Nat × Ann) := [(3, ⟨[(2, .ref 2 0), (3, .ref 3 0), (5, .val tI), (6, .val tI)], [(2, [.val .bool, .own 3 tI]), (3, [.val .bool, .val (.slice tI)])], [], fuelOf _⟩),
  (200003, ⟨[(2, .ref 2 0), (3, .ref 3 0)], [(2, [.val .bool, .own 3 tI]), (3, [.val .bool, .val (.slice tI)])], [], fun _ => 0⟩)]

noncomputable def sp_r1_Power : FSpec := ⟨[.val tI], [.val t_interchangeref1_Num], fun x => r1_Power x.1⟩

noncomputable def cx_r1_Power : Cx := ⟨Tryz.prog, [(153, sp_r1_TimesOf), (154, sp_r1_Of)]⟩

theorem den_r1_Power : ∀ x, denF cx_r1_Power anns_r1_Power none Tryz.f155 sp_r1_Power x = sp_r1_Power.m x := by intro x; kernel_rfl

theorem hb_r1_Power : HasBody Tryz.prog 155 := has_body (fn := Tryz.f155) (by kernel_rfl) rfl (by decide)

theorem ok_r1_Power : FunOk Tryz.prog 155 sp_r1_Power := fun_ok (X := cx_r1_Power) (.cons ok_r1_TimesOf hb_r1_TimesOf (.cons ok_r1_Of hb_r1_Of (.nil _))) (by kernel_rfl) sp_r1_Power anns_r1_Power none (by kernel_rfl) (fun x y h => (den_r1_Power x).trans h)

def anns_r1_At : List (Nat × Ann) := []

noncomputable def sp_r1_At : FSpec := ⟨[.val t_api_Decimal, .val tI], [.val t_interchangeref1_Num], fun x => r1_At x.1 x.2.1⟩

noncomputable def cx_r1_At : Cx := ⟨Tryz.prog, [(153, sp_r1_TimesOf), (154, sp_r1_Of), (155, sp_r1_Power)]⟩

theorem den_r1_At : ∀ x, denF cx_r1_At anns_r1_At none Tryz.f115 sp_r1_At x = sp_r1_At.m x := by intro x; kernel_rfl

theorem hb_r1_At : HasBody Tryz.prog 115 := has_body (fn := Tryz.f115) (by kernel_rfl) rfl (by decide)

theorem ok_r1_At : FunOk Tryz.prog 115 sp_r1_At := fun_ok (X := cx_r1_At) (.cons ok_r1_TimesOf hb_r1_TimesOf (.cons ok_r1_Of hb_r1_Of (.cons ok_r1_Power hb_r1_Power (.nil _)))) (by kernel_rfl) sp_r1_At anns_r1_At none (by kernel_rfl) (fun x y h => (den_r1_At x).trans h)

def anns_r1_Minus : List (Nat × Ann) := []

noncomputable def sp_r1_Minus : FSpec := ⟨[.val t_interchangeref1_Num], [.val t_interchangeref1_Num], fun x => r1_Minus x.1⟩

noncomputable def cx_r1_Minus : Cx := ⟨Tryz.prog, []⟩

theorem den_r1_Minus : ∀ x, denF cx_r1_Minus anns_r1_Minus none Tryz.f152 sp_r1_Minus x = sp_r1_Minus.m x := by intro x; kernel_rfl

theorem hb_r1_Minus : HasBody Tryz.prog 152 := has_body (fn := Tryz.f152) (by kernel_rfl) rfl (by decide)

theorem ok_r1_Minus : FunOk Tryz.prog 152 sp_r1_Minus := fun_ok (X := cx_r1_Minus) (.nil _) (by kernel_rfl) sp_r1_Minus anns_r1_Minus none (by kernel_rfl) (fun x y h => (den_r1_Minus x).trans h)

def anns_r1_sizes : List (Nat × Ann) := [(4, ⟨[(0, .val (.slice tI)), (1, .val (.slice tI)), (5, .val tI)], [], [], fuelOf _⟩),
  (200004, ⟨[], [], [], fun _ => 0⟩)]

noncomputable def sp_r1_sizes : FSpec := ⟨[.val (.slice tI), .val (.slice tI)], [.val tI], fun x => r1_sizes x.1 x.2.1⟩

noncomputable def cx_r1_sizes : Cx := ⟨Tryz.prog, []⟩

theorem den_r1_sizes : ∀ x, denF cx_r1_sizes anns_r1_sizes none Tryz.f171 sp_r1_sizes x = sp_r1_sizes.m x := by intro x; kernel_rfl

theorem hb_r1_sizes : HasBody Tryz.prog 171 := has_body (fn := Tryz.f171) (by kernel_rfl) rfl (by decide)

theorem ok_r1_sizes : FunOk Tryz.prog 171 sp_r1_sizes := fun_ok (X := cx_r1_sizes) (.nil _) (by kernel_rfl) sp_r1_sizes anns_r1_sizes none (by kernel_rfl) (fun x y h => (den_r1_sizes x).trans h)

def anns_r1_digit : List (Nat × Ann) := []

noncomputable def sp_r1_digit : FSpec := ⟨[.val (.slice tI), .val tI], [.val tI], fun x => r1_digit x.1 x.2.1⟩

noncomputable def cx_r1_digit : Cx := ⟨Tryz.prog, []⟩

theorem den_r1_digit : ∀ x, denF cx_r1_digit anns_r1_digit none Tryz.f172 sp_r1_digit x = sp_r1_digit.m x := by intro x; kernel_rfl

theorem hb_r1_digit : HasBody Tryz.prog 172 := has_body (fn := Tryz.f172) (by kernel_rfl) rfl (by decide)

theorem ok_r1_digit : FunOk Tryz.prog 172 sp_r1_digit := fun_ok (X := cx_r1_digit) (.nil _) (by kernel_rfl) sp_r1_digit anns_r1_digit none (by kernel_rfl) (fun x y h => (den_r1_digit x).trans h)

def anns_r1_Plus : List (Nat × Ann) := [(7, ⟨[(2, .ref 2 0), (3, .ref 3 0), (4, .ref 4 0), (5, .ref 5 0), (6, .val tI), (31, .val tI), (32, .val tI)], [(2, [.val .bool, .val (.slice tI)]), (3, [.val .bool, .val (.slice tI)]), (4, [.val .bool, .own 3 tI]), (5, [.val .bool, .own 3 tI])], [], fuelOf _⟩),
  (19, ⟨[(2, .ref 2 0), (3, .ref 3 0), (4, .ref 4 0), (9, .ref 9 0), (10, .val tI), (70, .val tI), (71, .val tI)], [(2, [.val .bool, .val (.slice tI)]), (3, [.val .bool, .val (.slice tI)]), (4, [.val .bool, .own 3 tI]), (9, [.val .bool, .own 3 tI])], [], fuelOf _⟩),
  (100003, ⟨[(2, .ref 2 0), (3, .ref 3 0), (4, .ref 4 0)], [(2, [.val .bool, .val (.slice tI)]), (3, [.val .bool, .val (.slice tI)]), (4, [.val .bool, .own 3 tI])], [], fun _ => 0⟩),
  (100012, ⟨[(2, .ref 2 0), (3, .ref 3 0), (4, .ref 4 0), (5, .ref 5 0), (6, .val tI), (8, .val tI), (31, .val tI), (32, .val tI)], [(2, [.val .bool, .val (.slice tI)]), (3, [.val .bool, .val (.slice tI)]), (4, [.val .bool, .own 3 tI]), (5, [.val .bool, .own 3 tI])], [], fun _ => 0⟩),
  (200007, ⟨[(4, .ref 4 0), (5, .ref 5 0)], [(4, [.val .bool, .own 3 tI]), (5, [.val .bool, .own 3 tI])], [], fun _ => 0⟩),
  (200019, ⟨[(4, .ref 4 0), (9, .ref 9 0)], [(4, [.val .bool, .own 3 tI]), (9, [.val .bool, .own 3 tI])], [], fun _ => 0⟩)]

noncomputable def sp_r1_Plus : FSpec := ⟨[.val t_interchangeref1_Num, .val t_interchangeref1_Num], [.val t_interchangeref1_Num], fun x => r1_Plus x.1 x.2.1⟩

noncomputable def cx_r1_Plus : Cx := ⟨Tryz.prog, [(171, sp_r1_sizes), (172, sp_r1_digit), (173, sp_r1_trimmed)]⟩

theorem den_r1_Plus : ∀ x, denF cx_r1_Plus anns_r1_Plus none Tryz.f151 sp_r1_Plus x = sp_r1_Plus.m x := by intro x; kernel_rfl

theorem hb_r1_Plus : HasBody Tryz.prog 151 := has_body (fn := Tryz.f151) (by kernel_rfl) rfl (by decide)

theorem ok_r1_Plus : FunOk Tryz.prog 151 sp_r1_Plus := fun_ok (X := cx_r1_Plus) (.cons ok_r1_sizes hb_r1_sizes (.cons ok_r1_digit hb_r1_digit (.cons ok_r1_trimmed hb_r1_trimmed (.nil _)))) (by kernel_rfl) sp_r1_Plus anns_r1_Plus none (by kernel_rfl) (fun x y h => (den_r1_Plus x).trans h)

def anns_r1_Sign : List (Nat × Ann) := []

noncomputable def sp_r1_Sign : FSpec := ⟨[.val t_interchangeref1_Num], [.val tI], fun x => r1_Sign x.1⟩

noncomputable def cx_r1_Sign : Cx := ⟨Tryz.prog, []⟩

theorem den_r1_Sign : ∀ x, denF cx_r1_Sign anns_r1_Sign none Tryz.f150 sp_r1_Sign x = sp_r1_Sign.m x := by intro x; kernel_rfl

theorem hb_r1_Sign : HasBody Tryz.prog 150 := has_body (fn := Tryz.f150) (by kernel_rfl) rfl (by decide)

theorem ok_r1_Sign : FunOk Tryz.prog 150 sp_r1_Sign := fun_ok (X := cx_r1_Sign) (.nil _) (by kernel_rfl) sp_r1_Sign anns_r1_Sign none (by kernel_rfl) (fun x y h => (den_r1_Sign x).trans h)

def anns_r1_Cmp : List (Nat × Ann) := []

noncomputable def sp_r1_Cmp : FSpec := ⟨[.val t_interchangeref1_Num, .val t_interchangeref1_Num], [.val tI], fun x => r1_Cmp x.1 x.2.1⟩

noncomputable def cx_r1_Cmp : Cx := ⟨Tryz.prog, [(150, sp_r1_Sign), (151, sp_r1_Plus), (152, sp_r1_Minus)]⟩

theorem den_r1_Cmp : ∀ x, denF cx_r1_Cmp anns_r1_Cmp none Tryz.f114 sp_r1_Cmp x = sp_r1_Cmp.m x := by intro x; kernel_rfl

theorem hb_r1_Cmp : HasBody Tryz.prog 114 := has_body (fn := Tryz.f114) (by kernel_rfl) rfl (by decide)

theorem ok_r1_Cmp : FunOk Tryz.prog 114 sp_r1_Cmp := fun_ok (X := cx_r1_Cmp) (.cons ok_r1_Sign hb_r1_Sign (.cons ok_r1_Plus hb_r1_Plus (.cons ok_r1_Minus hb_r1_Minus (.nil _)))) (by kernel_rfl) sp_r1_Cmp anns_r1_Cmp none (by kernel_rfl) (fun x y h => (den_r1_Cmp x).trans h)

def anns_r9_cmp : List (Nat × Ann) := []

noncomputable def sp_r9_cmp : FSpec := ⟨[.val t_api_Decimal, .val t_api_Decimal], [.val tI], fun x => r9_cmp x.1 x.2.1⟩

noncomputable def cx_r9_cmp : Cx := ⟨Tryz.prog, [(114, sp_r1_Cmp), (115, sp_r1_At)]⟩

theorem den_r9_cmp : ∀ x, denF cx_r9_cmp anns_r9_cmp none Tryz.f86 sp_r9_cmp x = sp_r9_cmp.m x := by intro x; kernel_rfl

theorem hb_r9_cmp : HasBody Tryz.prog 86 := has_body (fn := Tryz.f86) (by kernel_rfl) rfl (by decide)

theorem ok_r9_cmp : FunOk Tryz.prog 86 sp_r9_cmp := fun_ok (X := cx_r9_cmp) (.cons ok_r1_Cmp hb_r1_Cmp (.cons ok_r1_At hb_r1_At (.nil _))) (by kernel_rfl) sp_r9_cmp anns_r9_cmp none (by kernel_rfl) (fun x y h => (den_r9_cmp x).trans h)

def anns_r9_checkQuantity : List (Nat × Ann) := [(300001, ⟨[(32, .val .bool)], [], [], fun _ => 0⟩)]

noncomputable def sp_r9_checkQuantity : FSpec := ⟨[.val t_api_Decimal, .val .bool], [.val tI], fun x => r9_checkQuantity x.1 x.2.1⟩

noncomputable def cx_r9_checkQuantity : Cx := ⟨Tryz.prog, [(85, sp_r1_CheckDecimal), (86, sp_r9_cmp), (87, sp_r9_whole)]⟩

theorem den_r9_checkQuantity : ∀ x, denF cx_r9_checkQuantity anns_r9_checkQuantity none Tryz.f50 sp_r9_checkQuantity x = sp_r9_checkQuantity.m x := by intro x; kernel_rfl

theorem hb_r9_checkQuantity : HasBody Tryz.prog 50 := has_body (fn := Tryz.f50) (by kernel_rfl) rfl (by decide)

theorem ok_r9_checkQuantity : FunOk Tryz.prog 50 sp_r9_checkQuantity := fun_ok (X := cx_r9_checkQuantity) (.cons ok_r1_CheckDecimal hb_r1_CheckDecimal (.cons ok_r9_cmp hb_r9_cmp (.cons ok_r9_whole hb_r9_whole (.nil _)))) (by kernel_rfl) sp_r9_checkQuantity anns_r9_checkQuantity none (by kernel_rfl) (fun x y h => (den_r9_checkQuantity x).trans h)

def anns_r9_checkPrice : List (Nat × Ann) := []

noncomputable def sp_r9_checkPrice : FSpec := ⟨[.val t_api_Decimal], [.val tI], fun x => r9_checkPrice x.1⟩

noncomputable def cx_r9_checkPrice : Cx := ⟨Tryz.prog, [(85, sp_r1_CheckDecimal), (86, sp_r9_cmp), (87, sp_r9_whole)]⟩

theorem den_r9_checkPrice : ∀ x, denF cx_r9_checkPrice anns_r9_checkPrice none Tryz.f51 sp_r9_checkPrice x = sp_r9_checkPrice.m x := by intro x; kernel_rfl

theorem hb_r9_checkPrice : HasBody Tryz.prog 51 := has_body (fn := Tryz.f51) (by kernel_rfl) rfl (by decide)

theorem ok_r9_checkPrice : FunOk Tryz.prog 51 sp_r9_checkPrice := fun_ok (X := cx_r9_checkPrice) (.cons ok_r1_CheckDecimal hb_r1_CheckDecimal (.cons ok_r9_cmp hb_r9_cmp (.cons ok_r9_whole hb_r9_whole (.nil _)))) (by kernel_rfl) sp_r9_checkPrice anns_r9_checkPrice none (by kernel_rfl) (fun x y h => (den_r9_checkPrice x).trans h)

def anns_r1_isName : List (Nat × Ann) := [(4, ⟨[(0, .val .str), (23, .val tI), (24, .val tI)], [], [], fuelOf _⟩),
  (200004, ⟨[], [], [], fun _ => 0⟩)]

noncomputable def sp_r1_isName : FSpec := ⟨[.val .str], [.val .bool], fun x => r1_isName x.1⟩

noncomputable def cx_r1_isName : Cx := ⟨Tryz.prog, []⟩

theorem den_r1_isName : ∀ x, denF cx_r1_isName anns_r1_isName none Tryz.f88 sp_r1_isName x = sp_r1_isName.m x := by intro x; kernel_rfl

theorem hb_r1_isName : HasBody Tryz.prog 88 := has_body (fn := Tryz.f88) (by kernel_rfl) rfl (by decide)

theorem ok_r1_isName : FunOk Tryz.prog 88 sp_r1_isName := fun_ok (X := cx_r1_isName) (.nil _) (by kernel_rfl) sp_r1_isName anns_r1_isName none (by kernel_rfl) (fun x y h => (den_r1_isName x).trans h)

def anns_r1_IsName : List (Nat × Ann) := []

noncomputable def sp_r1_IsName : FSpec := ⟨[.val .str], [.val .bool], fun x => r1_IsName x.1⟩

noncomputable def cx_r1_IsName : Cx := ⟨Tryz.prog, [(88, sp_r1_isName)]⟩

theorem den_r1_IsName : ∀ x, denF cx_r1_IsName anns_r1_IsName none Tryz.f52 sp_r1_IsName x = sp_r1_IsName.m x := by intro x; kernel_rfl

theorem hb_r1_IsName : HasBody Tryz.prog 52 := has_body (fn := Tryz.f52) (by kernel_rfl) rfl (by decide)

theorem ok_r1_IsName : FunOk Tryz.prog 52 sp_r1_IsName := fun_ok (X := cx_r1_IsName) (.cons ok_r1_isName hb_r1_isName (.nil _)) (by kernel_rfl) sp_r1_IsName anns_r1_IsName none (by kernel_rfl) (fun x y h => (den_r1_IsName x).trans h)

def anns_r9_checkFields : List (Nat × Ann) := [(300002, ⟨[(8, .val .bool)], [], [], fun _ => 0⟩),
  (300004, ⟨[(20, .val .bool)], [], [], fun _ => 0⟩),
  (300006, ⟨[(29, .val .bool)], [], [], fun _ => 0⟩),
  (300008, ⟨[(38, .val .bool)], [], [], fun _ => 0⟩),
  (300010, ⟨[(53, .val .bool)], [], [], fun _ => 0⟩),
  (300013, ⟨[(114, .val .bool)], [], [], fun _ => 0⟩)]

noncomputable def sp_r9_checkFields : FSpec := ⟨[.val t_api_Deed], [.val tI], fun x => r9_checkFields x.1⟩

noncomputable def cx_r9_checkFields : Cx := ⟨Tryz.prog, [(27, sp_r1_IsDay), (28, sp_r9_within), (49, sp_r9_usesOf), (50, sp_r9_checkQuantity), (51, sp_r9_checkPrice), (52, sp_r1_IsName)]⟩

theorem den_r9_checkFields : ∀ x, denF cx_r9_checkFields anns_r9_checkFields none Tryz.f30 sp_r9_checkFields x = sp_r9_checkFields.m x := by intro x; kernel_rfl

theorem hb_r9_checkFields : HasBody Tryz.prog 30 := has_body (fn := Tryz.f30) (by kernel_rfl) rfl (by decide)

theorem ok_r9_checkFields : FunOk Tryz.prog 30 sp_r9_checkFields := fun_ok (X := cx_r9_checkFields) (.cons ok_r1_IsDay hb_r1_IsDay (.cons ok_r9_within hb_r9_within (.cons ok_r9_usesOf hb_r9_usesOf (.cons ok_r9_checkQuantity hb_r9_checkQuantity (.cons ok_r9_checkPrice hb_r9_checkPrice (.cons ok_r1_IsName hb_r1_IsName (.nil _))))))) (by kernel_rfl) sp_r9_checkFields anns_r9_checkFields none (by kernel_rfl) (fun x y h => (den_r9_checkFields x).trans h)

def anns_r9_deedOrder : List (Nat × Ann) := [(2, ⟨[(22, .rowR 22), (23, .val tI), (24, .val tI)], [], [.rowC 22 3 tI], fuelOf _⟩),
  (200002, ⟨[], [], [], fun _ => 0⟩)]

noncomputable def sp_r9_deedOrder : FSpec := ⟨[.val t_api_Deed, .val t_api_Deed], [.val tI], fun x => r9_deedOrder x.1 x.2.1⟩

noncomputable def cx_r9_deedOrder : Cx := ⟨Tryz.prog, []⟩

theorem den_r9_deedOrder : ∀ x, denF cx_r9_deedOrder anns_r9_deedOrder none Tryz.f31 sp_r9_deedOrder x = sp_r9_deedOrder.m x := by intro x; kernel_rfl

theorem hb_r9_deedOrder : HasBody Tryz.prog 31 := has_body (fn := Tryz.f31) (by kernel_rfl) rfl (by decide)

theorem ok_r9_deedOrder : FunOk Tryz.prog 31 sp_r9_deedOrder := fun_ok (X := cx_r9_deedOrder) (.nil _) (by kernel_rfl) sp_r9_deedOrder anns_r9_deedOrder none (by kernel_rfl) (fun x y h => (den_r9_deedOrder x).trans h)

def anns_r9_lastNo : List (Nat × Ann) := [(3, ⟨[(1, .val tI), (5, .val tI), (8, .val (.slice t_api_Deed)), (9, .val tI), (10, .val tI)], [], [], fuelOf _⟩),
  (200003, ⟨[(5, .val tI)], [], [], fun _ => 0⟩)]

noncomputable def sp_r9_lastNo : FSpec := ⟨[.val (.slice t_api_Deed), .val tI], [.val tI], fun x => r9_lastNo x.1 x.2.1⟩

noncomputable def cx_r9_lastNo : Cx := ⟨Tryz.prog, []⟩

theorem den_r9_lastNo : ∀ x, denF cx_r9_lastNo anns_r9_lastNo none Tryz.f32 sp_r9_lastNo x = sp_r9_lastNo.m x := by intro x; kernel_rfl

theorem hb_r9_lastNo : HasBody Tryz.prog 32 := has_body (fn := Tryz.f32) (by kernel_rfl) rfl (by decide)

theorem ok_r9_lastNo : FunOk Tryz.prog 32 sp_r9_lastNo := fun_ok (X := cx_r9_lastNo) (.nil _) (by kernel_rfl) sp_r9_lastNo anns_r9_lastNo none (by kernel_rfl) (fun x y h => (den_r9_lastNo x).trans h)

def anns_r9_CheckDeeds : List (Nat × Ann) := [(4, ⟨[(0, .val (.slice t_api_Deed)), (9, .val (.slice t_api_Deed)), (10, .val tI), (11, .val tI)], [], [], fuelOf _⟩),
  (200004, ⟨[], [], [], fun _ => 0⟩),
  (300008, ⟨[(21, .val .bool)], [], [], fun _ => 0⟩),
  (300019, ⟨[(70, .val .bool)], [], [], fun _ => 0⟩)]

noncomputable def sp_r9_CheckDeeds : FSpec := ⟨[.val (.slice t_api_Deed)], [.val tI], fun x => r9_CheckDeeds x.1⟩

noncomputable def cx_r9_CheckDeeds : Cx := ⟨Tryz.prog, [(27, sp_r1_IsDay), (28, sp_r9_within), (29, sp_r9_isBuyers), (30, sp_r9_checkFields), (31, sp_r9_deedOrder), (32, sp_r9_lastNo)]⟩

theorem den_r9_CheckDeeds : ∀ x, denF cx_r9_CheckDeeds anns_r9_CheckDeeds none Tryz.f14 sp_r9_CheckDeeds x = sp_r9_CheckDeeds.m x := by intro x; kernel_rfl

theorem hb_r9_CheckDeeds : HasBody Tryz.prog 14 := has_body (fn := Tryz.f14) (by kernel_rfl) rfl (by decide)

theorem ok_r9_CheckDeeds : FunOk Tryz.prog 14 sp_r9_CheckDeeds := fun_ok (X := cx_r9_CheckDeeds) (.cons ok_r1_IsDay hb_r1_IsDay (.cons ok_r9_within hb_r9_within (.cons ok_r9_isBuyers hb_r9_isBuyers (.cons ok_r9_checkFields hb_r9_checkFields (.cons ok_r9_deedOrder hb_r9_deedOrder (.cons ok_r9_lastNo hb_r9_lastNo (.nil _))))))) (by kernel_rfl) sp_r9_CheckDeeds anns_r9_CheckDeeds none (by kernel_rfl) (fun x y h => (den_r9_CheckDeeds x).trans h)

def anns_slices_Concat_api_Deed : List (Nat × Ann) := [(3, ⟨[(0, .val (.slice (.slice t_api_Deed))), (3, .val tI), (9, .val (.slice (.slice t_api_Deed))), (10, .val tI), (11, .val tI)], [], [], fuelOf _⟩),
  (11, ⟨[(6, .own 40 t_api_Deed), (25, .val (.slice (.slice t_api_Deed))), (26, .val tI), (27, .val tI)], [], [], fuelOf _⟩),
  (200003, ⟨[(0, .val (.slice (.slice t_api_Deed))), (3, .val tI)], [], [], fun _ => 0⟩),
  (200011, ⟨[(6, .own 40 t_api_Deed)], [], [], fun _ => 0⟩)]

noncomputable def sp_slices_Concat_api_Deed : FSpec := ⟨[.val (.slice (.slice t_api_Deed))], [.row 40 t_api_Deed], fun x => slices_Concat_api_Deed x.1⟩

noncomputable def cx_slices_Concat_api_Deed : Cx := ⟨Tryz.prog, [(53, sp_slices_Grow_api_Deed)]⟩

theorem den_slices_Concat_api_Deed : ∀ x, denF cx_slices_Concat_api_Deed anns_slices_Concat_api_Deed none Tryz.f33 sp_slices_Concat_api_Deed x = sp_slices_Concat_api_Deed.m x := by intro x; kernel_rfl

theorem hb_slices_Concat_api_Deed : HasBody Tryz.prog 33 := has_body (fn := Tryz.f33) (by kernel_rfl) rfl (by decide)

theorem ok_slices_Concat_api_Deed : FunOk Tryz.prog 33 sp_slices_Concat_api_Deed := fun_ok (X := cx_slices_Concat_api_Deed) (.cons ok_slices_Grow_api_Deed hb_slices_Grow_api_Deed (.nil _)) (by kernel_rfl) sp_slices_Concat_api_Deed anns_slices_Concat_api_Deed none (by kernel_rfl) (fun x y h => (den_slices_Concat_api_Deed x).trans h)

def anns_order_MergeDeeds : List (Nat × Ann) := [(2, ⟨[(0, .val (.slice t_api_Deed)), (1, .val (.slice t_api_Deed)), (19, .rowR 19), (20, .val tI), (21, .val tI)], [], [.rowC 19 25 (.slice t_api_Deed)], fuelOf _⟩),
  (11, ⟨[(9, .mapR 31), (10, .own 40 t_api_Deed), (35, .rowR 83216), (36, .val tI), (37, .val tI)], [], [.rowC 83216 40 t_api_Deed, .mapC 31 t_api_Decimal t_api_Deed], fuelOf _⟩),
  (200002, ⟨[(0, .val (.slice t_api_Deed)), (1, .val (.slice t_api_Deed))], [], [], fun _ => 0⟩),
  (200011, ⟨[(10, .own 40 t_api_Deed)], [], [], fun _ => 0⟩)]

noncomputable def sp_order_MergeDeeds : FSpec := ⟨[.val (.slice t_api_Deed), .val (.slice t_api_Deed)], [.row 40 t_api_Deed, .val tI], fun x => order_MergeDeeds x.1 x.2.1⟩

noncomputable def cx_order_MergeDeeds : Cx := ⟨Tryz.prog, [(26, sp_order_CheckDeeds), (33, sp_slices_Concat_api_Deed), (34, sp_slices_SortFunc_api_Deed)]⟩

theorem den_order_MergeDeeds : ∀ x, denF cx_order_MergeDeeds anns_order_MergeDeeds none Tryz.f15 sp_order_MergeDeeds x = sp_order_MergeDeeds.m x := by intro x; kernel_rfl

theorem hb_order_MergeDeeds : HasBody Tryz.prog 15 := has_body (fn := Tryz.f15) (by kernel_rfl) rfl (by decide)

theorem ok_order_MergeDeeds : FunOk Tryz.prog 15 sp_order_MergeDeeds := fun_ok (X := cx_order_MergeDeeds) (.cons ok_order_CheckDeeds hb_order_CheckDeeds (.cons ok_slices_Concat_api_Deed hb_slices_Concat_api_Deed (.cons ok_slices_SortFunc_api_Deed hb_slices_SortFunc_api_Deed (.nil _)))) (by kernel_rfl) sp_order_MergeDeeds anns_order_MergeDeeds none (by kernel_rfl) (fun x y h => (den_order_MergeDeeds x).trans h)

def anns_l9_OrderDeedsMergeInAnyOrder : List (Nat × Ann) := [(300010, ⟨[(4, .val .bool)], [], [], fun _ => 0⟩)]

noncomputable def sp_l9_OrderDeedsMergeInAnyOrder : FSpec := ⟨[.val (.slice t_api_Deed), .val (.slice t_api_Deed)], [.val .bool], fun x => l9_OrderDeedsMergeInAnyOrder x.1 x.2.1⟩

noncomputable def cx_l9_OrderDeedsMergeInAnyOrder : Cx := ⟨Tryz.prog, [(8, sp_l9_awake), (11, sp_slices_Equal_api_Deed), (14, sp_r9_CheckDeeds), (15, sp_order_MergeDeeds)]⟩

theorem den_l9_OrderDeedsMergeInAnyOrder : ∀ x, denF cx_l9_OrderDeedsMergeInAnyOrder anns_l9_OrderDeedsMergeInAnyOrder none Tryz.f5 sp_l9_OrderDeedsMergeInAnyOrder x = sp_l9_OrderDeedsMergeInAnyOrder.m x := by intro x; kernel_rfl

theorem ok_l9_OrderDeedsMergeInAnyOrder : FunOk Tryz.prog 5 sp_l9_OrderDeedsMergeInAnyOrder := fun_ok (X := cx_l9_OrderDeedsMergeInAnyOrder) (.cons ok_l9_awake hb_l9_awake (.cons ok_slices_Equal_api_Deed hb_slices_Equal_api_Deed (.cons ok_r9_CheckDeeds hb_r9_CheckDeeds (.cons ok_order_MergeDeeds hb_order_MergeDeeds (.nil _))))) (by kernel_rfl) sp_l9_OrderDeedsMergeInAnyOrder anns_l9_OrderDeedsMergeInAnyOrder none (by kernel_rfl) (fun x y h => (den_l9_OrderDeedsMergeInAnyOrder x).trans h)


end Go.Proofs.SeatO
