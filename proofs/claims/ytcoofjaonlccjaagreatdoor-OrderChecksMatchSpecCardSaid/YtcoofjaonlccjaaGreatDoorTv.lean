/-
 Functions of the library and of kit, by contracts and by a walk. No condition.
-/
import Derived.Test.YtcoofjaonlccjaaGreatDoorTo
import Derived.Test.YtcoofjaonlccjaaGreatDoorTd
import Derived.Shelf.Strings.Split
import Derived.Shelf.LaysM
import Derived.Test.YtcoofjaonlccjaaGreatDoorTx
import Derived.Test.YtcoofjaonlccjaaGreatDoorProg
import Derived.Shelf.Strings.SlTrimAscii
import Derived.Shelf.Strconv.Atoi
import Derived.Shelf.Strings.Search1
import Derived.WalkKit
import Derived.Deep.QuietTactic
import Derived.BigQuiet
import Derived.Lib.AtoiErrMem
import Derived.Test.YtcoofjaonlccjaaGreatDoorTr
import Derived.Test.YtcoofjaonlccjaaGreatDoorTt
import Derived.Shelf.SlIterI.Sorted
import Derived.LoopN
set_option linter.all false
namespace Go.Md
open Go.Dn Go.Lib

theorem index_one_cons (c b : UInt8) (r : List UInt8) : index (b :: r) [c] = if b = c then 0 else if index r [c] == -1 then -1 else index r [c] + 1 := by
 rw [index]
 by_cases h : b = c
 ·subst h; simp
 ·have : (c == b) = false := by simp [Ne.symm h]
  simp [h, List.isPrefixOf, this]

theorem count_cons (c b : UInt8) (r : List UInt8) : count (b :: r) [c] = (if b = c then 1 else 0) + count r [c] := by
 rw [count_one, count_one, List.count_cons]
 by_cases h : b = c
 ·subst h; simp; omega
 ·simp [h]

theorem splitK_cons_ne (c b : UInt8) (h : b ≠ c) : ∀ (k : Nat) (r : List UInt8), splitK [c] 0 k (b :: r) = (match splitK [c] 0 k r with | x :: t => (b :: x) :: t | [] => [[b]])
 | 0, r => rfl
 | k + 1, r => by
  simp only [splitK, index_one_cons, if_neg h]
  have hge := index_ge r [c]
  by_cases h1 : index r [c] = -1
  ·simp [h1]
  ·have e1 : (index r [c] == -1) = false := by simp [h1]
   have e2 : (index r [c] + 1 == -1) = false := by simp; omega
   simp only [e1, e2, Bool.false_eq_true, if_false]
   have e3 : (index r [c] + 1).toNat = (index r [c]).toNat + 1 := by omega
   rw [e3]
   simp [Nat.add_assoc]

theorem split_one_eq (c : UInt8) : ∀ (s : List UInt8), splitK [c] 0 (count s [c]) s = splitOn1 c s
 | [] => by
  have : count [] [c] = 0 := by rw [count_one]; rfl
  rw [this]; rfl
 | b :: r => by
  have ih := split_one_eq c r
  rw [count_cons]
  by_cases h : b = c
  ·subst h
   rw [if_pos rfl, Nat.add_comm]
   simp only [splitK, index_one_cons, splitOn1]
   simp [ih]
  ·have hb : (b == c) = false := by simp [h]
   rw [if_neg h, Nat.zero_add, splitK_cons_ne c b h, ih]
   simp only [splitOn1, hb, cond_false]
   cases splitOn1 c r <;> rfl

end Go.Md
namespace Go.Dn
open Go.Md Go.Proofs Go.Shelf Go.RowKit Go.Lib

theorem repL_strs {G : Gh} : ∀ (l : List ByteArray), RepL (RepC G .str) (l.map (·.data.toList)) (l.map Value.string)
 | [] => rfl
 | x :: r => ⟨[.string x], r.map Value.string, rfl, by show [Value.string x] = [Value.string (bs x.data.toList)]; simp [bs], repL_strs r⟩

theorem split_core {P : Program} {ρ : Ren} (L : LaysM.n146 P ρ) {G : Gh} {w : World} {ow : Nat → Option Nat} (s : List UInt8) (b : UInt8) (hG : Agr G w) (hT : TabOk P G) (hlen : s.length < 4294967281) :
  Calls P (ρ.f 146) #[.string (bs s), .string (bs [b])] w fun e w' => ∃ G' ow' vs, Gives G w ow ⟨[.val .str, .val .str], [.row (ρ.t 9) .str], fun x => strings_Split x.1 x.2.1⟩ [.string (bs s), .string (bs [b])] (splitOn1 b s, ()) e w' G' ow' vs := by
 obtain ⟨m, T, fz, hml⟩ := hT.maxLen _ L.m1
 have hcell : w.cell? ⟨ρ.g 1, 0, none⟩ = some (.int .i64 m) := by
  have := hG _ _ hml
  simp [World.cell?, this]
 have hsz : (bs s).size = s.length := List.size_toArray
 have h1b : 1 ≤ (bs [b]).size := Nat.le_refl 1
 refine (Any.strings_Split { L with } L.i9 (bs s) (bs [b]) m w (by omega) hcell h1b).mono ?_
 rintro e w' ⟨rfl, rfl⟩
 have hsp : (splitB (bs [b]) 0 (countB (bs s) (bs [b])) (bs s)).map (·.data.toList) = splitOn1 b s := by
  rw [splitB_data]
  exact split_one_eq b s
 have hl := splitB_all (bs [b]) h1b 0 _ (bs s) rfl
 have hle := countB_le (bs [b]) h1b (bs s).size (bs s) (Nat.le_refl _)
 generalize splitB (bs [b]) 0 (countB (bs s) (bs [b])) (bs s) = q at hsp hl
 generalize countB (bs s) (bs [b]) = n at hl hle
 have hrl : (splitOn1 b s).length = n + 1 := by rw [← hsp, List.length_map, hl]
 have hnone : G w.heap.size = none := by
  cases hg : G w.heap.size with
  | none => rfl
  | some o => have := heap_lt (hG _ _ hg); omega
 have hmax : n + 1 ≤ maxLen := by
  have : maxLen = 9223372036854775807 := rfl
  omega
 have hown : (w.alloc (.cells (q.map Value.string).toArray (ρ.t 9))).ownsRow 0 (ρ.t 9) 1 (.slice (some ⟨w.heap.size, 0, none⟩) (n + 1) (n + 1)) (splitOn1 b s).length (q.map Value.string) :=
  ⟨by rw [List.length_map, hl, hrl, Nat.mul_one], .inr ⟨w.heap.size, n + 1, (q.map Value.string).toArray, by rw [hrl], Nat.zero_le _, heap_alloc_new w _, by rw [hrl]; exact Nat.le_refl _, hmax, by rw [List.size_toArray, List.length_map, hl, Nat.mul_one],
   by rw [hrl, Nat.mul_one]; exact List.take_of_length_le (by show (q.map Value.string).length ≤ _; rw [List.length_map, hl]; exact Nat.le_refl _)⟩⟩
 refine ⟨G, fun i => if i = w.heap.size then some (64 * 24) else none, [.slice (some ⟨w.heap.size, 0, none⟩) (n + 1) (n + 1)], ?_⟩
 exact {
  ret := rfl
  le := Gh.le_refl G
  agr := fun i o hi => by
   have h1 := hG i o hi
   rw [heap_alloc_old w _ (heap_lt h1)]; exact h1
  size := by simp
  os := rfl
  output := rfl
  old := fun i hi _ => ⟨heap_alloc_old w _ hi, rfl⟩
  own := fun i j hj => by
   by_cases e : i = w.heap.size
   ·subst e; exact ⟨hnone, by simp, .inl (Nat.le_refl _)⟩
   ·simp only [e, if_false] at hj; cases hj
  out := by
   refine ⟨_, [], rfl, ⟨⟨q.map Value.string, hown, by rw [← hsp]; exact repL_strs q⟩, fun k hk => ?_⟩, rfl, trivial⟩
   have : some w.heap.size = some k := hk
   cases this
   show (if w.heap.size = w.heap.size then some (64 * 24) else none) = _
   rw [if_pos rfl]
  hnd := fun _ => rfl }

theorem split_some {s c : List UInt8} {r : List (List UInt8)} (h : strings_Split s c = some (r, ())) : ∃ b, c = [b] ∧ s.length < 4294967281 ∧ r = splitOn1 b s := by
 unfold strings_Split at h
 split at h
 ·rename_i b
  cases hb : decide (s.length < 4294967281) with
  | false => rw [hb] at h; cases h
  | true =>
   rw [hb] at h
   exact ⟨b, rfl, of_decide_eq_true hb, (Prod.mk.inj (Option.some.inj h)).1.symm⟩
 ·cases h

theorem split_ok {P : Program} {ρ : Ren} (L : LaysM.n146 P ρ) : FunOk P (ρ.f 146) ⟨[.val .str, .val .str], [.row (ρ.t 9) .str], fun x => strings_Split x.1 x.2.1⟩ := by
 intro G w ow args x y hG how ha hm hT
 obtain ⟨s, c, u⟩ := x
 obtain ⟨r, u'⟩ := y
 obtain ⟨v, us, h1, l1, hv, v', us', h2, l2, hv', h3⟩ := ha
 have e1 := h1 rfl
 have e2 := h2 rfl
 have e3 : us' = [] := h3
 have e4 : v = .string (bs s) := by simpa [ArgOk, RepV, RepC] using hv
 have e5 : v' = .string (bs c) := by simpa [ArgOk, RepV, RepC] using hv'
 subst e1; subst e2; subst e3; subst e4; subst e5
 obtain ⟨b, rfl, hlen, rfl⟩ := split_some hm
 exact split_core L s b hG hT hlen

end Go.Dn

namespace Go.Proofs
open Go.Shelf
def Tryz.lays160_ren : Go.Shelf.Ren := ⟨fun | 160 => 71 | 232 => 110 | 231 => 109 | 227 => 111 | 234 => 113 | 233 => 112 | 236 => 115 | 235 => 114 | 228 => 168 | 271 => 171 | 151 => 170 | 197 => 169 | 120 => 195 | 152 => 194 | 260 => 193 | 137 => 213 | 119 => 214 | 224 => 215 | 225 => 216 | 217 => 228 | 266 => 236 | n => n, fun | 9 => 9 | 4 => 4 | 3 => 3 | 5 => 5 | 117 => 169 | 116 => 168 | 0 => 0 | 124 => 172 | 21 => 21 | 105 => 215 | 46 => 122 | 119 => 252 | 139 => 255 | 138 => 254 | n => n, fun | 3 => 0 | 4 => 1 | n => n⟩
theorem Tryz.lays160 : Go.Proofs.Lays.n160 Tryz.prog Tryz.lays160_ren := {
 mixed := by kernel_rfl
 f119 := Tryz.func214.trans (congrArg some (by kernel_rfl))
 f120 := Tryz.func195.trans (congrArg some (by kernel_rfl))
 f137 := Tryz.func213.trans (congrArg some (by kernel_rfl))
 f151 := Tryz.func170.trans (congrArg some (by kernel_rfl))
 f152 := Tryz.func194.trans (congrArg some (by kernel_rfl))
 f160 := Tryz.func71.trans (congrArg some (by kernel_rfl))
 f197 := Tryz.func169.trans (congrArg some (by kernel_rfl))
 f217 := Tryz.func228.trans (congrArg some (by kernel_rfl))
 f224 := Tryz.func215.trans (congrArg some (by kernel_rfl))
 f225 := Tryz.func216.trans (congrArg some (by kernel_rfl))
 f227 := Tryz.func111.trans (congrArg some (by kernel_rfl))
 f228 := Tryz.func168.trans (congrArg some (by kernel_rfl))
 f231 := Tryz.func109.trans (congrArg some (by kernel_rfl))
 f232 := Tryz.func110.trans (congrArg some (by kernel_rfl))
 f233 := Tryz.func112.trans (congrArg some (by kernel_rfl))
 f234 := Tryz.func113.trans (congrArg some (by kernel_rfl))
 f235 := Tryz.func114.trans (congrArg some (by kernel_rfl))
 f236 := Tryz.func115.trans (congrArg some (by kernel_rfl))
 f260 := Tryz.func193.trans (congrArg some (by kernel_rfl))
 f266 := Tryz.func236.trans (congrArg some (by kernel_rfl))
 f271 := Tryz.func171.trans (congrArg some (by kernel_rfl))
 t0 := Tryz.underlying0
 a0 := Tryz.isAgg0
 z0 := Tryz.sizeOf0
 v0 := Tryz.zeroValue0
 t3 := Tryz.underlying3
 a3 := Tryz.isAgg3
 z3 := Tryz.sizeOf3
 v3 := Tryz.zeroValue3
 t4 := Tryz.underlying4
 a4 := Tryz.isAgg4
 z4 := Tryz.sizeOf4
 v4 := Tryz.zeroValue4
 t5 := Tryz.underlying5
 a5 := Tryz.isAgg5
 z5 := Tryz.sizeOf5
 v5 := Tryz.zeroValue5
 t9 := Tryz.underlying9
 a9 := Tryz.isAgg9
 z9 := Tryz.sizeOf9
 v9 := Tryz.zeroValue9
 t21 := Tryz.underlying21
 a21 := Tryz.isAgg21
 z21 := Tryz.sizeOf21
 v21 := Tryz.zeroValue21
 t46 := Tryz.underlying122
 a46 := Tryz.isAgg122
 z46 := Tryz.sizeOf122
 v46 := Tryz.zeroValue122
 t105 := Tryz.underlying215
 a105 := Tryz.isAgg215
 z105 := Tryz.sizeOf215
 v105 := Tryz.zeroValue215
 t116 := Tryz.underlying168
 a116 := Tryz.isAgg168
 z116 := Tryz.sizeOf168
 t117 := Tryz.underlying169
 a117 := Tryz.isAgg169
 z117 := Tryz.sizeOf169
 v117 := Tryz.zeroValue169
 t119 := Tryz.underlying252
 a119 := Tryz.isAgg252
 z119 := Tryz.sizeOf252
 t124 := Tryz.underlying172
 a124 := Tryz.isAgg172
 z124 := Tryz.sizeOf172
 v124 := Tryz.zeroValue172
 t138 := Tryz.underlying254
 a138 := Tryz.isAgg254
 z138 := Tryz.sizeOf254
 v138 := Tryz.zeroValue254
 t139 := Tryz.underlying255
 a139 := Tryz.isAgg255
 z139 := Tryz.sizeOf255
 v139 := Tryz.zeroValue255
 g3 := by kernel_rfl
 g4 := by kernel_rfl }
def Tryz.laysM146_ren : Go.Shelf.Ren := ⟨fun | 146 => 122 | 221 => 173 | 268 => 197 | 138 => 198 | 143 => 199 | 195 => 217 | 197 => 169 | 218 => 218 | 219 => 219 | 260 => 193 | 217 => 228 | 225 => 216 | 224 => 215 | 267 => 229 | 266 => 236 | 314 => 237 | n => n, fun | 9 => 9 | 31 => 130 | 3 => 3 | 4 => 4 | 0 => 0 | 105 => 215 | 21 => 21 | 5 => 5 | 46 => 122 | 119 => 252 | 139 => 255 | 138 => 254 | 146 => 270 | 51 => 163 | n => n, fun | 1 => 2 | 3 => 0 | 4 => 1 | n => n⟩
theorem Tryz.laysM146 : Go.Proofs.LaysM.n146 Tryz.prog Tryz.laysM146_ren := {
 mixed := by kernel_rfl
 f138 := Tryz.func198.trans (congrArg some (by kernel_rfl))
 f143 := Tryz.func199.trans (congrArg some (by kernel_rfl))
 f146 := Tryz.func122.trans (congrArg some (by kernel_rfl))
 f195 := Tryz.func217.trans (congrArg some (by kernel_rfl))
 f197 := Tryz.func169.trans (congrArg some (by kernel_rfl))
 f217 := Tryz.func228.trans (congrArg some (by kernel_rfl))
 f218 := Tryz.func218.trans (congrArg some (by kernel_rfl))
 f219 := Tryz.func219.trans (congrArg some (by kernel_rfl))
 f221 := Tryz.func173.trans (congrArg some (by kernel_rfl))
 f224 := Tryz.func215.trans (congrArg some (by kernel_rfl))
 f225 := Tryz.func216.trans (congrArg some (by kernel_rfl))
 f260 := Tryz.func193.trans (congrArg some (by kernel_rfl))
 f266 := Tryz.func236.trans (congrArg some (by kernel_rfl))
 f267 := Tryz.func229.trans (congrArg some (by kernel_rfl))
 f268 := Tryz.func197.trans (congrArg some (by kernel_rfl))
 f314 := Tryz.func237.trans (congrArg some (by kernel_rfl))
 t0 := Tryz.underlying0
 a0 := Tryz.isAgg0
 z0 := Tryz.sizeOf0
 v0 := Tryz.zeroValue0
 t3 := Tryz.underlying3
 a3 := Tryz.isAgg3
 z3 := Tryz.sizeOf3
 v3 := Tryz.zeroValue3
 t4 := Tryz.underlying4
 a4 := Tryz.isAgg4
 z4 := Tryz.sizeOf4
 v4 := Tryz.zeroValue4
 t5 := Tryz.underlying5
 a5 := Tryz.isAgg5
 z5 := Tryz.sizeOf5
 v5 := Tryz.zeroValue5
 t9 := Tryz.underlying9
 a9 := Tryz.isAgg9
 z9 := Tryz.sizeOf9
 v9 := Tryz.zeroValue9
 t21 := Tryz.underlying21
 a21 := Tryz.isAgg21
 z21 := Tryz.sizeOf21
 v21 := Tryz.zeroValue21
 t31 := Tryz.underlying130
 a31 := Tryz.isAgg130
 z31 := Tryz.sizeOf130
 v31 := Tryz.zeroValue130
 t46 := Tryz.underlying122
 a46 := Tryz.isAgg122
 z46 := Tryz.sizeOf122
 v46 := Tryz.zeroValue122
 t51 := Tryz.underlying163
 a51 := Tryz.isAgg163
 z51 := Tryz.sizeOf163
 v51 := Tryz.zeroValue163
 t105 := Tryz.underlying215
 a105 := Tryz.isAgg215
 z105 := Tryz.sizeOf215
 v105 := Tryz.zeroValue215
 t119 := Tryz.underlying252
 a119 := Tryz.isAgg252
 z119 := Tryz.sizeOf252
 t138 := Tryz.underlying254
 a138 := Tryz.isAgg254
 z138 := Tryz.sizeOf254
 v138 := Tryz.zeroValue254
 t139 := Tryz.underlying255
 a139 := Tryz.isAgg255
 z139 := Tryz.sizeOf255
 v139 := Tryz.zeroValue255
 t146 := Tryz.underlying270
 a146 := Tryz.isAgg270
 z146 := Tryz.sizeOf270
 v146 := Tryz.zeroValue270
 g1 := by kernel_rfl
 g3 := by kernel_rfl
 g4 := by kernel_rfl
 i0 := by kernel_rfl
 i3 := by kernel_rfl
 i4 := by kernel_rfl
 i5 := by kernel_rfl
 i9 := by kernel_rfl
 i21 := by kernel_rfl
 i31 := by kernel_rfl
 i46 := by kernel_rfl
 i51 := by kernel_rfl
 i105 := by kernel_rfl
 i138 := by kernel_rfl
 i139 := by kernel_rfl
 i146 := by kernel_rfl
 m1 := by kernel_rfl
 s1_3 := fun w h => Go.Proofs.cell_of_shapedOpen_int (zero := #[.int .i64 0]) (t := 3) h (of_decide_eq_true (by kernel_rfl)) (by kernel_rfl) rfl (by kernel_rfl) (by kernel_rfl) Tryz.underlying3
 m3 := by kernel_rfl
 m4 := by kernel_rfl }
def Tryz.lays172_ren : Go.Shelf.Ren := ⟨fun | 172 => 201 | 244 => 221 | 245 => 222 | 247 => 230 | 279 => 231 | 280 => 232 | 281 => 233 | 282 => 234 | 287 => 238 | 316 => 239 | 171 => 241 | 205 => 240 | 321 => 242 | 322 => 243 | 243 => 244 | 246 => 245 | 283 => 246 | 284 => 247 | 285 => 248 | 286 => 249 | 129 => 107 | 317 => 250 | 318 => 251 | 319 => 252 | 320 => 253 | 337 => 254 | 338 => 255 | n => n, fun | 9 => 9 | 3 => 3 | 75 => 241 | 76 => 242 | 4 => 4 | 5 => 5 | 167 => 263 | 37 => 264 | 0 => 0 | 85 => 265 | 2 => 2 | 168 => 267 | 53 => 165 | 175 => 272 | 46 => 122 | 210 => 276 | 127 => 280 | 145 => 283 | 143 => 281 | 21 => 21 | 171 => 285 | 173 => 287 | 212 => 290 | 51 => 163 | 20 => 20 | 213 => 291 | 232 => 292 | 233 => 293 | 80 => 182 | n => n, fun | 15 => 3 | 16 => 4 | 17 => 5 | 18 => 6 | 19 => 7 | n => n⟩
theorem Tryz.lays172 : Go.Proofs.Lays.n172 Tryz.prog Tryz.lays172_ren := {
 mixed := by kernel_rfl
 f129 := Tryz.func107.trans (congrArg some (by kernel_rfl))
 f171 := Tryz.func241.trans (congrArg some (by kernel_rfl))
 f172 := Tryz.func201.trans (congrArg some (by kernel_rfl))
 f205 := Tryz.func240.trans (congrArg some (by kernel_rfl))
 f243 := Tryz.func244.trans (congrArg some (by kernel_rfl))
 f244 := Tryz.func221.trans (congrArg some (by kernel_rfl))
 f245 := Tryz.func222.trans (congrArg some (by kernel_rfl))
 f246 := Tryz.func245.trans (congrArg some (by kernel_rfl))
 f247 := Tryz.func230.trans (congrArg some (by kernel_rfl))
 f279 := Tryz.func231.trans (congrArg some (by kernel_rfl))
 f280 := Tryz.func232.trans (congrArg some (by kernel_rfl))
 f281 := Tryz.func233.trans (congrArg some (by kernel_rfl))
 f282 := Tryz.func234.trans (congrArg some (by kernel_rfl))
 f283 := Tryz.func246.trans (congrArg some (by kernel_rfl))
 f284 := Tryz.func247.trans (congrArg some (by kernel_rfl))
 f285 := Tryz.func248.trans (congrArg some (by kernel_rfl))
 f286 := Tryz.func249.trans (congrArg some (by kernel_rfl))
 f287 := Tryz.func238.trans (congrArg some (by kernel_rfl))
 f316 := Tryz.func239.trans (congrArg some (by kernel_rfl))
 f317 := Tryz.func250.trans (congrArg some (by kernel_rfl))
 f318 := Tryz.func251.trans (congrArg some (by kernel_rfl))
 f319 := Tryz.func252.trans (congrArg some (by kernel_rfl))
 f320 := Tryz.func253.trans (congrArg some (by kernel_rfl))
 f321 := Tryz.func242.trans (congrArg some (by kernel_rfl))
 f322 := Tryz.func243.trans (congrArg some (by kernel_rfl))
 f337 := Tryz.func254.trans (congrArg some (by kernel_rfl))
 f338 := Tryz.func255.trans (congrArg some (by kernel_rfl))
 t0 := Tryz.underlying0
 a0 := Tryz.isAgg0
 z0 := Tryz.sizeOf0
 v0 := Tryz.zeroValue0
 t2 := Tryz.underlying2
 a2 := Tryz.isAgg2
 z2 := Tryz.sizeOf2
 v2 := Tryz.zeroValue2
 t3 := Tryz.underlying3
 a3 := Tryz.isAgg3
 z3 := Tryz.sizeOf3
 v3 := Tryz.zeroValue3
 t4 := Tryz.underlying4
 a4 := Tryz.isAgg4
 z4 := Tryz.sizeOf4
 v4 := Tryz.zeroValue4
 t5 := Tryz.underlying5
 a5 := Tryz.isAgg5
 z5 := Tryz.sizeOf5
 v5 := Tryz.zeroValue5
 t9 := Tryz.underlying9
 a9 := Tryz.isAgg9
 z9 := Tryz.sizeOf9
 v9 := Tryz.zeroValue9
 t20 := Tryz.underlying20
 a20 := Tryz.isAgg20
 z20 := Tryz.sizeOf20
 v20 := Tryz.zeroValue20
 t21 := Tryz.underlying21
 a21 := Tryz.isAgg21
 z21 := Tryz.sizeOf21
 v21 := Tryz.zeroValue21
 t37 := Tryz.underlying264
 a37 := Tryz.isAgg264
 z37 := Tryz.sizeOf264
 v37 := Tryz.zeroValue264
 t46 := Tryz.underlying122
 a46 := Tryz.isAgg122
 z46 := Tryz.sizeOf122
 v46 := Tryz.zeroValue122
 t51 := Tryz.underlying163
 a51 := Tryz.isAgg163
 z51 := Tryz.sizeOf163
 v51 := Tryz.zeroValue163
 t53 := Tryz.underlying165
 a53 := Tryz.isAgg165
 z53 := Tryz.sizeOf165
 v53 := Tryz.zeroValue165
 t75 := Tryz.underlying241
 a75 := Tryz.isAgg241
 z75 := Tryz.sizeOf241
 v75 := Tryz.zeroValue241
 t76 := Tryz.underlying242
 a76 := Tryz.isAgg242
 z76 := Tryz.sizeOf242
 v76 := Tryz.zeroValue242
 t85 := Tryz.underlying265
 a85 := Tryz.isAgg265
 z85 := Tryz.sizeOf265
 v85 := Tryz.zeroValue265
 t127 := Tryz.underlying280
 a127 := Tryz.isAgg280
 z127 := Tryz.sizeOf280
 v127 := Tryz.zeroValue280
 t143 := Tryz.underlying281
 a143 := Tryz.isAgg281
 z143 := Tryz.sizeOf281
 v143 := Tryz.zeroValue281
 t145 := Tryz.underlying283
 a145 := Tryz.isAgg283
 z145 := Tryz.sizeOf283
 v145 := Tryz.zeroValue283
 t167 := Tryz.underlying263
 a167 := Tryz.isAgg263
 z167 := Tryz.sizeOf263
 v167 := Tryz.zeroValue263
 t168 := Tryz.underlying267
 a168 := Tryz.isAgg267
 z168 := Tryz.sizeOf267
 v168 := Tryz.zeroValue267
 t171 := Tryz.underlying285
 a171 := Tryz.isAgg285
 z171 := Tryz.sizeOf285
 v171 := Tryz.zeroValue285
 t173 := Tryz.underlying287
 a173 := Tryz.isAgg287
 z173 := Tryz.sizeOf287
 v173 := Tryz.zeroValue287
 t175 := Tryz.underlying272
 a175 := Tryz.isAgg272
 z175 := Tryz.sizeOf272
 v175 := Tryz.zeroValue272
 t210 := Tryz.underlying276
 a210 := Tryz.isAgg276
 z210 := Tryz.sizeOf276
 v210 := Tryz.zeroValue276
 t212 := Tryz.underlying290
 a212 := Tryz.isAgg290
 z212 := Tryz.sizeOf290
 v212 := Tryz.zeroValue290
 t213 := Tryz.underlying291
 a213 := Tryz.isAgg291
 z213 := Tryz.sizeOf291
 t232 := Tryz.underlying292
 a232 := Tryz.isAgg292
 z232 := Tryz.sizeOf292
 v232 := Tryz.zeroValue292
 t233 := Tryz.underlying293
 a233 := Tryz.isAgg293
 z233 := Tryz.sizeOf293
 v233 := Tryz.zeroValue293
 g15 := by kernel_rfl
 g16 := by kernel_rfl
 g17 := by kernel_rfl
 g18 := by kernel_rfl
 g19 := by kernel_rfl }
def Tryz.lays217_ren : Go.Shelf.Ren := ⟨fun | 217 => 228 | 266 => 236 | n => n, fun | 9 => 9 | 5 => 5 | 3 => 3 | n => n, fun | n => n⟩
theorem Tryz.lays217 : Go.Proofs.Lays.n217 Tryz.prog Tryz.lays217_ren := {
 mixed := by kernel_rfl
 f217 := Tryz.func228.trans (congrArg some (by kernel_rfl))
 f266 := Tryz.func236.trans (congrArg some (by kernel_rfl))
 t3 := Tryz.underlying3
 a3 := Tryz.isAgg3
 z3 := Tryz.sizeOf3
 v3 := Tryz.zeroValue3
 t5 := Tryz.underlying5
 a5 := Tryz.isAgg5
 z5 := Tryz.sizeOf5
 v5 := Tryz.zeroValue5
 t9 := Tryz.underlying9
 a9 := Tryz.isAgg9
 z9 := Tryz.sizeOf9
 v9 := Tryz.zeroValue9 }
end Go.Proofs

namespace Go.Proofs.SeatA
open Go.Dn Go.Md Go.Proofs Go.RowKit Go.Shelf Go.Lib

def sp_strings_Trim : FSpec := ⟨[.val .str, .val .str], [.val .str], fun x => strings_Trim x.1 x.2.1⟩
theorem hb_strings_Trim : HasBody Tryz.prog 71 := has_body (fn := Tryz.f71) (by kernel_rfl) rfl (by decide)
theorem ok_strings_Trim : FunOk Tryz.prog 71 sp_strings_Trim := by
 intro G w ow args x y hG how ha hm
 refine fun_ok_str2 (P := Tryz.prog) (f := 71) (m := sp_strings_Trim.m) ?_ G w ow args x y hG how ha hm
 intro s c r w hm
 replace hm : strings_Trim s c = some (r, ()) := hm
 unfold strings_Trim at hm
 cases hb : (decide (s.length ≤ 9223372036854775807) && (decide (c.length < 4294967281) && c.all fun b => decide (b.toNat < 128))) with
 | false => rw [hb] at hm; cases hm
 | true =>
  rw [hb] at hm
  simp only [cond_true, Option.some.injEq, Prod.mk.injEq, and_true] at hm
  subst hm
  simp only [Bool.and_eq_true, decide_eq_true_eq, List.all_eq_true] at hb
  have := Any.strings_Trim_laid Tryz.lays160 (by kernel_rfl) (bs s) (bs c) w (by simpa [bs, ByteArray.size] using hb.1) (by simpa [bs, ByteArray.size] using hb.2.1) (fun j b hj => hb.2.2 b (List.mem_of_getElem? (by simpa [bs] using hj)))
  change Calls Tryz.prog 71 _ _ _ at this
  simpa [bs] using this

def sp_internal_stringslite_IndexByte : FSpec := ⟨[.val .str, .val (.int .u8)], [.val tI], fun x => internal_stringslite_IndexByte x.1 x.2.1⟩
theorem hb_internal_stringslite_IndexByte : HasBody Tryz.prog 228 := has_body (fn := Tryz.f228) (by kernel_rfl) rfl (by decide)
theorem ok_internal_stringslite_IndexByte : FunOk Tryz.prog 228 sp_internal_stringslite_IndexByte := by
 intro G w ow args x y hG how ha hm
 refine fun_ok_lit2 (P := Tryz.prog) (f := 228) (a := .str) (a' := .int .u8) (t := tI) (m := sp_internal_stringslite_IndexByte.m) rfl rfl ?_ G w ow args x y hG how ha hm
 intro s c r w hm
 replace hm : internal_stringslite_IndexByte s c = some (r, ()) := hm
 unfold internal_stringslite_IndexByte at hm
 obtain rfl : Lib.indexByte s c.toNat.toUInt8 = r := congrArg (fun o => (Option.getD o (0, ())).1) hm
 have := Any.stringslite_IndexByte Tryz.lays217 (bs s) c w
 refine ⟨.int .i64 (Lib.indexByte s c.toNat.toUInt8), fun G => rfl, this.mono ?_⟩
 rintro e w' ⟨he, rfl⟩
 exact ⟨he, RowKit.Below.refl _ _⟩

def sp_strings_Split : FSpec := ⟨[.val .str, .val .str], [.row 9 .str], fun x => strings_Split x.1 x.2.1⟩
theorem hb_strings_Split : HasBody Tryz.prog 122 := has_body (fn := Tryz.f122) (by kernel_rfl) rfl (by decide)
theorem ok_strings_Split : FunOk Tryz.prog 122 sp_strings_Split := split_ok Tryz.laysM146

end Go.Proofs.SeatA

set_option maxRecDepth 100000
namespace Go.Proofs.SeatA
open Go.Dn Go.Md Go.Proofs Go.RowKit Go.Shelf Go.Lib

def anns_kit_InBytes : List (Nat × Ann) := [(2, ⟨[(0, .val .str), (1, .val (.int .u8)), (2, .val (.int .u8)), (9, .val tI), (10, .val tI)], [], [], fuelOf _⟩),
 (200002, ⟨[], [], [], fun _ => 0⟩)]

noncomputable def sp_kit_InBytes : FSpec := ⟨[.val .str, .val (.int .u8), .val (.int .u8)], [.val .bool], fun x => kit_InBytes x.1 x.2.1 x.2.2.1⟩

noncomputable def cx_kit_InBytes : Cx := ⟨Tryz.prog, [], []⟩

theorem den_kit_InBytes : ∀ x, denF cx_kit_InBytes anns_kit_InBytes none Tryz.f220 sp_kit_InBytes x = sp_kit_InBytes.m x := by intro x; kernel_rfl

theorem hb_kit_InBytes : HasBody Tryz.prog 220 := has_body (fn := Tryz.f220) (by kernel_rfl) rfl (by decide)

theorem ok_kit_InBytes : FunOk Tryz.prog 220 sp_kit_InBytes := fun_ok (X := cx_kit_InBytes) (.nil _) (by kernel_rfl) sp_kit_InBytes anns_kit_InBytes none (by kernel_rfl) (fun x y h => (den_kit_InBytes x).trans h)

def anns_kit_IsDigits : List (Nat × Ann) := []

noncomputable def sp_kit_IsDigits : FSpec := ⟨[.val .str], [.val .bool], fun x => kit_IsDigits x.1⟩

noncomputable def cx_kit_IsDigits : Cx := ⟨Tryz.prog, [(220, sp_kit_InBytes)], []⟩

theorem den_kit_IsDigits : ∀ x, denF cx_kit_IsDigits anns_kit_IsDigits none Tryz.f200 sp_kit_IsDigits x = sp_kit_IsDigits.m x := by intro x; kernel_rfl

theorem hb_kit_IsDigits : HasBody Tryz.prog 200 := has_body (fn := Tryz.f200) (by kernel_rfl) rfl (by decide)

theorem ok_kit_IsDigits : FunOk Tryz.prog 200 sp_kit_IsDigits := fun_ok (X := cx_kit_IsDigits) (.cons ok_kit_InBytes hb_kit_InBytes (.nil _)) (by kernel_rfl) sp_kit_IsDigits anns_kit_IsDigits none (by kernel_rfl) (fun x y h => (den_kit_IsDigits x).trans h)



structure Kept (w w' : World) : Prop where
 size : w.heap.size ≤ w'.heap.size
 os : w'.os = w.os
 output : w'.output = w.output
 block : ∀ b, b < w.heap.size → w'.heap[b]? = w.heap[b]?
theorem Kept.refl (w : World) : Kept w w := ⟨Nat.le_refl _, rfl, rfl, fun _ _ => rfl⟩
theorem Kept.trans {a b c : World} (h : Kept a b) (k : Kept b c) : Kept a c := ⟨Nat.le_trans h.size k.size, k.os.trans h.os, k.output.trans h.output, fun i hi => (k.block i (Nat.lt_of_lt_of_le hi h.size)).trans (h.block i hi)⟩

theorem Kept.drawn {a b : World} (h : Kept a b) (n : Nat) : Kept a (b.drewN n) := ⟨h.size, h.os, h.output, h.block⟩

theorem number_a (s : List UInt8) (most : Int) (w : World) (h1 : most < (s.length : Int)) :
  Calls Tryz.prog 174 #[.string (bs s), .int .i64 most] w fun e w' => e = .returned (.tuple #[.int .i64 0, .bool false]) ∧ w' = w := by
 have e200 : ∀ args w, (callFunc 200 args).run Tryz.prog w = .ok (.enter 200 args) w := enters_of Tryz.func200 (by kernel_rfl) rfl
 have e201 : ∀ args w, (callFunc 201 args).run Tryz.prog w = .ok (.enter 201 args) w := enters_of Tryz.func201 (by kernel_rfl) rfl
 have mixed : Tryz.prog.follows .mixedOrders = true := by kernel_rfl
 have t3 := Tryz.underlying3; have t4 := Tryz.underlying4; have t5 := Tryz.underlying5; have t9 := Tryz.underlying9
 have hsz : (bs s).size = s.length := List.size_toArray
 go_enter Tryz.func174, Tryz.ntmps174
 go_wp2
 go_ret2
 exact ⟨rfl, rfl⟩

theorem number_b (s : List UInt8) (most : Int) (w : World) (h1 : (s.length : Int) ≤ most)
  (hd : Calls Tryz.prog 200 #[.string (bs s)] w fun e w' => e = .returned (.bool false) ∧ Kept w w') :
  Calls Tryz.prog 174 #[.string (bs s), .int .i64 most] w fun e w' => e = .returned (.tuple #[.int .i64 0, .bool false]) ∧ Kept w w' := by
 have e200 : ∀ args w, (callFunc 200 args).run Tryz.prog w = .ok (.enter 200 args) w := enters_of Tryz.func200 (by kernel_rfl) rfl
 have e201 : ∀ args w, (callFunc 201 args).run Tryz.prog w = .ok (.enter 201 args) w := enters_of Tryz.func201 (by kernel_rfl) rfl
 have mixed : Tryz.prog.follows .mixedOrders = true := by kernel_rfl
 have t3 := Tryz.underlying3; have t4 := Tryz.underlying4; have t5 := Tryz.underlying5; have t9 := Tryz.underlying9
 have hsz : (bs s).size = s.length := List.size_toArray
 go_enter Tryz.func174, Tryz.ntmps174
 go_wp2_with (go_at_fn 200; refine hd.mono ?_; rintro e w' ⟨rfl, hk⟩)
 go_ret2
 exact ⟨rfl, hk⟩

theorem number_c (s : List UInt8) (most : Int) (w : World) (h1 : (s.length : Int) ≤ most) (h2 : 1 < (s.length : Int)) (h3 : (bs s)[0]? = some 48)
  (hd : Calls Tryz.prog 200 #[.string (bs s)] w fun e w' => e = .returned (.bool true) ∧ Kept w w') :
  Calls Tryz.prog 174 #[.string (bs s), .int .i64 most] w fun e w' => e = .returned (.tuple #[.int .i64 0, .bool false]) ∧ Kept w w' := by
 have e200 : ∀ args w, (callFunc 200 args).run Tryz.prog w = .ok (.enter 200 args) w := enters_of Tryz.func200 (by kernel_rfl) rfl
 have e201 : ∀ args w, (callFunc 201 args).run Tryz.prog w = .ok (.enter 201 args) w := enters_of Tryz.func201 (by kernel_rfl) rfl
 have mixed : Tryz.prog.follows .mixedOrders = true := by kernel_rfl
 have t3 := Tryz.underlying3; have t4 := Tryz.underlying4; have t5 := Tryz.underlying5; have t9 := Tryz.underlying9
 have hsz : (bs s).size = s.length := List.size_toArray
 have h3' : ∀ h : 0 < (bs s).size, (bs s)[0]'h = 48 := fun h => by rw [getElem?_pos (bs s) 0 h] at h3; exact Option.some.inj h3
 go_enter Tryz.func174, Tryz.ntmps174
 go_wp2_with (go_at_fn 200; refine hd.mono ?_; rintro e w' ⟨rfl, hk⟩)
 all_goals first | (go_ret2; exact ⟨rfl, hk⟩) | (exfalso; simp_all)

theorem number_d (s : List UInt8) (most n : Int) (b : UInt8) (w : World) (h1 : (s.length : Int) ≤ most) (h3 : (bs s)[0]? = some b) (h2 : ¬(1 < (s.length : Int)) ∨ b ≠ 48)
  (hd : Calls Tryz.prog 200 #[.string (bs s)] w fun e w' => e = .returned (.bool true) ∧ Kept w w')
  (ha : ∀ w, Calls Tryz.prog 201 #[.string (bs s)] w fun e w' => e = .returned (.tuple #[.int .i64 n, .nilIface]) ∧ Kept w w') :
  Calls Tryz.prog 174 #[.string (bs s), .int .i64 most] w fun e w' => e = .returned (.tuple #[.int .i64 n, .bool true]) ∧ Kept w w' := by
 have e200 : ∀ args w, (callFunc 200 args).run Tryz.prog w = .ok (.enter 200 args) w := enters_of Tryz.func200 (by kernel_rfl) rfl
 have e201 : ∀ args w, (callFunc 201 args).run Tryz.prog w = .ok (.enter 201 args) w := enters_of Tryz.func201 (by kernel_rfl) rfl
 have mixed : Tryz.prog.follows .mixedOrders = true := by kernel_rfl
 have t3 := Tryz.underlying3; have t4 := Tryz.underlying4; have t5 := Tryz.underlying5; have t9 := Tryz.underlying9
 have hsz : (bs s).size = s.length := List.size_toArray
 have t240 := Tryz.underlying240; have t241 := Tryz.underlying241
 have h3' : ∀ h : 0 < (bs s).size, (bs s)[0]'h = b := fun h => by rw [getElem?_pos (bs s) 0 h] at h3; exact Option.some.inj h3
 have hb48 : b ≠ 48 → ¬((b.toNat : Int) = 48) := fun h e => h (UInt8.toNat_inj.1 (show b.toNat = 48 by omega))
 rcases Classical.em (1 < (s.length : Int)) with h4 | h4
 ·have h5 : ¬((b.toNat : Int) = 48) := hb48 (h2.resolve_left (fun h => h h4))
  go_enter Tryz.func174, Tryz.ntmps174
  go_wp2_with (first | (go_at_fn 200; refine hd.mono ?_; rintro e w' ⟨rfl, hk⟩) | (go_at_fn 201; refine (ha _).mono ?_; rintro e w'' ⟨rfl, hk2⟩))
  all_goals first | (exfalso; omega) | skip
  all_goals first | (go_quiet (fail); go_wp2; go_ret2; exact ⟨rfl, hk.trans (hk2.drawn _)⟩) | (exfalso; simp_all; done) | (exfalso; simp_all; omega)
 ·go_enter Tryz.func174, Tryz.ntmps174
  go_wp2_with (first | (go_at_fn 200; refine hd.mono ?_; rintro e w' ⟨rfl, hk⟩) | (go_at_fn 201; refine (ha _).mono ?_; rintro e w'' ⟨rfl, hk2⟩))
  all_goals first | (exfalso; omega) | skip
  all_goals first | (go_quiet (fail); go_wp2; go_ret2; exact ⟨rfl, hk.trans (hk2.drawn _)⟩) | (exfalso; simp_all; done) | (exfalso; simp_all; omega)

theorem Kept.of_below {w w' : World} (h : RowKit.Below w.heap.size w w') : Kept w w' := ⟨h.size, h.os, h.output, h.block⟩

theorem digits_calls {G : Gh} {w : World} (s : List UInt8) (hG : Agr G w) (hT : TabOk Tryz.prog G) (D : Bool) (hm : kit_IsDigits s = some (D, ())) :
  Calls Tryz.prog 200 #[.string (bs s)] w fun e w' => e = .returned (.bool D) ∧ Kept w w' := by
 have h := ok_kit_IsDigits G w (fun _ => none) [.string (bs s)] (s, ()) (D, ()) hG (fun _ _ h => nomatch h) ⟨_, [], fun _ => rfl, fun h => (Bool.noConfusion h), (by show RepC G .str s [.string (bs s)]; rfl), rfl⟩ hm hT
 refine h.mono ?_
 rintro e w' ⟨G', ow', vs, g⟩
 obtain ⟨v, us, hv, hr, h2, _⟩ := g.out
 have e2 : us = [] := h2
 have e1 : [v] = [Value.bool D] := hr
 cases e1
 subst e2; subst hv
 exact ⟨g.ret, g.size, g.os, g.output, fun b hb => (g.old b hb rfl).1⟩

def sp_kit_Number : FSpec := ⟨[.val .str, .val tI], [.val tI, .val .bool], fun x => kit_Number x.1 x.2.1⟩
theorem hb_kit_Number : HasBody Tryz.prog 174 := has_body (fn := Tryz.f174) (by kernel_rfl) rfl (by decide)

theorem number_calls {G : Gh} {w : World} (s : List UInt8) (most n : Int) (b : Bool) (hG : Agr G w) (hT : TabOk Tryz.prog G) (hm : kit_Number s most = some (n, b, ())) :
  Calls Tryz.prog 174 #[.string (bs s), .int .i64 most] w fun e w' => e = .returned (.tuple #[.int .i64 n, .bool b]) ∧ Kept w w' := by
 unfold kit_Number at hm
 rcases Classical.em (most < (s.length : Int)) with h | h
 ·rw [decide_eq_true h, cond_true] at hm
  cases hm
  exact (number_a s most w h).mono fun e w' hh => ⟨hh.1, hh.2 ▸ Kept.refl w⟩
 ·rw [decide_eq_false h, cond_false] at hm
  rcases Classical.em (s.length ≤ 18) with h18 | h18
  rotate_left
  ·rw [decide_eq_false h18, cond_false] at hm; cases hm
  rw [decide_eq_true h18, cond_true] at hm
  have hD := kit_IsDigits_eq s (by omega)
  have hle : (s.length : Int) ≤ most := by omega
  have hdd : (!(s == []) && s.all isDig) = (decide (s ≠ []) && s.all digC) := by cases s <;> rfl
  rw [hdd] at hm
  generalize hDD : (decide (s ≠ []) && s.all digC) = D at hD hm
  have hd := digits_calls s hG hT D hD
  cases D with
  | false =>
   cases hm
   exact number_b s most w hle hd
  | true =>
   cases s with
   | nil => cases hDD
   | cons c r =>
    have h3 : (bs (c :: r))[0]? = some c := by
     rw [getElem?_pos (bs (c :: r)) 0 (by show 0 < (c :: r).toArray.size; simp)]; rfl
    rcases Classical.em (1 < (c :: r).length ∧ c = 48) with h2 | h2
    ·obtain ⟨h2, rfl⟩ := h2
     have e : (!true || (decide (1 < ((48 : UInt8) :: r).length) && ((48 : UInt8) :: r).head? == some 48)) = true := by rw [decide_eq_true h2]; rfl
     rw [e, cond_true] at hm
     cases hm
     exact number_c _ most w hle (by omega) h3 hd
    ·have e : (!true || (decide (1 < (c :: r).length) && (c :: r).head? == some 48)) = false := by
      rw [Bool.not_true, Bool.false_or, Bool.and_eq_false_iff]
      rcases Classical.em (1 < (c :: r).length) with h4 | h4
      ·right
       have h5 : c ≠ 48 := fun h => h2 ⟨h4, h⟩
       exact beq_eq_false_iff_ne.2 (fun h => h5 (Option.some.inj h))
      ·left; exact decide_eq_false h4
     rw [e, cond_false] at hm
     cases ha : Lib.atoi (c :: r) with
     | none => rw [ha] at hm; cases hm
     | some m =>
      rw [ha] at hm
      cases hm
      refine number_d _ most n c w hle h3 ?_ hd fun w => ?_
      ·rcases Classical.em (1 < (c :: r).length) with h4 | h4
       ·right; exact fun h => h2 ⟨h4, h⟩
       ·left; omega
      ·have := Any.strconv_Atoi Tryz.lays172 (bs (c :: r)) n (by show (c :: r).toArray.size ≤ 18; simpa using h18) (by simpa [bs] using ha) w
       change Calls Tryz.prog 201 _ _ _ at this
       refine this.mono ?_
       rintro e w' ⟨rfl, t, rfl⟩
       exact ⟨rfl, Kept.of_below (bytesWorld_below w _ t)⟩

theorem ok_kit_Number : FunOk Tryz.prog 174 sp_kit_Number := by
 intro G w ow args x y hG how ha hm hT
 obtain ⟨s, most, u⟩ := x
 obtain ⟨n, b, u'⟩ := y
 obtain ⟨v, us, h1, _, hv, v', us', h2, _, hv', h3⟩ := ha
 have e1 := h1 rfl
 have e2 := h2 rfl
 have e3 : us' = [] := h3
 have e4 : [v] = [.string (bs s)] := hv
 have e5 : [v'] = [.int .i64 most] := hv'
 cases e4; cases e5
 subst e1; subst e2; subst e3
 refine (number_calls s most n b hG hT hm).mono ?_
 rintro e w' ⟨he, hk⟩
 refine ⟨G, fun _ => none, [.int .i64 n, .bool b], ?_⟩
 exact {
  ret := he
  le := Gh.le_refl G
  agr := fun i o hio => by
   have hw := hG i o hio
   rw [hk.block i (heap_lt hw)]; exact hw
  size := hk.size
  os := hk.os
  output := hk.output
  old := fun i hlt _ => ⟨hk.block i hlt, rfl⟩
  own := fun i j hij => by cases hij
  out := ⟨_, _, rfl, rfl, _, _, rfl, rfl, rfl, trivial⟩
  hnd := fun _ => rfl }

end Go.Proofs.SeatA

set_option maxRecDepth 100000
namespace Go.Proofs
open Go.Shelf
def Tryz.growD_ren : Go.Shelf.Ren := ⟨fun | 4 => 66 | n => n, fun | 22 => 25 | 25 => 35 | 3 => 3 | 4 => 4 | 9 => 9 | 20 => 20 | 0 => 0 | n => n, fun | n => n⟩
theorem Tryz.growD : Go.Proofs.Lays8.n4 Tryz.prog Tryz.growD_ren := {
 mixed := by kernel_rfl
 f4 := ⟨Tryz.f66.name, by decide, Tryz.func66.trans (congrArg some (by kernel_rfl))⟩
 t0 := Tryz.underlying0
 a0 := Tryz.isAgg0
 z0 := Tryz.sizeOf0
 v0 := Tryz.zeroValue0
 t3 := Tryz.underlying3
 a3 := Tryz.isAgg3
 z3 := Tryz.sizeOf3
 v3 := Tryz.zeroValue3
 t4 := Tryz.underlying4
 a4 := Tryz.isAgg4
 z4 := Tryz.sizeOf4
 v4 := Tryz.zeroValue4
 t9 := Tryz.underlying9
 a9 := Tryz.isAgg9
 z9 := Tryz.sizeOf9
 v9 := Tryz.zeroValue9
 t20 := Tryz.underlying20
 a20 := Tryz.isAgg20
 z20 := Tryz.sizeOf20
 v20 := Tryz.zeroValue20
 t22 := Tryz.underlying25
 a22 := Tryz.isAgg25
 z22 := Tryz.sizeOf25
 v22 := Tryz.zeroValue25 }
def Tryz.sortD_ren : Go.Shelf.Ren := ⟨fun | 6 => 31 | 15 => 68 | 14 => 67 | 28 => 106 | 29 => 107 | 20 => 98 | 21 => 99 | 22 => 100 | 23 => 101 | 24 => 102 | 25 => 103 | 26 => 104 | 27 => 105 | 46 => 162 | 47 => 163 | 48 => 164 | 49 => 165 | 50 => 166 | 57 => 192 | n => n, fun | 22 => 25 | 24 => 35 | 25 => 72 | 3 => 3 | 39 => 122 | 0 => 0 | 53 => 163 | 55 => 165 | 4 => 4 | 46 => 156 | 45 => 155 | 50 => 160 | 5 => 5 | 9 => 9 | 66 => 207 | 70 => 211 | 76 => 233 | 77 => 234 | n => n, fun | n => n⟩
theorem Tryz.sortD : Go.Proofs.SlLaysF0.n6 Tryz.prog Tryz.sortD_ren := {
 mixed := by kernel_rfl
 f6 := ⟨Tryz.f31.name, by decide, Tryz.func31.trans (congrArg some (by kernel_rfl))⟩
 f14 := ⟨Tryz.f67.name, by decide, Tryz.func67.trans (congrArg some (by kernel_rfl))⟩
 f15 := Tryz.func68.trans (congrArg some (by kernel_rfl))
 f20 := ⟨Tryz.f98.name, by decide, Tryz.func98.trans (congrArg some (by kernel_rfl))⟩
 f21 := ⟨Tryz.f99.name, by decide, Tryz.func99.trans (congrArg some (by kernel_rfl))⟩
 f22 := ⟨Tryz.f100.name, by decide, Tryz.func100.trans (congrArg some (by kernel_rfl))⟩
 f23 := ⟨Tryz.f101.name, by decide, Tryz.func101.trans (congrArg some (by kernel_rfl))⟩
 f24 := ⟨Tryz.f102.name, by decide, Tryz.func102.trans (congrArg some (by kernel_rfl))⟩
 f25 := ⟨Tryz.f103.name, by decide, Tryz.func103.trans (congrArg some (by kernel_rfl))⟩
 f26 := ⟨Tryz.f104.name, by decide, Tryz.func104.trans (congrArg some (by kernel_rfl))⟩
 f27 := ⟨Tryz.f105.name, by decide, Tryz.func105.trans (congrArg some (by kernel_rfl))⟩
 f28 := Tryz.func106.trans (congrArg some (by kernel_rfl))
 f29 := Tryz.func107.trans (congrArg some (by kernel_rfl))
 f46 := ⟨Tryz.f162.name, by decide, Tryz.func162.trans (congrArg some (by kernel_rfl))⟩
 f47 := Tryz.func163.trans (congrArg some (by kernel_rfl))
 f48 := Tryz.func164.trans (congrArg some (by kernel_rfl))
 f49 := ⟨Tryz.f165.name, by decide, Tryz.func165.trans (congrArg some (by kernel_rfl))⟩
 f50 := ⟨Tryz.f166.name, by decide, Tryz.func166.trans (congrArg some (by kernel_rfl))⟩
 f57 := ⟨Tryz.f192.name, by decide, Tryz.func192.trans (congrArg some (by kernel_rfl))⟩
 t0 := Tryz.underlying0
 a0 := Tryz.isAgg0
 z0 := Tryz.sizeOf0
 v0 := Tryz.zeroValue0
 t3 := Tryz.underlying3
 a3 := Tryz.isAgg3
 z3 := Tryz.sizeOf3
 v3 := Tryz.zeroValue3
 t4 := Tryz.underlying4
 a4 := Tryz.isAgg4
 z4 := Tryz.sizeOf4
 v4 := Tryz.zeroValue4
 t5 := Tryz.underlying5
 a5 := Tryz.isAgg5
 z5 := Tryz.sizeOf5
 v5 := Tryz.zeroValue5
 t9 := Tryz.underlying9
 a9 := Tryz.isAgg9
 z9 := Tryz.sizeOf9
 v9 := Tryz.zeroValue9
 t22 := Tryz.underlying25
 a22 := Tryz.isAgg25
 z22 := Tryz.sizeOf25
 v22 := Tryz.zeroValue25
 t25 := Tryz.underlying72
 a25 := Tryz.isAgg72
 z25 := Tryz.sizeOf72
 v25 := Tryz.zeroValue72
 t39 := Tryz.underlying122
 a39 := Tryz.isAgg122
 z39 := Tryz.sizeOf122
 v39 := Tryz.zeroValue122
 t45 := Tryz.underlying155
 a45 := Tryz.isAgg155
 z45 := Tryz.sizeOf155
 v45 := Tryz.zeroValue155
 t46 := Tryz.underlying156
 a46 := Tryz.isAgg156
 z46 := Tryz.sizeOf156
 v46 := Tryz.zeroValue156
 t50 := Tryz.underlying160
 a50 := Tryz.isAgg160
 z50 := Tryz.sizeOf160
 v50 := Tryz.zeroValue160
 t53 := Tryz.underlying163
 a53 := Tryz.isAgg163
 z53 := Tryz.sizeOf163
 v53 := Tryz.zeroValue163
 t55 := Tryz.underlying165
 a55 := Tryz.isAgg165
 z55 := Tryz.sizeOf165
 v55 := Tryz.zeroValue165
 t66 := Tryz.underlying207
 a66 := Tryz.isAgg207
 z66 := Tryz.sizeOf207
 v66 := Tryz.zeroValue207
 t70 := Tryz.underlying211
 a70 := Tryz.isAgg211
 z70 := Tryz.sizeOf211
 v70 := Tryz.zeroValue211
 t76 := Tryz.underlying233
 a76 := Tryz.isAgg233
 z76 := Tryz.sizeOf233
 v76 := Tryz.zeroValue233
 t77 := Tryz.underlying234
 a77 := Tryz.isAgg234
 z77 := Tryz.sizeOf234
 v77 := Tryz.zeroValue234 }
end Go.Proofs

namespace Go.Proofs.SeatA
open Go.Dn Go.Md Go.Proofs Go.RowKit Go.Shelf Go.Lib Go.Sort

def insD_ren : Ren := ⟨fun | 22 => 35 | 29 => 69 | 30 => 70 | n => n, fun | 24 => 25 | 9 => 35 | n => n, fun n => n⟩
theorem insD : InsLays Tryz.prog insD_ren 13 120 (.agg #[.int .i64 0, .int .i64 0, .int .i64 0, .int .i64 0, .int .i64 0, .string ⟨#[]⟩, .int .i64 0, .int .i64 0, .string ⟨#[]⟩, .int .i64 0, .int .i64 0, .int .i64 0, .int .i64 0]) := {
 mixed := by kernel_rfl
 f22 := ⟨_, by decide, Tryz.func35.trans (congrArg some (by kernel_rfl : Tryz.f35 = { Body2.n22 insD_ren with name := "slices.Insert[[]interchange/api.Deed,interchange/api.Deed]" }))⟩
 f29 := ⟨Tryz.f69, by kernel_rfl, by kernel_rfl, by kernel_rfl, by kernel_rfl, by kernel_rfl⟩
 t0 := Tryz.growD.t0
 a0 := Tryz.growD.a0
 z0 := Tryz.growD.z0
 v0 := Tryz.growD.v0
 t3 := Tryz.growD.t3
 a3 := Tryz.growD.a3
 z3 := Tryz.growD.z3
 v3 := Tryz.growD.v3
 t4 := Tryz.growD.t4
 a4 := Tryz.growD.a4
 z4 := Tryz.growD.z4
 v4 := Tryz.growD.v4
 z9 := Tryz.sizeOf35
 t24 := Tryz.growD.t22
 a24 := Tryz.growD.a22
 z24 := Tryz.growD.z22
 v24 := Tryz.growD.v22
 i9 := by kernel_rfl
 k0 := by decide
 zc := rfl }
def sp_slices_Insert_api_Deed : FSpec := ⟨[.row 35 t_api_Deed, .val tI, .row 35 t_api_Deed], [.row 35 t_api_Deed], fun x => slices_Insert_api_Deed x.1 x.2.1 x.2.2.1⟩
theorem hb_slices_Insert_api_Deed : HasBody Tryz.prog 35 := has_body (fn := Tryz.f35) (by kernel_rfl) rfl (by decide)
theorem ok_slices_Insert_api_Deed : FunOk Tryz.prog 35 sp_slices_Insert_api_Deed := insertK_ok (t := t_api_Deed) insD

def sp_slices_Grow_api_Deed : FSpec := growSp 35 t_api_Deed 120
theorem hb_slices_Grow_api_Deed : HasBody Tryz.prog 66 := has_body (fn := Tryz.f66) (by kernel_rfl) rfl (by decide)
theorem ok_slices_Grow_api_Deed : FunOk Tryz.prog 66 sp_slices_Grow_api_Deed := grow_ok Tryz.growD (t := t_api_Deed) (i0 := Tryz.t35) (z := .agg #[.int .i64 0, .int .i64 0, .int .i64 0, .int .i64 0, .int .i64 0, .string ⟨#[]⟩, .int .i64 0, .int .i64 0, .string ⟨#[]⟩, .int .i64 0, .int .i64 0, .int .i64 0, .int .i64 0]) (by kernel_rfl) (by kernel_rfl) (by decide) (by kernel_rfl) (by kernel_rfl)

theorem sub_id {a b : Int} (ha : a.natAbs < 4611686018427387904) (hb : b.natAbs < 4611686018427387904) : IntKind.wrap .i64 (a - b) = a - b := by
 simp only [IntKind.wrap_i64, wrap64]; omega

theorem deed_cells {G : Gh} {x : D_api_Deed} {a : List Value} (h : RepC G t_api_Deed x a) : ∃ r : List Value, r.length = 10 ∧ a = .int .i64 x.1 :: .int .i64 x.2.1 :: .int .i64 x.2.2.1 :: r := by
 have hlen := RepC.len h
 obtain ⟨c1, r1, e1, h1, c2, r2, e2, h2, c3, r3, e3, h3, _⟩ := h
 have g1 : c1 = [.int .i64 x.1] := h1
 have g2 : c2 = [.int .i64 x.2.1] := h2
 have g3 : c3 = [.int .i64 x.2.2.1] := h3
 subst g1; subst g2; subst g3; subst e3; subst e2; subst e1
 refine ⟨r3, ?_, rfl⟩
 have : (Ty.size t_api_Deed) = 13 := rfl
 simp at hlen
 omega

theorem cmp_calls (x1 x2 x3 y1 y2 y3 : Int) (p q : List Value) (hp : p.length = 10) (hq : q.length = 10) (hx : x1.natAbs < 4611686018427387904 ∧ x2.natAbs < 4611686018427387904 ∧ x3.natAbs < 4611686018427387904) (hy : y1.natAbs < 4611686018427387904 ∧ y2.natAbs < 4611686018427387904 ∧ y3.natAbs < 4611686018427387904) (w : World) :
  Calls Tryz.prog 32 #[.agg (.int .i64 x1 :: .int .i64 x2 :: .int .i64 x3 :: p).toArray, .agg (.int .i64 y1 :: .int .i64 y2 :: .int .i64 y3 :: q).toArray] w fun e w' => e = .returned (.int .i64 (bif x1 - y1 != 0 then x1 - y1 else bif x2 - y2 != 0 then x2 - y2 else x3 - y3)) ∧ ∃ q os, w' = grow (w.drewN q) os := by
 obtain ⟨hx1, hx2, hx3⟩ := hx
 obtain ⟨hy1, hy2, hy3⟩ := hy
 have mixed : Tryz.prog.follows .mixedOrders = true := by kernel_rfl
 have t3 := Tryz.underlying3; have t4 := Tryz.underlying4; have t35 := Tryz.underlying35; have t79 := Tryz.underlying79
 have a35 := Tryz.isAgg35; have z35 := Tryz.sizeOf35
 have a3 := Tryz.isAgg3; have z3 := Tryz.sizeOf3
 have s1 := sub_id hx1 hy1; have s2 := sub_id hx2 hy2; have s3 := sub_id hx3 hy3
 obtain ⟨d1, e1⟩ : ∃ d, d = x1 - y1 := ⟨_, rfl⟩
 obtain ⟨d2, e2⟩ : ∃ d, d = x2 - y2 := ⟨_, rfl⟩
 obtain ⟨d3, e3⟩ : ∃ d, d = x3 - y3 := ⟨_, rfl⟩
 rw [← e1, ← e2, ← e3]
 go_enter Tryz.func32, Tryz.ntmps32
 go_wp2
 clear s1 s2 s3
 rw [← e1, ← e2, ← e3]
 refine wp_loop_rounds 4 ?_
 repeat any_goals (rw [rounds_succ]; go_wp2)
 all_goals go_ret
 all_goals refine ⟨?_, 0, _, by rw [alloc_eq_grow, alloc_eq_grow, alloc_eq_grow, grow_grow, grow_grow]; rfl⟩
 all_goals subst e1 e2 e3
 ·rw [show (x1 - y1 != 0) = true by assumption]; rfl
 ·rw [show (x1 - y1 != 0) = false by assumption, show (x2 - y2 != 0) = true by assumption]; rfl
 ·rw [show (x1 - y1 != 0) = false by assumption, show (x2 - y2 != 0) = false by assumption]; rfl
 ·have h3 : (x3 - y3 != 0) = false := by assumption
  have h4 : x3 - y3 = 0 := by simpa using h3
  rw [show (x1 - y1 != 0) = false by assumption, show (x2 - y2 != 0) = false by assumption, h4]; rfl

theorem swoD : SWO (ltOf deedCf) := by
 have key : ∀ a b : D_api_Deed, ltOf deedCf a b = !leD b a := fun a b => by
  show decide (deedCf a b < 0) = !(!decide (deedCf a b < 0))
  rw [Bool.not_not]
 have lt : ∀ a b : D_api_Deed, ltOf deedCf a b = true ↔ ¬Lex b a := fun a b => by
  rw [key, Bool.not_eq_true', ← leD_iff, Bool.not_eq_true]
 refine ⟨fun x => ?_, fun x y z h1 h2 => ?_, fun x y z h1 h2 => ?_⟩
 ·rw [Bool.eq_false_iff, Ne, lt]; unfold Lex; omega
 ·rw [lt] at *; unfold Lex at *; omega
 ·rw [Bool.eq_false_iff, Ne, lt] at *; unfold Lex at *; omega

theorem cmp_lays : CloLays Tryz.prog 32 t_api_Deed deedOk deedCf := by
 intro G x y a b ha hb hx hy w
 obtain ⟨p, hp, rfl⟩ := deed_cells ha
 obtain ⟨q, hq, rfl⟩ := deed_cells hb
 unfold deedOk at hx hy
 simp only [Bool.and_eq_true, decide_eq_true_eq] at hx hy
 exact cmp_calls _ _ _ _ _ _ p q hp hq hx hy w

noncomputable def sp_slices_SortFunc_api_Deed : FSpec := sortSp 35 t_api_Deed 32 deedOk deedCf
theorem hb_slices_SortFunc_api_Deed : HasBody Tryz.prog 31 := has_body (fn := Tryz.f31) (by kernel_rfl) rfl (by decide)
theorem ok_slices_SortFunc_api_Deed : FunOk Tryz.prog 31 sp_slices_SortFunc_api_Deed := sortF_ok Tryz.sortD (t := t_api_Deed) Tryz.isAgg35 Tryz.sizeOf35 swoD cmp_lays (enters_of Tryz.func32 (by kernel_rfl) rfl)

end Go.Proofs.SeatA
