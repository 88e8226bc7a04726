/-
  Functions of the library and of kit, by contracts and by a walk. No condition.
-/
import Derived.Test.YtinnndploiloeaaGreatDoorQo
import Derived.Test.YtinnndploiloeaaGreatDoorQd
import Derived.Shelf.Strings.Split
import Derived.Shelf.LaysM
import Derived.Test.YtinnndploiloeaaGreatDoorProg
import Derived.Shelf.Strings.SlTrimAscii
import Derived.Shelf.Strconv.Atoi
import Derived.Shelf.Strings.Search1
import Derived.WalkKit
import Derived.Deep.QuietTactic
import Derived.BigQuiet
import Derived.Lib.AtoiErrMem
import Derived.Test.YtinnndploiloeaaGreatDoorQr
set_option linter.all false
namespace Go.Md
open Go.Dn Go.Lib

theorem index_one_cons (c b : UInt8) (r : List UInt8) : index (b :: r) [c] = if b = c then 0 else if index r [c] == -1 then -1 else index r [c] + 1 := by
  rw [index]
  by_cases h : b = c
  · subst h; simp
  · have : (c == b) = false := by simp [Ne.symm h]
    simp [h, List.isPrefixOf, this]

theorem count_cons (c b : UInt8) (r : List UInt8) : count (b :: r) [c] = (if b = c then 1 else 0) + count r [c] := by
  rw [count_one, count_one, List.count_cons]
  by_cases h : b = c
  · subst h; simp; omega
  · simp [h]

theorem splitK_cons_ne (c b : UInt8) (h : b ≠ c) : ∀ (k : Nat) (r : List UInt8), splitK [c] 0 k (b :: r) = (match splitK [c] 0 k r with | x :: t => (b :: x) :: t | [] => [[b]])
  | 0, r => rfl
  | k + 1, r => by
    simp only [splitK, index_one_cons, if_neg h]
    have hge := index_ge r [c]
    by_cases h1 : index r [c] = -1
    · simp [h1]
    · have e1 : (index r [c] == -1) = false := by simp [h1]
      have e2 : (index r [c] + 1 == -1) = false := by simp; omega
      simp only [e1, e2, Bool.false_eq_true, if_false]
      have e3 : (index r [c] + 1).toNat = (index r [c]).toNat + 1 := by omega
      rw [e3]
      simp [Nat.add_assoc]

theorem split_one_eq (c : UInt8) : ∀ (s : List UInt8), splitK [c] 0 (count s [c]) s = splitOn1 c s
  | [] => by
    have : count [] [c] = 0 := by rw [count_one]; rfl
    rw [this]; rfl
  | b :: r => by
    have ih := split_one_eq c r
    rw [count_cons]
    by_cases h : b = c
    · subst h
      rw [if_pos rfl, Nat.add_comm]
      simp only [splitK, index_one_cons, splitOn1]
      simp [ih]
    · have hb : (b == c) = false := by simp [h]
      rw [if_neg h, Nat.zero_add, splitK_cons_ne c b h, ih]
      simp only [splitOn1, hb, cond_false]
      cases splitOn1 c r <;> rfl

end Go.Md
namespace Go.Dn
open Go.Md Go.Proofs Go.Shelf Go.RowKit Go.Lib

theorem repL_strs {G : Gh} : ∀ (l : List ByteArray), RepL (RepC G .str) (l.map (·.data.toList)) (l.map Value.string)
  | [] => rfl
  | x :: r => ⟨[.string x], r.map Value.string, rfl, by show [Value.string x] = [Value.string (bs x.data.toList)]; simp [bs], repL_strs r⟩

theorem split_core {P : Program} {ρ : Ren} (L : LaysM.n146 P ρ) {G : Gh} {w : World} {ow : Nat → Option Nat} (s : List UInt8) (b : UInt8) (hG : Agr G w) (hT : TabOk P G) (hlen : s.length < 4294967281) :
    Calls P (ρ.f 146) #[.string (bs s), .string (bs [b])] w fun e w' => ∃ G' ow' vs, Gives G w ow ⟨[.val .str, .val .str], [.row (ρ.t 9) .str], fun x => strings_Split x.1 x.2.1⟩ [.string (bs s), .string (bs [b])] (splitOn1 b s, ()) e w' G' ow' vs := by
  obtain ⟨m, T, fz, hml⟩ := hT.maxLen _ L.m1
  have hcell : w.cell? ⟨ρ.g 1, 0, none⟩ = some (.int .i64 m) := by
    have := hG _ _ hml
    simp [World.cell?, this]
  have hsz : (bs s).size = s.length := List.size_toArray
  have h1b : 1 ≤ (bs [b]).size := Nat.le_refl 1
  refine (Any.strings_Split { L with } L.i9 (bs s) (bs [b]) m w (by omega) hcell h1b).mono ?_
  rintro e w' ⟨rfl, rfl⟩
  have hsp : (splitB (bs [b]) 0 (countB (bs s) (bs [b])) (bs s)).map (·.data.toList) = splitOn1 b s := by
    rw [splitB_data]
    exact split_one_eq b s
  have hl := splitB_all (bs [b]) h1b 0 _ (bs s) rfl
  have hle := countB_le (bs [b]) h1b (bs s).size (bs s) (Nat.le_refl _)
  generalize splitB (bs [b]) 0 (countB (bs s) (bs [b])) (bs s) = q at hsp hl
  generalize countB (bs s) (bs [b]) = n at hl hle
  have hrl : (splitOn1 b s).length = n + 1 := by rw [← hsp, List.length_map, hl]
  have hnone : G w.heap.size = none := by
    cases hg : G w.heap.size with
    | none => rfl
    | some o => have := heap_lt (hG _ _ hg); omega
  have hmax : n + 1 ≤ maxLen := by
    have : maxLen = 9223372036854775807 := rfl
    omega
  have hown : (w.alloc (.cells (q.map Value.string).toArray (ρ.t 9))).ownsRow 0 (ρ.t 9) 1 (.slice (some ⟨w.heap.size, 0, none⟩) (n + 1) (n + 1)) (splitOn1 b s).length (q.map Value.string) :=
    ⟨by rw [List.length_map, hl, hrl, Nat.mul_one], .inr ⟨w.heap.size, n + 1, (q.map Value.string).toArray, by rw [hrl], Nat.zero_le _, heap_alloc_new w _, by rw [hrl]; exact Nat.le_refl _, hmax, by rw [List.size_toArray, List.length_map, hl, Nat.mul_one],
      by rw [hrl, Nat.mul_one]; exact List.take_of_length_le (by show (q.map Value.string).length ≤ _; rw [List.length_map, hl]; exact Nat.le_refl _)⟩⟩
  refine ⟨G, fun i => if i = w.heap.size then some (64 * 24) else none, [.slice (some ⟨w.heap.size, 0, none⟩) (n + 1) (n + 1)], ?_⟩
  exact {
    ret := rfl
    le := Gh.le_refl G
    agr := fun i o hi => by
      have h1 := hG i o hi
      rw [heap_alloc_old w _ (heap_lt h1)]; exact h1
    size := by simp
    os := rfl
    output := rfl
    old := fun i hi _ => ⟨heap_alloc_old w _ hi, rfl⟩
    own := fun i j hj => by
      by_cases e : i = w.heap.size
      · subst e; exact ⟨hnone, by simp, .inl (Nat.le_refl _)⟩
      · simp only [e, if_false] at hj; cases hj
    out := by
      refine ⟨_, [], rfl, ⟨⟨q.map Value.string, hown, by rw [← hsp]; exact repL_strs q⟩, fun k hk => ?_⟩, rfl, trivial⟩
      have : some w.heap.size = some k := hk
      cases this
      show (if w.heap.size = w.heap.size then some (64 * 24) else none) = _
      rw [if_pos rfl]
    hnd := fun _ => rfl }

theorem split_some {s c : List UInt8} {r : List (List UInt8)} (h : strings_Split s c = some (r, ())) : ∃ b, c = [b] ∧ s.length < 4294967281 ∧ r = splitOn1 b s := by
  unfold strings_Split at h
  split at h
  · rename_i b
    cases hb : decide (s.length < 4294967281) with
    | false => rw [hb] at h; cases h
    | true =>
      rw [hb] at h
      exact ⟨b, rfl, of_decide_eq_true hb, (Prod.mk.inj (Option.some.inj h)).1.symm⟩
  · cases h

theorem split_ok {P : Program} {ρ : Ren} (L : LaysM.n146 P ρ) : FunOk P (ρ.f 146) ⟨[.val .str, .val .str], [.row (ρ.t 9) .str], fun x => strings_Split x.1 x.2.1⟩ := by
  intro G w ow args x y hG how ha hm hT
  obtain ⟨s, c, u⟩ := x
  obtain ⟨r, u'⟩ := y
  obtain ⟨v, us, h1, l1, hv, v', us', h2, l2, hv', h3⟩ := ha
  have e1 := h1 rfl
  have e2 := h2 rfl
  have e3 : us' = [] := h3
  have e4 : v = .string (bs s) := by simpa [ArgOk, RepV, RepC] using hv
  have e5 : v' = .string (bs c) := by simpa [ArgOk, RepV, RepC] using hv'
  subst e1; subst e2; subst e3; subst e4; subst e5
  obtain ⟨b, rfl, hlen, rfl⟩ := split_some hm
  exact split_core L s b hG hT hlen

end Go.Dn

namespace Go.Proofs
open Go.Shelf
def Tryz.lays160_ren : Go.Shelf.Ren := ⟨fun | 160 => 106 | 232 => 137 | 231 => 136 | 227 => 138 | 234 => 140 | 233 => 139 | 236 => 142 | 235 => 141 | 228 => 168 | 271 => 170 | 151 => 169 | 197 => 158 | 120 => 182 | 152 => 181 | 260 => 174 | 137 => 187 | 119 => 188 | 224 => 132 | 225 => 131 | 217 => 130 | 266 => 166 | n => n, fun | 9 => 9 | 4 => 4 | 3 => 3 | 5 => 5 | 117 => 184 | 116 => 183 | 0 => 0 | 124 => 187 | 21 => 21 | 105 => 200 | 46 => 109 | 119 => 219 | 139 => 222 | 138 => 221 | n => n, fun | 3 => 1 | 4 => 2 | n => n⟩
theorem Tryz.lays160 : Go.Proofs.Lays.n160 Tryz.prog Tryz.lays160_ren := {
  mixed := by kernel_rfl
  f119 := Tryz.func188.trans (congrArg some (by kernel_rfl))
  f120 := Tryz.func182.trans (congrArg some (by kernel_rfl))
  f137 := Tryz.func187.trans (congrArg some (by kernel_rfl))
  f151 := Tryz.func169.trans (congrArg some (by kernel_rfl))
  f152 := Tryz.func181.trans (congrArg some (by kernel_rfl))
  f160 := Tryz.func106.trans (congrArg some (by kernel_rfl))
  f197 := Tryz.func158.trans (congrArg some (by kernel_rfl))
  f217 := Tryz.func130.trans (congrArg some (by kernel_rfl))
  f224 := Tryz.func132.trans (congrArg some (by kernel_rfl))
  f225 := Tryz.func131.trans (congrArg some (by kernel_rfl))
  f227 := Tryz.func138.trans (congrArg some (by kernel_rfl))
  f228 := Tryz.func168.trans (congrArg some (by kernel_rfl))
  f231 := Tryz.func136.trans (congrArg some (by kernel_rfl))
  f232 := Tryz.func137.trans (congrArg some (by kernel_rfl))
  f233 := Tryz.func139.trans (congrArg some (by kernel_rfl))
  f234 := Tryz.func140.trans (congrArg some (by kernel_rfl))
  f235 := Tryz.func141.trans (congrArg some (by kernel_rfl))
  f236 := Tryz.func142.trans (congrArg some (by kernel_rfl))
  f260 := Tryz.func174.trans (congrArg some (by kernel_rfl))
  f266 := Tryz.func166.trans (congrArg some (by kernel_rfl))
  f271 := Tryz.func170.trans (congrArg some (by kernel_rfl))
  t0 := Tryz.underlying0
  a0 := Tryz.isAgg0
  z0 := Tryz.sizeOf0
  v0 := Tryz.zeroValue0
  t3 := Tryz.underlying3
  a3 := Tryz.isAgg3
  z3 := Tryz.sizeOf3
  v3 := Tryz.zeroValue3
  t4 := Tryz.underlying4
  a4 := Tryz.isAgg4
  z4 := Tryz.sizeOf4
  v4 := Tryz.zeroValue4
  t5 := Tryz.underlying5
  a5 := Tryz.isAgg5
  z5 := Tryz.sizeOf5
  v5 := Tryz.zeroValue5
  t9 := Tryz.underlying9
  a9 := Tryz.isAgg9
  z9 := Tryz.sizeOf9
  v9 := Tryz.zeroValue9
  t21 := Tryz.underlying21
  a21 := Tryz.isAgg21
  z21 := Tryz.sizeOf21
  v21 := Tryz.zeroValue21
  t46 := Tryz.underlying109
  a46 := Tryz.isAgg109
  z46 := Tryz.sizeOf109
  v46 := Tryz.zeroValue109
  t105 := Tryz.underlying200
  a105 := Tryz.isAgg200
  z105 := Tryz.sizeOf200
  v105 := Tryz.zeroValue200
  t116 := Tryz.underlying183
  a116 := Tryz.isAgg183
  z116 := Tryz.sizeOf183
  t117 := Tryz.underlying184
  a117 := Tryz.isAgg184
  z117 := Tryz.sizeOf184
  v117 := Tryz.zeroValue184
  t119 := Tryz.underlying219
  a119 := Tryz.isAgg219
  z119 := Tryz.sizeOf219
  t124 := Tryz.underlying187
  a124 := Tryz.isAgg187
  z124 := Tryz.sizeOf187
  v124 := Tryz.zeroValue187
  t138 := Tryz.underlying221
  a138 := Tryz.isAgg221
  z138 := Tryz.sizeOf221
  v138 := Tryz.zeroValue221
  t139 := Tryz.underlying222
  a139 := Tryz.isAgg222
  z139 := Tryz.sizeOf222
  v139 := Tryz.zeroValue222
  g3 := by kernel_rfl
  g4 := by kernel_rfl }
def Tryz.laysM146_ren : Go.Shelf.Ren := ⟨fun | 146 => 57 | 221 => 100 | 268 => 122 | 138 => 123 | 143 => 124 | 195 => 157 | 197 => 158 | 218 => 159 | 219 => 103 | 260 => 174 | 217 => 130 | 225 => 131 | 224 => 132 | 267 => 133 | 266 => 166 | 314 => 167 | n => n, fun | 9 => 9 | 31 => 81 | 3 => 3 | 4 => 4 | 0 => 0 | 105 => 200 | 21 => 21 | 5 => 5 | 46 => 109 | 119 => 219 | 139 => 222 | 138 => 221 | 146 => 205 | 51 => 149 | n => n, fun | 1 => 0 | 3 => 1 | 4 => 2 | n => n⟩
theorem Tryz.laysM146 : Go.Proofs.LaysM.n146 Tryz.prog Tryz.laysM146_ren := {
  mixed := by kernel_rfl
  f138 := Tryz.func123.trans (congrArg some (by kernel_rfl))
  f143 := Tryz.func124.trans (congrArg some (by kernel_rfl))
  f146 := Tryz.func57.trans (congrArg some (by kernel_rfl))
  f195 := Tryz.func157.trans (congrArg some (by kernel_rfl))
  f197 := Tryz.func158.trans (congrArg some (by kernel_rfl))
  f217 := Tryz.func130.trans (congrArg some (by kernel_rfl))
  f218 := Tryz.func159.trans (congrArg some (by kernel_rfl))
  f219 := Tryz.func103.trans (congrArg some (by kernel_rfl))
  f221 := Tryz.func100.trans (congrArg some (by kernel_rfl))
  f224 := Tryz.func132.trans (congrArg some (by kernel_rfl))
  f225 := Tryz.func131.trans (congrArg some (by kernel_rfl))
  f260 := Tryz.func174.trans (congrArg some (by kernel_rfl))
  f266 := Tryz.func166.trans (congrArg some (by kernel_rfl))
  f267 := Tryz.func133.trans (congrArg some (by kernel_rfl))
  f268 := Tryz.func122.trans (congrArg some (by kernel_rfl))
  f314 := Tryz.func167.trans (congrArg some (by kernel_rfl))
  t0 := Tryz.underlying0
  a0 := Tryz.isAgg0
  z0 := Tryz.sizeOf0
  v0 := Tryz.zeroValue0
  t3 := Tryz.underlying3
  a3 := Tryz.isAgg3
  z3 := Tryz.sizeOf3
  v3 := Tryz.zeroValue3
  t4 := Tryz.underlying4
  a4 := Tryz.isAgg4
  z4 := Tryz.sizeOf4
  v4 := Tryz.zeroValue4
  t5 := Tryz.underlying5
  a5 := Tryz.isAgg5
  z5 := Tryz.sizeOf5
  v5 := Tryz.zeroValue5
  t9 := Tryz.underlying9
  a9 := Tryz.isAgg9
  z9 := Tryz.sizeOf9
  v9 := Tryz.zeroValue9
  t21 := Tryz.underlying21
  a21 := Tryz.isAgg21
  z21 := Tryz.sizeOf21
  v21 := Tryz.zeroValue21
  t31 := Tryz.underlying81
  a31 := Tryz.isAgg81
  z31 := Tryz.sizeOf81
  v31 := Tryz.zeroValue81
  t46 := Tryz.underlying109
  a46 := Tryz.isAgg109
  z46 := Tryz.sizeOf109
  v46 := Tryz.zeroValue109
  t51 := Tryz.underlying149
  a51 := Tryz.isAgg149
  z51 := Tryz.sizeOf149
  v51 := Tryz.zeroValue149
  t105 := Tryz.underlying200
  a105 := Tryz.isAgg200
  z105 := Tryz.sizeOf200
  v105 := Tryz.zeroValue200
  t119 := Tryz.underlying219
  a119 := Tryz.isAgg219
  z119 := Tryz.sizeOf219
  t138 := Tryz.underlying221
  a138 := Tryz.isAgg221
  z138 := Tryz.sizeOf221
  v138 := Tryz.zeroValue221
  t139 := Tryz.underlying222
  a139 := Tryz.isAgg222
  z139 := Tryz.sizeOf222
  v139 := Tryz.zeroValue222
  t146 := Tryz.underlying205
  a146 := Tryz.isAgg205
  z146 := Tryz.sizeOf205
  v146 := Tryz.zeroValue205
  g1 := by kernel_rfl
  g3 := by kernel_rfl
  g4 := by kernel_rfl
  i0 := by kernel_rfl
  i3 := by kernel_rfl
  i4 := by kernel_rfl
  i5 := by kernel_rfl
  i9 := by kernel_rfl
  i21 := by kernel_rfl
  i31 := by kernel_rfl
  i46 := by kernel_rfl
  i51 := by kernel_rfl
  i105 := by kernel_rfl
  i138 := by kernel_rfl
  i139 := by kernel_rfl
  i146 := by kernel_rfl
  m1 := by kernel_rfl
  s1_3 := fun w h => Go.Proofs.cell_of_shapedOpen_int (zero := #[.int .i64 0]) (t := 3) h (of_decide_eq_true (by kernel_rfl)) (by kernel_rfl) rfl (by kernel_rfl) (by kernel_rfl) Tryz.underlying3
  m3 := by kernel_rfl
  m4 := by kernel_rfl }
def Tryz.lays172_ren : Go.Shelf.Ren := ⟨fun | 172 => 126 | 244 => 161 | 245 => 162 | 247 => 175 | 279 => 176 | 280 => 177 | 281 => 178 | 282 => 179 | 287 => 183 | 316 => 184 | 171 => 186 | 205 => 185 | 321 => 189 | 322 => 190 | 243 => 191 | 246 => 192 | 283 => 193 | 284 => 194 | 285 => 195 | 286 => 196 | 129 => 98 | 317 => 197 | 318 => 198 | 319 => 199 | 320 => 200 | 337 => 201 | 338 => 202 | n => n, fun | 9 => 9 | 3 => 3 | 75 => 176 | 76 => 177 | 4 => 4 | 5 => 5 | 167 => 211 | 37 => 212 | 0 => 0 | 85 => 213 | 2 => 2 | 168 => 215 | 53 => 151 | 175 => 223 | 46 => 109 | 210 => 227 | 127 => 232 | 145 => 235 | 143 => 233 | 21 => 21 | 171 => 237 | 173 => 239 | 212 => 242 | 51 => 149 | 20 => 20 | 213 => 243 | 232 => 244 | 233 => 245 | 80 => 121 | n => n, fun | 15 => 3 | 16 => 4 | 17 => 5 | 18 => 6 | 19 => 7 | n => n⟩
theorem Tryz.lays172 : Go.Proofs.Lays.n172 Tryz.prog Tryz.lays172_ren := {
  mixed := by kernel_rfl
  f129 := Tryz.func98.trans (congrArg some (by kernel_rfl))
  f171 := Tryz.func186.trans (congrArg some (by kernel_rfl))
  f172 := Tryz.func126.trans (congrArg some (by kernel_rfl))
  f205 := Tryz.func185.trans (congrArg some (by kernel_rfl))
  f243 := Tryz.func191.trans (congrArg some (by kernel_rfl))
  f244 := Tryz.func161.trans (congrArg some (by kernel_rfl))
  f245 := Tryz.func162.trans (congrArg some (by kernel_rfl))
  f246 := Tryz.func192.trans (congrArg some (by kernel_rfl))
  f247 := Tryz.func175.trans (congrArg some (by kernel_rfl))
  f279 := Tryz.func176.trans (congrArg some (by kernel_rfl))
  f280 := Tryz.func177.trans (congrArg some (by kernel_rfl))
  f281 := Tryz.func178.trans (congrArg some (by kernel_rfl))
  f282 := Tryz.func179.trans (congrArg some (by kernel_rfl))
  f283 := Tryz.func193.trans (congrArg some (by kernel_rfl))
  f284 := Tryz.func194.trans (congrArg some (by kernel_rfl))
  f285 := Tryz.func195.trans (congrArg some (by kernel_rfl))
  f286 := Tryz.func196.trans (congrArg some (by kernel_rfl))
  f287 := Tryz.func183.trans (congrArg some (by kernel_rfl))
  f316 := Tryz.func184.trans (congrArg some (by kernel_rfl))
  f317 := Tryz.func197.trans (congrArg some (by kernel_rfl))
  f318 := Tryz.func198.trans (congrArg some (by kernel_rfl))
  f319 := Tryz.func199.trans (congrArg some (by kernel_rfl))
  f320 := Tryz.func200.trans (congrArg some (by kernel_rfl))
  f321 := Tryz.func189.trans (congrArg some (by kernel_rfl))
  f322 := Tryz.func190.trans (congrArg some (by kernel_rfl))
  f337 := Tryz.func201.trans (congrArg some (by kernel_rfl))
  f338 := Tryz.func202.trans (congrArg some (by kernel_rfl))
  t0 := Tryz.underlying0
  a0 := Tryz.isAgg0
  z0 := Tryz.sizeOf0
  v0 := Tryz.zeroValue0
  t2 := Tryz.underlying2
  a2 := Tryz.isAgg2
  z2 := Tryz.sizeOf2
  v2 := Tryz.zeroValue2
  t3 := Tryz.underlying3
  a3 := Tryz.isAgg3
  z3 := Tryz.sizeOf3
  v3 := Tryz.zeroValue3
  t4 := Tryz.underlying4
  a4 := Tryz.isAgg4
  z4 := Tryz.sizeOf4
  v4 := Tryz.zeroValue4
  t5 := Tryz.underlying5
  a5 := Tryz.isAgg5
  z5 := Tryz.sizeOf5
  v5 := Tryz.zeroValue5
  t9 := Tryz.underlying9
  a9 := Tryz.isAgg9
  z9 := Tryz.sizeOf9
  v9 := Tryz.zeroValue9
  t20 := Tryz.underlying20
  a20 := Tryz.isAgg20
  z20 := Tryz.sizeOf20
  v20 := Tryz.zeroValue20
  t21 := Tryz.underlying21
  a21 := Tryz.isAgg21
  z21 := Tryz.sizeOf21
  v21 := Tryz.zeroValue21
  t37 := Tryz.underlying212
  a37 := Tryz.isAgg212
  z37 := Tryz.sizeOf212
  v37 := Tryz.zeroValue212
  t46 := Tryz.underlying109
  a46 := Tryz.isAgg109
  z46 := Tryz.sizeOf109
  v46 := Tryz.zeroValue109
  t51 := Tryz.underlying149
  a51 := Tryz.isAgg149
  z51 := Tryz.sizeOf149
  v51 := Tryz.zeroValue149
  t53 := Tryz.underlying151
  a53 := Tryz.isAgg151
  z53 := Tryz.sizeOf151
  v53 := Tryz.zeroValue151
  t75 := Tryz.underlying176
  a75 := Tryz.isAgg176
  z75 := Tryz.sizeOf176
  v75 := Tryz.zeroValue176
  t76 := Tryz.underlying177
  a76 := Tryz.isAgg177
  z76 := Tryz.sizeOf177
  v76 := Tryz.zeroValue177
  t85 := Tryz.underlying213
  a85 := Tryz.isAgg213
  z85 := Tryz.sizeOf213
  v85 := Tryz.zeroValue213
  t127 := Tryz.underlying232
  a127 := Tryz.isAgg232
  z127 := Tryz.sizeOf232
  v127 := Tryz.zeroValue232
  t143 := Tryz.underlying233
  a143 := Tryz.isAgg233
  z143 := Tryz.sizeOf233
  v143 := Tryz.zeroValue233
  t145 := Tryz.underlying235
  a145 := Tryz.isAgg235
  z145 := Tryz.sizeOf235
  v145 := Tryz.zeroValue235
  t167 := Tryz.underlying211
  a167 := Tryz.isAgg211
  z167 := Tryz.sizeOf211
  v167 := Tryz.zeroValue211
  t168 := Tryz.underlying215
  a168 := Tryz.isAgg215
  z168 := Tryz.sizeOf215
  v168 := Tryz.zeroValue215
  t171 := Tryz.underlying237
  a171 := Tryz.isAgg237
  z171 := Tryz.sizeOf237
  v171 := Tryz.zeroValue237
  t173 := Tryz.underlying239
  a173 := Tryz.isAgg239
  z173 := Tryz.sizeOf239
  v173 := Tryz.zeroValue239
  t175 := Tryz.underlying223
  a175 := Tryz.isAgg223
  z175 := Tryz.sizeOf223
  v175 := Tryz.zeroValue223
  t210 := Tryz.underlying227
  a210 := Tryz.isAgg227
  z210 := Tryz.sizeOf227
  v210 := Tryz.zeroValue227
  t212 := Tryz.underlying242
  a212 := Tryz.isAgg242
  z212 := Tryz.sizeOf242
  v212 := Tryz.zeroValue242
  t213 := Tryz.underlying243
  a213 := Tryz.isAgg243
  z213 := Tryz.sizeOf243
  t232 := Tryz.underlying244
  a232 := Tryz.isAgg244
  z232 := Tryz.sizeOf244
  v232 := Tryz.zeroValue244
  t233 := Tryz.underlying245
  a233 := Tryz.isAgg245
  z233 := Tryz.sizeOf245
  v233 := Tryz.zeroValue245
  g15 := by kernel_rfl
  g16 := by kernel_rfl
  g17 := by kernel_rfl
  g18 := by kernel_rfl
  g19 := by kernel_rfl }
def Tryz.lays217_ren : Go.Shelf.Ren := ⟨fun | 217 => 130 | 266 => 166 | n => n, fun | 9 => 9 | 5 => 5 | 3 => 3 | n => n, fun | n => n⟩
theorem Tryz.lays217 : Go.Proofs.Lays.n217 Tryz.prog Tryz.lays217_ren := {
  mixed := by kernel_rfl
  f217 := Tryz.func130.trans (congrArg some (by kernel_rfl))
  f266 := Tryz.func166.trans (congrArg some (by kernel_rfl))
  t3 := Tryz.underlying3
  a3 := Tryz.isAgg3
  z3 := Tryz.sizeOf3
  v3 := Tryz.zeroValue3
  t5 := Tryz.underlying5
  a5 := Tryz.isAgg5
  z5 := Tryz.sizeOf5
  v5 := Tryz.zeroValue5
  t9 := Tryz.underlying9
  a9 := Tryz.isAgg9
  z9 := Tryz.sizeOf9
  v9 := Tryz.zeroValue9 }
end Go.Proofs

namespace Go.Proofs.SeatO
open Go.Dn Go.Md Go.Proofs Go.RowKit Go.Shelf Go.Lib

def sp_strings_Trim : FSpec := ⟨[.val .str, .val .str], [.val .str], fun x => strings_Trim x.1 x.2.1⟩
theorem hb_strings_Trim : HasBody Tryz.prog 106 := has_body (fn := Tryz.f106) (by kernel_rfl) rfl (by decide)
theorem ok_strings_Trim : FunOk Tryz.prog 106 sp_strings_Trim := by
  intro G w ow args x y hG how ha hm
  refine fun_ok_str2 (P := Tryz.prog) (f := 106) (m := sp_strings_Trim.m) ?_ G w ow args x y hG how ha hm
  intro s c r w hm
  replace hm : strings_Trim s c = some (r, ()) := hm
  unfold strings_Trim at hm
  cases hb : (decide (s.length ≤ 9223372036854775807) && (decide (c.length < 4294967281) && c.all fun b => decide (b.toNat < 128))) with
  | false => rw [hb] at hm; cases hm
  | true =>
    rw [hb] at hm
    simp only [cond_true, Option.some.injEq, Prod.mk.injEq, and_true] at hm
    subst hm
    simp only [Bool.and_eq_true, decide_eq_true_eq, List.all_eq_true] at hb
    have := Any.strings_Trim_laid Tryz.lays160 (by kernel_rfl) (bs s) (bs c) w (by simpa [bs, ByteArray.size] using hb.1) (by simpa [bs, ByteArray.size] using hb.2.1) (fun j b hj => hb.2.2 b (List.mem_of_getElem? (by simpa [bs] using hj)))
    change Calls Tryz.prog 106 _ _ _ at this
    simpa [bs] using this

def sp_internal_stringslite_IndexByte : FSpec := ⟨[.val .str, .val (.int .u8)], [.val tI], fun x => internal_stringslite_IndexByte x.1 x.2.1⟩
theorem hb_internal_stringslite_IndexByte : HasBody Tryz.prog 130 := has_body (fn := Tryz.f130) (by kernel_rfl) rfl (by decide)
theorem ok_internal_stringslite_IndexByte : FunOk Tryz.prog 130 sp_internal_stringslite_IndexByte := by
  intro G w ow args x y hG how ha hm
  refine fun_ok_lit2 (P := Tryz.prog) (f := 130) (a := .str) (a' := .int .u8) (t := tI) (m := sp_internal_stringslite_IndexByte.m) rfl rfl ?_ G w ow args x y hG how ha hm
  intro s c r w hm
  replace hm : internal_stringslite_IndexByte s c = some (r, ()) := hm
  unfold internal_stringslite_IndexByte at hm
  obtain rfl : Lib.indexByte s c.toNat.toUInt8 = r := congrArg (fun o => (Option.getD o (0, ())).1) hm
  have := Any.stringslite_IndexByte Tryz.lays217 (bs s) c w
  refine ⟨.int .i64 (Lib.indexByte s c.toNat.toUInt8), fun G => rfl, this.mono ?_⟩
  rintro e w' ⟨he, rfl⟩
  exact ⟨he, RowKit.Below.refl _ _⟩

def sp_strings_Split : FSpec := ⟨[.val .str, .val .str], [.row 9 .str], fun x => strings_Split x.1 x.2.1⟩
theorem hb_strings_Split : HasBody Tryz.prog 57 := has_body (fn := Tryz.f57) (by kernel_rfl) rfl (by decide)
theorem ok_strings_Split : FunOk Tryz.prog 57 sp_strings_Split := split_ok Tryz.laysM146

end Go.Proofs.SeatO

set_option maxRecDepth 100000
namespace Go.Proofs.SeatO
open Go.Dn Go.Md Go.Proofs Go.RowKit Go.Shelf Go.Lib

def anns_kit_InBytes : List (Nat × Ann) := [(2, ⟨[(0, .val .str), (1, .val (.int .u8)), (2, .val (.int .u8)), (9, .val tI), (10, .val tI)], [], [], fuelOf _⟩),
  (200002, ⟨[], [], [], fun _ => 0⟩)]

noncomputable def sp_kit_InBytes : FSpec := ⟨[.val .str, .val (.int .u8), .val (.int .u8)], [.val .bool], fun x => kit_InBytes x.1 x.2.1 x.2.2.1⟩

noncomputable def cx_kit_InBytes : Cx := ⟨Tryz.prog, []⟩

theorem den_kit_InBytes : ∀ x, denF cx_kit_InBytes anns_kit_InBytes none Tryz.f160 sp_kit_InBytes x = sp_kit_InBytes.m x := by intro x; kernel_rfl

theorem hb_kit_InBytes : HasBody Tryz.prog 160 := has_body (fn := Tryz.f160) (by kernel_rfl) rfl (by decide)

theorem ok_kit_InBytes : FunOk Tryz.prog 160 sp_kit_InBytes := fun_ok (X := cx_kit_InBytes) (.nil _) (by kernel_rfl) sp_kit_InBytes anns_kit_InBytes none (by kernel_rfl) (fun x y h => (den_kit_InBytes x).trans h)

def anns_kit_IsDigits : List (Nat × Ann) := []

noncomputable def sp_kit_IsDigits : FSpec := ⟨[.val .str], [.val .bool], fun x => kit_IsDigits x.1⟩

noncomputable def cx_kit_IsDigits : Cx := ⟨Tryz.prog, [(160, sp_kit_InBytes)]⟩

theorem den_kit_IsDigits : ∀ x, denF cx_kit_IsDigits anns_kit_IsDigits none Tryz.f125 sp_kit_IsDigits x = sp_kit_IsDigits.m x := by intro x; kernel_rfl

theorem hb_kit_IsDigits : HasBody Tryz.prog 125 := has_body (fn := Tryz.f125) (by kernel_rfl) rfl (by decide)

theorem ok_kit_IsDigits : FunOk Tryz.prog 125 sp_kit_IsDigits := fun_ok (X := cx_kit_IsDigits) (.cons ok_kit_InBytes hb_kit_InBytes (.nil _)) (by kernel_rfl) sp_kit_IsDigits anns_kit_IsDigits none (by kernel_rfl) (fun x y h => (den_kit_IsDigits x).trans h)

/-- What was there stays. -/
structure Kept (w w' : World) : Prop where
  size : w.heap.size ≤ w'.heap.size
  os : w'.os = w.os
  output : w'.output = w.output
  block : ∀ b, b < w.heap.size → w'.heap[b]? = w.heap[b]?
theorem Kept.refl (w : World) : Kept w w := ⟨Nat.le_refl _, rfl, rfl, fun _ _ => rfl⟩
theorem Kept.trans {a b c : World} (h : Kept a b) (k : Kept b c) : Kept a c := ⟨Nat.le_trans h.size k.size, k.os.trans h.os, k.output.trans h.output, fun i hi => (k.block i (Nat.lt_of_lt_of_le hi h.size)).trans (h.block i hi)⟩

theorem Kept.drawn {a b : World} (h : Kept a b) (n : Nat) : Kept a (b.drewN n) := ⟨h.size, h.os, h.output, h.block⟩

theorem number_a (s : List UInt8) (most : Int) (w : World) (h1 : most < (s.length : Int)) :
    Calls Tryz.prog 101 #[.string (bs s), .int .i64 most] w fun e w' => e = .returned (.tuple #[.int .i64 0, .bool false]) ∧ w' = w := by
  have e125 : ∀ args w, (callFunc 125 args).run Tryz.prog w = .ok (.enter 125 args) w := enters_of Tryz.func125 (by kernel_rfl) rfl
  have e126 : ∀ args w, (callFunc 126 args).run Tryz.prog w = .ok (.enter 126 args) w := enters_of Tryz.func126 (by kernel_rfl) rfl
  have mixed : Tryz.prog.follows .mixedOrders = true := by kernel_rfl
  have t3 := Tryz.underlying3; have t4 := Tryz.underlying4; have t5 := Tryz.underlying5; have t9 := Tryz.underlying9
  have hsz : (bs s).size = s.length := List.size_toArray
  go_enter Tryz.func101, Tryz.ntmps101
  go_wp2
  go_ret2
  exact ⟨rfl, rfl⟩

theorem number_b (s : List UInt8) (most : Int) (w : World) (h1 : (s.length : Int) ≤ most)
    (hd : Calls Tryz.prog 125 #[.string (bs s)] w fun e w' => e = .returned (.bool false) ∧ Kept w w') :
    Calls Tryz.prog 101 #[.string (bs s), .int .i64 most] w fun e w' => e = .returned (.tuple #[.int .i64 0, .bool false]) ∧ Kept w w' := by
  have e125 : ∀ args w, (callFunc 125 args).run Tryz.prog w = .ok (.enter 125 args) w := enters_of Tryz.func125 (by kernel_rfl) rfl
  have e126 : ∀ args w, (callFunc 126 args).run Tryz.prog w = .ok (.enter 126 args) w := enters_of Tryz.func126 (by kernel_rfl) rfl
  have mixed : Tryz.prog.follows .mixedOrders = true := by kernel_rfl
  have t3 := Tryz.underlying3; have t4 := Tryz.underlying4; have t5 := Tryz.underlying5; have t9 := Tryz.underlying9
  have hsz : (bs s).size = s.length := List.size_toArray
  go_enter Tryz.func101, Tryz.ntmps101
  go_wp2_with (go_at_fn 125; refine hd.mono ?_; rintro e w' ⟨rfl, hk⟩)
  go_ret2
  exact ⟨rfl, hk⟩

theorem number_c (s : List UInt8) (most : Int) (w : World) (h1 : (s.length : Int) ≤ most) (h2 : 1 < (s.length : Int)) (h3 : (bs s)[0]? = some 48)
    (hd : Calls Tryz.prog 125 #[.string (bs s)] w fun e w' => e = .returned (.bool true) ∧ Kept w w') :
    Calls Tryz.prog 101 #[.string (bs s), .int .i64 most] w fun e w' => e = .returned (.tuple #[.int .i64 0, .bool false]) ∧ Kept w w' := by
  have e125 : ∀ args w, (callFunc 125 args).run Tryz.prog w = .ok (.enter 125 args) w := enters_of Tryz.func125 (by kernel_rfl) rfl
  have e126 : ∀ args w, (callFunc 126 args).run Tryz.prog w = .ok (.enter 126 args) w := enters_of Tryz.func126 (by kernel_rfl) rfl
  have mixed : Tryz.prog.follows .mixedOrders = true := by kernel_rfl
  have t3 := Tryz.underlying3; have t4 := Tryz.underlying4; have t5 := Tryz.underlying5; have t9 := Tryz.underlying9
  have hsz : (bs s).size = s.length := List.size_toArray
  have h3' : ∀ h : 0 < (bs s).size, (bs s)[0]'h = 48 := fun h => by rw [getElem?_pos (bs s) 0 h] at h3; exact Option.some.inj h3
  go_enter Tryz.func101, Tryz.ntmps101
  go_wp2_with (go_at_fn 125; refine hd.mono ?_; rintro e w' ⟨rfl, hk⟩)
  all_goals first | (go_ret2; exact ⟨rfl, hk⟩) | (exfalso; simp_all)

theorem number_d (s : List UInt8) (most n : Int) (b : UInt8) (w : World) (h1 : (s.length : Int) ≤ most) (h3 : (bs s)[0]? = some b) (h2 : ¬(1 < (s.length : Int)) ∨ b ≠ 48)
    (hd : Calls Tryz.prog 125 #[.string (bs s)] w fun e w' => e = .returned (.bool true) ∧ Kept w w')
    (ha : ∀ w, Calls Tryz.prog 126 #[.string (bs s)] w fun e w' => e = .returned (.tuple #[.int .i64 n, .nilIface]) ∧ Kept w w') :
    Calls Tryz.prog 101 #[.string (bs s), .int .i64 most] w fun e w' => e = .returned (.tuple #[.int .i64 n, .bool true]) ∧ Kept w w' := by
  have e125 : ∀ args w, (callFunc 125 args).run Tryz.prog w = .ok (.enter 125 args) w := enters_of Tryz.func125 (by kernel_rfl) rfl
  have e126 : ∀ args w, (callFunc 126 args).run Tryz.prog w = .ok (.enter 126 args) w := enters_of Tryz.func126 (by kernel_rfl) rfl
  have mixed : Tryz.prog.follows .mixedOrders = true := by kernel_rfl
  have t3 := Tryz.underlying3; have t4 := Tryz.underlying4; have t5 := Tryz.underlying5; have t9 := Tryz.underlying9
  have hsz : (bs s).size = s.length := List.size_toArray
  have t176 := Tryz.underlying176; have t177 := Tryz.underlying177
  have h3' : ∀ h : 0 < (bs s).size, (bs s)[0]'h = b := fun h => by rw [getElem?_pos (bs s) 0 h] at h3; exact Option.some.inj h3
  have hb48 : b ≠ 48 → ¬((b.toNat : Int) = 48) := fun h e => h (UInt8.toNat_inj.1 (show b.toNat = 48 by omega))
  rcases Classical.em (1 < (s.length : Int)) with h4 | h4
  · have h5 : ¬((b.toNat : Int) = 48) := hb48 (h2.resolve_left (fun h => h h4))
    go_enter Tryz.func101, Tryz.ntmps101
    go_wp2_with (first | (go_at_fn 125; refine hd.mono ?_; rintro e w' ⟨rfl, hk⟩) | (go_at_fn 126; refine (ha _).mono ?_; rintro e w'' ⟨rfl, hk2⟩))
    all_goals first | (exfalso; omega) | skip
    all_goals first | (go_quiet (fail); go_wp2; go_ret2; exact ⟨rfl, hk.trans (hk2.drawn _)⟩) | (exfalso; simp_all; done) | (exfalso; simp_all; omega)
  · go_enter Tryz.func101, Tryz.ntmps101
    go_wp2_with (first | (go_at_fn 125; refine hd.mono ?_; rintro e w' ⟨rfl, hk⟩) | (go_at_fn 126; refine (ha _).mono ?_; rintro e w'' ⟨rfl, hk2⟩))
    all_goals first | (exfalso; omega) | skip
    all_goals first | (go_quiet (fail); go_wp2; go_ret2; exact ⟨rfl, hk.trans (hk2.drawn _)⟩) | (exfalso; simp_all; done) | (exfalso; simp_all; omega)

theorem Kept.of_below {w w' : World} (h : RowKit.Below w.heap.size w w') : Kept w w' := ⟨h.size, h.os, h.output, h.block⟩

theorem digits_calls {G : Gh} {w : World} (s : List UInt8) (hG : Agr G w) (hT : TabOk Tryz.prog G) (D : Bool) (hm : kit_IsDigits s = some (D, ())) :
    Calls Tryz.prog 125 #[.string (bs s)] w fun e w' => e = .returned (.bool D) ∧ Kept w w' := by
  have h := ok_kit_IsDigits G w (fun _ => none) [.string (bs s)] (s, ()) (D, ()) hG (fun _ _ h => nomatch h) ⟨_, [], fun _ => rfl, fun h => (Bool.noConfusion h), (by show RepC G .str s [.string (bs s)]; rfl), rfl⟩ hm hT
  refine h.mono ?_
  rintro e w' ⟨G', ow', vs, g⟩
  obtain ⟨v, us, hv, hr, h2, _⟩ := g.out
  have e2 : us = [] := h2
  have e1 : [v] = [Value.bool D] := hr
  cases e1
  subst e2; subst hv
  exact ⟨g.ret, g.size, g.os, g.output, fun b hb => (g.old b hb rfl).1⟩

def sp_kit_Number : FSpec := ⟨[.val .str, .val tI], [.val tI, .val .bool], fun x => kit_Number x.1 x.2.1⟩
theorem hb_kit_Number : HasBody Tryz.prog 101 := has_body (fn := Tryz.f101) (by kernel_rfl) rfl (by decide)

theorem number_calls {G : Gh} {w : World} (s : List UInt8) (most n : Int) (b : Bool) (hG : Agr G w) (hT : TabOk Tryz.prog G) (hm : kit_Number s most = some (n, b, ())) :
    Calls Tryz.prog 101 #[.string (bs s), .int .i64 most] w fun e w' => e = .returned (.tuple #[.int .i64 n, .bool b]) ∧ Kept w w' := by
  unfold kit_Number at hm
  rcases Classical.em (most < (s.length : Int)) with h | h
  · rw [decide_eq_true h, cond_true] at hm
    cases hm
    exact (number_a s most w h).mono fun e w' hh => ⟨hh.1, hh.2 ▸ Kept.refl w⟩
  · rw [decide_eq_false h, cond_false] at hm
    rcases Classical.em (s.length ≤ 18) with h18 | h18
    rotate_left
    · rw [decide_eq_false h18, cond_false] at hm; cases hm
    rw [decide_eq_true h18, cond_true] at hm
    have hD := kit_IsDigits_eq s (by omega)
    have hle : (s.length : Int) ≤ most := by omega
    have hdd : (!(s == []) && s.all isDig) = (decide (s ≠ []) && s.all digC) := by cases s <;> rfl
    rw [hdd] at hm
    generalize hDD : (decide (s ≠ []) && s.all digC) = D at hD hm
    have hd := digits_calls s hG hT D hD
    cases D with
    | false =>
      cases hm
      exact number_b s most w hle hd
    | true =>
      cases s with
      | nil => cases hDD
      | cons c r =>
        have h3 : (bs (c :: r))[0]? = some c := by
          rw [getElem?_pos (bs (c :: r)) 0 (by show 0 < (c :: r).toArray.size; simp)]; rfl
        rcases Classical.em (1 < (c :: r).length ∧ c = 48) with h2 | h2
        · obtain ⟨h2, rfl⟩ := h2
          have e : (!true || (decide (1 < ((48 : UInt8) :: r).length) && ((48 : UInt8) :: r).head? == some 48)) = true := by rw [decide_eq_true h2]; rfl
          rw [e, cond_true] at hm
          cases hm
          exact number_c _ most w hle (by omega) h3 hd
        · have e : (!true || (decide (1 < (c :: r).length) && (c :: r).head? == some 48)) = false := by
            rw [Bool.not_true, Bool.false_or, Bool.and_eq_false_iff]
            rcases Classical.em (1 < (c :: r).length) with h4 | h4
            · right
              have h5 : c ≠ 48 := fun h => h2 ⟨h4, h⟩
              exact beq_eq_false_iff_ne.2 (fun h => h5 (Option.some.inj h))
            · left; exact decide_eq_false h4
          rw [e, cond_false] at hm
          cases ha : Lib.atoi (c :: r) with
          | none => rw [ha] at hm; cases hm
          | some m =>
            rw [ha] at hm
            cases hm
            refine number_d _ most n c w hle h3 ?_ hd fun w => ?_
            · rcases Classical.em (1 < (c :: r).length) with h4 | h4
              · right; exact fun h => h2 ⟨h4, h⟩
              · left; omega
            · have := Any.strconv_Atoi Tryz.lays172 (bs (c :: r)) n (by show (c :: r).toArray.size ≤ 18; simpa using h18) (by simpa [bs] using ha) w
              change Calls Tryz.prog 126 _ _ _ at this
              refine this.mono ?_
              rintro e w' ⟨rfl, t, rfl⟩
              exact ⟨rfl, Kept.of_below (bytesWorld_below w _ t)⟩

theorem ok_kit_Number : FunOk Tryz.prog 101 sp_kit_Number := by
  intro G w ow args x y hG how ha hm hT
  obtain ⟨s, most, u⟩ := x
  obtain ⟨n, b, u'⟩ := y
  obtain ⟨v, us, h1, _, hv, v', us', h2, _, hv', h3⟩ := ha
  have e1 := h1 rfl
  have e2 := h2 rfl
  have e3 : us' = [] := h3
  have e4 : [v] = [.string (bs s)] := hv
  have e5 : [v'] = [.int .i64 most] := hv'
  cases e4; cases e5
  subst e1; subst e2; subst e3
  refine (number_calls s most n b hG hT hm).mono ?_
  rintro e w' ⟨he, hk⟩
  refine ⟨G, fun _ => none, [.int .i64 n, .bool b], ?_⟩
  exact {
    ret := he
    le := Gh.le_refl G
    agr := fun i o hio => by
      have hw := hG i o hio
      rw [hk.block i (heap_lt hw)]; exact hw
    size := hk.size
    os := hk.os
    output := hk.output
    old := fun i hlt _ => ⟨hk.block i hlt, rfl⟩
    own := fun i j hij => by cases hij
    out := ⟨_, _, rfl, rfl, _, _, rfl, rfl, rfl, trivial⟩
    hnd := fun _ => rfl }

end Go.Proofs.SeatO
