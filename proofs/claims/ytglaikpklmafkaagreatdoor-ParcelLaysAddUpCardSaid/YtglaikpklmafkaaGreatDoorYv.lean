/-
  Each function that the law reaches is as its plain model says. No condition.
-/
import Derived.Test.YtglaikpklmafkaaGreatDoorYn
import Derived.Test.YtglaikpklmafkaaGreatDoorYd
import Derived.Test.YtglaikpklmafkaaGreatDoorProg
import Derived.Shelf.Strings.SlTrimAscii
import Derived.Shelf.Small.Strs
import Derived.Shelf.Strconv.Itoa3
import Derived.Shelf.Strings.Repeat
set_option linter.all false
namespace Go.Proofs
open Go.Shelf
def Tryz.lays160_ren : Go.Shelf.Ren := ⟨fun | 160 => 72 | 232 => 109 | 231 => 108 | 227 => 110 | 234 => 112 | 233 => 111 | 236 => 114 | 235 => 113 | 228 => 146 | 271 => 149 | 151 => 148 | 197 => 147 | 120 => 171 | 152 => 170 | 260 => 169 | 137 => 180 | 119 => 181 | 224 => 182 | 225 => 183 | 217 => 189 | 266 => 192 | n => n, fun | 9 => 9 | 4 => 4 | 3 => 3 | 5 => 5 | 117 => 151 | 116 => 150 | 0 => 0 | 124 => 154 | 21 => 21 | 105 => 185 | 46 => 156 | 119 => 209 | 139 => 212 | 138 => 211 | n => n, fun | 3 => 1 | 4 => 2 | n => n⟩
theorem Tryz.lays160 : Go.Proofs.Lays.n160 Tryz.prog Tryz.lays160_ren := {
  mixed := by kernel_rfl
  f119 := Tryz.func181.trans (congrArg some (by kernel_rfl))
  f120 := Tryz.func171.trans (congrArg some (by kernel_rfl))
  f137 := Tryz.func180.trans (congrArg some (by kernel_rfl))
  f151 := Tryz.func148.trans (congrArg some (by kernel_rfl))
  f152 := Tryz.func170.trans (congrArg some (by kernel_rfl))
  f160 := Tryz.func72.trans (congrArg some (by kernel_rfl))
  f197 := Tryz.func147.trans (congrArg some (by kernel_rfl))
  f217 := Tryz.func189.trans (congrArg some (by kernel_rfl))
  f224 := Tryz.func182.trans (congrArg some (by kernel_rfl))
  f225 := Tryz.func183.trans (congrArg some (by kernel_rfl))
  f227 := Tryz.func110.trans (congrArg some (by kernel_rfl))
  f228 := Tryz.func146.trans (congrArg some (by kernel_rfl))
  f231 := Tryz.func108.trans (congrArg some (by kernel_rfl))
  f232 := Tryz.func109.trans (congrArg some (by kernel_rfl))
  f233 := Tryz.func111.trans (congrArg some (by kernel_rfl))
  f234 := Tryz.func112.trans (congrArg some (by kernel_rfl))
  f235 := Tryz.func113.trans (congrArg some (by kernel_rfl))
  f236 := Tryz.func114.trans (congrArg some (by kernel_rfl))
  f260 := Tryz.func169.trans (congrArg some (by kernel_rfl))
  f266 := Tryz.func192.trans (congrArg some (by kernel_rfl))
  f271 := Tryz.func149.trans (congrArg some (by kernel_rfl))
  t0 := Tryz.underlying0
  a0 := Tryz.isAgg0
  z0 := Tryz.sizeOf0
  v0 := Tryz.zeroValue0
  t3 := Tryz.underlying3
  a3 := Tryz.isAgg3
  z3 := Tryz.sizeOf3
  v3 := Tryz.zeroValue3
  t4 := Tryz.underlying4
  a4 := Tryz.isAgg4
  z4 := Tryz.sizeOf4
  v4 := Tryz.zeroValue4
  t5 := Tryz.underlying5
  a5 := Tryz.isAgg5
  z5 := Tryz.sizeOf5
  v5 := Tryz.zeroValue5
  t9 := Tryz.underlying9
  a9 := Tryz.isAgg9
  z9 := Tryz.sizeOf9
  v9 := Tryz.zeroValue9
  t21 := Tryz.underlying21
  a21 := Tryz.isAgg21
  z21 := Tryz.sizeOf21
  v21 := Tryz.zeroValue21
  t46 := Tryz.underlying156
  a46 := Tryz.isAgg156
  z46 := Tryz.sizeOf156
  v46 := Tryz.zeroValue156
  t105 := Tryz.underlying185
  a105 := Tryz.isAgg185
  z105 := Tryz.sizeOf185
  v105 := Tryz.zeroValue185
  t116 := Tryz.underlying150
  a116 := Tryz.isAgg150
  z116 := Tryz.sizeOf150
  t117 := Tryz.underlying151
  a117 := Tryz.isAgg151
  z117 := Tryz.sizeOf151
  v117 := Tryz.zeroValue151
  t119 := Tryz.underlying209
  a119 := Tryz.isAgg209
  z119 := Tryz.sizeOf209
  t124 := Tryz.underlying154
  a124 := Tryz.isAgg154
  z124 := Tryz.sizeOf154
  v124 := Tryz.zeroValue154
  t138 := Tryz.underlying211
  a138 := Tryz.isAgg211
  z138 := Tryz.sizeOf211
  v138 := Tryz.zeroValue211
  t139 := Tryz.underlying212
  a139 := Tryz.isAgg212
  z139 := Tryz.sizeOf212
  v139 := Tryz.zeroValue212
  g3 := by kernel_rfl
  g4 := by kernel_rfl }
def Tryz.lays171_ren : Go.Shelf.Ren := ⟨fun | 171 => 85 | 243 => 121 | 246 => 157 | 283 => 172 | 284 => 173 | 285 => 174 | 286 => 175 | 129 => 185 | 317 => 184 | 318 => 186 | 319 => 187 | 320 => 188 | 337 => 190 | 338 => 191 | n => n, fun | 3 => 3 | 9 => 9 | 2 => 2 | 4 => 4 | 171 => 201 | 0 => 0 | 53 => 172 | 37 => 163 | 5 => 5 | 173 => 204 | 212 => 216 | 51 => 174 | 20 => 20 | 213 => 217 | 46 => 156 | 232 => 220 | 233 => 221 | n => n, fun | 17 => 3 | 18 => 4 | 19 => 5 | n => n⟩
theorem Tryz.lays171 : Go.Proofs.Lays.n171 Tryz.prog Tryz.lays171_ren := {
  mixed := by kernel_rfl
  f129 := Tryz.func185.trans (congrArg some (by kernel_rfl))
  f171 := Tryz.func85.trans (congrArg some (by kernel_rfl))
  f243 := Tryz.func121.trans (congrArg some (by kernel_rfl))
  f246 := Tryz.func157.trans (congrArg some (by kernel_rfl))
  f283 := Tryz.func172.trans (congrArg some (by kernel_rfl))
  f284 := Tryz.func173.trans (congrArg some (by kernel_rfl))
  f285 := Tryz.func174.trans (congrArg some (by kernel_rfl))
  f286 := Tryz.func175.trans (congrArg some (by kernel_rfl))
  f317 := Tryz.func184.trans (congrArg some (by kernel_rfl))
  f318 := Tryz.func186.trans (congrArg some (by kernel_rfl))
  f319 := Tryz.func187.trans (congrArg some (by kernel_rfl))
  f320 := Tryz.func188.trans (congrArg some (by kernel_rfl))
  f337 := Tryz.func190.trans (congrArg some (by kernel_rfl))
  f338 := Tryz.func191.trans (congrArg some (by kernel_rfl))
  t0 := Tryz.underlying0
  a0 := Tryz.isAgg0
  z0 := Tryz.sizeOf0
  v0 := Tryz.zeroValue0
  t2 := Tryz.underlying2
  a2 := Tryz.isAgg2
  z2 := Tryz.sizeOf2
  v2 := Tryz.zeroValue2
  t3 := Tryz.underlying3
  a3 := Tryz.isAgg3
  z3 := Tryz.sizeOf3
  v3 := Tryz.zeroValue3
  t4 := Tryz.underlying4
  a4 := Tryz.isAgg4
  z4 := Tryz.sizeOf4
  v4 := Tryz.zeroValue4
  t5 := Tryz.underlying5
  a5 := Tryz.isAgg5
  z5 := Tryz.sizeOf5
  v5 := Tryz.zeroValue5
  t9 := Tryz.underlying9
  a9 := Tryz.isAgg9
  z9 := Tryz.sizeOf9
  v9 := Tryz.zeroValue9
  t20 := Tryz.underlying20
  a20 := Tryz.isAgg20
  z20 := Tryz.sizeOf20
  v20 := Tryz.zeroValue20
  t37 := Tryz.underlying163
  a37 := Tryz.isAgg163
  z37 := Tryz.sizeOf163
  v37 := Tryz.zeroValue163
  t46 := Tryz.underlying156
  a46 := Tryz.isAgg156
  z46 := Tryz.sizeOf156
  v46 := Tryz.zeroValue156
  t51 := Tryz.underlying174
  a51 := Tryz.isAgg174
  z51 := Tryz.sizeOf174
  v51 := Tryz.zeroValue174
  t53 := Tryz.underlying172
  a53 := Tryz.isAgg172
  z53 := Tryz.sizeOf172
  v53 := Tryz.zeroValue172
  t171 := Tryz.underlying201
  a171 := Tryz.isAgg201
  z171 := Tryz.sizeOf201
  v171 := Tryz.zeroValue201
  t173 := Tryz.underlying204
  a173 := Tryz.isAgg204
  z173 := Tryz.sizeOf204
  v173 := Tryz.zeroValue204
  t212 := Tryz.underlying216
  a212 := Tryz.isAgg216
  z212 := Tryz.sizeOf216
  v212 := Tryz.zeroValue216
  t213 := Tryz.underlying217
  a213 := Tryz.isAgg217
  z213 := Tryz.sizeOf217
  t232 := Tryz.underlying220
  a232 := Tryz.isAgg220
  z232 := Tryz.sizeOf220
  v232 := Tryz.zeroValue220
  t233 := Tryz.underlying221
  a233 := Tryz.isAgg221
  z233 := Tryz.sizeOf221
  v233 := Tryz.zeroValue221
  g17 := by kernel_rfl
  g18 := by kernel_rfl
  g19 := by kernel_rfl }
def Tryz.lays105_ren : Go.Shelf.Ren := ⟨fun | 105 => 87 | 212 => 128 | 99 => 129 | 165 => 130 | 166 => 131 | 170 => 132 | 169 => 133 | 263 => 163 | 264 => 164 | 206 => 165 | 240 => 166 | 241 => 167 | 276 => 177 | 277 => 178 | n => n, fun | 9 => 9 | 3 => 3 | 4 => 4 | 20 => 20 | 0 => 0 | 46 => 156 | 109 => 159 | 5 => 5 | 72 => 165 | 76 => 169 | 51 => 174 | 146 => 195 | 53 => 172 | 148 => 197 | 70 => 162 | 37 => 163 | 75 => 168 | 127 => 199 | 164 => 206 | 80 => 171 | n => n, fun | n => n⟩
theorem Tryz.lays105 : Go.Proofs.Lays.n105 Tryz.prog Tryz.lays105_ren := {
  mixed := by kernel_rfl
  f99 := Tryz.func129.trans (congrArg some (by kernel_rfl))
  f105 := Tryz.func87.trans (congrArg some (by kernel_rfl))
  f165 := Tryz.func130.trans (congrArg some (by kernel_rfl))
  f166 := Tryz.func131.trans (congrArg some (by kernel_rfl))
  f169 := Tryz.func133.trans (congrArg some (by kernel_rfl))
  f170 := Tryz.func132.trans (congrArg some (by kernel_rfl))
  f206 := Tryz.func165.trans (congrArg some (by kernel_rfl))
  f212 := Tryz.func128.trans (congrArg some (by kernel_rfl))
  f240 := Tryz.func166.trans (congrArg some (by kernel_rfl))
  f241 := Tryz.func167.trans (congrArg some (by kernel_rfl))
  f263 := Tryz.func163.trans (congrArg some (by kernel_rfl))
  f264 := Tryz.func164.trans (congrArg some (by kernel_rfl))
  f276 := Tryz.func177.trans (congrArg some (by kernel_rfl))
  f277 := Tryz.func178.trans (congrArg some (by kernel_rfl))
  t0 := Tryz.underlying0
  a0 := Tryz.isAgg0
  z0 := Tryz.sizeOf0
  v0 := Tryz.zeroValue0
  t3 := Tryz.underlying3
  a3 := Tryz.isAgg3
  z3 := Tryz.sizeOf3
  v3 := Tryz.zeroValue3
  t4 := Tryz.underlying4
  a4 := Tryz.isAgg4
  z4 := Tryz.sizeOf4
  v4 := Tryz.zeroValue4
  t5 := Tryz.underlying5
  a5 := Tryz.isAgg5
  z5 := Tryz.sizeOf5
  v5 := Tryz.zeroValue5
  t9 := Tryz.underlying9
  a9 := Tryz.isAgg9
  z9 := Tryz.sizeOf9
  v9 := Tryz.zeroValue9
  t20 := Tryz.underlying20
  a20 := Tryz.isAgg20
  z20 := Tryz.sizeOf20
  v20 := Tryz.zeroValue20
  t37 := Tryz.underlying163
  a37 := Tryz.isAgg163
  z37 := Tryz.sizeOf163
  v37 := Tryz.zeroValue163
  t46 := Tryz.underlying156
  a46 := Tryz.isAgg156
  z46 := Tryz.sizeOf156
  v46 := Tryz.zeroValue156
  t51 := Tryz.underlying174
  a51 := Tryz.isAgg174
  z51 := Tryz.sizeOf174
  v51 := Tryz.zeroValue174
  t53 := Tryz.underlying172
  a53 := Tryz.isAgg172
  z53 := Tryz.sizeOf172
  v53 := Tryz.zeroValue172
  t70 := Tryz.underlying162
  a70 := Tryz.isAgg162
  z70 := Tryz.sizeOf162
  v70 := Tryz.zeroValue162
  t72 := Tryz.underlying165
  a72 := Tryz.isAgg165
  z72 := Tryz.sizeOf165
  v72 := Tryz.zeroValue165
  t75 := Tryz.underlying168
  a75 := Tryz.isAgg168
  z75 := Tryz.sizeOf168
  v75 := Tryz.zeroValue168
  t76 := Tryz.underlying169
  a76 := Tryz.isAgg169
  z76 := Tryz.sizeOf169
  v76 := Tryz.zeroValue169
  t109 := Tryz.underlying159
  a109 := Tryz.isAgg159
  z109 := Tryz.sizeOf159
  v109 := Tryz.zeroValue159
  t127 := Tryz.underlying199
  a127 := Tryz.isAgg199
  z127 := Tryz.sizeOf199
  v127 := Tryz.zeroValue199
  t146 := Tryz.underlying195
  a146 := Tryz.isAgg195
  z146 := Tryz.sizeOf195
  v146 := Tryz.zeroValue195
  t148 := Tryz.underlying197
  a148 := Tryz.isAgg197
  z148 := Tryz.sizeOf197
  v148 := Tryz.zeroValue197
  t164 := Tryz.underlying206
  a164 := Tryz.isAgg206
  z164 := Tryz.sizeOf206
  v164 := Tryz.zeroValue206 }
theorem Tryz.Builder_Extra_105 : Builder.Extra Tryz.prog Tryz.lays105_ren := {
  sizeBuilder := by kernel_rfl
  liesBuilder := by kernel_rfl
  t5 := Tryz.underlying5
  a5 := Tryz.isAgg5
  z5 := Tryz.sizeOf5
  v5 := Tryz.zeroValue5
  infoByte := by kernel_rfl
  cellsByte := by kernel_rfl
  sizeByte := by kernel_rfl
  neB5 := by decide }
end Go.Proofs

namespace Go.Proofs.SeatU
open Go.Dn Go.Md Go.Proofs Go.RowKit Go.Shelf Go.Lib

def sp_strings_Trim : FSpec := ⟨[.val .str, .val .str], [.val .str], fun x => strings_Trim x.1 x.2.1⟩
theorem hb_strings_Trim : HasBody Tryz.prog 72 := has_body (fn := Tryz.f72) (by kernel_rfl) rfl (by decide)
theorem ok_strings_Trim : FunOk Tryz.prog 72 sp_strings_Trim := by
  intro G w ow args x y hG how ha hm
  refine fun_ok_str2 (P := Tryz.prog) (f := 72) (m := sp_strings_Trim.m) ?_ G w ow args x y hG how ha hm
  intro s c r w hm
  replace hm : strings_Trim s c = some (r, ()) := hm
  unfold strings_Trim at hm
  cases hb : (decide (s.length ≤ 9223372036854775807) && (decide (c.length < 4294967281) && c.all fun b => decide (b.toNat < 128))) with
  | false => rw [hb] at hm; cases hm
  | true =>
    rw [hb] at hm
    simp only [cond_true, Option.some.injEq, Prod.mk.injEq, and_true] at hm
    subst hm
    simp only [Bool.and_eq_true, decide_eq_true_eq, List.all_eq_true] at hb
    have := Any.strings_Trim_laid Tryz.lays160 (by kernel_rfl) (bs s) (bs c) w (by simpa [bs, ByteArray.size] using hb.1) (by simpa [bs, ByteArray.size] using hb.2.1) (fun j b hj => hb.2.2 b (List.mem_of_getElem? (by simpa [bs] using hj)))
    change Calls Tryz.prog 72 _ _ _ at this
    simpa [bs] using this

theorem dec2_eq (n : Nat) (h : n < 100) : Lib.decDigits n = dec2 n := by
  unfold dec2
  rw [Lib.decDigits]
  by_cases h1 : n < 10
  · simp [h1]
  · rw [dif_neg h1, Lib.decDigits, dif_pos (by omega), if_neg h1]; rfl

def sp_strconv_Itoa : FSpec := ⟨[.val tI], [.val .str], fun x => strconv_Itoa x.1⟩
theorem hb_strconv_Itoa : HasBody Tryz.prog 85 := has_body (fn := Tryz.f85) (by kernel_rfl) rfl (by decide)
theorem ok_strconv_Itoa : FunOk Tryz.prog 85 sp_strconv_Itoa := by
  intro G w ow args x y hG how ha hm
  refine fun_ok_lit1 (P := Tryz.prog) (f := 85) (a := tI) (t := .str) (m := sp_strconv_Itoa.m) rfl ?_ G w ow args x y hG how ha hm
  intro (n : Int) (r : List UInt8) w hm
  replace hm : strconv_Itoa n = some (r, ()) := hm
  unfold strconv_Itoa at hm
  cases hb : (decide (0 ≤ n) && decide (n < 100)) with
  | false => rw [hb] at hm; cases hm
  | true =>
    rw [hb] at hm
    simp only [cond_true, Option.some.injEq, Prod.mk.injEq, and_true] at hm
    subst hm
    simp only [Bool.and_eq_true, decide_eq_true_eq] at hb
    obtain ⟨k, rfl⟩ : ∃ k : Nat, n = k := ⟨n.toNat, by omega⟩
    have := Any.strconv_Itoa_small Tryz.lays171 k (by omega) w
    refine ⟨.string (bs (dec2 k)), fun G => rfl, this.mono ?_⟩
    rintro e w' ⟨he, rfl⟩
    rw [dec2_eq k (by omega)] at he
    exact ⟨he, Below.refl _ _⟩

def sp_strings_Repeat : FSpec := ⟨[.val .str, .val tI], [.val .str], fun x => strings_Repeat x.1 x.2.1⟩
theorem hb_strings_Repeat : HasBody Tryz.prog 87 := has_body (fn := Tryz.f87) (by kernel_rfl) rfl (by decide)
theorem ok_strings_Repeat : FunOk Tryz.prog 87 sp_strings_Repeat := by
  intro G w ow args x y hG how ha hm
  refine fun_ok_lit2 (P := Tryz.prog) (f := 87) (a := .str) (a' := tI) (t := .str) (m := sp_strings_Repeat.m) rfl rfl ?_ G w ow args x y hG how ha hm
  intro (s : List UInt8) (n : Int) (r : List UInt8) w hm
  replace hm : strings_Repeat s n = some (r, ()) := hm
  unfold strings_Repeat at hm
  cases hb : (decide (2 ≤ n) && (decide (n ≤ 9223372036854775807) && (decide (0 < s.length) && decide (s.length * n.toNat ≤ 140737488355328)))) with
  | false => rw [hb] at hm; cases hm
  | true =>
    rw [hb] at hm
    simp only [cond_true, Option.some.injEq, Prod.mk.injEq, and_true] at hm
    subst hm
    simp only [Bool.and_eq_true, decide_eq_true_eq] at hb
    obtain ⟨k, rfl⟩ : ∃ k : Nat, n = k := ⟨n.toNat, by omega⟩
    have hsz : (bs s).size = s.length := by simp [bs, ByteArray.size]
    have := Any.strings_Repeat_main Tryz.lays105 Tryz.Builder_Extra_105 (bs s) k w (by omega) (by omega) (by rw [hsz]; simpa using hb.2.2.2) (by rw [hsz]; exact hb.2.2.1)
    refine ⟨.string (bs (Lib.repeatL s k)), fun G => rfl, this.mono ?_⟩
    rintro e w' ⟨he, hbel⟩
    exact ⟨he, hbel⟩

noncomputable def sp_amount_bankRestOf : FSpec := ⟨[.val .str], [.val tI], fun x => amount_bankRestOf x.1⟩
theorem hb_amount_bankRestOf : HasBody Tryz.prog 124 := has_body (fn := Tryz.f124) (by kernel_rfl) rfl (by decide)
theorem ok_amount_bankRestOf : FunOk Tryz.prog 124 sp_amount_bankRestOf := fun_ok_none Tryz.prog 124 [.val .str] [.val tI]
noncomputable def sp_amount_isBank : FSpec := ⟨[.val .str], [.val .bool], fun x => amount_isBank x.1⟩
theorem hb_amount_isBank : HasBody Tryz.prog 126 := has_body (fn := Tryz.f126) (by kernel_rfl) rfl (by decide)
theorem ok_amount_isBank : FunOk Tryz.prog 126 sp_amount_isBank := fun_ok_none Tryz.prog 126 [.val .str] [.val .bool]
noncomputable def sp_amount_isBody : FSpec := ⟨[.val .str], [.val .bool], fun x => amount_isBody x.1⟩
theorem hb_amount_isBody : HasBody Tryz.prog 123 := has_body (fn := Tryz.f123) (by kernel_rfl) rfl (by decide)
theorem ok_amount_isBody : FunOk Tryz.prog 123 sp_amount_isBody := fun_ok_none Tryz.prog 123 [.val .str] [.val .bool]
noncomputable def sp_amount_isTax : FSpec := ⟨[.val .str], [.val .bool], fun x => amount_isTax x.1⟩
theorem hb_amount_isTax : HasBody Tryz.prog 160 := has_body (fn := Tryz.f160) (by kernel_rfl) rfl (by decide)
theorem ok_amount_isTax : FunOk Tryz.prog 160 sp_amount_isTax := fun_ok_none Tryz.prog 160 [.val .str] [.val .bool]
noncomputable def sp_amount_padded : FSpec := ⟨[.val tI, .val tI], [.val .str], fun x => amount_padded x.1 x.2.1⟩
theorem hb_amount_padded : HasBody Tryz.prog 125 := has_body (fn := Tryz.f125) (by kernel_rfl) rfl (by decide)
theorem ok_amount_padded : FunOk Tryz.prog 125 sp_amount_padded := fun_ok_none Tryz.prog 125 [.val tI, .val tI] [.val .str]
end Go.Proofs.SeatU

set_option maxRecDepth 100000
namespace Go.Proofs.SeatU
open Go.Dn Go.Md Go.Proofs

def anns_kit_IsName : List (Nat × Ann) := []

noncomputable def sp_kit_IsName : FSpec := ⟨[.val .str], [.val .bool], fun x => kit_IsName x.1⟩

noncomputable def cx_kit_IsName : Cx := ⟨Tryz.prog, [(72, sp_strings_Trim)]⟩

theorem den_kit_IsName : ∀ x, denF cx_kit_IsName anns_kit_IsName none Tryz.f29 sp_kit_IsName x = sp_kit_IsName.m x := by intro x; kernel_rfl

theorem hb_kit_IsName : HasBody Tryz.prog 29 := has_body (fn := Tryz.f29) (by kernel_rfl) rfl (by decide)

theorem ok_kit_IsName : FunOk Tryz.prog 29 sp_kit_IsName := fun_ok (X := cx_kit_IsName) (.cons ok_strings_Trim hb_strings_Trim (.nil _)) (by kernel_rfl) sp_kit_IsName anns_kit_IsName none (by kernel_rfl) (fun x y h => (den_kit_IsName x).trans h)

def anns_kit_Outside : List (Nat × Ann) := []

noncomputable def sp_kit_Outside : FSpec := ⟨[.val tI, .val tI, .val tI], [.val .bool], fun x => kit_Outside x.1 x.2.1 x.2.2.1⟩

noncomputable def cx_kit_Outside : Cx := ⟨Tryz.prog, []⟩

theorem den_kit_Outside : ∀ x, denF cx_kit_Outside anns_kit_Outside none Tryz.f73 sp_kit_Outside x = sp_kit_Outside.m x := by intro x; kernel_rfl

theorem hb_kit_Outside : HasBody Tryz.prog 73 := has_body (fn := Tryz.f73) (by kernel_rfl) rfl (by decide)

theorem ok_kit_Outside : FunOk Tryz.prog 73 sp_kit_Outside := fun_ok (X := cx_kit_Outside) (.nil _) (by kernel_rfl) sp_kit_Outside anns_kit_Outside none (by kernel_rfl) (fun x y h => (den_kit_Outside x).trans h)

def anns_amount_CheckDecimal : List (Nat × Ann) := []

noncomputable def sp_amount_CheckDecimal : FSpec := ⟨[.val t_api_Decimal], [.val tI], fun x => amount_CheckDecimal x.1⟩

noncomputable def cx_amount_CheckDecimal : Cx := ⟨Tryz.prog, [(73, sp_kit_Outside)]⟩

theorem den_amount_CheckDecimal : ∀ x, denF cx_amount_CheckDecimal anns_amount_CheckDecimal none Tryz.f102 sp_amount_CheckDecimal x = sp_amount_CheckDecimal.m x := by intro x; kernel_rfl

theorem hb_amount_CheckDecimal : HasBody Tryz.prog 102 := has_body (fn := Tryz.f102) (by kernel_rfl) rfl (by decide)

theorem ok_amount_CheckDecimal : FunOk Tryz.prog 102 sp_amount_CheckDecimal := fun_ok (X := cx_amount_CheckDecimal) (.cons ok_kit_Outside hb_kit_Outside (.nil _)) (by kernel_rfl) sp_amount_CheckDecimal anns_amount_CheckDecimal none (by kernel_rfl) (fun x y h => (den_amount_CheckDecimal x).trans h)

def anns_parcel_itemsFault : List (Nat × Ann) := [(4, ⟨[(9, .val (.slice t_api_Mass)), (10, .val tI), (11, .val tI)], [], [], fuelOf _⟩),
  (200004, ⟨[], [], [], fun _ => 0⟩)]

noncomputable def sp_parcel_itemsFault : FSpec := ⟨[.val (.slice t_api_Mass)], [.val tI], fun x => parcel_itemsFault x.1⟩

noncomputable def cx_parcel_itemsFault : Cx := ⟨Tryz.prog, [(29, sp_kit_IsName), (102, sp_amount_CheckDecimal)]⟩

theorem den_parcel_itemsFault : ∀ x, denF cx_parcel_itemsFault anns_parcel_itemsFault none Tryz.f53 sp_parcel_itemsFault x = sp_parcel_itemsFault.m x := by intro x; kernel_rfl

theorem hb_parcel_itemsFault : HasBody Tryz.prog 53 := has_body (fn := Tryz.f53) (by kernel_rfl) rfl (by decide)

theorem ok_parcel_itemsFault : FunOk Tryz.prog 53 sp_parcel_itemsFault := fun_ok (X := cx_parcel_itemsFault) (.cons ok_kit_IsName hb_kit_IsName (.cons ok_amount_CheckDecimal hb_amount_CheckDecimal (.nil _))) (by kernel_rfl) sp_parcel_itemsFault anns_parcel_itemsFault none (by kernel_rfl) (fun x y h => (den_parcel_itemsFault x).trans h)

def anns_parcel_linesFault : List (Nat × Ann) := [(4, ⟨[(0, .val (.slice t_api_State)), (9, .val (.slice t_api_State)), (10, .val tI), (11, .val tI)], [], [], fuelOf _⟩),
  (200004, ⟨[], [], [], fun _ => 0⟩)]

noncomputable def sp_parcel_linesFault : FSpec := ⟨[.val (.slice t_api_State)], [.val tI], fun x => parcel_linesFault x.1⟩

noncomputable def cx_parcel_linesFault : Cx := ⟨Tryz.prog, [(73, sp_kit_Outside), (102, sp_amount_CheckDecimal)]⟩

theorem den_parcel_linesFault : ∀ x, denF cx_parcel_linesFault anns_parcel_linesFault none Tryz.f54 sp_parcel_linesFault x = sp_parcel_linesFault.m x := by intro x; kernel_rfl

theorem hb_parcel_linesFault : HasBody Tryz.prog 54 := has_body (fn := Tryz.f54) (by kernel_rfl) rfl (by decide)

theorem ok_parcel_linesFault : FunOk Tryz.prog 54 sp_parcel_linesFault := fun_ok (X := cx_parcel_linesFault) (.cons ok_kit_Outside hb_kit_Outside (.cons ok_amount_CheckDecimal hb_amount_CheckDecimal (.nil _))) (by kernel_rfl) sp_parcel_linesFault anns_parcel_linesFault none (by kernel_rfl) (fun x y h => (den_parcel_linesFault x).trans h)

def anns_whole_trimmed : List (Nat × Ann) := [(1, ⟨[(0, .val (.slice (.int .u32)))], [], [], fuelOf _⟩),
  (200001, ⟨[(0, .val (.slice (.int .u32)))], [], [], fun _ => 0⟩)]

noncomputable def sp_whole_trimmed : FSpec := ⟨[.val (.slice (.int .u32))], [.val (.slice (.int .u32))], fun x => whole_trimmed x.1⟩

noncomputable def cx_whole_trimmed : Cx := ⟨Tryz.prog, []⟩

theorem den_whole_trimmed : ∀ x, denF cx_whole_trimmed anns_whole_trimmed none Tryz.f139 sp_whole_trimmed x = sp_whole_trimmed.m x := by intro x; kernel_rfl

theorem hb_whole_trimmed : HasBody Tryz.prog 139 := has_body (fn := Tryz.f139) (by kernel_rfl) rfl (by decide)

theorem ok_whole_trimmed : FunOk Tryz.prog 139 sp_whole_trimmed := fun_ok (X := cx_whole_trimmed) (.nil _) (by kernel_rfl) sp_whole_trimmed anns_whole_trimmed none (by kernel_rfl) (fun x y h => (den_whole_trimmed x).trans h)

def anns_whole_made : List (Nat × Ann) := []

noncomputable def sp_whole_made : FSpec := ⟨[.val .bool, .val (.slice (.int .u32))], [.val t_whole_Int], fun x => whole_made x.1 x.2.1⟩

noncomputable def cx_whole_made : Cx := ⟨Tryz.prog, [(139, sp_whole_trimmed)]⟩

theorem den_whole_made : ∀ x, denF cx_whole_made anns_whole_made none Tryz.f134 sp_whole_made x = sp_whole_made.m x := by intro x; kernel_rfl

theorem hb_whole_made : HasBody Tryz.prog 134 := has_body (fn := Tryz.f134) (by kernel_rfl) rfl (by decide)

theorem ok_whole_made : FunOk Tryz.prog 134 sp_whole_made := fun_ok (X := cx_whole_made) (.cons ok_whole_trimmed hb_whole_trimmed (.nil _)) (by kernel_rfl) sp_whole_made anns_whole_made none (by kernel_rfl) (fun x y h => (den_whole_made x).trans h)

def anns_whole_Of : List (Nat × Ann) := [(100003, ⟨[(0, .val tI), (2, .ref 2 0), (3, .val (.int .u64))], [(2, [.val .bool, .own 174 (.int .u32)])], [], fun _ => 0⟩)]

noncomputable def sp_whole_Of : FSpec := ⟨[.val tI], [.val t_whole_Int], fun x => whole_Of x.1⟩

noncomputable def cx_whole_Of : Cx := ⟨Tryz.prog, [(134, sp_whole_made)]⟩

theorem den_whole_Of : ∀ x, denF cx_whole_Of anns_whole_Of none Tryz.f88 sp_whole_Of x = sp_whole_Of.m x := by intro x; kernel_rfl

theorem hb_whole_Of : HasBody Tryz.prog 88 := has_body (fn := Tryz.f88) (by kernel_rfl) rfl (by decide)

theorem ok_whole_Of : FunOk Tryz.prog 88 sp_whole_Of := fun_ok (X := cx_whole_Of) (.cons ok_whole_made hb_whole_made (.nil _)) (by kernel_rfl) sp_whole_Of anns_whole_Of none (by kernel_rfl) (fun x y h => (den_whole_Of x).trans h)

def anns_whole_Int_Times : List (Nat × Ann) := [(3, ⟨[(2, .ref 2 0), (3, .ref 3 0), (4, .ref 4 0), (5, .rowR 18), (20, .val (.slice (.int .u32))), (21, .val tI), (22, .val tI)], [(2, [.val .bool, .val (.slice (.int .u32))]), (3, [.val .bool, .val (.slice (.int .u32))]), (4, [.val .bool, .own 174 (.int .u32)])], [.rowC 18 174 (.int .u32)], fuelOf _⟩),
  (7, ⟨[(2, .ref 2 0), (3, .ref 3 0), (4, .ref 4 0), (5, .rowR 18), (6, .val tI), (7, .val (.int .u32)), (8, .val (.int .u64)), (20, .val (.slice (.int .u32))), (21, .val tI), (22, .val tI), (28, .val (.slice (.int .u32))), (29, .val tI), (30, .val tI)], [(2, [.val .bool, .val (.slice (.int .u32))]), (3, [.val .bool, .val (.slice (.int .u32))]), (4, [.val .bool, .own 174 (.int .u32)])], [.rowC 18 174 (.int .u32)], fuelOf _⟩),
  (200003, ⟨[(2, .ref 2 0), (3, .ref 3 0), (4, .ref 4 0), (5, .rowR 18)], [(2, [.val .bool, .val (.slice (.int .u32))]), (3, [.val .bool, .val (.slice (.int .u32))]), (4, [.val .bool, .own 174 (.int .u32)])], [.rowC 18 174 (.int .u32)], fun _ => 0⟩),
  (200007, ⟨[(2, .ref 2 0), (3, .ref 3 0), (4, .ref 4 0), (5, .rowR 18), (6, .val tI), (8, .val (.int .u64)), (20, .val (.slice (.int .u32))), (21, .val tI), (22, .val tI)], [(2, [.val .bool, .val (.slice (.int .u32))]), (3, [.val .bool, .val (.slice (.int .u32))]), (4, [.val .bool, .own 174 (.int .u32)])], [.rowC 18 174 (.int .u32)], fun _ => 0⟩)]

noncomputable def sp_whole_Int_Times : FSpec := ⟨[.val t_whole_Int, .val t_whole_Int], [.val t_whole_Int], fun x => whole_Int_Times x.1 x.2.1⟩

noncomputable def cx_whole_Int_Times : Cx := ⟨Tryz.prog, [(134, sp_whole_made)]⟩

theorem den_whole_Int_Times : ∀ x, denF cx_whole_Int_Times anns_whole_Int_Times none Tryz.f91 sp_whole_Int_Times x = sp_whole_Int_Times.m x := by intro x; kernel_rfl

theorem hb_whole_Int_Times : HasBody Tryz.prog 91 := has_body (fn := Tryz.f91) (by kernel_rfl) rfl (by decide)

theorem ok_whole_Int_Times : FunOk Tryz.prog 91 sp_whole_Int_Times := fun_ok (X := cx_whole_Int_Times) (.cons ok_whole_made hb_whole_made (.nil _)) (by kernel_rfl) sp_whole_Int_Times anns_whole_Int_Times none (by kernel_rfl) (fun x y h => (den_whole_Int_Times x).trans h)

def anns_whole_Power : List (Nat × Ann) := [(3, ⟨[(2, .ref 2 0), (3, .ref 3 0), (5, .val tI), (6, .val tI)], [(2, [.val .bool, .own 174 (.int .u32)]), (3, [.val .bool, .val (.slice (.int .u32))])], [], fuelOf _⟩),
  (200003, ⟨[(2, .ref 2 0), (3, .ref 3 0)], [(2, [.val .bool, .own 174 (.int .u32)]), (3, [.val .bool, .val (.slice (.int .u32))])], [], fun _ => 0⟩)]

noncomputable def sp_whole_Power : FSpec := ⟨[.val tI], [.val t_whole_Int], fun x => whole_Power x.1⟩

noncomputable def cx_whole_Power : Cx := ⟨Tryz.prog, [(88, sp_whole_Of), (91, sp_whole_Int_Times)]⟩

theorem den_whole_Power : ∀ x, denF cx_whole_Power anns_whole_Power none Tryz.f138 sp_whole_Power x = sp_whole_Power.m x := by intro x; kernel_rfl

theorem hb_whole_Power : HasBody Tryz.prog 138 := has_body (fn := Tryz.f138) (by kernel_rfl) rfl (by decide)

theorem ok_whole_Power : FunOk Tryz.prog 138 sp_whole_Power := fun_ok (X := cx_whole_Power) (.cons ok_whole_Of hb_whole_Of (.cons ok_whole_Int_Times hb_whole_Int_Times (.nil _))) (by kernel_rfl) sp_whole_Power anns_whole_Power none (by kernel_rfl) (fun x y h => (den_whole_Power x).trans h)

def anns_amount_Scaled : List (Nat × Ann) := []

noncomputable def sp_amount_Scaled : FSpec := ⟨[.val t_api_Decimal, .val tI], [.val t_whole_Int], fun x => amount_Scaled x.1 x.2.1⟩

noncomputable def cx_amount_Scaled : Cx := ⟨Tryz.prog, [(88, sp_whole_Of), (91, sp_whole_Int_Times), (138, sp_whole_Power)]⟩

theorem den_amount_Scaled : ∀ x, denF cx_amount_Scaled anns_amount_Scaled none Tryz.f90 sp_amount_Scaled x = sp_amount_Scaled.m x := by intro x; kernel_rfl

theorem hb_amount_Scaled : HasBody Tryz.prog 90 := has_body (fn := Tryz.f90) (by kernel_rfl) rfl (by decide)

theorem ok_amount_Scaled : FunOk Tryz.prog 90 sp_amount_Scaled := fun_ok (X := cx_amount_Scaled) (.cons ok_whole_Of hb_whole_Of (.cons ok_whole_Int_Times hb_whole_Int_Times (.cons ok_whole_Power hb_whole_Power (.nil _)))) (by kernel_rfl) sp_amount_Scaled anns_amount_Scaled none (by kernel_rfl) (fun x y h => (den_amount_Scaled x).trans h)

def anns_amount_Value : List (Nat × Ann) := []

noncomputable def sp_amount_Value : FSpec := ⟨[.val t_api_Decimal], [.val t_whole_Int], fun x => amount_Value x.1⟩

noncomputable def cx_amount_Value : Cx := ⟨Tryz.prog, [(90, sp_amount_Scaled)]⟩

theorem den_amount_Value : ∀ x, denF cx_amount_Value anns_amount_Value none Tryz.f55 sp_amount_Value x = sp_amount_Value.m x := by intro x; kernel_rfl

theorem hb_amount_Value : HasBody Tryz.prog 55 := has_body (fn := Tryz.f55) (by kernel_rfl) rfl (by decide)

theorem ok_amount_Value : FunOk Tryz.prog 55 sp_amount_Value := fun_ok (X := cx_amount_Value) (.cons ok_amount_Scaled hb_amount_Scaled (.nil _)) (by kernel_rfl) sp_amount_Value anns_amount_Value none (by kernel_rfl) (fun x y h => (den_amount_Value x).trans h)

def anns_parcel_Laid_1 : List (Nat × Ann) := []

noncomputable def sp_parcel_Laid_1 : FSpec := ⟨[.val tI, .val tI, .val (.ptr (.slice t_api_State))], [.val tI], fun x => parcel_Laid_1 x.1 x.2.1 x.2.2.1⟩

noncomputable def cx_parcel_Laid_1 : Cx := ⟨Tryz.prog, []⟩

theorem den_parcel_Laid_1 : ∀ x, denF cx_parcel_Laid_1 anns_parcel_Laid_1 none Tryz.f57 sp_parcel_Laid_1 x = sp_parcel_Laid_1.m x := by intro x; kernel_rfl

theorem hb_parcel_Laid_1 : HasBody Tryz.prog 57 := has_body (fn := Tryz.f57) (by kernel_rfl) rfl (by decide)

theorem ok_parcel_Laid_1 : FunOk Tryz.prog 57 sp_parcel_Laid_1 := fun_ok (X := cx_parcel_Laid_1) (.nil _) (by kernel_rfl) sp_parcel_Laid_1 anns_parcel_Laid_1 none (by kernel_rfl) (fun x y h => (den_parcel_Laid_1 x).trans h)

def anns_slices_insertionSortCmpFunc_int : List (Nat × Ann) := [(1, ⟨[(0, .rowR 10250000), (1, .val tI), (2, .val tI), (3, .val (.clo 57 (.ptr (.slice t_api_State)))), (8, .val tI)], [], [.rowC 10250000 3 tI], fuelOf _⟩),
  (4, ⟨[(0, .rowR 10250000), (1, .val tI), (2, .val tI), (3, .val (.clo 57 (.ptr (.slice t_api_State)))), (8, .val tI), (9, .val tI)], [], [.rowC 10250000 3 tI], fuelOf _⟩),
  (200001, ⟨[], [], [.rowC 10250000 3 tI], fun _ => 0⟩),
  (200004, ⟨[(0, .rowR 10250000), (1, .val tI), (2, .val tI), (3, .val (.clo 57 (.ptr (.slice t_api_State)))), (8, .val tI)], [], [.rowC 10250000 3 tI], fun _ => 0⟩)]

noncomputable def sp_slices_insertionSortCmpFunc_int : FSpec := ⟨[.mrow 3 tI, .val tI, .val tI, .val (.clo 57 (.ptr (.slice t_api_State)))], [], fun x => slices_insertionSortCmpFunc_int x.1 x.2.1 x.2.2.1 x.2.2.2.1⟩

noncomputable def cx_slices_insertionSortCmpFunc_int : Cx := ⟨Tryz.prog, [(57, sp_parcel_Laid_1)]⟩

theorem den_slices_insertionSortCmpFunc_int : ∀ x, denF cx_slices_insertionSortCmpFunc_int anns_slices_insertionSortCmpFunc_int none Tryz.f144 sp_slices_insertionSortCmpFunc_int x = sp_slices_insertionSortCmpFunc_int.m x := by intro x; kernel_rfl

theorem hb_slices_insertionSortCmpFunc_int : HasBody Tryz.prog 144 := has_body (fn := Tryz.f144) (by kernel_rfl) rfl (by decide)

theorem ok_slices_insertionSortCmpFunc_int : FunOk Tryz.prog 144 sp_slices_insertionSortCmpFunc_int := fun_ok (X := cx_slices_insertionSortCmpFunc_int) (.cons ok_parcel_Laid_1 hb_parcel_Laid_1 (.nil _)) (by kernel_rfl) sp_slices_insertionSortCmpFunc_int anns_slices_insertionSortCmpFunc_int none (by kernel_rfl) (fun x y h => (den_slices_insertionSortCmpFunc_int x).trans h)

def anns_slices_swapRangeCmpFunc_int : List (Nat × Ann) := [(1, ⟨[(0, .rowR 10250000), (1, .val tI), (2, .val tI), (3, .val tI), (10, .val tI)], [], [.rowC 10250000 3 tI], fuelOf _⟩),
  (200001, ⟨[], [], [.rowC 10250000 3 tI], fun _ => 0⟩)]

noncomputable def sp_slices_swapRangeCmpFunc_int : FSpec := ⟨[.mrow 3 tI, .val tI, .val tI, .val tI, .val (.clo 57 (.ptr (.slice t_api_State)))], [], fun x => slices_swapRangeCmpFunc_int x.1 x.2.1 x.2.2.1 x.2.2.2.1 x.2.2.2.2.1⟩

noncomputable def cx_slices_swapRangeCmpFunc_int : Cx := ⟨Tryz.prog, []⟩

theorem den_slices_swapRangeCmpFunc_int : ∀ x, denF cx_slices_swapRangeCmpFunc_int anns_slices_swapRangeCmpFunc_int none Tryz.f179 sp_slices_swapRangeCmpFunc_int x = sp_slices_swapRangeCmpFunc_int.m x := by intro x; kernel_rfl

theorem hb_slices_swapRangeCmpFunc_int : HasBody Tryz.prog 179 := has_body (fn := Tryz.f179) (by kernel_rfl) rfl (by decide)

theorem ok_slices_swapRangeCmpFunc_int : FunOk Tryz.prog 179 sp_slices_swapRangeCmpFunc_int := fun_ok (X := cx_slices_swapRangeCmpFunc_int) (.nil _) (by kernel_rfl) sp_slices_swapRangeCmpFunc_int anns_slices_swapRangeCmpFunc_int none (by kernel_rfl) (fun x y h => (den_slices_swapRangeCmpFunc_int x).trans h)

def anns_slices_rotateCmpFunc_int : List (Nat × Ann) := [(2, ⟨[(0, .rowR 10250000), (2, .val tI), (4, .val (.clo 57 (.ptr (.slice t_api_State)))), (10, .val tI), (11, .val tI)], [], [.rowC 10250000 3 tI], fuelOf _⟩),
  (200002, ⟨[(0, .rowR 10250000), (2, .val tI), (4, .val (.clo 57 (.ptr (.slice t_api_State)))), (10, .val tI)], [], [.rowC 10250000 3 tI], fun _ => 0⟩)]

noncomputable def sp_slices_rotateCmpFunc_int : FSpec := ⟨[.mrow 3 tI, .val tI, .val tI, .val tI, .val (.clo 57 (.ptr (.slice t_api_State)))], [], fun x => slices_rotateCmpFunc_int x.1 x.2.1 x.2.2.1 x.2.2.2.1 x.2.2.2.2.1⟩

noncomputable def cx_slices_rotateCmpFunc_int : Cx := ⟨Tryz.prog, [(179, sp_slices_swapRangeCmpFunc_int)]⟩

theorem den_slices_rotateCmpFunc_int : ∀ x, denF cx_slices_rotateCmpFunc_int anns_slices_rotateCmpFunc_int none Tryz.f168 sp_slices_rotateCmpFunc_int x = sp_slices_rotateCmpFunc_int.m x := by intro x; kernel_rfl

theorem hb_slices_rotateCmpFunc_int : HasBody Tryz.prog 168 := has_body (fn := Tryz.f168) (by kernel_rfl) rfl (by decide)

theorem ok_slices_rotateCmpFunc_int : FunOk Tryz.prog 168 sp_slices_rotateCmpFunc_int := fun_ok (X := cx_slices_rotateCmpFunc_int) (.cons ok_slices_swapRangeCmpFunc_int hb_slices_swapRangeCmpFunc_int (.nil _)) (by kernel_rfl) sp_slices_rotateCmpFunc_int anns_slices_rotateCmpFunc_int none (by kernel_rfl) (fun x y h => (den_slices_rotateCmpFunc_int x).trans h)

def anns_slices_symMergeCmpFunc_int : List (Nat × Ann) := [(3, ⟨[(0, .rowR 10250000), (1, .val tI), (4, .val (.clo 57 (.ptr (.slice t_api_State)))), (10, .val tI), (11, .val tI)], [], [.rowC 10250000 3 tI], fuelOf _⟩),
  (9, ⟨[(0, .rowR 10250000), (10, .val tI), (13, .val tI)], [], [.rowC 10250000 3 tI], fuelOf _⟩),
  (15, ⟨[(0, .rowR 10250000), (2, .val tI), (4, .val (.clo 57 (.ptr (.slice t_api_State)))), (14, .val tI), (15, .val tI)], [], [.rowC 10250000 3 tI], fuelOf _⟩),
  (21, ⟨[(0, .rowR 10250000), (14, .val tI), (17, .val tI)], [], [.rowC 10250000 3 tI], fuelOf _⟩),
  (33, ⟨[(0, .rowR 10250000), (1, .val tI), (2, .val tI), (3, .val tI), (4, .val (.clo 57 (.ptr (.slice t_api_State)))), (18, .val tI), (19, .val tI), (20, .val tI), (21, .val tI), (22, .val tI)], [], [.rowC 10250000 3 tI], fuelOf _⟩),
  (100030, ⟨[(0, .rowR 10250000), (1, .val tI), (2, .val tI), (3, .val tI), (4, .val (.clo 57 (.ptr (.slice t_api_State)))), (18, .val tI), (19, .val tI), (20, .val tI), (21, .val tI)], [], [.rowC 10250000 3 tI], fun _ => 0⟩),
  (100040, ⟨[(0, .rowR 10250000), (1, .val tI), (3, .val tI), (4, .val (.clo 57 (.ptr (.slice t_api_State)))), (18, .val tI), (20, .val tI), (24, .val tI)], [], [.rowC 10250000 3 tI], fun _ => 0⟩),
  (100042, ⟨[(0, .rowR 10250000), (3, .val tI), (4, .val (.clo 57 (.ptr (.slice t_api_State)))), (18, .val tI), (24, .val tI)], [], [.rowC 10250000 3 tI], fun _ => 0⟩),
  (200003, ⟨[(0, .rowR 10250000), (1, .val tI), (10, .val tI)], [], [.rowC 10250000 3 tI], fun _ => 0⟩),
  (200009, ⟨[], [], [.rowC 10250000 3 tI], fun _ => 0⟩),
  (200015, ⟨[(0, .rowR 10250000), (2, .val tI), (14, .val tI)], [], [.rowC 10250000 3 tI], fun _ => 0⟩),
  (200021, ⟨[], [], [.rowC 10250000 3 tI], fun _ => 0⟩),
  (200033, ⟨[(0, .rowR 10250000), (1, .val tI), (2, .val tI), (3, .val tI), (4, .val (.clo 57 (.ptr (.slice t_api_State)))), (18, .val tI), (19, .val tI), (20, .val tI)], [], [.rowC 10250000 3 tI], fun _ => 0⟩)]

def ps_slices_symMergeCmpFunc_int : List PM := [.mrow 3 tI, .val tI, .val tI, .val tI, .val (.clo 57 (.ptr (.slice t_api_State)))]
def rs_slices_symMergeCmpFunc_int : List RM := []

noncomputable def cxs_slices_symMergeCmpFunc_int : List (Nat × FSpec) := [(57, sp_parcel_Laid_1), (168, sp_slices_rotateCmpFunc_int)]

noncomputable def sp_slices_symMergeCmpFunc_int : FSpec := ⟨ps_slices_symMergeCmpFunc_int, rs_slices_symMergeCmpFunc_int, fun x => slices_symMergeCmpFunc_int x.1 x.2.1 x.2.2.1 x.2.2.2.1 x.2.2.2.2.1⟩

theorem den_slices_symMergeCmpFunc_int : ∀ (self : inDen ps_slices_symMergeCmpFunc_int → Option (outDen ps_slices_symMergeCmpFunc_int rs_slices_symMergeCmpFunc_int)) (x : inDen ps_slices_symMergeCmpFunc_int), denF ⟨Tryz.prog, (145, ⟨ps_slices_symMergeCmpFunc_int, rs_slices_symMergeCmpFunc_int, self⟩) :: cxs_slices_symMergeCmpFunc_int⟩ anns_slices_symMergeCmpFunc_int none Tryz.f145 ⟨ps_slices_symMergeCmpFunc_int, rs_slices_symMergeCmpFunc_int, fun x => slices_symMergeCmpFunc_int_F self x.1 x.2.1 x.2.2.1 x.2.2.2.1 x.2.2.2.2.1⟩ x = slices_symMergeCmpFunc_int_F self x.1 x.2.1 x.2.2.1 x.2.2.2.1 x.2.2.2.2.1 := by intro self x; kernel_rfl

theorem hb_slices_symMergeCmpFunc_int : HasBody Tryz.prog 145 := has_body (fn := Tryz.f145) (by kernel_rfl) rfl (by decide)

theorem ok_slices_symMergeCmpFunc_int : FunOk Tryz.prog 145 sp_slices_symMergeCmpFunc_int := fun_ok_fuel (ps := ps_slices_symMergeCmpFunc_int) (rs := rs_slices_symMergeCmpFunc_int) (m := fun n x => recM (fun self x => slices_symMergeCmpFunc_int_F self x.1 x.2.1 x.2.2.1 x.2.2.2.1 x.2.2.2.2.1) n x) (fun_ok_rec (P := Tryz.prog) (specs := cxs_slices_symMergeCmpFunc_int) (ps := ps_slices_symMergeCmpFunc_int) (rs := rs_slices_symMergeCmpFunc_int) (.cons ok_parcel_Laid_1 hb_parcel_Laid_1 (.cons ok_slices_rotateCmpFunc_int hb_slices_rotateCmpFunc_int (.nil _))) (by kernel_rfl) (fun self x => slices_symMergeCmpFunc_int_F self x.1 x.2.1 x.2.2.1 x.2.2.2.1 x.2.2.2.2.1) anns_slices_symMergeCmpFunc_int none (by kernel_rfl) hb_slices_symMergeCmpFunc_int den_slices_symMergeCmpFunc_int) (fun x => slices_symMergeCmpFunc_int_fuel x.1 x.2.1 x.2.2.1 x.2.2.2.1 x.2.2.2.2.1)

def anns_slices_stableCmpFunc_int : List (Nat × Ann) := [(2, ⟨[(0, .rowR 10250000), (1, .val tI), (2, .val (.clo 57 (.ptr (.slice t_api_State)))), (6, .val tI), (7, .val tI), (8, .val tI)], [], [.rowC 10250000 3 tI], fuelOf _⟩),
  (7, ⟨[(0, .rowR 10250000), (1, .val tI), (2, .val (.clo 57 (.ptr (.slice t_api_State)))), (6, .val tI)], [], [.rowC 10250000 3 tI], fuelOf _⟩),
  (9, ⟨[(0, .rowR 10250000), (1, .val tI), (2, .val (.clo 57 (.ptr (.slice t_api_State)))), (6, .val tI), (7, .val tI), (8, .val tI)], [], [.rowC 10250000 3 tI], fuelOf _⟩),
  (200002, ⟨[(0, .rowR 10250000), (1, .val tI), (2, .val (.clo 57 (.ptr (.slice t_api_State)))), (6, .val tI), (7, .val tI)], [], [.rowC 10250000 3 tI], fun _ => 0⟩),
  (200007, ⟨[], [], [.rowC 10250000 3 tI], fun _ => 0⟩),
  (200009, ⟨[(0, .rowR 10250000), (1, .val tI), (2, .val (.clo 57 (.ptr (.slice t_api_State)))), (6, .val tI), (7, .val tI)], [], [.rowC 10250000 3 tI], fun _ => 0⟩)]

noncomputable def sp_slices_stableCmpFunc_int : FSpec := ⟨[.mrow 3 tI, .val tI, .val (.clo 57 (.ptr (.slice t_api_State)))], [], fun x => slices_stableCmpFunc_int x.1 x.2.1 x.2.2.1⟩

noncomputable def cx_slices_stableCmpFunc_int : Cx := ⟨Tryz.prog, [(144, sp_slices_insertionSortCmpFunc_int), (145, sp_slices_symMergeCmpFunc_int)]⟩

theorem den_slices_stableCmpFunc_int : ∀ x, denF cx_slices_stableCmpFunc_int anns_slices_stableCmpFunc_int none Tryz.f104 sp_slices_stableCmpFunc_int x = sp_slices_stableCmpFunc_int.m x := by intro x; kernel_rfl

theorem hb_slices_stableCmpFunc_int : HasBody Tryz.prog 104 := has_body (fn := Tryz.f104) (by kernel_rfl) rfl (by decide)

theorem ok_slices_stableCmpFunc_int : FunOk Tryz.prog 104 sp_slices_stableCmpFunc_int := fun_ok (X := cx_slices_stableCmpFunc_int) (.cons ok_slices_insertionSortCmpFunc_int hb_slices_insertionSortCmpFunc_int (.cons ok_slices_symMergeCmpFunc_int hb_slices_symMergeCmpFunc_int (.nil _))) (by kernel_rfl) sp_slices_stableCmpFunc_int anns_slices_stableCmpFunc_int none (by kernel_rfl) (fun x y h => (den_slices_stableCmpFunc_int x).trans h)

def anns_slices_SortStableFunc_int : List (Nat × Ann) := []

noncomputable def sp_slices_SortStableFunc_int : FSpec := ⟨[.mrow 3 tI, .val (.clo 57 (.ptr (.slice t_api_State)))], [], fun x => slices_SortStableFunc_int x.1 x.2.1⟩

noncomputable def cx_slices_SortStableFunc_int : Cx := ⟨Tryz.prog, [(104, sp_slices_stableCmpFunc_int)]⟩

theorem den_slices_SortStableFunc_int : ∀ x, denF cx_slices_SortStableFunc_int anns_slices_SortStableFunc_int none Tryz.f56 sp_slices_SortStableFunc_int x = sp_slices_SortStableFunc_int.m x := by intro x; kernel_rfl

theorem hb_slices_SortStableFunc_int : HasBody Tryz.prog 56 := has_body (fn := Tryz.f56) (by kernel_rfl) rfl (by decide)

theorem ok_slices_SortStableFunc_int : FunOk Tryz.prog 56 sp_slices_SortStableFunc_int := fun_ok (X := cx_slices_SortStableFunc_int) (.cons ok_slices_stableCmpFunc_int hb_slices_stableCmpFunc_int (.nil _)) (by kernel_rfl) sp_slices_SortStableFunc_int anns_slices_SortStableFunc_int none (by kernel_rfl) (fun x y h => (den_slices_SortStableFunc_int x).trans h)

def anns_whole_Int_Minus : List (Nat × Ann) := []

noncomputable def sp_whole_Int_Minus : FSpec := ⟨[.val t_whole_Int], [.val t_whole_Int], fun x => whole_Int_Minus x.1⟩

noncomputable def cx_whole_Int_Minus : Cx := ⟨Tryz.prog, [(134, sp_whole_made)]⟩

theorem den_whole_Int_Minus : ∀ x, denF cx_whole_Int_Minus anns_whole_Int_Minus none Tryz.f93 sp_whole_Int_Minus x = sp_whole_Int_Minus.m x := by intro x; kernel_rfl

theorem hb_whole_Int_Minus : HasBody Tryz.prog 93 := has_body (fn := Tryz.f93) (by kernel_rfl) rfl (by decide)

theorem ok_whole_Int_Minus : FunOk Tryz.prog 93 sp_whole_Int_Minus := fun_ok (X := cx_whole_Int_Minus) (.cons ok_whole_made hb_whole_made (.nil _)) (by kernel_rfl) sp_whole_Int_Minus anns_whole_Int_Minus none (by kernel_rfl) (fun x y h => (den_whole_Int_Minus x).trans h)

def anns_whole_sum : List (Nat × Ann) := [(6, ⟨[(1, .val (.slice (.int .u32))), (5, .own 174 (.int .u32)), (6, .val (.int .u64)), (20, .val (.slice (.int .u32))), (21, .val tI), (22, .val tI)], [], [], fuelOf _⟩),
  (100002, ⟨[(0, .val (.slice (.int .u32))), (1, .val (.slice (.int .u32)))], [], [], fun _ => 0⟩),
  (100010, ⟨[(1, .val (.slice (.int .u32))), (5, .own 174 (.int .u32)), (6, .val (.int .u64)), (20, .val (.slice (.int .u32))), (21, .val tI), (22, .val tI)], [], [], fun _ => 0⟩),
  (200006, ⟨[(5, .own 174 (.int .u32)), (6, .val (.int .u64))], [], [], fun _ => 0⟩)]

noncomputable def sp_whole_sum : FSpec := ⟨[.val (.slice (.int .u32)), .val (.slice (.int .u32))], [.row 174 (.int .u32)], fun x => whole_sum x.1 x.2.1⟩

noncomputable def cx_whole_sum : Cx := ⟨Tryz.prog, []⟩

theorem den_whole_sum : ∀ x, denF cx_whole_sum anns_whole_sum none Tryz.f135 sp_whole_sum x = sp_whole_sum.m x := by intro x; kernel_rfl

theorem hb_whole_sum : HasBody Tryz.prog 135 := has_body (fn := Tryz.f135) (by kernel_rfl) rfl (by decide)

theorem ok_whole_sum : FunOk Tryz.prog 135 sp_whole_sum := fun_ok (X := cx_whole_sum) (.nil _) (by kernel_rfl) sp_whole_sum anns_whole_sum none (by kernel_rfl) (fun x y h => (den_whole_sum x).trans h)

def anns_whole_sum_v : List (Nat × Ann) := [(6, ⟨[(1, .val (.slice (.int .u32))), (5, .own 174 (.int .u32)), (6, .val (.int .u64)), (20, .val (.slice (.int .u32))), (21, .val tI), (22, .val tI)], [], [], fuelOf _⟩),
  (100002, ⟨[(0, .val (.slice (.int .u32))), (1, .val (.slice (.int .u32)))], [], [], fun _ => 0⟩),
  (100010, ⟨[(1, .val (.slice (.int .u32))), (5, .own 174 (.int .u32)), (6, .val (.int .u64)), (20, .val (.slice (.int .u32))), (21, .val tI), (22, .val tI)], [], [], fun _ => 0⟩),
  (200006, ⟨[(5, .own 174 (.int .u32)), (6, .val (.int .u64))], [], [], fun _ => 0⟩)]

noncomputable def sp_whole_sum_v : FSpec := ⟨[.val (.slice (.int .u32)), .val (.slice (.int .u32))], [.val (.slice (.int .u32))], fun x => whole_sum_v x.1 x.2.1⟩

noncomputable def cx_whole_sum_v : Cx := ⟨Tryz.prog, []⟩

theorem den_whole_sum_v : ∀ x, denF cx_whole_sum_v anns_whole_sum_v none Tryz.f135 sp_whole_sum_v x = sp_whole_sum_v.m x := by intro x; kernel_rfl

theorem hb_whole_sum_v : HasBody Tryz.prog 135 := has_body (fn := Tryz.f135) (by kernel_rfl) rfl (by decide)

theorem ok_whole_sum_v : FunOk Tryz.prog 135 sp_whole_sum_v := fun_ok (X := cx_whole_sum_v) (.nil _) (by kernel_rfl) sp_whole_sum_v anns_whole_sum_v none (by kernel_rfl) (fun x y h => (den_whole_sum_v x).trans h)

def anns_whole_compare : List (Nat × Ann) := [(4, ⟨[(0, .val (.slice (.int .u32))), (1, .val (.slice (.int .u32))), (5, .val tI)], [], [], fuelOf _⟩),
  (200004, ⟨[], [], [], fun _ => 0⟩)]

noncomputable def sp_whole_compare : FSpec := ⟨[.val (.slice (.int .u32)), .val (.slice (.int .u32))], [.val tI], fun x => whole_compare x.1 x.2.1⟩

noncomputable def cx_whole_compare : Cx := ⟨Tryz.prog, []⟩

theorem den_whole_compare : ∀ x, denF cx_whole_compare anns_whole_compare none Tryz.f136 sp_whole_compare x = sp_whole_compare.m x := by intro x; kernel_rfl

theorem hb_whole_compare : HasBody Tryz.prog 136 := has_body (fn := Tryz.f136) (by kernel_rfl) rfl (by decide)

theorem ok_whole_compare : FunOk Tryz.prog 136 sp_whole_compare := fun_ok (X := cx_whole_compare) (.nil _) (by kernel_rfl) sp_whole_compare anns_whole_compare none (by kernel_rfl) (fun x y h => (den_whole_compare x).trans h)

def anns_whole_less : List (Nat × Ann) := [(4, ⟨[(1, .val (.slice (.int .u32))), (5, .own 174 (.int .u32)), (6, .val (.int .u64)), (13, .val (.slice (.int .u32))), (14, .val tI), (15, .val tI)], [], [], fuelOf _⟩),
  (100008, ⟨[(1, .val (.slice (.int .u32))), (5, .own 174 (.int .u32)), (9, .val (.int .u64)), (13, .val (.slice (.int .u32))), (14, .val tI), (15, .val tI)], [], [], fun _ => 0⟩),
  (200004, ⟨[(5, .own 174 (.int .u32))], [], [], fun _ => 0⟩)]

noncomputable def sp_whole_less : FSpec := ⟨[.val (.slice (.int .u32)), .val (.slice (.int .u32))], [.val (.slice (.int .u32))], fun x => whole_less x.1 x.2.1⟩

noncomputable def cx_whole_less : Cx := ⟨Tryz.prog, [(139, sp_whole_trimmed)]⟩

theorem den_whole_less : ∀ x, denF cx_whole_less anns_whole_less none Tryz.f137 sp_whole_less x = sp_whole_less.m x := by intro x; kernel_rfl

theorem hb_whole_less : HasBody Tryz.prog 137 := has_body (fn := Tryz.f137) (by kernel_rfl) rfl (by decide)

theorem ok_whole_less : FunOk Tryz.prog 137 sp_whole_less := fun_ok (X := cx_whole_less) (.cons ok_whole_trimmed hb_whole_trimmed (.nil _)) (by kernel_rfl) sp_whole_less anns_whole_less none (by kernel_rfl) (fun x y h => (den_whole_less x).trans h)

def anns_whole_Int_Plus : List (Nat × Ann) := []

noncomputable def sp_whole_Int_Plus : FSpec := ⟨[.val t_whole_Int, .val t_whole_Int], [.val t_whole_Int], fun x => whole_Int_Plus x.1 x.2.1⟩

noncomputable def cx_whole_Int_Plus : Cx := ⟨Tryz.prog, [(134, sp_whole_made), (135, sp_whole_sum_v), (136, sp_whole_compare), (137, sp_whole_less)]⟩

theorem den_whole_Int_Plus : ∀ x, denF cx_whole_Int_Plus anns_whole_Int_Plus none Tryz.f89 sp_whole_Int_Plus x = sp_whole_Int_Plus.m x := by intro x; kernel_rfl

theorem hb_whole_Int_Plus : HasBody Tryz.prog 89 := has_body (fn := Tryz.f89) (by kernel_rfl) rfl (by decide)

theorem ok_whole_Int_Plus : FunOk Tryz.prog 89 sp_whole_Int_Plus := fun_ok (X := cx_whole_Int_Plus) (.cons ok_whole_made hb_whole_made (.cons ok_whole_sum_v hb_whole_sum_v (.cons ok_whole_compare hb_whole_compare (.cons ok_whole_less hb_whole_less (.nil _))))) (by kernel_rfl) sp_whole_Int_Plus anns_whole_Int_Plus none (by kernel_rfl) (fun x y h => (den_whole_Int_Plus x).trans h)

def anns_whole_Int_Less : List (Nat × Ann) := []

noncomputable def sp_whole_Int_Less : FSpec := ⟨[.val t_whole_Int, .val t_whole_Int], [.val t_whole_Int], fun x => whole_Int_Less x.1 x.2.1⟩

noncomputable def cx_whole_Int_Less : Cx := ⟨Tryz.prog, [(89, sp_whole_Int_Plus), (93, sp_whole_Int_Minus)]⟩

theorem den_whole_Int_Less : ∀ x, denF cx_whole_Int_Less anns_whole_Int_Less none Tryz.f59 sp_whole_Int_Less x = sp_whole_Int_Less.m x := by intro x; kernel_rfl

theorem hb_whole_Int_Less : HasBody Tryz.prog 59 := has_body (fn := Tryz.f59) (by kernel_rfl) rfl (by decide)

theorem ok_whole_Int_Less : FunOk Tryz.prog 59 sp_whole_Int_Less := fun_ok (X := cx_whole_Int_Less) (.cons ok_whole_Int_Plus hb_whole_Int_Plus (.cons ok_whole_Int_Minus hb_whole_Int_Minus (.nil _))) (by kernel_rfl) sp_whole_Int_Less anns_whole_Int_Less none (by kernel_rfl) (fun x y h => (den_whole_Int_Less x).trans h)

def anns_whole_Int_Sign : List (Nat × Ann) := []

noncomputable def sp_whole_Int_Sign : FSpec := ⟨[.val t_whole_Int], [.val tI], fun x => whole_Int_Sign x.1⟩

noncomputable def cx_whole_Int_Sign : Cx := ⟨Tryz.prog, []⟩

theorem den_whole_Int_Sign : ∀ x, denF cx_whole_Int_Sign anns_whole_Int_Sign none Tryz.f60 sp_whole_Int_Sign x = sp_whole_Int_Sign.m x := by intro x; kernel_rfl

theorem hb_whole_Int_Sign : HasBody Tryz.prog 60 := has_body (fn := Tryz.f60) (by kernel_rfl) rfl (by decide)

theorem ok_whole_Int_Sign : FunOk Tryz.prog 60 sp_whole_Int_Sign := fun_ok (X := cx_whole_Int_Sign) (.nil _) (by kernel_rfl) sp_whole_Int_Sign anns_whole_Int_Sign none (by kernel_rfl) (fun x y h => (den_whole_Int_Sign x).trans h)

def anns_whole_Int_Compare : List (Nat × Ann) := []

noncomputable def sp_whole_Int_Compare : FSpec := ⟨[.val t_whole_Int, .val t_whole_Int], [.val tI], fun x => whole_Int_Compare x.1 x.2.1⟩

noncomputable def cx_whole_Int_Compare : Cx := ⟨Tryz.prog, [(59, sp_whole_Int_Less), (60, sp_whole_Int_Sign)]⟩

theorem den_whole_Int_Compare : ∀ x, denF cx_whole_Int_Compare anns_whole_Int_Compare none Tryz.f58 sp_whole_Int_Compare x = sp_whole_Int_Compare.m x := by intro x; kernel_rfl

theorem hb_whole_Int_Compare : HasBody Tryz.prog 58 := has_body (fn := Tryz.f58) (by kernel_rfl) rfl (by decide)

theorem ok_whole_Int_Compare : FunOk Tryz.prog 58 sp_whole_Int_Compare := fun_ok (X := cx_whole_Int_Compare) (.cons ok_whole_Int_Less hb_whole_Int_Less (.cons ok_whole_Int_Sign hb_whole_Int_Sign (.nil _))) (by kernel_rfl) sp_whole_Int_Compare anns_whole_Int_Compare none (by kernel_rfl) (fun x y h => (den_whole_Int_Compare x).trans h)

def anns_whole_Int_By : List (Nat × Ann) := [(4, ⟨[(2, .ref 2 0), (3, .ref 3 0), (4, .ref 4 0), (5, .ref 5 0), (6, .rowR 12), (7, .val (.slice (.int .u32))), (8, .val tI)], [(2, [.val .bool, .val (.slice (.int .u32))]), (3, [.val .bool, .val (.slice (.int .u32))]), (4, [.val .bool, .own 174 (.int .u32)]), (5, [.val .bool, .own 174 (.int .u32)])], [.rowC 12 174 (.int .u32)], fuelOf _⟩),
  (200004, ⟨[(4, .ref 4 0), (5, .ref 5 0), (6, .rowR 12), (7, .val (.slice (.int .u32)))], [(4, [.val .bool, .own 174 (.int .u32)]), (5, [.val .bool, .own 174 (.int .u32)])], [.rowC 12 174 (.int .u32)], fun _ => 0⟩)]

noncomputable def sp_whole_Int_By : FSpec := ⟨[.val t_whole_Int, .val t_whole_Int], [.val t_whole_Int, .val t_whole_Int], fun x => whole_Int_By x.1 x.2.1⟩

noncomputable def cx_whole_Int_By : Cx := ⟨Tryz.prog, [(134, sp_whole_made), (135, sp_whole_sum), (136, sp_whole_compare), (137, sp_whole_less), (139, sp_whole_trimmed)]⟩

theorem den_whole_Int_By : ∀ x, denF cx_whole_Int_By anns_whole_Int_By none Tryz.f92 sp_whole_Int_By x = sp_whole_Int_By.m x := by intro x; kernel_rfl

theorem hb_whole_Int_By : HasBody Tryz.prog 92 := has_body (fn := Tryz.f92) (by kernel_rfl) rfl (by decide)

theorem ok_whole_Int_By : FunOk Tryz.prog 92 sp_whole_Int_By := fun_ok (X := cx_whole_Int_By) (.cons ok_whole_made hb_whole_made (.cons ok_whole_sum hb_whole_sum (.cons ok_whole_compare hb_whole_compare (.cons ok_whole_less hb_whole_less (.cons ok_whole_trimmed hb_whole_trimmed (.nil _)))))) (by kernel_rfl) sp_whole_Int_By anns_whole_Int_By none (by kernel_rfl) (fun x y h => (den_whole_Int_By x).trans h)

def anns_whole_Int_Int : List (Nat × Ann) := [(5, ⟨[(1, .val tI), (2, .ref 2 0), (6, .val (.int .u64)), (14, .val (.slice (.int .u32))), (15, .val tI), (16, .val tI)], [(2, [.val .bool, .val (.slice (.int .u32))])], [], fuelOf _⟩),
  (200005, ⟨[(1, .val tI), (2, .ref 2 0), (6, .val (.int .u64))], [(2, [.val .bool, .val (.slice (.int .u32))])], [], fun _ => 0⟩)]

noncomputable def sp_whole_Int_Int : FSpec := ⟨[.val t_whole_Int, .val tI], [.val tI, .val .bool], fun x => whole_Int_Int x.1 x.2.1⟩

noncomputable def cx_whole_Int_Int : Cx := ⟨Tryz.prog, []⟩

theorem den_whole_Int_Int : ∀ x, denF cx_whole_Int_Int anns_whole_Int_Int none Tryz.f140 sp_whole_Int_Int x = sp_whole_Int_Int.m x := by intro x; kernel_rfl

theorem hb_whole_Int_Int : HasBody Tryz.prog 140 := has_body (fn := Tryz.f140) (by kernel_rfl) rfl (by decide)

theorem ok_whole_Int_Int : FunOk Tryz.prog 140 sp_whole_Int_Int := fun_ok (X := cx_whole_Int_Int) (.nil _) (by kernel_rfl) sp_whole_Int_Int anns_whole_Int_Int none (by kernel_rfl) (fun x y h => (den_whole_Int_Int x).trans h)

def anns_amount_Made : List (Nat × Ann) := []

noncomputable def sp_amount_Made : FSpec := ⟨[.val t_whole_Int, .val tI], [.val t_api_Decimal, .val tI], fun x => amount_Made x.1 x.2.1⟩

noncomputable def cx_amount_Made : Cx := ⟨Tryz.prog, [(140, sp_whole_Int_Int)]⟩

theorem den_amount_Made : ∀ x, denF cx_amount_Made anns_amount_Made none Tryz.f94 sp_amount_Made x = sp_amount_Made.m x := by intro x; kernel_rfl

theorem hb_amount_Made : HasBody Tryz.prog 94 := has_body (fn := Tryz.f94) (by kernel_rfl) rfl (by decide)

theorem ok_amount_Made : FunOk Tryz.prog 94 sp_amount_Made := fun_ok (X := cx_amount_Made) (.cons ok_whole_Int_Int hb_whole_Int_Int (.nil _)) (by kernel_rfl) sp_amount_Made anns_amount_Made none (by kernel_rfl) (fun x y h => (den_amount_Made x).trans h)

def anns_amount_Fewest : List (Nat × Ann) := [(2, ⟨[(1, .val tI), (2, .ref 2 0), (4, .ref 4 0), (6, .ref 6 0)], [(2, [.val .bool, .val (.slice (.int .u32))]), (4, [.val tI, .val tI]), (6, [.val .bool, .val (.slice (.int .u32))])], [], fuelOf _⟩),
  (200002, ⟨[(1, .val tI), (2, .ref 2 0), (4, .ref 4 0)], [(2, [.val .bool, .val (.slice (.int .u32))]), (4, [.val tI, .val tI])], [], fun _ => 0⟩)]

noncomputable def sp_amount_Fewest : FSpec := ⟨[.val t_whole_Int, .val tI], [.val t_api_Decimal, .val tI], fun x => amount_Fewest x.1 x.2.1⟩

noncomputable def cx_amount_Fewest : Cx := ⟨Tryz.prog, [(60, sp_whole_Int_Sign), (88, sp_whole_Of), (92, sp_whole_Int_By), (93, sp_whole_Int_Minus), (94, sp_amount_Made)]⟩

theorem den_amount_Fewest : ∀ x, denF cx_amount_Fewest anns_amount_Fewest none Tryz.f47 sp_amount_Fewest x = sp_amount_Fewest.m x := by intro x; kernel_rfl

theorem hb_amount_Fewest : HasBody Tryz.prog 47 := has_body (fn := Tryz.f47) (by kernel_rfl) rfl (by decide)

theorem ok_amount_Fewest : FunOk Tryz.prog 47 sp_amount_Fewest := fun_ok (X := cx_amount_Fewest) (.cons ok_whole_Int_Sign hb_whole_Int_Sign (.cons ok_whole_Of hb_whole_Of (.cons ok_whole_Int_By hb_whole_Int_By (.cons ok_whole_Int_Minus hb_whole_Int_Minus (.cons ok_amount_Made hb_amount_Made (.nil _)))))) (by kernel_rfl) sp_amount_Fewest anns_amount_Fewest none (by kernel_rfl) (fun x y h => (den_amount_Fewest x).trans h)

def anns_parcel_told : List (Nat × Ann) := []

noncomputable def sp_parcel_told : FSpec := ⟨[.val t_whole_Int], [.val t_api_Decimal, .val tI], fun x => parcel_told x.1⟩

noncomputable def cx_parcel_told : Cx := ⟨Tryz.prog, [(47, sp_amount_Fewest)]⟩

theorem den_parcel_told : ∀ x, denF cx_parcel_told anns_parcel_told none Tryz.f61 sp_parcel_told x = sp_parcel_told.m x := by intro x; kernel_rfl

theorem hb_parcel_told : HasBody Tryz.prog 61 := has_body (fn := Tryz.f61) (by kernel_rfl) rfl (by decide)

theorem ok_parcel_told : FunOk Tryz.prog 61 sp_parcel_told := fun_ok (X := cx_parcel_told) (.cons ok_amount_Fewest hb_amount_Fewest (.nil _)) (by kernel_rfl) sp_parcel_told anns_parcel_told none (by kernel_rfl) (fun x y h => (den_parcel_told x).trans h)

def anns_parcel_Laid : List (Nat × Ann) := [(10, ⟨[(0, .val (.slice t_api_Mass)), (3, .ref 3 0), (9, .own 3 tI), (10, .rowR 43), (44, .val (.slice t_api_State)), (45, .val tI), (46, .val tI)], [(3, [.val (.slice t_api_State)])], [.rowC 43 83 t_whole_Int], fuelOf _⟩),
  (18, ⟨[(3, .ref 3 0), (9, .val (.slice tI)), (10, .rowR 43), (13, .own 102 t_api_Mass), (65, .val (.slice t_api_Mass)), (66, .val tI), (67, .val tI)], [(3, [.val (.slice t_api_State)])], [.rowC 43 83 t_whole_Int], fuelOf _⟩),
  (22, ⟨[(3, .ref 3 0), (9, .val (.slice tI)), (10, .rowR 43), (13, .own 102 t_api_Mass), (15, .ref 15 0), (16, .ref 16 0), (65, .val (.slice t_api_Mass)), (66, .val tI), (67, .val tI), (74, .val (.slice tI)), (75, .val tI), (76, .val tI)], [(3, [.val (.slice t_api_State)]), (15, [.val .str, .val .str, .val tI, .val tI]), (16, [.val .bool, .val (.slice (.int .u32))])], [.rowC 43 83 t_whole_Int], fuelOf _⟩),
  (38, ⟨[(10, .rowR 43), (13, .own 102 t_api_Mass), (22, .own 46 t_api_Rest), (144, .val (.slice t_api_State)), (145, .val tI), (146, .val tI)], [], [.rowC 43 83 t_whole_Int], fuelOf _⟩),
  (100027, ⟨[(3, .ref 3 0), (9, .val (.slice tI)), (10, .rowR 43), (13, .own 102 t_api_Mass), (15, .ref 15 0), (16, .ref 16 0), (18, .val tI), (19, .ref 19 0), (65, .val (.slice t_api_Mass)), (66, .val tI), (67, .val tI), (74, .val (.slice tI)), (75, .val tI), (76, .val tI)], [(3, [.val (.slice t_api_State)]), (15, [.val .str, .val .str, .val tI, .val tI]), (16, [.val .bool, .val (.slice (.int .u32))]), (19, [.val .bool, .val (.slice (.int .u32))])], [.rowC 43 83 t_whole_Int], fun _ => 0⟩),
  (200010, ⟨[(0, .val (.slice t_api_Mass)), (3, .ref 3 0), (9, .own 3 tI), (10, .rowR 43)], [(3, [.val (.slice t_api_State)])], [.rowC 43 83 t_whole_Int], fun _ => 0⟩),
  (200018, ⟨[(3, .ref 3 0), (10, .rowR 43), (13, .own 102 t_api_Mass)], [(3, [.val (.slice t_api_State)])], [.rowC 43 83 t_whole_Int], fun _ => 0⟩),
  (200022, ⟨[(3, .ref 3 0), (9, .val (.slice tI)), (10, .rowR 43), (13, .own 102 t_api_Mass), (15, .ref 15 0), (16, .ref 16 0), (65, .val (.slice t_api_Mass)), (66, .val tI), (67, .val tI)], [(3, [.val (.slice t_api_State)]), (15, [.val .str, .val .str, .val tI, .val tI]), (16, [.val .bool, .val (.slice (.int .u32))])], [.rowC 43 83 t_whole_Int], fun _ => 0⟩),
  (200038, ⟨[(13, .own 102 t_api_Mass), (22, .own 46 t_api_Rest)], [], [], fun _ => 0⟩)]

noncomputable def sp_parcel_Laid : FSpec := ⟨[.val (.slice t_api_Mass), .val (.slice t_api_State)], [.val (.slice t_api_Rest), .val (.slice t_api_Mass), .val tI], fun x => parcel_Laid x.1 x.2.1⟩

noncomputable def cx_parcel_Laid : Cx := ⟨Tryz.prog, [(53, sp_parcel_itemsFault), (54, sp_parcel_linesFault), (55, sp_amount_Value), (56, sp_slices_SortStableFunc_int), (58, sp_whole_Int_Compare), (59, sp_whole_Int_Less), (60, sp_whole_Int_Sign), (61, sp_parcel_told)]⟩

theorem den_parcel_Laid : ∀ x, denF cx_parcel_Laid anns_parcel_Laid none Tryz.f18 sp_parcel_Laid x = sp_parcel_Laid.m x := by intro x; kernel_rfl

theorem hb_parcel_Laid : HasBody Tryz.prog 18 := has_body (fn := Tryz.f18) (by kernel_rfl) rfl (by decide)

theorem ok_parcel_Laid : FunOk Tryz.prog 18 sp_parcel_Laid := fun_ok (X := cx_parcel_Laid) (.cons ok_parcel_itemsFault hb_parcel_itemsFault (.cons ok_parcel_linesFault hb_parcel_linesFault (.cons ok_amount_Value hb_amount_Value (.cons ok_slices_SortStableFunc_int hb_slices_SortStableFunc_int (.cons ok_whole_Int_Compare hb_whole_Int_Compare (.cons ok_whole_Int_Less hb_whole_Int_Less (.cons ok_whole_Int_Sign hb_whole_Int_Sign (.cons ok_parcel_told hb_parcel_told (.nil _))))))))) (by kernel_rfl) sp_parcel_Laid anns_parcel_Laid none (by kernel_rfl) (fun x y h => (den_parcel_Laid x).trans h)

def anns_kit_InBytes : List (Nat × Ann) := [(2, ⟨[(0, .val .str), (1, .val (.int .u8)), (2, .val (.int .u8)), (9, .val tI), (10, .val tI)], [], [], fuelOf _⟩),
  (200002, ⟨[], [], [], fun _ => 0⟩)]

noncomputable def sp_kit_InBytes : FSpec := ⟨[.val .str, .val (.int .u8), .val (.int .u8)], [.val .bool], fun x => kit_InBytes x.1 x.2.1 x.2.2.1⟩

noncomputable def cx_kit_InBytes : Cx := ⟨Tryz.prog, []⟩

theorem den_kit_InBytes : ∀ x, denF cx_kit_InBytes anns_kit_InBytes none Tryz.f156 sp_kit_InBytes x = sp_kit_InBytes.m x := by intro x; kernel_rfl

theorem hb_kit_InBytes : HasBody Tryz.prog 156 := has_body (fn := Tryz.f156) (by kernel_rfl) rfl (by decide)

theorem ok_kit_InBytes : FunOk Tryz.prog 156 sp_kit_InBytes := fun_ok (X := cx_kit_InBytes) (.nil _) (by kernel_rfl) sp_kit_InBytes anns_kit_InBytes none (by kernel_rfl) (fun x y h => (den_kit_InBytes x).trans h)

def anns_kit_IsDigits : List (Nat × Ann) := []

noncomputable def sp_kit_IsDigits : FSpec := ⟨[.val .str], [.val .bool], fun x => kit_IsDigits x.1⟩

noncomputable def cx_kit_IsDigits : Cx := ⟨Tryz.prog, [(156, sp_kit_InBytes)]⟩

theorem den_kit_IsDigits : ∀ x, denF cx_kit_IsDigits anns_kit_IsDigits none Tryz.f120 sp_kit_IsDigits x = sp_kit_IsDigits.m x := by intro x; kernel_rfl

theorem hb_kit_IsDigits : HasBody Tryz.prog 120 := has_body (fn := Tryz.f120) (by kernel_rfl) rfl (by decide)

theorem ok_kit_IsDigits : FunOk Tryz.prog 120 sp_kit_IsDigits := fun_ok (X := cx_kit_IsDigits) (.cons ok_kit_InBytes hb_kit_InBytes (.nil _)) (by kernel_rfl) sp_kit_IsDigits anns_kit_IsDigits none (by kernel_rfl) (fun x y h => (den_kit_IsDigits x).trans h)

def anns_parcel_room : List (Nat × Ann) := [(5, ⟨[(4, .val tI), (15, .val tI), (16, .val tI)], [], [], fuelOf _⟩),
  (200005, ⟨[(4, .val tI)], [], [], fun _ => 0⟩)]

noncomputable def sp_parcel_room : FSpec := ⟨[.val .str], [.val tI, .val .bool], fun x => parcel_room x.1⟩

noncomputable def cx_parcel_room : Cx := ⟨Tryz.prog, [(120, sp_kit_IsDigits)]⟩

theorem den_parcel_room : ∀ x, denF cx_parcel_room anns_parcel_room none Tryz.f84 sp_parcel_room x = sp_parcel_room.m x := by intro x; kernel_rfl

theorem hb_parcel_room : HasBody Tryz.prog 84 := has_body (fn := Tryz.f84) (by kernel_rfl) rfl (by decide)

theorem ok_parcel_room : FunOk Tryz.prog 84 sp_parcel_room := fun_ok (X := cx_parcel_room) (.cons ok_kit_IsDigits hb_kit_IsDigits (.nil _)) (by kernel_rfl) sp_parcel_room anns_parcel_room none (by kernel_rfl) (fun x y h => (den_parcel_room x).trans h)

def anns_amount_isKind : List (Nat × Ann) := []

noncomputable def sp_amount_isKind : FSpec := ⟨[.val tI], [.val .bool], fun x => amount_isKind x.1⟩

noncomputable def cx_amount_isKind : Cx := ⟨Tryz.prog, [(73, sp_kit_Outside)]⟩

theorem den_amount_isKind : ∀ x, denF cx_amount_isKind anns_amount_isKind none Tryz.f122 sp_amount_isKind x = sp_amount_isKind.m x := by intro x; kernel_rfl

theorem hb_amount_isKind : HasBody Tryz.prog 122 := has_body (fn := Tryz.f122) (by kernel_rfl) rfl (by decide)

theorem ok_amount_isKind : FunOk Tryz.prog 122 sp_amount_isKind := fun_ok (X := cx_amount_isKind) (.cons ok_kit_Outside hb_kit_Outside (.nil _)) (by kernel_rfl) sp_amount_isKind anns_amount_isKind none (by kernel_rfl) (fun x y h => (den_amount_isKind x).trans h)

def anns_amount_lengths : List (Nat × Ann) := []

noncomputable def sp_amount_lengths : FSpec := ⟨[.val tI], [.val (.slice tI)], fun x => amount_lengths x.1⟩

noncomputable def cx_amount_lengths : Cx := ⟨Tryz.prog, []⟩

theorem den_amount_lengths : ∀ x, denF cx_amount_lengths anns_amount_lengths none Tryz.f161 sp_amount_lengths x = sp_amount_lengths.m x := by intro x; kernel_rfl

theorem hb_amount_lengths : HasBody Tryz.prog 161 := has_body (fn := Tryz.f161) (by kernel_rfl) rfl (by decide)

theorem ok_amount_lengths : FunOk Tryz.prog 161 sp_amount_lengths := fun_ok (X := cx_amount_lengths) (.nil _) (by kernel_rfl) sp_amount_lengths anns_amount_lengths none (by kernel_rfl) (fun x y h => (den_amount_lengths x).trans h)

def anns_slices_Index_int : List (Nat × Ann) := [(2, ⟨[(0, .val (.slice tI)), (1, .val tI), (7, .val tI), (8, .val tI)], [], [], fuelOf _⟩),
  (200002, ⟨[], [], [], fun _ => 0⟩)]

noncomputable def sp_slices_Index_int : FSpec := ⟨[.val (.slice tI), .val tI], [.val tI], fun x => slices_Index_int x.1 x.2.1⟩

noncomputable def cx_slices_Index_int : Cx := ⟨Tryz.prog, []⟩

theorem den_slices_Index_int : ∀ x, denF cx_slices_Index_int anns_slices_Index_int none Tryz.f107 sp_slices_Index_int x = sp_slices_Index_int.m x := by intro x; kernel_rfl

theorem hb_slices_Index_int : HasBody Tryz.prog 107 := has_body (fn := Tryz.f107) (by kernel_rfl) rfl (by decide)

theorem ok_slices_Index_int : FunOk Tryz.prog 107 sp_slices_Index_int := fun_ok (X := cx_slices_Index_int) (.nil _) (by kernel_rfl) sp_slices_Index_int anns_slices_Index_int none (by kernel_rfl) (fun x y h => (den_slices_Index_int x).trans h)

def anns_slices_Contains_int : List (Nat × Ann) := []

noncomputable def sp_slices_Contains_int : FSpec := ⟨[.val (.slice tI), .val tI], [.val .bool], fun x => slices_Contains_int x.1 x.2.1⟩

noncomputable def cx_slices_Contains_int : Cx := ⟨Tryz.prog, [(107, sp_slices_Index_int)]⟩

theorem den_slices_Contains_int : ∀ x, denF cx_slices_Contains_int anns_slices_Contains_int none Tryz.f71 sp_slices_Contains_int x = sp_slices_Contains_int.m x := by intro x; kernel_rfl

theorem hb_slices_Contains_int : HasBody Tryz.prog 71 := has_body (fn := Tryz.f71) (by kernel_rfl) rfl (by decide)

theorem ok_slices_Contains_int : FunOk Tryz.prog 71 sp_slices_Contains_int := fun_ok (X := cx_slices_Contains_int) (.cons ok_slices_Index_int hb_slices_Index_int (.nil _)) (by kernel_rfl) sp_slices_Contains_int anns_slices_Contains_int none (by kernel_rfl) (fun x y h => (den_slices_Contains_int x).trans h)

def anns_amount_isSum : List (Nat × Ann) := [(3, ⟨[(0, .val .str), (3, .val tI), (7, .val tI), (8, .val tI)], [], [], fuelOf _⟩),
  (200003, ⟨[(3, .val tI)], [], [], fun _ => 0⟩)]

noncomputable def sp_amount_isSum : FSpec := ⟨[.val .str], [.val .bool], fun x => amount_isSum x.1⟩

noncomputable def cx_amount_isSum : Cx := ⟨Tryz.prog, []⟩

theorem den_amount_isSum : ∀ x, denF cx_amount_isSum anns_amount_isSum none Tryz.f162 sp_amount_isSum x = sp_amount_isSum.m x := by intro x; kernel_rfl

theorem hb_amount_isSum : HasBody Tryz.prog 162 := has_body (fn := Tryz.f162) (by kernel_rfl) rfl (by decide)

theorem ok_amount_isSum : FunOk Tryz.prog 162 sp_amount_isSum := fun_ok (X := cx_amount_isSum) (.nil _) (by kernel_rfl) sp_amount_isSum anns_amount_isSum none (by kernel_rfl) (fun x y h => (den_amount_isSum x).trans h)

def anns_amount_isNumber : List (Nat × Ann) := []

noncomputable def sp_amount_isNumber : FSpec := ⟨[.val tI, .val .str], [.val .bool], fun x => amount_isNumber x.1 x.2.1⟩

noncomputable def cx_amount_isNumber : Cx := ⟨Tryz.prog, [(71, sp_slices_Contains_int), (120, sp_kit_IsDigits), (126, sp_amount_isBank), (160, sp_amount_isTax), (161, sp_amount_lengths), (162, sp_amount_isSum)]⟩

theorem den_amount_isNumber : ∀ x, denF cx_amount_isNumber anns_amount_isNumber none Tryz.f127 sp_amount_isNumber x = sp_amount_isNumber.m x := by intro x; kernel_rfl

theorem hb_amount_isNumber : HasBody Tryz.prog 127 := has_body (fn := Tryz.f127) (by kernel_rfl) rfl (by decide)

theorem ok_amount_isNumber : FunOk Tryz.prog 127 sp_amount_isNumber := fun_ok (X := cx_amount_isNumber) (.cons ok_slices_Contains_int hb_slices_Contains_int (.cons ok_kit_IsDigits hb_kit_IsDigits (.cons ok_amount_isBank hb_amount_isBank (.cons ok_amount_isTax hb_amount_isTax (.cons ok_amount_lengths hb_amount_lengths (.cons ok_amount_isSum hb_amount_isSum (.nil _))))))) (by kernel_rfl) sp_amount_isNumber anns_amount_isNumber none (by kernel_rfl) (fun x y h => (den_amount_isNumber x).trans h)

def anns_amount_Completed : List (Nat × Ann) := [(16, ⟨[(0, .val tI), (1, .val .str), (49, .val tI)], [], [], fuelOf _⟩),
  (200016, ⟨[], [], [], fun _ => 0⟩)]

noncomputable def sp_amount_Completed : FSpec := ⟨[.val tI, .val .str], [.val .str, .val tI], fun x => amount_Completed x.1 x.2.1⟩

noncomputable def cx_amount_Completed : Cx := ⟨Tryz.prog, [(85, sp_strconv_Itoa), (122, sp_amount_isKind), (123, sp_amount_isBody), (124, sp_amount_bankRestOf), (125, sp_amount_padded), (126, sp_amount_isBank), (127, sp_amount_isNumber)]⟩

theorem den_amount_Completed : ∀ x, denF cx_amount_Completed anns_amount_Completed none Tryz.f86 sp_amount_Completed x = sp_amount_Completed.m x := by intro x; kernel_rfl

theorem hb_amount_Completed : HasBody Tryz.prog 86 := has_body (fn := Tryz.f86) (by kernel_rfl) rfl (by decide)

theorem ok_amount_Completed : FunOk Tryz.prog 86 sp_amount_Completed := fun_ok (X := cx_amount_Completed) (.cons ok_strconv_Itoa hb_strconv_Itoa (.cons ok_amount_isKind hb_amount_isKind (.cons ok_amount_isBody hb_amount_isBody (.cons ok_amount_bankRestOf hb_amount_bankRestOf (.cons ok_amount_padded hb_amount_padded (.cons ok_amount_isBank hb_amount_isBank (.cons ok_amount_isNumber hb_amount_isNumber (.nil _)))))))) (by kernel_rfl) sp_amount_Completed anns_amount_Completed none (by kernel_rfl) (fun x y h => (den_amount_Completed x).trans h)

def anns_parcel_LabelOf : List (Nat × Ann) := []

noncomputable def sp_parcel_LabelOf : FSpec := ⟨[.val .str, .val tI], [.val .str, .val tI], fun x => parcel_LabelOf x.1 x.2.1⟩

noncomputable def cx_parcel_LabelOf : Cx := ⟨Tryz.prog, [(73, sp_kit_Outside), (84, sp_parcel_room), (85, sp_strconv_Itoa), (86, sp_amount_Completed), (87, sp_strings_Repeat)]⟩

theorem den_parcel_LabelOf : ∀ x, denF cx_parcel_LabelOf anns_parcel_LabelOf none Tryz.f44 sp_parcel_LabelOf x = sp_parcel_LabelOf.m x := by intro x; kernel_rfl

theorem hb_parcel_LabelOf : HasBody Tryz.prog 44 := has_body (fn := Tryz.f44) (by kernel_rfl) rfl (by decide)

theorem ok_parcel_LabelOf : FunOk Tryz.prog 44 sp_parcel_LabelOf := fun_ok (X := cx_parcel_LabelOf) (.cons ok_kit_Outside hb_kit_Outside (.cons ok_parcel_room hb_parcel_room (.cons ok_strconv_Itoa hb_strconv_Itoa (.cons ok_amount_Completed hb_amount_Completed (.cons ok_strings_Repeat hb_strings_Repeat (.nil _)))))) (by kernel_rfl) sp_parcel_LabelOf anns_parcel_LabelOf none (by kernel_rfl) (fun x y h => (den_parcel_LabelOf x).trans h)

def anns_l10_awake : List (Nat × Ann) := []

noncomputable def sp_l10_awake : FSpec := ⟨[], [.val .bool], fun x => l10_awake ⟩

noncomputable def cx_l10_awake : Cx := ⟨Tryz.prog, [(44, sp_parcel_LabelOf)]⟩

theorem den_l10_awake : ∀ x, denF cx_l10_awake anns_l10_awake none Tryz.f13 sp_l10_awake x = sp_l10_awake.m x := by intro x; kernel_rfl

theorem hb_l10_awake : HasBody Tryz.prog 13 := has_body (fn := Tryz.f13) (by kernel_rfl) rfl (by decide)

theorem ok_l10_awake : FunOk Tryz.prog 13 sp_l10_awake := fun_ok (X := cx_l10_awake) (.cons ok_parcel_LabelOf hb_parcel_LabelOf (.nil _)) (by kernel_rfl) sp_l10_awake anns_l10_awake none (by kernel_rfl) (fun x y h => (den_l10_awake x).trans h)

def anns_r1_Of : List (Nat × Ann) := [(2, ⟨[(0, .val tI), (2, .ref 2 0), (3, .ref 3 0)], [(2, [.val .bool, .own 3 tI]), (3, [.val .bool, .own 3 tI])], [], fuelOf _⟩),
  (200002, ⟨[(2, .ref 2 0), (3, .ref 3 0)], [(2, [.val .bool, .own 3 tI]), (3, [.val .bool, .own 3 tI])], [], fun _ => 0⟩)]

noncomputable def sp_r1_Of : FSpec := ⟨[.val tI], [.val t_interchangeref1_Num], fun x => r1_Of x.1⟩

noncomputable def cx_r1_Of : Cx := ⟨Tryz.prog, []⟩

theorem den_r1_Of : ∀ x, denF cx_r1_Of anns_r1_Of none Tryz.f97 sp_r1_Of x = sp_r1_Of.m x := by intro x; kernel_rfl

theorem hb_r1_Of : HasBody Tryz.prog 97 := has_body (fn := Tryz.f97) (by kernel_rfl) rfl (by decide)

theorem ok_r1_Of : FunOk Tryz.prog 97 sp_r1_Of := fun_ok (X := cx_r1_Of) (.nil _) (by kernel_rfl) sp_r1_Of anns_r1_Of none (by kernel_rfl) (fun x y h => (den_r1_Of x).trans h)

def anns_r1_trimmed : List (Nat × Ann) := [(1, ⟨[(1, .ref 1 0), (2, .ref 2 0)], [(1, [.val .bool, .val (.slice tI)]), (2, [.val .bool, .own 3 tI])], [], fuelOf _⟩),
  (200001, ⟨[(1, .ref 1 0), (2, .ref 2 0)], [(1, [.val .bool, .val (.slice tI)]), (2, [.val .bool, .own 3 tI])], [], fun _ => 0⟩)]

noncomputable def sp_r1_trimmed : FSpec := ⟨[.val t_interchangeref1_Num], [.val t_interchangeref1_Num], fun x => r1_trimmed x.1⟩

noncomputable def cx_r1_trimmed : Cx := ⟨Tryz.prog, []⟩

theorem den_r1_trimmed : ∀ x, denF cx_r1_trimmed anns_r1_trimmed none Tryz.f67 sp_r1_trimmed x = sp_r1_trimmed.m x := by intro x; kernel_rfl

theorem hb_r1_trimmed : HasBody Tryz.prog 67 := has_body (fn := Tryz.f67) (by kernel_rfl) rfl (by decide)

theorem ok_r1_trimmed : FunOk Tryz.prog 67 sp_r1_trimmed := fun_ok (X := cx_r1_trimmed) (.nil _) (by kernel_rfl) sp_r1_trimmed anns_r1_trimmed none (by kernel_rfl) (fun x y h => (den_r1_trimmed x).trans h)

def anns_r1_TimesOf : List (Nat × Ann) := [(3, ⟨[(3, .ref 3 0), (4, .ref 4 0), (5, .ref 5 0), (27, .val (.slice tI)), (28, .val tI), (29, .val tI)], [(3, [.val .bool, .val (.slice tI)]), (4, [.val .bool, .own 3 tI]), (5, [.val .bool, .rowR 24])], [.rowC 24 3 tI], fuelOf _⟩),
  (6, ⟨[(3, .ref 3 0), (4, .ref 4 0), (5, .ref 5 0), (6, .val tI), (7, .val tI), (27, .val (.slice tI)), (28, .val tI), (29, .val tI), (35, .val (.slice tI)), (36, .val tI), (37, .val tI)], [(3, [.val .bool, .val (.slice tI)]), (4, [.val .bool, .own 3 tI]), (5, [.val .bool, .rowR 24])], [.rowC 24 3 tI], fuelOf _⟩),
  (14, ⟨[(4, .ref 4 0), (5, .ref 5 0), (86, .val tI), (87, .val tI)], [(4, [.val .bool, .own 3 tI]), (5, [.val .bool, .rowR 24])], [.rowC 24 3 tI], fuelOf _⟩),
  (200003, ⟨[(4, .ref 4 0), (5, .ref 5 0)], [(4, [.val .bool, .own 3 tI]), (5, [.val .bool, .rowR 24])], [.rowC 24 3 tI], fun _ => 0⟩),
  (200006, ⟨[(3, .ref 3 0), (4, .ref 4 0), (5, .ref 5 0), (27, .val (.slice tI)), (28, .val tI), (29, .val tI)], [(3, [.val .bool, .val (.slice tI)]), (4, [.val .bool, .own 3 tI]), (5, [.val .bool, .rowR 24])], [.rowC 24 3 tI], fun _ => 0⟩),
  (200014, ⟨[(4, .ref 4 0), (5, .ref 5 0)], [(4, [.val .bool, .own 3 tI]), (5, [.val .bool, .rowR 24])], [.rowC 24 3 tI], fun _ => 0⟩)]

noncomputable def sp_r1_TimesOf : FSpec := ⟨[.val t_interchangeref1_Num, .val t_interchangeref1_Num], [.val t_interchangeref1_Num], fun x => r1_TimesOf x.1 x.2.1⟩

noncomputable def cx_r1_TimesOf : Cx := ⟨Tryz.prog, [(67, sp_r1_trimmed)]⟩

theorem den_r1_TimesOf : ∀ x, denF cx_r1_TimesOf anns_r1_TimesOf none Tryz.f96 sp_r1_TimesOf x = sp_r1_TimesOf.m x := by intro x; kernel_rfl

theorem hb_r1_TimesOf : HasBody Tryz.prog 96 := has_body (fn := Tryz.f96) (by kernel_rfl) rfl (by decide)

theorem ok_r1_TimesOf : FunOk Tryz.prog 96 sp_r1_TimesOf := fun_ok (X := cx_r1_TimesOf) (.cons ok_r1_trimmed hb_r1_trimmed (.nil _)) (by kernel_rfl) sp_r1_TimesOf anns_r1_TimesOf none (by kernel_rfl) (fun x y h => (den_r1_TimesOf x).trans h)

def anns_r1_Power : List (Nat × Ann) := [(3, ⟨[(2, .ref 2 0), (3, .ref 3 0), (5, .val tI), (6, .val tI)], [(2, [.val .bool, .own 3 tI]), (3, [.val .bool, .val (.slice tI)])], [], fuelOf _⟩),
  (200003, ⟨[(2, .ref 2 0), (3, .ref 3 0)], [(2, [.val .bool, .own 3 tI]), (3, [.val .bool, .val (.slice tI)])], [], fun _ => 0⟩)]

noncomputable def sp_r1_Power : FSpec := ⟨[.val tI], [.val t_interchangeref1_Num], fun x => r1_Power x.1⟩

noncomputable def cx_r1_Power : Cx := ⟨Tryz.prog, [(96, sp_r1_TimesOf), (97, sp_r1_Of)]⟩

theorem den_r1_Power : ∀ x, denF cx_r1_Power anns_r1_Power none Tryz.f98 sp_r1_Power x = sp_r1_Power.m x := by intro x; kernel_rfl

theorem hb_r1_Power : HasBody Tryz.prog 98 := has_body (fn := Tryz.f98) (by kernel_rfl) rfl (by decide)

theorem ok_r1_Power : FunOk Tryz.prog 98 sp_r1_Power := fun_ok (X := cx_r1_Power) (.cons ok_r1_TimesOf hb_r1_TimesOf (.cons ok_r1_Of hb_r1_Of (.nil _))) (by kernel_rfl) sp_r1_Power anns_r1_Power none (by kernel_rfl) (fun x y h => (den_r1_Power x).trans h)

def anns_r1_At : List (Nat × Ann) := []

noncomputable def sp_r1_At : FSpec := ⟨[.val t_api_Decimal, .val tI], [.val t_interchangeref1_Num], fun x => r1_At x.1 x.2.1⟩

noncomputable def cx_r1_At : Cx := ⟨Tryz.prog, [(96, sp_r1_TimesOf), (97, sp_r1_Of), (98, sp_r1_Power)]⟩

theorem den_r1_At : ∀ x, denF cx_r1_At anns_r1_At none Tryz.f105 sp_r1_At x = sp_r1_At.m x := by intro x; kernel_rfl

theorem hb_r1_At : HasBody Tryz.prog 105 := has_body (fn := Tryz.f105) (by kernel_rfl) rfl (by decide)

theorem ok_r1_At : FunOk Tryz.prog 105 sp_r1_At := fun_ok (X := cx_r1_At) (.cons ok_r1_TimesOf hb_r1_TimesOf (.cons ok_r1_Of hb_r1_Of (.cons ok_r1_Power hb_r1_Power (.nil _)))) (by kernel_rfl) sp_r1_At anns_r1_At none (by kernel_rfl) (fun x y h => (den_r1_At x).trans h)

def anns_r1_Minus : List (Nat × Ann) := []

noncomputable def sp_r1_Minus : FSpec := ⟨[.val t_interchangeref1_Num], [.val t_interchangeref1_Num], fun x => r1_Minus x.1⟩

noncomputable def cx_r1_Minus : Cx := ⟨Tryz.prog, []⟩

theorem den_r1_Minus : ∀ x, denF cx_r1_Minus anns_r1_Minus none Tryz.f64 sp_r1_Minus x = sp_r1_Minus.m x := by intro x; kernel_rfl

theorem hb_r1_Minus : HasBody Tryz.prog 64 := has_body (fn := Tryz.f64) (by kernel_rfl) rfl (by decide)

theorem ok_r1_Minus : FunOk Tryz.prog 64 sp_r1_Minus := fun_ok (X := cx_r1_Minus) (.nil _) (by kernel_rfl) sp_r1_Minus anns_r1_Minus none (by kernel_rfl) (fun x y h => (den_r1_Minus x).trans h)

def anns_r1_sizes : List (Nat × Ann) := [(4, ⟨[(0, .val (.slice tI)), (1, .val (.slice tI)), (5, .val tI)], [], [], fuelOf _⟩),
  (200004, ⟨[], [], [], fun _ => 0⟩)]

noncomputable def sp_r1_sizes : FSpec := ⟨[.val (.slice tI), .val (.slice tI)], [.val tI], fun x => r1_sizes x.1 x.2.1⟩

noncomputable def cx_r1_sizes : Cx := ⟨Tryz.prog, []⟩

theorem den_r1_sizes : ∀ x, denF cx_r1_sizes anns_r1_sizes none Tryz.f65 sp_r1_sizes x = sp_r1_sizes.m x := by intro x; kernel_rfl

theorem hb_r1_sizes : HasBody Tryz.prog 65 := has_body (fn := Tryz.f65) (by kernel_rfl) rfl (by decide)

theorem ok_r1_sizes : FunOk Tryz.prog 65 sp_r1_sizes := fun_ok (X := cx_r1_sizes) (.nil _) (by kernel_rfl) sp_r1_sizes anns_r1_sizes none (by kernel_rfl) (fun x y h => (den_r1_sizes x).trans h)

def anns_r1_digit : List (Nat × Ann) := []

noncomputable def sp_r1_digit : FSpec := ⟨[.val (.slice tI), .val tI], [.val tI], fun x => r1_digit x.1 x.2.1⟩

noncomputable def cx_r1_digit : Cx := ⟨Tryz.prog, []⟩

theorem den_r1_digit : ∀ x, denF cx_r1_digit anns_r1_digit none Tryz.f66 sp_r1_digit x = sp_r1_digit.m x := by intro x; kernel_rfl

theorem hb_r1_digit : HasBody Tryz.prog 66 := has_body (fn := Tryz.f66) (by kernel_rfl) rfl (by decide)

theorem ok_r1_digit : FunOk Tryz.prog 66 sp_r1_digit := fun_ok (X := cx_r1_digit) (.nil _) (by kernel_rfl) sp_r1_digit anns_r1_digit none (by kernel_rfl) (fun x y h => (den_r1_digit x).trans h)

def anns_r1_Plus : List (Nat × Ann) := [(7, ⟨[(2, .ref 2 0), (3, .ref 3 0), (4, .ref 4 0), (5, .ref 5 0), (6, .val tI), (31, .val tI), (32, .val tI)], [(2, [.val .bool, .val (.slice tI)]), (3, [.val .bool, .val (.slice tI)]), (4, [.val .bool, .own 3 tI]), (5, [.val .bool, .own 3 tI])], [], fuelOf _⟩),
  (19, ⟨[(2, .ref 2 0), (3, .ref 3 0), (4, .ref 4 0), (9, .ref 9 0), (10, .val tI), (70, .val tI), (71, .val tI)], [(2, [.val .bool, .val (.slice tI)]), (3, [.val .bool, .val (.slice tI)]), (4, [.val .bool, .own 3 tI]), (9, [.val .bool, .own 3 tI])], [], fuelOf _⟩),
  (100003, ⟨[(2, .ref 2 0), (3, .ref 3 0), (4, .ref 4 0)], [(2, [.val .bool, .val (.slice tI)]), (3, [.val .bool, .val (.slice tI)]), (4, [.val .bool, .own 3 tI])], [], fun _ => 0⟩),
  (100012, ⟨[(2, .ref 2 0), (3, .ref 3 0), (4, .ref 4 0), (5, .ref 5 0), (6, .val tI), (8, .val tI), (31, .val tI), (32, .val tI)], [(2, [.val .bool, .val (.slice tI)]), (3, [.val .bool, .val (.slice tI)]), (4, [.val .bool, .own 3 tI]), (5, [.val .bool, .own 3 tI])], [], fun _ => 0⟩),
  (200007, ⟨[(4, .ref 4 0), (5, .ref 5 0)], [(4, [.val .bool, .own 3 tI]), (5, [.val .bool, .own 3 tI])], [], fun _ => 0⟩),
  (200019, ⟨[(4, .ref 4 0), (9, .ref 9 0)], [(4, [.val .bool, .own 3 tI]), (9, [.val .bool, .own 3 tI])], [], fun _ => 0⟩)]

noncomputable def sp_r1_Plus : FSpec := ⟨[.val t_interchangeref1_Num, .val t_interchangeref1_Num], [.val t_interchangeref1_Num], fun x => r1_Plus x.1 x.2.1⟩

noncomputable def cx_r1_Plus : Cx := ⟨Tryz.prog, [(65, sp_r1_sizes), (66, sp_r1_digit), (67, sp_r1_trimmed)]⟩

theorem den_r1_Plus : ∀ x, denF cx_r1_Plus anns_r1_Plus none Tryz.f21 sp_r1_Plus x = sp_r1_Plus.m x := by intro x; kernel_rfl

theorem hb_r1_Plus : HasBody Tryz.prog 21 := has_body (fn := Tryz.f21) (by kernel_rfl) rfl (by decide)

theorem ok_r1_Plus : FunOk Tryz.prog 21 sp_r1_Plus := fun_ok (X := cx_r1_Plus) (.cons ok_r1_sizes hb_r1_sizes (.cons ok_r1_digit hb_r1_digit (.cons ok_r1_trimmed hb_r1_trimmed (.nil _)))) (by kernel_rfl) sp_r1_Plus anns_r1_Plus none (by kernel_rfl) (fun x y h => (den_r1_Plus x).trans h)

def anns_r1_Sign : List (Nat × Ann) := []

noncomputable def sp_r1_Sign : FSpec := ⟨[.val t_interchangeref1_Num], [.val tI], fun x => r1_Sign x.1⟩

noncomputable def cx_r1_Sign : Cx := ⟨Tryz.prog, []⟩

theorem den_r1_Sign : ∀ x, denF cx_r1_Sign anns_r1_Sign none Tryz.f63 sp_r1_Sign x = sp_r1_Sign.m x := by intro x; kernel_rfl

theorem hb_r1_Sign : HasBody Tryz.prog 63 := has_body (fn := Tryz.f63) (by kernel_rfl) rfl (by decide)

theorem ok_r1_Sign : FunOk Tryz.prog 63 sp_r1_Sign := fun_ok (X := cx_r1_Sign) (.nil _) (by kernel_rfl) sp_r1_Sign anns_r1_Sign none (by kernel_rfl) (fun x y h => (den_r1_Sign x).trans h)

def anns_r1_Cmp : List (Nat × Ann) := []

noncomputable def sp_r1_Cmp : FSpec := ⟨[.val t_interchangeref1_Num, .val t_interchangeref1_Num], [.val tI], fun x => r1_Cmp x.1 x.2.1⟩

noncomputable def cx_r1_Cmp : Cx := ⟨Tryz.prog, [(21, sp_r1_Plus), (63, sp_r1_Sign), (64, sp_r1_Minus)]⟩

theorem den_r1_Cmp : ∀ x, denF cx_r1_Cmp anns_r1_Cmp none Tryz.f20 sp_r1_Cmp x = sp_r1_Cmp.m x := by intro x; kernel_rfl

theorem hb_r1_Cmp : HasBody Tryz.prog 20 := has_body (fn := Tryz.f20) (by kernel_rfl) rfl (by decide)

theorem ok_r1_Cmp : FunOk Tryz.prog 20 sp_r1_Cmp := fun_ok (X := cx_r1_Cmp) (.cons ok_r1_Plus hb_r1_Plus (.cons ok_r1_Sign hb_r1_Sign (.cons ok_r1_Minus hb_r1_Minus (.nil _)))) (by kernel_rfl) sp_r1_Cmp anns_r1_Cmp none (by kernel_rfl) (fun x y h => (den_r1_Cmp x).trans h)

def anns_r10_cmp : List (Nat × Ann) := []

noncomputable def sp_r10_cmp : FSpec := ⟨[.val t_api_Decimal, .val t_api_Decimal], [.val tI], fun x => r10_cmp x.1 x.2.1⟩

noncomputable def cx_r10_cmp : Cx := ⟨Tryz.prog, [(20, sp_r1_Cmp), (105, sp_r1_At)]⟩

theorem den_r10_cmp : ∀ x, denF cx_r10_cmp anns_r10_cmp none Tryz.f62 sp_r10_cmp x = sp_r10_cmp.m x := by intro x; kernel_rfl

theorem hb_r10_cmp : HasBody Tryz.prog 62 := has_body (fn := Tryz.f62) (by kernel_rfl) rfl (by decide)

theorem ok_r10_cmp : FunOk Tryz.prog 62 sp_r10_cmp := fun_ok (X := cx_r10_cmp) (.cons ok_r1_Cmp hb_r1_Cmp (.cons ok_r1_At hb_r1_At (.nil _))) (by kernel_rfl) sp_r10_cmp anns_r10_cmp none (by kernel_rfl) (fun x y h => (den_r10_cmp x).trans h)

def anns_r10_AtMost : List (Nat × Ann) := []

noncomputable def sp_r10_AtMost : FSpec := ⟨[.val t_api_Decimal, .val t_api_Decimal], [.val .bool], fun x => r10_AtMost x.1 x.2.1⟩

noncomputable def cx_r10_AtMost : Cx := ⟨Tryz.prog, [(62, sp_r10_cmp)]⟩

theorem den_r10_AtMost : ∀ x, denF cx_r10_AtMost anns_r10_AtMost none Tryz.f19 sp_r10_AtMost x = sp_r10_AtMost.m x := by intro x; kernel_rfl

theorem hb_r10_AtMost : HasBody Tryz.prog 19 := has_body (fn := Tryz.f19) (by kernel_rfl) rfl (by decide)

theorem ok_r10_AtMost : FunOk Tryz.prog 19 sp_r10_AtMost := fun_ok (X := cx_r10_AtMost) (.cons ok_r10_cmp hb_r10_cmp (.nil _)) (by kernel_rfl) sp_r10_AtMost anns_r10_AtMost none (by kernel_rfl) (fun x y h => (den_r10_AtMost x).trans h)

def anns_r10_units : List (Nat × Ann) := []

noncomputable def sp_r10_units : FSpec := ⟨[.val t_api_Decimal], [.val t_interchangeref1_Num], fun x => r10_units x.1⟩

noncomputable def cx_r10_units : Cx := ⟨Tryz.prog, [(105, sp_r1_At)]⟩

theorem den_r10_units : ∀ x, denF cx_r10_units anns_r10_units none Tryz.f68 sp_r10_units x = sp_r10_units.m x := by intro x; kernel_rfl

theorem hb_r10_units : HasBody Tryz.prog 68 := has_body (fn := Tryz.f68) (by kernel_rfl) rfl (by decide)

theorem ok_r10_units : FunOk Tryz.prog 68 sp_r10_units := fun_ok (X := cx_r10_units) (.cons ok_r1_At hb_r1_At (.nil _)) (by kernel_rfl) sp_r10_units anns_r10_units none (by kernel_rfl) (fun x y h => (den_r10_units x).trans h)

def anns_r10_Taken : List (Nat × Ann) := [(3, ⟨[(2, .ref 2 0), (3, .ref 3 0), (6, .val (.slice t_api_Rest)), (7, .val tI), (8, .val tI)], [(2, [.val .bool, .own 3 tI]), (3, [.val .bool, .val (.slice tI)])], [], fuelOf _⟩),
  (200003, ⟨[(2, .ref 2 0), (3, .ref 3 0)], [(2, [.val .bool, .own 3 tI]), (3, [.val .bool, .val (.slice tI)])], [], fun _ => 0⟩)]

noncomputable def sp_r10_Taken : FSpec := ⟨[.val (.slice t_api_Rest)], [.val t_interchangeref1_Num], fun x => r10_Taken x.1⟩

noncomputable def cx_r10_Taken : Cx := ⟨Tryz.prog, [(21, sp_r1_Plus), (68, sp_r10_units)]⟩

theorem den_r10_Taken : ∀ x, denF cx_r10_Taken anns_r10_Taken none Tryz.f22 sp_r10_Taken x = sp_r10_Taken.m x := by intro x; kernel_rfl

theorem hb_r10_Taken : HasBody Tryz.prog 22 := has_body (fn := Tryz.f22) (by kernel_rfl) rfl (by decide)

theorem ok_r10_Taken : FunOk Tryz.prog 22 sp_r10_Taken := fun_ok (X := cx_r10_Taken) (.cons ok_r1_Plus hb_r1_Plus (.cons ok_r10_units hb_r10_units (.nil _))) (by kernel_rfl) sp_r10_Taken anns_r10_Taken none (by kernel_rfl) (fun x y h => (den_r10_Taken x).trans h)

def anns_r10_SumOf : List (Nat × Ann) := [(3, ⟨[(2, .ref 2 0), (3, .ref 3 0), (6, .val (.slice t_api_Mass)), (7, .val tI), (8, .val tI)], [(2, [.val .bool, .own 3 tI]), (3, [.val .bool, .val (.slice tI)])], [], fuelOf _⟩),
  (200003, ⟨[(2, .ref 2 0), (3, .ref 3 0)], [(2, [.val .bool, .own 3 tI]), (3, [.val .bool, .val (.slice tI)])], [], fun _ => 0⟩)]

noncomputable def sp_r10_SumOf : FSpec := ⟨[.val (.slice t_api_Mass)], [.val t_interchangeref1_Num], fun x => r10_SumOf x.1⟩

noncomputable def cx_r10_SumOf : Cx := ⟨Tryz.prog, [(21, sp_r1_Plus), (68, sp_r10_units)]⟩

theorem den_r10_SumOf : ∀ x, denF cx_r10_SumOf anns_r10_SumOf none Tryz.f23 sp_r10_SumOf x = sp_r10_SumOf.m x := by intro x; kernel_rfl

theorem hb_r10_SumOf : HasBody Tryz.prog 23 := has_body (fn := Tryz.f23) (by kernel_rfl) rfl (by decide)

theorem ok_r10_SumOf : FunOk Tryz.prog 23 sp_r10_SumOf := fun_ok (X := cx_r10_SumOf) (.cons ok_r1_Plus hb_r1_Plus (.cons ok_r10_units hb_r10_units (.nil _))) (by kernel_rfl) sp_r10_SumOf anns_r10_SumOf none (by kernel_rfl) (fun x y h => (den_r10_SumOf x).trans h)

def anns_l10_ParcelLaysAddUp : List (Nat × Ann) := [(5, ⟨[(0, .val (.slice t_api_Mass)), (1, .val (.slice t_api_State)), (5, .val (.slice t_api_Rest)), (6, .val (.slice t_api_Mass)), (33, .val (.slice t_api_Rest)), (34, .val tI), (35, .val tI)], [], [], fuelOf _⟩),
  (9, ⟨[(0, .val (.slice t_api_Mass)), (1, .val (.slice t_api_State)), (5, .val (.slice t_api_Rest)), (6, .val (.slice t_api_Mass)), (9, .ref 9 0), (10, .val .bool), (33, .val (.slice t_api_Rest)), (34, .val tI), (35, .val tI), (39, .val (.slice t_api_State)), (40, .val tI), (41, .val tI)], [(9, [.val tI, .val tI, .val tI, .val tI])], [], fuelOf _⟩),
  (200005, ⟨[(0, .val (.slice t_api_Mass)), (5, .val (.slice t_api_Rest)), (6, .val (.slice t_api_Mass))], [], [], fun _ => 0⟩),
  (200009, ⟨[(0, .val (.slice t_api_Mass)), (1, .val (.slice t_api_State)), (5, .val (.slice t_api_Rest)), (6, .val (.slice t_api_Mass)), (10, .val .bool), (33, .val (.slice t_api_Rest)), (34, .val tI), (35, .val tI)], [], [], fun _ => 0⟩)]

noncomputable def sp_l10_ParcelLaysAddUp : FSpec := ⟨[.val (.slice t_api_Mass), .val (.slice t_api_State)], [.val .bool], fun x => l10_ParcelLaysAddUp x.1 x.2.1⟩

noncomputable def cx_l10_ParcelLaysAddUp : Cx := ⟨Tryz.prog, [(13, sp_l10_awake), (18, sp_parcel_Laid), (19, sp_r10_AtMost), (20, sp_r1_Cmp), (21, sp_r1_Plus), (22, sp_r10_Taken), (23, sp_r10_SumOf)]⟩

theorem den_l10_ParcelLaysAddUp : ∀ x, denF cx_l10_ParcelLaysAddUp anns_l10_ParcelLaysAddUp none Tryz.f5 sp_l10_ParcelLaysAddUp x = sp_l10_ParcelLaysAddUp.m x := by intro x; kernel_rfl

theorem ok_l10_ParcelLaysAddUp : FunOk Tryz.prog 5 sp_l10_ParcelLaysAddUp := fun_ok (X := cx_l10_ParcelLaysAddUp) (.cons ok_l10_awake hb_l10_awake (.cons ok_parcel_Laid hb_parcel_Laid (.cons ok_r10_AtMost hb_r10_AtMost (.cons ok_r1_Cmp hb_r1_Cmp (.cons ok_r1_Plus hb_r1_Plus (.cons ok_r10_Taken hb_r10_Taken (.cons ok_r10_SumOf hb_r10_SumOf (.nil _)))))))) (by kernel_rfl) sp_l10_ParcelLaysAddUp anns_l10_ParcelLaysAddUp none (by kernel_rfl) (fun x y h => (den_l10_ParcelLaysAddUp x).trans h)

end Go.Proofs.SeatU
