/-
  Functions of the library by contracts. No condition.
-/
import Derived.Test.YtilaijcbckgmmabGreatDoorYx
import Derived.Test.YtilaijcbckgmmabGreatDoorYd
import Derived.Test.YtilaijcbckgmmabGreatDoorProg
import Derived.Shelf.LaysM
import Derived.Shelf.Strings.SlTrimAscii
import Derived.Shelf.Small.Strs
import Derived.Shelf.SlIterI.Sorted
import Derived.WalkKit
import Derived.LoopN
set_option linter.all false
namespace Go.Proofs
open Go.Shelf
def Tryz.YL:Go.Shelf.Ren:=⟨fun | 160=>61 | 232=>115 | 231=>114 | 227=>116 | 234=>118 | 233=>117 | 236=>120 | 235=>119 | 228=>163 | 271=>166 | 151=>165 | 197=>164 | 120=>195 | 152=>194 | 260=>193 | 137=>217 | 119=>218 | 224=>219 | 225=>220 | 217=>230 | 266=>234 | n=>n,fun | 9=>9 | 4=>4 | 3=>3 | 5=>5 | 117=>206 | 116=>205 | 0=>0 | 124=>209 | 21=>21 | 105=>239 | 46=>162 | 119=>279 | 139=>282 | 138=>281 | n=>n,fun | 3=>0 | 4=>1 | n=>n⟩
theorem Tryz.aeh:Go.Proofs.Lays.n160 Tryz.prog Tryz.YL:={
 mixed:=by kernel_rfl
 f119:=Tryz.func218.trans (congrArg some (by kernel_rfl))
 f120:=Tryz.func195.trans (congrArg some (by kernel_rfl))
 f137:=Tryz.func217.trans (congrArg some (by kernel_rfl))
 f151:=Tryz.func165.trans (congrArg some (by kernel_rfl))
 f152:=Tryz.func194.trans (congrArg some (by kernel_rfl))
 f160:=Tryz.func61.trans (congrArg some (by kernel_rfl))
 f197:=Tryz.func164.trans (congrArg some (by kernel_rfl))
 f217:=Tryz.func230.trans (congrArg some (by kernel_rfl))
 f224:=Tryz.func219.trans (congrArg some (by kernel_rfl))
 f225:=Tryz.func220.trans (congrArg some (by kernel_rfl))
 f227:=Tryz.func116.trans (congrArg some (by kernel_rfl))
 f228:=Tryz.func163.trans (congrArg some (by kernel_rfl))
 f231:=Tryz.func114.trans (congrArg some (by kernel_rfl))
 f232:=Tryz.func115.trans (congrArg some (by kernel_rfl))
 f233:=Tryz.func117.trans (congrArg some (by kernel_rfl))
 f234:=Tryz.func118.trans (congrArg some (by kernel_rfl))
 f235:=Tryz.func119.trans (congrArg some (by kernel_rfl))
 f236:=Tryz.func120.trans (congrArg some (by kernel_rfl))
 f260:=Tryz.func193.trans (congrArg some (by kernel_rfl))
 f266:=Tryz.func234.trans (congrArg some (by kernel_rfl))
 f271:=Tryz.func166.trans (congrArg some (by kernel_rfl))
 t0:=Tryz.underlying0
 a0:=Tryz.isAgg0
 z0:=Tryz.sizeOf0
 v0:=Tryz.zeroValue0
 t3:=Tryz.underlying3
 a3:=Tryz.isAgg3
 z3:=Tryz.sizeOf3
 v3:=Tryz.zeroValue3
 t4:=Tryz.underlying4
 a4:=Tryz.isAgg4
 z4:=Tryz.sizeOf4
 v4:=Tryz.zeroValue4
 t5:=Tryz.underlying5
 a5:=Tryz.isAgg5
 z5:=Tryz.sizeOf5
 v5:=Tryz.zeroValue5
 t9:=Tryz.underlying9
 a9:=Tryz.isAgg9
 z9:=Tryz.sizeOf9
 v9:=Tryz.zeroValue9
 t21:=Tryz.underlying21
 a21:=Tryz.isAgg21
 z21:=Tryz.sizeOf21
 v21:=Tryz.zeroValue21
 t46:=Tryz.underlying162
 a46:=Tryz.isAgg162
 z46:=Tryz.sizeOf162
 v46:=Tryz.zeroValue162
 t105:=Tryz.underlying239
 a105:=Tryz.isAgg239
 z105:=Tryz.sizeOf239
 v105:=Tryz.zeroValue239
 t116:=Tryz.underlying205
 a116:=Tryz.isAgg205
 z116:=Tryz.sizeOf205
 t117:=Tryz.underlying206
 a117:=Tryz.isAgg206
 z117:=Tryz.sizeOf206
 v117:=Tryz.zeroValue206
 t119:=Tryz.underlying279
 a119:=Tryz.isAgg279
 z119:=Tryz.sizeOf279
 t124:=Tryz.underlying209
 a124:=Tryz.isAgg209
 z124:=Tryz.sizeOf209
 v124:=Tryz.zeroValue209
 t138:=Tryz.underlying281
 a138:=Tryz.isAgg281
 z138:=Tryz.sizeOf281
 v138:=Tryz.zeroValue281
 t139:=Tryz.underlying282
 a139:=Tryz.isAgg282
 z139:=Tryz.sizeOf282
 v139:=Tryz.zeroValue282
 g3:=by kernel_rfl
 g4:=by kernel_rfl }
def Tryz.YK:Go.Shelf.Ren:=⟨fun | 106=>198 | 213=>221 | 265=>231 | n=>n,fun | 9=>9 | 3=>3 | n=>n,fun | n=>n⟩
theorem Tryz.aeg:Go.Proofs.Lays.n106 Tryz.prog Tryz.YK:={
 mixed:=by kernel_rfl
 f106:=Tryz.func198.trans (congrArg some (by kernel_rfl))
 f213:=Tryz.func221.trans (congrArg some (by kernel_rfl))
 f265:=Tryz.func231.trans (congrArg some (by kernel_rfl))
 t3:=Tryz.underlying3
 a3:=Tryz.isAgg3
 z3:=Tryz.sizeOf3
 v3:=Tryz.zeroValue3
 t9:=Tryz.underlying9
 a9:=Tryz.isAgg9
 z9:=Tryz.sizeOf9
 v9:=Tryz.zeroValue9 }
end Go.Proofs
namespace Go.Proofs.SeatA
open Go.Dn Go.Md Go.Proofs Go.RowKit Go.Shelf Go.Lib
def BO:av:=⟨[.val .str,.val .str],[.val .str],fun x=>lU x.1 x.2.1⟩
theorem R9:jb Tryz.prog 61:=sR (fn:=Tryz.f61) (by kernel_rfl) rfl (by decide)
theorem Sm:pJ Tryz.prog 61 BO:=by
 intro G w ow args x y hG how ha hm
 refine YG (P:=Tryz.prog) (f:=61) (m:=BO.m) ?_ G w ow args x y hG how ha hm
 intro s c r w hm
 replace hm:lU s c=some (r,()):=hm
 unfold lU at hm
 cases hb:(decide (s.length<=9223372036854775807)&&(decide (c.length<4294967281)&&c.all fun b=>decide (b.toNat<128))) with
 | false=>rw[hb] at hm;cases hm
 | true=>
  rw[hb] at hm
  simp only[cond_true,Option.some.injEq,Prod.mk.injEq,and_true] at hm
  subst hm
  simp only[Bool.and_eq_true,decide_eq_true_eq,List.all_eq_true] at hb
  have:=Any.strings_Trim_laid Tryz.aeh (by kernel_rfl) (bs s) (bs c) w (by simpa [bs,ByteArray.size] using hb.1) (by simpa [bs,ByteArray.size] using hb.2.1) (fun j b hj=>hb.2.2 b (List.mem_of_getElem? (by simpa [bs] using hj)))
  change Calls Tryz.prog 61 _ _ _ at this
  simpa [bs] using this
def wV:av:=⟨[.val .str,.val .str],[.val tI],fun x=>strings_Compare x.1 x.2.1⟩
theorem Nl:jb Tryz.prog 198:=sR (fn:=Tryz.f198) (by kernel_rfl) rfl (by decide)
theorem NG:pJ Tryz.prog 198 wV:=by
 intro G w ow args x y hG how ha hm
 refine abG (P:=Tryz.prog) (f:=198) (t:=tI) (m:=wV.m) ?_ G w ow args x y hG how ha hm
 intro s c r w hm
 replace hm:strings_Compare s c=some (r,()):=hm
 unfold strings_Compare at hm
 obtain rfl:Lib.compareBytes s c=r:=congrArg (fun o=>(Option.getD o (0,())).1) hm
 have:=Any.strings_Compare Tryz.aeg (bs s) (bs c) w
 refine⟨.int .i64 (Lib.compareBytes s c),fun G=> ?_,this.mono ?_⟩
 ·rfl
 ·rintro e w' ⟨he,rfl⟩
  exact⟨he,Below.refl _ _⟩
end Go.Proofs.SeatA
set_option maxRecDepth 100000
namespace Go.Proofs
open Go.Shelf
def Tryz.U3:Go.Shelf.Ren:=⟨fun | 7=>110 | 10=>162 | n=>n,fun | 23=>196 | 26=>3 | 3=>130 | 28=>194 | 0=>0 | 27=>193 | 33=>51 | 4=>4 | n=>n,fun | n=>n⟩
theorem Tryz.adD:Go.Proofs.SlLaysZI.n7 Tryz.prog Tryz.U3:={
 mixed:=by kernel_rfl
 f7:=⟨Tryz.f110.name,by decide,Tryz.func110.trans (congrArg some (by kernel_rfl))⟩
 f10:=⟨Tryz.f162.name,by decide,Tryz.func162.trans (congrArg some (by kernel_rfl))⟩
 t0:=Tryz.underlying0
 a0:=Tryz.isAgg0
 z0:=Tryz.sizeOf0
 v0:=Tryz.zeroValue0
 t4:=Tryz.underlying4
 a4:=Tryz.isAgg4
 z4:=Tryz.sizeOf4
 v4:=Tryz.zeroValue4
 t23:=Tryz.underlying196
 a23:=Tryz.isAgg196
 z23:=Tryz.sizeOf196
 v23:=Tryz.zeroValue196
 t26:=Tryz.underlying3
 a26:=Tryz.isAgg3
 z26:=Tryz.sizeOf3
 v26:=Tryz.zeroValue3
 t27:=Tryz.underlying193
 a27:=Tryz.isAgg193
 z27:=Tryz.sizeOf193
 v27:=Tryz.zeroValue193
 t28:=Tryz.underlying194
 a28:=Tryz.isAgg194
 z28:=Tryz.sizeOf194
 v28:=Tryz.zeroValue194
 t33:=Tryz.underlying51
 a33:=Tryz.isAgg51
 z33:=Tryz.sizeOf51
 v33:=Tryz.zeroValue51 }
def Tryz.PI:Go.Shelf.Ren:=⟨fun | 6=>109 | 8=>160 | 9=>161 | 11=>190 | 13=>192 | 12=>191 | 23=>215 | 24=>216 | 14=>206 | 15=>207 | 16=>208 | 17=>209 | 18=>210 | 19=>211 | 20=>212 | 21=>213 | 22=>214 | 25=>224 | 26=>225 | 27=>226 | 28=>227 | 29=>228 | 30=>229 | 31=>233 | n=>n,fun | 26=>3 | 28=>194 | 24=>139 | 0=>0 | 3=>3 | 37=>162 | 48=>161 | 50=>160 | 4=>4 | 40=>271 | 39=>270 | 45=>164 | 5=>5 | 9=>9 | 51=>286 | 55=>290 | 57=>292 | 58=>293 | 33=>51 | n=>n,fun | n=>n⟩
theorem Tryz.aew:Go.Proofs.SlLaysZI.n6 Tryz.prog Tryz.PI:={
 mixed:=by kernel_rfl
 f6:=⟨Tryz.f109.name,by decide,Tryz.func109.trans (congrArg some (by kernel_rfl))⟩
 f8:=⟨Tryz.f160.name,by decide,Tryz.func160.trans (congrArg some (by kernel_rfl))⟩
 f11:=⟨Tryz.f190.name,by decide,Tryz.func190.trans (congrArg some (by kernel_rfl))⟩
 t0:=Tryz.underlying0
 a0:=Tryz.isAgg0
 z0:=Tryz.sizeOf0
 v0:=Tryz.zeroValue0
 t24:=Tryz.underlying139
 a24:=Tryz.isAgg139
 z24:=Tryz.sizeOf139
 v24:=Tryz.zeroValue139
 t26:=Tryz.underlying3
 a26:=Tryz.isAgg3
 z26:=Tryz.sizeOf3
 v26:=Tryz.zeroValue3
 t28:=Tryz.underlying194
 a28:=Tryz.isAgg194
 z28:=Tryz.sizeOf194
 v28:=Tryz.zeroValue194
 i26:=by kernel_rfl }
def Tryz.acy:Go.Shelf.Ren:=⟨fun | 5=>161 | 8=>192 | 7=>191 | 19=>215 | 20=>216 | 10=>206 | 11=>207 | 12=>208 | 13=>209 | 14=>210 | 15=>211 | 16=>212 | 17=>213 | 18=>214 | 30=>224 | 31=>225 | 32=>226 | 33=>227 | 34=>228 | 35=>229 | 40=>233 | n=>n,fun | 23=>139 | 25=>3 | 3=>3 | 32=>162 | 22=>139 | 0=>0 | 44=>161 | 46=>160 | 4=>4 | 36=>271 | 35=>270 | 41=>164 | 5=>5 | 9=>9 | 53=>286 | 57=>290 | 63=>292 | 64=>293 | n=>n,fun | n=>n⟩
theorem Tryz.adI:Go.Proofs.SlLaysM.n5 Tryz.prog Tryz.acy:={
 mixed:=by kernel_rfl
 f5:=⟨Tryz.f161.name,by decide,Tryz.func161.trans (congrArg some (by kernel_rfl))⟩
 f7:=⟨Tryz.f191.name,by decide,Tryz.func191.trans (congrArg some (by kernel_rfl))⟩
 f8:=Tryz.func192.trans (congrArg some (by kernel_rfl))
 f10:=⟨Tryz.f206.name,by decide,Tryz.func206.trans (congrArg some (by kernel_rfl))⟩
 f11:=⟨Tryz.f207.name,by decide,Tryz.func207.trans (congrArg some (by kernel_rfl))⟩
 f12:=⟨Tryz.f208.name,by decide,Tryz.func208.trans (congrArg some (by kernel_rfl))⟩
 f13:=⟨Tryz.f209.name,by decide,Tryz.func209.trans (congrArg some (by kernel_rfl))⟩
 f14:=⟨Tryz.f210.name,by decide,Tryz.func210.trans (congrArg some (by kernel_rfl))⟩
 f15:=⟨Tryz.f211.name,by decide,Tryz.func211.trans (congrArg some (by kernel_rfl))⟩
 f16:=⟨Tryz.f212.name,by decide,Tryz.func212.trans (congrArg some (by kernel_rfl))⟩
 f17:=⟨Tryz.f213.name,by decide,Tryz.func213.trans (congrArg some (by kernel_rfl))⟩
 f18:=⟨Tryz.f214.name,by decide,Tryz.func214.trans (congrArg some (by kernel_rfl))⟩
 f19:=Tryz.func215.trans (congrArg some (by kernel_rfl))
 f20:=Tryz.func216.trans (congrArg some (by kernel_rfl))
 f30:=⟨Tryz.f224.name,by decide,Tryz.func224.trans (congrArg some (by kernel_rfl))⟩
 f31:=Tryz.func225.trans (congrArg some (by kernel_rfl))
 f32:=Tryz.func226.trans (congrArg some (by kernel_rfl))
 f33:=⟨Tryz.f227.name,by decide,Tryz.func227.trans (congrArg some (by kernel_rfl))⟩
 f34:=⟨Tryz.f228.name,by decide,Tryz.func228.trans (congrArg some (by kernel_rfl))⟩
 f35:=⟨Tryz.f229.name,by decide,Tryz.func229.trans (congrArg some (by kernel_rfl))⟩
 f40:=⟨Tryz.f233.name,by decide,Tryz.func233.trans (congrArg some (by kernel_rfl))⟩
 t0:=Tryz.underlying0
 a0:=Tryz.isAgg0
 z0:=Tryz.sizeOf0
 v0:=Tryz.zeroValue0
 t3:=Tryz.underlying3
 a3:=Tryz.isAgg3
 z3:=Tryz.sizeOf3
 v3:=Tryz.zeroValue3
 t4:=Tryz.underlying4
 a4:=Tryz.isAgg4
 z4:=Tryz.sizeOf4
 v4:=Tryz.zeroValue4
 t5:=Tryz.underlying5
 a5:=Tryz.isAgg5
 z5:=Tryz.sizeOf5
 v5:=Tryz.zeroValue5
 t9:=Tryz.underlying9
 a9:=Tryz.isAgg9
 z9:=Tryz.sizeOf9
 v9:=Tryz.zeroValue9
 t22:=Tryz.underlying139
 a22:=Tryz.isAgg139
 z22:=Tryz.sizeOf139
 v22:=Tryz.zeroValue139
 t23:=Tryz.underlying139
 a23:=Tryz.isAgg139
 z23:=Tryz.sizeOf139
 v23:=Tryz.zeroValue139
 t25:=Tryz.underlying3
 a25:=Tryz.isAgg3
 z25:=Tryz.sizeOf3
 v25:=Tryz.zeroValue3
 t32:=Tryz.underlying162
 a32:=Tryz.isAgg162
 z32:=Tryz.sizeOf162
 v32:=Tryz.zeroValue162
 t35:=Tryz.underlying270
 a35:=Tryz.isAgg270
 z35:=Tryz.sizeOf270
 v35:=Tryz.zeroValue270
 t36:=Tryz.underlying271
 a36:=Tryz.isAgg271
 z36:=Tryz.sizeOf271
 v36:=Tryz.zeroValue271
 t41:=Tryz.underlying164
 a41:=Tryz.isAgg164
 z41:=Tryz.sizeOf164
 v41:=Tryz.zeroValue164
 t44:=Tryz.underlying161
 a44:=Tryz.isAgg161
 z44:=Tryz.sizeOf161
 v44:=Tryz.zeroValue161
 t46:=Tryz.underlying160
 a46:=Tryz.isAgg160
 z46:=Tryz.sizeOf160
 v46:=Tryz.zeroValue160
 t53:=Tryz.underlying286
 a53:=Tryz.isAgg286
 z53:=Tryz.sizeOf286
 v53:=Tryz.zeroValue286
 t57:=Tryz.underlying290
 a57:=Tryz.isAgg290
 z57:=Tryz.sizeOf290
 v57:=Tryz.zeroValue290
 t63:=Tryz.underlying292
 a63:=Tryz.isAgg292
 z63:=Tryz.sizeOf292
 v63:=Tryz.zeroValue292
 t64:=Tryz.underlying293
 a64:=Tryz.isAgg293
 z64:=Tryz.sizeOf293
 v64:=Tryz.zeroValue293 }
end Go.Proofs
namespace Go.Proofs.SeatA
open Go.Dn Go.Md Go.Proofs Go.RowKit Go.Shelf Go.Lib Go.Sort
theorem ae3 (m:Nat):AnyZI.SortsIn Tryz.prog Tryz.PI Fence.wide m:=
 ⟨fun blk off cap ss W hH hblk hsz=>callsIn_wide.2 (AnyM.slices_Sort_int Tryz.adI blk off cap ss W hH hblk hsz),
  fun p cap W=>callsIn_wide.2 (AnyM.slices_Sort_int_none Tryz.adI p cap W)⟩
def Zq:zS:= .mk 162
theorem ad9:jb Tryz.prog 110:=sR (fn:=Tryz.f110) (by kernel_rfl) rfl (by decide)
theorem aed:Hp Tryz.prog 110 Zq:=
 ⟨196,fun mb W=>callsIn_wide.1 (AnyZI.keys_in Tryz.adD Fence.wide 5 trivial rfl mb W)⟩
def Zp:zS:= .srt 162 3 3
theorem ad8:jb Tryz.prog 109:=sR (fn:=Tryz.f109) (by kernel_rfl) rfl (by decide)
theorem aec:Hp Tryz.prog 109 Zp:=by
 refine⟨Tryz.underlying3,fun Bm b nn D0 w hB hc hown oY hbytes=> ?_⟩
 have hseq:SeqGives Fence.wide 2 Tryz.prog 162 #[.pointer (some ⟨Bm,0,none⟩)] encZ (fun ss=>ss.Perm (intKeys D0)) (Maps.size D0) w:=
  AnyZI.keys_gives (ρ:=Tryz.U3) { Tryz.adD with } Fence.wide _ trivial rfl (by omega) Bm b nn D0 _ hB hc hown
 have cS:=AnyZI.sorted_in Tryz.aew Fence.wide 5 trivial trivial trivial trivial rfl (by omega) (ae3 _) (enters_of Tryz.func161 (by kernel_rfl) rfl) 162 #[.pointer (some ⟨Bm,0,none⟩)] trivial (enters_of Tryz.func162 (by kernel_rfl) rfl) _ _ oY hbytes _ hseq
 change CallsIn _ _ Tryz.prog 109 _ _ _ at cS
 refine (callsIn_wide.1 cS).mono ?_
 rintro e w' ⟨v,ss,he,hS,hrow,_,hb⟩
 exact⟨v,ss,he,hS,hrow,hb⟩
end Go.Proofs.SeatA
set_option maxRecDepth 100000
namespace Go.Proofs.SeatA
open Go.Dn Go.Md Go.Proofs Go.RowKit Go.Shelf Go.Lib Go.Sort
def Xf:Ren:=⟨fun | 22=>154 | 29=>181 | 30=>182 | n=>n,fun | 24=>176 | 9=>185 | n=>n,fun n=>n⟩
theorem afx:B9 Tryz.prog Xf 19 184 (.agg #[.int .i64 0,.string ⟨#[]⟩,.string ⟨#[]⟩,.int .i64 0,.int .i64 0,.int .i64 0,.int .i64 0,.int .i64 0,.int .i64 0,.int .i64 0,.int .i64 0,.int .i64 0,.int .i64 0,.int .i64 0,.int .i64 0,.int .i64 0,.int .i64 0,.int .i64 0,.slice none 0 0]):={
 mixed:=by kernel_rfl
 f22:=⟨_,by decide,Tryz.func154.trans (congrArg some (by kernel_rfl:Tryz.f154={ Body2.n22 Xf with name:= "slices.Insert[[]interchange/interchangeref9.line,interchange/interchangeref9.line]" }))⟩
 f29:=⟨Tryz.f181,by kernel_rfl,by kernel_rfl,by kernel_rfl,by kernel_rfl,by kernel_rfl⟩
 t0:=Tryz.underlying0
 a0:=Tryz.isAgg0
 z0:=Tryz.sizeOf0
 v0:=Tryz.zeroValue0
 t3:=Tryz.underlying3
 a3:=Tryz.isAgg3
 z3:=Tryz.sizeOf3
 v3:=Tryz.zeroValue3
 t4:=Tryz.underlying4
 a4:=Tryz.isAgg4
 z4:=Tryz.sizeOf4
 v4:=Tryz.zeroValue4
 z9:=Tryz.sizeOf185
 t24:=Tryz.underlying176
 a24:=Tryz.isAgg176
 z24:=Tryz.sizeOf176
 v24:=Tryz.zeroValue176
 i9:=by kernel_rfl
 k0:=by decide
 zc:=rfl }
def lg:av:=⟨[.row 185 bq,.val tI,.row 185 bq],[.row 185 bq],fun x=>gY x.1 x.2.1 x.2.2.1⟩
theorem vG:jb Tryz.prog 154:=sR (fn:=Tryz.f154) (by kernel_rfl) rfl (by decide)
theorem vH:pJ Tryz.prog 154 lg:=aar (t:=bq) afx
end Go.Proofs.SeatA
