/-
  Functions of the library by contracts. No condition.
-/
import Derived.Test.YtbjhpnieokphbaaGreatDoorYo
import Derived.Test.YtbjhpnieokphbaaGreatDoorYd
import Derived.Test.YtbjhpnieokphbaaGreatDoorProg
import Derived.Shelf.LaysM
import Derived.Shelf.Strings.SlTrimAscii
import Derived.Shelf.Small.Strs
import Derived.Shelf.Strconv.Itoa3
import Derived.Shelf.Strings.Repeat
set_option linter.all false
namespace Go.Proofs
open Go.Shelf
def Tryz.Nh:Go.Shelf.Ren:=⟨fun | 160=>47 | 232=>88 | 231=>87 | 227=>89 | 234=>91 | 233=>90 | 236=>93 | 235=>92 | 228=>122 | 271=>125 | 151=>124 | 197=>123 | 120=>149 | 152=>148 | 260=>147 | 137=>159 | 119=>160 | 224=>161 | 225=>162 | 217=>166 | 266=>167 | n=>n,fun | 9=>9 | 4=>4 | 3=>3 | 5=>5 | 117=>143 | 116=>142 | 0=>0 | 124=>146 | 21=>21 | 105=>170 | 46=>113 | 119=>202 | 139=>205 | 138=>204 | n=>n,fun | 3=>2 | 4=>3 | n=>n⟩
theorem Tryz.Sf:Go.Proofs.Lays.n160 Tryz.prog Tryz.Nh:={
 mixed:=by kernel_rfl
 f119:=Tryz.func160.trans (congrArg some (by kernel_rfl))
 f120:=Tryz.func149.trans (congrArg some (by kernel_rfl))
 f137:=Tryz.func159.trans (congrArg some (by kernel_rfl))
 f151:=Tryz.func124.trans (congrArg some (by kernel_rfl))
 f152:=Tryz.func148.trans (congrArg some (by kernel_rfl))
 f160:=Tryz.func47.trans (congrArg some (by kernel_rfl))
 f197:=Tryz.func123.trans (congrArg some (by kernel_rfl))
 f217:=Tryz.func166.trans (congrArg some (by kernel_rfl))
 f224:=Tryz.func161.trans (congrArg some (by kernel_rfl))
 f225:=Tryz.func162.trans (congrArg some (by kernel_rfl))
 f227:=Tryz.func89.trans (congrArg some (by kernel_rfl))
 f228:=Tryz.func122.trans (congrArg some (by kernel_rfl))
 f231:=Tryz.func87.trans (congrArg some (by kernel_rfl))
 f232:=Tryz.func88.trans (congrArg some (by kernel_rfl))
 f233:=Tryz.func90.trans (congrArg some (by kernel_rfl))
 f234:=Tryz.func91.trans (congrArg some (by kernel_rfl))
 f235:=Tryz.func92.trans (congrArg some (by kernel_rfl))
 f236:=Tryz.func93.trans (congrArg some (by kernel_rfl))
 f260:=Tryz.func147.trans (congrArg some (by kernel_rfl))
 f266:=Tryz.func167.trans (congrArg some (by kernel_rfl))
 f271:=Tryz.func125.trans (congrArg some (by kernel_rfl))
 t0:=Tryz.underlying0
 a0:=Tryz.isAgg0
 z0:=Tryz.sizeOf0
 v0:=Tryz.zeroValue0
 t3:=Tryz.underlying3
 a3:=Tryz.isAgg3
 z3:=Tryz.sizeOf3
 v3:=Tryz.zeroValue3
 t4:=Tryz.underlying4
 a4:=Tryz.isAgg4
 z4:=Tryz.sizeOf4
 v4:=Tryz.zeroValue4
 t5:=Tryz.underlying5
 a5:=Tryz.isAgg5
 z5:=Tryz.sizeOf5
 v5:=Tryz.zeroValue5
 t9:=Tryz.underlying9
 a9:=Tryz.isAgg9
 z9:=Tryz.sizeOf9
 v9:=Tryz.zeroValue9
 t21:=Tryz.underlying21
 a21:=Tryz.isAgg21
 z21:=Tryz.sizeOf21
 v21:=Tryz.zeroValue21
 t46:=Tryz.underlying113
 a46:=Tryz.isAgg113
 z46:=Tryz.sizeOf113
 v46:=Tryz.zeroValue113
 t105:=Tryz.underlying170
 a105:=Tryz.isAgg170
 z105:=Tryz.sizeOf170
 v105:=Tryz.zeroValue170
 t116:=Tryz.underlying142
 a116:=Tryz.isAgg142
 z116:=Tryz.sizeOf142
 t117:=Tryz.underlying143
 a117:=Tryz.isAgg143
 z117:=Tryz.sizeOf143
 v117:=Tryz.zeroValue143
 t119:=Tryz.underlying202
 a119:=Tryz.isAgg202
 z119:=Tryz.sizeOf202
 t124:=Tryz.underlying146
 a124:=Tryz.isAgg146
 z124:=Tryz.sizeOf146
 v124:=Tryz.zeroValue146
 t138:=Tryz.underlying204
 a138:=Tryz.isAgg204
 z138:=Tryz.sizeOf204
 v138:=Tryz.zeroValue204
 t139:=Tryz.underlying205
 a139:=Tryz.isAgg205
 z139:=Tryz.sizeOf205
 v139:=Tryz.zeroValue205
 g3:=by kernel_rfl
 g4:=by kernel_rfl }
def Tryz.Ng:Go.Shelf.Ren:=⟨fun | 106=>45 | 213=>86 | 265=>121 | n=>n,fun | 9=>9 | 3=>3 | n=>n,fun | n=>n⟩
theorem Tryz.NV:Go.Proofs.Lays.n106 Tryz.prog Tryz.Ng:={
 mixed:=by kernel_rfl
 f106:=Tryz.func45.trans (congrArg some (by kernel_rfl))
 f213:=Tryz.func86.trans (congrArg some (by kernel_rfl))
 f265:=Tryz.func121.trans (congrArg some (by kernel_rfl))
 t3:=Tryz.underlying3
 a3:=Tryz.isAgg3
 z3:=Tryz.sizeOf3
 v3:=Tryz.zeroValue3
 t9:=Tryz.underlying9
 a9:=Tryz.isAgg9
 z9:=Tryz.sizeOf9
 v9:=Tryz.zeroValue9 }
def Tryz.L6:Go.Shelf.Ren:=⟨fun | 171=>33 | 243=>58 | 246=>105 | 283=>130 | 284=>131 | 285=>132 | 286=>133 | 129=>146 | 317=>150 | 318=>151 | 319=>152 | 320=>153 | 337=>163 | 338=>164 | n=>n,fun | 3=>3 | 9=>9 | 2=>2 | 4=>4 | 171=>175 | 0=>0 | 53=>108 | 37=>118 | 5=>5 | 173=>178 | 212=>194 | 51=>109 | 20=>20 | 213=>195 | 46=>113 | 232=>211 | 233=>212 | n=>n,fun | 17=>1 | 18=>4 | 19=>5 | n=>n⟩
theorem Tryz.Rm:Go.Proofs.LaysM.n171 Tryz.prog Tryz.L6:={
 mixed:=by kernel_rfl
 f129:=Tryz.func146.trans (congrArg some (by kernel_rfl))
 f171:=Tryz.func33.trans (congrArg some (by kernel_rfl))
 f243:=Tryz.func58.trans (congrArg some (by kernel_rfl))
 f246:=Tryz.func105.trans (congrArg some (by kernel_rfl))
 f283:=Tryz.func130.trans (congrArg some (by kernel_rfl))
 f284:=Tryz.func131.trans (congrArg some (by kernel_rfl))
 f285:=Tryz.func132.trans (congrArg some (by kernel_rfl))
 f286:=Tryz.func133.trans (congrArg some (by kernel_rfl))
 f317:=Tryz.func150.trans (congrArg some (by kernel_rfl))
 f318:=Tryz.func151.trans (congrArg some (by kernel_rfl))
 f319:=Tryz.func152.trans (congrArg some (by kernel_rfl))
 f320:=Tryz.func153.trans (congrArg some (by kernel_rfl))
 f337:=Tryz.func163.trans (congrArg some (by kernel_rfl))
 f338:=Tryz.func164.trans (congrArg some (by kernel_rfl))
 t0:=Tryz.underlying0
 a0:=Tryz.isAgg0
 z0:=Tryz.sizeOf0
 v0:=Tryz.zeroValue0
 t2:=Tryz.underlying2
 a2:=Tryz.isAgg2
 z2:=Tryz.sizeOf2
 v2:=Tryz.zeroValue2
 t3:=Tryz.underlying3
 a3:=Tryz.isAgg3
 z3:=Tryz.sizeOf3
 v3:=Tryz.zeroValue3
 t4:=Tryz.underlying4
 a4:=Tryz.isAgg4
 z4:=Tryz.sizeOf4
 v4:=Tryz.zeroValue4
 t5:=Tryz.underlying5
 a5:=Tryz.isAgg5
 z5:=Tryz.sizeOf5
 v5:=Tryz.zeroValue5
 t9:=Tryz.underlying9
 a9:=Tryz.isAgg9
 z9:=Tryz.sizeOf9
 v9:=Tryz.zeroValue9
 t20:=Tryz.underlying20
 a20:=Tryz.isAgg20
 z20:=Tryz.sizeOf20
 v20:=Tryz.zeroValue20
 t37:=Tryz.underlying118
 a37:=Tryz.isAgg118
 z37:=Tryz.sizeOf118
 v37:=Tryz.zeroValue118
 t46:=Tryz.underlying113
 a46:=Tryz.isAgg113
 z46:=Tryz.sizeOf113
 v46:=Tryz.zeroValue113
 t51:=Tryz.underlying109
 a51:=Tryz.isAgg109
 z51:=Tryz.sizeOf109
 v51:=Tryz.zeroValue109
 t53:=Tryz.underlying108
 a53:=Tryz.isAgg108
 z53:=Tryz.sizeOf108
 v53:=Tryz.zeroValue108
 t171:=Tryz.underlying175
 a171:=Tryz.isAgg175
 z171:=Tryz.sizeOf175
 v171:=Tryz.zeroValue175
 t173:=Tryz.underlying178
 a173:=Tryz.isAgg178
 z173:=Tryz.sizeOf178
 v173:=Tryz.zeroValue178
 t212:=Tryz.underlying194
 a212:=Tryz.isAgg194
 z212:=Tryz.sizeOf194
 v212:=Tryz.zeroValue194
 t213:=Tryz.underlying195
 a213:=Tryz.isAgg195
 z213:=Tryz.sizeOf195
 t232:=Tryz.underlying211
 a232:=Tryz.isAgg211
 z232:=Tryz.sizeOf211
 v232:=Tryz.zeroValue211
 t233:=Tryz.underlying212
 a233:=Tryz.isAgg212
 z233:=Tryz.sizeOf212
 v233:=Tryz.zeroValue212
 g17:=by kernel_rfl
 g18:=by kernel_rfl
 g19:=by kernel_rfl
 i0:=by kernel_rfl
 i2:=by kernel_rfl
 i3:=by kernel_rfl
 i4:=by kernel_rfl
 i5:=by kernel_rfl
 i9:=by kernel_rfl
 i20:=by kernel_rfl
 i37:=by kernel_rfl
 i46:=by kernel_rfl
 i51:=by kernel_rfl
 i53:=by kernel_rfl
 i171:=by kernel_rfl
 i173:=by kernel_rfl
 i212:=by kernel_rfl
 i232:=by kernel_rfl
 i233:=by kernel_rfl
 m17:=by kernel_rfl
 m18:=by kernel_rfl
 m19:=by kernel_rfl }
def Tryz.EU:Go.Shelf.Ren:=⟨fun | 105=>35 | 212=>65 | 99=>66 | 165=>67 | 166=>68 | 170=>69 | 169=>70 | 263=>111 | 264=>112 | 206=>113 | 240=>114 | 241=>115 | 276=>135 | 277=>136 | n=>n,fun | 9=>9 | 3=>3 | 4=>4 | 20=>20 | 0=>0 | 46=>113 | 109=>114 | 5=>5 | 72=>120 | 76=>124 | 51=>109 | 146=>159 | 53=>108 | 148=>161 | 70=>117 | 37=>118 | 75=>123 | 127=>163 | 164=>181 | 80=>127 | n=>n,fun | n=>n⟩
theorem Tryz.Se:Go.Proofs.Lays.n105 Tryz.prog Tryz.EU:={
 mixed:=by kernel_rfl
 f99:=Tryz.func66.trans (congrArg some (by kernel_rfl))
 f105:=Tryz.func35.trans (congrArg some (by kernel_rfl))
 f165:=Tryz.func67.trans (congrArg some (by kernel_rfl))
 f166:=Tryz.func68.trans (congrArg some (by kernel_rfl))
 f169:=Tryz.func70.trans (congrArg some (by kernel_rfl))
 f170:=Tryz.func69.trans (congrArg some (by kernel_rfl))
 f206:=Tryz.func113.trans (congrArg some (by kernel_rfl))
 f212:=Tryz.func65.trans (congrArg some (by kernel_rfl))
 f240:=Tryz.func114.trans (congrArg some (by kernel_rfl))
 f241:=Tryz.func115.trans (congrArg some (by kernel_rfl))
 f263:=Tryz.func111.trans (congrArg some (by kernel_rfl))
 f264:=Tryz.func112.trans (congrArg some (by kernel_rfl))
 f276:=Tryz.func135.trans (congrArg some (by kernel_rfl))
 f277:=Tryz.func136.trans (congrArg some (by kernel_rfl))
 t0:=Tryz.underlying0
 a0:=Tryz.isAgg0
 z0:=Tryz.sizeOf0
 v0:=Tryz.zeroValue0
 t3:=Tryz.underlying3
 a3:=Tryz.isAgg3
 z3:=Tryz.sizeOf3
 v3:=Tryz.zeroValue3
 t4:=Tryz.underlying4
 a4:=Tryz.isAgg4
 z4:=Tryz.sizeOf4
 v4:=Tryz.zeroValue4
 t5:=Tryz.underlying5
 a5:=Tryz.isAgg5
 z5:=Tryz.sizeOf5
 v5:=Tryz.zeroValue5
 t9:=Tryz.underlying9
 a9:=Tryz.isAgg9
 z9:=Tryz.sizeOf9
 v9:=Tryz.zeroValue9
 t20:=Tryz.underlying20
 a20:=Tryz.isAgg20
 z20:=Tryz.sizeOf20
 v20:=Tryz.zeroValue20
 t37:=Tryz.underlying118
 a37:=Tryz.isAgg118
 z37:=Tryz.sizeOf118
 v37:=Tryz.zeroValue118
 t46:=Tryz.underlying113
 a46:=Tryz.isAgg113
 z46:=Tryz.sizeOf113
 v46:=Tryz.zeroValue113
 t51:=Tryz.underlying109
 a51:=Tryz.isAgg109
 z51:=Tryz.sizeOf109
 v51:=Tryz.zeroValue109
 t53:=Tryz.underlying108
 a53:=Tryz.isAgg108
 z53:=Tryz.sizeOf108
 v53:=Tryz.zeroValue108
 t70:=Tryz.underlying117
 a70:=Tryz.isAgg117
 z70:=Tryz.sizeOf117
 v70:=Tryz.zeroValue117
 t72:=Tryz.underlying120
 a72:=Tryz.isAgg120
 z72:=Tryz.sizeOf120
 v72:=Tryz.zeroValue120
 t75:=Tryz.underlying123
 a75:=Tryz.isAgg123
 z75:=Tryz.sizeOf123
 v75:=Tryz.zeroValue123
 t76:=Tryz.underlying124
 a76:=Tryz.isAgg124
 z76:=Tryz.sizeOf124
 v76:=Tryz.zeroValue124
 t109:=Tryz.underlying114
 a109:=Tryz.isAgg114
 z109:=Tryz.sizeOf114
 v109:=Tryz.zeroValue114
 t127:=Tryz.underlying163
 a127:=Tryz.isAgg163
 z127:=Tryz.sizeOf163
 v127:=Tryz.zeroValue163
 t146:=Tryz.underlying159
 a146:=Tryz.isAgg159
 z146:=Tryz.sizeOf159
 v146:=Tryz.zeroValue159
 t148:=Tryz.underlying161
 a148:=Tryz.isAgg161
 z148:=Tryz.sizeOf161
 v148:=Tryz.zeroValue161
 t164:=Tryz.underlying181
 a164:=Tryz.isAgg181
 z164:=Tryz.sizeOf181
 v164:=Tryz.zeroValue181 }
end Go.Proofs
namespace Go.Proofs
theorem Tryz.D5:Builder.Extra Tryz.prog Tryz.EU:={
 sizeBuilder:=by kernel_rfl
 liesBuilder:=by kernel_rfl
 t5:=Tryz.underlying5
 a5:=Tryz.isAgg5
 z5:=Tryz.sizeOf5
 v5:=Tryz.zeroValue5
 infoByte:=by kernel_rfl
 cellsByte:=by kernel_rfl
 sizeByte:=by kernel_rfl
 neB5:=by decide }
end Go.Proofs
namespace Go.Proofs.SeatU
open Go.Dn Go.Md Go.Proofs Go.RowKit Go.Shelf Go.Lib
def sZ:aC:=⟨[.val .str,.val .str],[.val .str],fun x=>lP x.1 x.2.1⟩
theorem GS:av Tryz.prog 47:=aq (fn:=Tryz.f47) (by kernel_rfl) rfl (by decide)
theorem Ho:aF Tryz.prog 47 sZ:=by
 intro G w ow args x y hG how ha hm
 refine M7 (P:=Tryz.prog) (f:=47) (m:=sZ.m) ?_ G w ow args x y hG how ha hm
 intro s c r w hm
 replace hm:lP s c=some (r,()):=hm
 unfold lP at hm
 cases hb:(decide (s.length≤9223372036854775807)&&(decide (c.length<4294967281)&&c.all fun b=>decide (b.toNat<128))) with
 | false=>rw[hb] at hm;cases hm
 | true=>
  rw[hb] at hm
  simp only[cond_true,Option.some.injEq,Prod.mk.injEq,and_true] at hm
  subst hm
  simp only[Bool.and_eq_true,decide_eq_true_eq,List.all_eq_true] at hb
  have:=Any.strings_Trim_laid Tryz.Sf (by kernel_rfl) (bs s) (bs c) w (by simpa [bs,ByteArray.size] using hb.1) (by simpa [bs,ByteArray.size] using hb.2.1) (fun j b hj=>hb.2.2 b (List.mem_of_getElem? (by simpa [bs] using hj)))
  change Calls Tryz.prog 47 _ _ _ at this
  simpa [bs] using this
def kr:aC:=⟨[.val .str,.val .str],[.val tI],fun x=>strings_Compare x.1 x.2.1⟩
theorem u9:av Tryz.prog 45:=aq (fn:=Tryz.f45) (by kernel_rfl) rfl (by decide)
theorem vl:aF Tryz.prog 45 kr:=by
 intro G w ow args x y hG how ha hm
 refine P6 (P:=Tryz.prog) (f:=45) (t:=tI) (m:=kr.m) ?_ G w ow args x y hG how ha hm
 intro s c r w hm
 replace hm:strings_Compare s c=some (r,()):=hm
 unfold strings_Compare at hm
 obtain rfl:Lib.compareBytes s c=r:=congrArg (fun o=>(Option.getD o (0,())).1) hm
 have:=Any.strings_Compare Tryz.NV (bs s) (bs c) w
 refine⟨.int .i64 (Lib.compareBytes s c),fun G=> ?_,this.mono ?_⟩
 ·rfl
 ·rintro e w' ⟨he,rfl⟩
  exact⟨he,Below.refl _ _⟩
theorem R1 (n:Nat) (h:n<100):Lib.decDigits n=Lx n:=by
 unfold Lx
 rw[Lib.decDigits]
 by_cases h1:n<10
 ·simp[h1]
 ·rw[dif_neg h1,Lib.decDigits,dif_pos (by omega),if_neg h1];rfl
def oa:aC:=⟨[.val tI],[.val .str],fun x=>strconv_Itoa x.1⟩
theorem yK:av Tryz.prog 33:=aq (fn:=Tryz.f33) (by kernel_rfl) rfl (by decide)
theorem yR:aF Tryz.prog 33 oa:=by
 intro G w ow args x y hG how ha hm
 refine LQ (P:=Tryz.prog) (f:=33) (a:=tI) (t:= .str) (m:=oa.m) (g:=1) (by kernel_rfl) rfl ?_ G w ow args x y hG how ha hm
 intro (n:Int) (r:List UInt8) w htab hm
 replace hm:strconv_Itoa n=some (r,()):=hm
 unfold strconv_Itoa at hm
 have fin: -9223372036854775808≤n→n≤9223372036854775807→Lib.itoa n=r→∃ v,(∀ G:Gh,bG G .str r v)∧Calls Tryz.prog 33 #[A0 tI n] w fun e w'=>e= .returned v∧RowKit.Below w.heap.size w w':=by
  intro h0 h1 e
  subst e
  have:=Any.strconv_Itoa Tryz.Rm n h0 h1 w htab
  refine⟨.string (bs (Lib.itoa n)),fun G=>rfl,this.mono ?_⟩
  rintro e w' ⟨he,k,os,rfl⟩
  exact⟨he,MO w k os⟩
 cases hb:(decide (0≤n)&&decide (n<100)) with
 | true=>
  rw[hb] at hm
  simp only[cond_true,Option.some.injEq,Prod.mk.injEq,and_true] at hm
  simp only[Bool.and_eq_true,decide_eq_true_eq] at hb
  obtain⟨k,rfl⟩:∃ k:Nat,n=k:=⟨n.toNat,by omega⟩
  refine fin (by omega) (by omega) ?_
  rw[← hm,Int.toNat_natCast, ← R1 k (by omega)]
  rfl
 | false=>
  rw[hb,cond_false] at hm
  cases hc:(decide (-9223372036854775808≤n)&&decide (n≤9223372036854775807)) with
  | false=>rw[hc] at hm;cases hm
  | true=>
   rw[hc] at hm
   simp only[cond_true,Option.some.injEq,Prod.mk.injEq,and_true] at hm
   simp only[Bool.and_eq_true,decide_eq_true_eq] at hc
   exact fin hc.1 hc.2 hm
def qc:aC:=⟨[.val .str,.val tI],[.val .str],fun x=>strings_Repeat x.1 x.2.1⟩
theorem Ew:av Tryz.prog 35:=aq (fn:=Tryz.f35) (by kernel_rfl) rfl (by decide)
theorem EF:aF Tryz.prog 35 qc:=by
 intro G w ow args x y hG how ha hm
 refine M6 (P:=Tryz.prog) (f:=35) (a:= .str) (a':=tI) (t:= .str) (m:=qc.m) rfl rfl ?_ G w ow args x y hG how ha hm
 intro (s:List UInt8) (n:Int) (r:List UInt8) w hm
 replace hm:strings_Repeat s n=some (r,()):=hm
 unfold strings_Repeat at hm
 cases hb:(decide (0≤n)&&(decide (n≤9223372036854775807)&&decide (s.length*n.toNat≤140737488355328))) with
 | false=>rw[hb] at hm;cases hm
 | true=>
  rw[hb] at hm
  simp only[cond_true,Option.some.injEq,Prod.mk.injEq,and_true] at hm
  subst hm
  simp only[Bool.and_eq_true,decide_eq_true_eq] at hb
  obtain⟨k,rfl⟩:∃ k:Nat,n=k:=⟨n.toNat,by omega⟩
  have hsz:(bs s).size=s.length:=by simp[bs,ByteArray.size]
  have:=Any.strings_Repeat Tryz.Se Tryz.D5 (bs s) k w (by omega) (by rw[hsz];simpa using hb.2.2)
  refine⟨.string (bs (Lib.repeatL s k)),fun G=>rfl,this.mono ?_⟩
  rintro e w' ⟨he,hbel⟩
  exact⟨he,hbel⟩
noncomputable def sV:aC:=⟨[.val .str],[.val tI],fun x=>wg x.1⟩
theorem AS:av Tryz.prog 61:=aq (fn:=Tryz.f61) (by kernel_rfl) rfl (by decide)
theorem A7:aF Tryz.prog 61 sV:=qq Tryz.prog 61 [.val .str] [.val tI]
noncomputable def rF:aC:=⟨[.val .str],[.val .bool],fun x=>vF x.1⟩
theorem xw:av Tryz.prog 63:=aq (fn:=Tryz.f63) (by kernel_rfl) rfl (by decide)
theorem xJ:aF Tryz.prog 63 rF:=qq Tryz.prog 63 [.val .str] [.val .bool]
noncomputable def x4:aC:=⟨[.val .str],[.val .bool],fun x=>BC x.1⟩
theorem FA:av Tryz.prog 60:=aq (fn:=Tryz.f60) (by kernel_rfl) rfl (by decide)
theorem FH:aF Tryz.prog 60 x4:=qq Tryz.prog 60 [.val .str] [.val .bool]
noncomputable def yU:aC:=⟨[.val .str],[.val .bool],fun x=>Cj x.1⟩
theorem GP:av Tryz.prog 108:=aq (fn:=Tryz.f108) (by kernel_rfl) rfl (by decide)
theorem Hi:aF Tryz.prog 108 yU:=qq Tryz.prog 108 [.val .str] [.val .bool]
noncomputable def x5:aC:=⟨[.val tI,.val tI],[.val .str],fun x=>BD x.1 x.2.1⟩
theorem FB:av Tryz.prog 62:=aq (fn:=Tryz.f62) (by kernel_rfl) rfl (by decide)
theorem FI:aF Tryz.prog 62 x5:=qq Tryz.prog 62 [.val tI,.val tI] [.val .str]
end Go.Proofs.SeatU
