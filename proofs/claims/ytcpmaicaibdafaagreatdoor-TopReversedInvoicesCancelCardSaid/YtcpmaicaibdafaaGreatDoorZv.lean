/-
  Functions of the library by contracts. No condition.
-/
import Derived.Test.YtcpmaicaibdafaaGreatDoorZx
import Derived.Test.YtcpmaicaibdafaaGreatDoorZd
import Derived.Test.YtcpmaicaibdafaaGreatDoorProg
import Derived.Shelf.LaysM
import Derived.Shelf.Strings.SlTrimAscii
import Derived.Shelf.Small.Strs
import Derived.Shelf.SlIterI.Sorted
import Derived.WalkKit
import Derived.LoopN
set_option linter.all false
namespace Go.Proofs
open Go.Shelf
def Tryz.Zf:Go.Shelf.Ren:=⟨fun | 160=>88 | 232=>159 | 231=>158 | 227=>160 | 234=>162 | 233=>161 | 236=>164 | 235=>163 | 228=>211 | 271=>214 | 151=>213 | 197=>212 | 120=>248 | 152=>247 | 260=>246 | 137=>270 | 119=>271 | 224=>272 | 225=>273 | 217=>284 | 266=>288 | n=>n,fun | 9=>9 | 4=>4 | 3=>3 | 5=>5 | 117=>249 | 116=>248 | 0=>0 | 124=>252 | 21=>21 | 105=>288 | 46=>204 | 119=>334 | 139=>337 | 138=>336 | n=>n,fun | 3=>0 | 4=>1 | n=>n⟩
theorem Tryz.aeY:Go.Proofs.Lays.n160 Tryz.prog Tryz.Zf:={
 mixed:=by kernel_rfl
 f119:=Tryz.func271.trans (congrArg some (by kernel_rfl))
 f120:=Tryz.func248.trans (congrArg some (by kernel_rfl))
 f137:=Tryz.func270.trans (congrArg some (by kernel_rfl))
 f151:=Tryz.func213.trans (congrArg some (by kernel_rfl))
 f152:=Tryz.func247.trans (congrArg some (by kernel_rfl))
 f160:=Tryz.func88.trans (congrArg some (by kernel_rfl))
 f197:=Tryz.func212.trans (congrArg some (by kernel_rfl))
 f217:=Tryz.func284.trans (congrArg some (by kernel_rfl))
 f224:=Tryz.func272.trans (congrArg some (by kernel_rfl))
 f225:=Tryz.func273.trans (congrArg some (by kernel_rfl))
 f227:=Tryz.func160.trans (congrArg some (by kernel_rfl))
 f228:=Tryz.func211.trans (congrArg some (by kernel_rfl))
 f231:=Tryz.func158.trans (congrArg some (by kernel_rfl))
 f232:=Tryz.func159.trans (congrArg some (by kernel_rfl))
 f233:=Tryz.func161.trans (congrArg some (by kernel_rfl))
 f234:=Tryz.func162.trans (congrArg some (by kernel_rfl))
 f235:=Tryz.func163.trans (congrArg some (by kernel_rfl))
 f236:=Tryz.func164.trans (congrArg some (by kernel_rfl))
 f260:=Tryz.func246.trans (congrArg some (by kernel_rfl))
 f266:=Tryz.func288.trans (congrArg some (by kernel_rfl))
 f271:=Tryz.func214.trans (congrArg some (by kernel_rfl))
 t0:=Tryz.underlying0
 a0:=Tryz.isAgg0
 z0:=Tryz.sizeOf0
 v0:=Tryz.zeroValue0
 t3:=Tryz.underlying3
 a3:=Tryz.isAgg3
 z3:=Tryz.sizeOf3
 v3:=Tryz.zeroValue3
 t4:=Tryz.underlying4
 a4:=Tryz.isAgg4
 z4:=Tryz.sizeOf4
 v4:=Tryz.zeroValue4
 t5:=Tryz.underlying5
 a5:=Tryz.isAgg5
 z5:=Tryz.sizeOf5
 v5:=Tryz.zeroValue5
 t9:=Tryz.underlying9
 a9:=Tryz.isAgg9
 z9:=Tryz.sizeOf9
 v9:=Tryz.zeroValue9
 t21:=Tryz.underlying21
 a21:=Tryz.isAgg21
 z21:=Tryz.sizeOf21
 v21:=Tryz.zeroValue21
 t46:=Tryz.underlying204
 a46:=Tryz.isAgg204
 z46:=Tryz.sizeOf204
 v46:=Tryz.zeroValue204
 t105:=Tryz.underlying288
 a105:=Tryz.isAgg288
 z105:=Tryz.sizeOf288
 v105:=Tryz.zeroValue288
 t116:=Tryz.underlying248
 a116:=Tryz.isAgg248
 z116:=Tryz.sizeOf248
 t117:=Tryz.underlying249
 a117:=Tryz.isAgg249
 z117:=Tryz.sizeOf249
 v117:=Tryz.zeroValue249
 t119:=Tryz.underlying334
 a119:=Tryz.isAgg334
 z119:=Tryz.sizeOf334
 t124:=Tryz.underlying252
 a124:=Tryz.isAgg252
 z124:=Tryz.sizeOf252
 v124:=Tryz.zeroValue252
 t138:=Tryz.underlying336
 a138:=Tryz.isAgg336
 z138:=Tryz.sizeOf336
 v138:=Tryz.zeroValue336
 t139:=Tryz.underlying337
 a139:=Tryz.isAgg337
 z139:=Tryz.sizeOf337
 v139:=Tryz.zeroValue337
 g3:=by kernel_rfl
 g4:=by kernel_rfl }
def Tryz.Ze:Go.Shelf.Ren:=⟨fun | 106=>228 | 213=>260 | 265=>280 | n=>n,fun | 9=>9 | 3=>3 | n=>n,fun | n=>n⟩
theorem Tryz.aeX:Go.Proofs.Lays.n106 Tryz.prog Tryz.Ze:={
 mixed:=by kernel_rfl
 f106:=Tryz.func228.trans (congrArg some (by kernel_rfl))
 f213:=Tryz.func260.trans (congrArg some (by kernel_rfl))
 f265:=Tryz.func280.trans (congrArg some (by kernel_rfl))
 t3:=Tryz.underlying3
 a3:=Tryz.isAgg3
 z3:=Tryz.sizeOf3
 v3:=Tryz.zeroValue3
 t9:=Tryz.underlying9
 a9:=Tryz.isAgg9
 z9:=Tryz.sizeOf9
 v9:=Tryz.zeroValue9 }
end Go.Proofs
namespace Go.Proofs.SeatA
open Go.Dn Go.Md Go.Proofs Go.RowKit Go.Shelf Go.Lib
def Dc:aK:=⟨[.val .str,.val .str],[.val .str],fun x=>ve x.1 x.2.1⟩
theorem SP:aB Tryz.prog 88:=ay (fn:=Tryz.f88) (by kernel_rfl) rfl (by decide)
theorem Tf:aR Tryz.prog 88 Dc:=by
 intro G w ow args x y hG how ha hm
 refine Y7 (P:=Tryz.prog) (f:=88) (m:=Dc.m) ?_ G w ow args x y hG how ha hm
 intro s c r w hm
 replace hm:ve s c=some (r,()):=hm
 unfold ve at hm
 cases hb:(decide (s.length≤9223372036854775807)&&(decide (c.length<4294967281)&&c.all fun b=>decide (b.toNat<128))) with
 | false=>rw[hb] at hm;cases hm
 | true=>
  rw[hb] at hm
  simp only[cond_true,Option.some.injEq,Prod.mk.injEq,and_true] at hm
  subst hm
  simp only[Bool.and_eq_true,decide_eq_true_eq,List.all_eq_true] at hb
  have:=Any.strings_Trim_laid Tryz.aeY (by kernel_rfl) (bs s) (bs c) w (by simpa [bs,ByteArray.size] using hb.1) (by simpa [bs,ByteArray.size] using hb.2.1) (fun j b hj=>hb.2.2 b (List.mem_of_getElem? (by simpa [bs] using hj)))
  change Calls Tryz.prog 88 _ _ _ at this
  simpa [bs] using this
def yY:aK:=⟨[.val .str,.val .str],[.val tI],fun x=>strings_Compare x.1 x.2.1⟩
theorem NV:aB Tryz.prog 228:=ay (fn:=Tryz.f228) (by kernel_rfl) rfl (by decide)
theorem Oo:aR Tryz.prog 228 yY:=by
 intro G w ow args x y hG how ha hm
 refine acg (P:=Tryz.prog) (f:=228) (t:=tI) (m:=yY.m) ?_ G w ow args x y hG how ha hm
 intro s c r w hm
 replace hm:strings_Compare s c=some (r,()):=hm
 unfold strings_Compare at hm
 obtain rfl:Lib.compareBytes s c=r:=congrArg (fun o=>(Option.getD o (0,())).1) hm
 have:=Any.strings_Compare Tryz.aeX (bs s) (bs c) w
 refine⟨.int .i64 (Lib.compareBytes s c),fun G=> ?_,this.mono ?_⟩
 ·rfl
 ·rintro e w' ⟨he,rfl⟩
  exact⟨he,Below.refl _ _⟩
end Go.Proofs.SeatA
set_option maxRecDepth 100000
namespace Go.Proofs
open Go.Shelf
def Tryz.Vp:Go.Shelf.Ren:=⟨fun | 7=>102 | 10=>174 | n=>n,fun | 23=>180 | 26=>3 | 3=>134 | 28=>178 | 0=>0 | 27=>177 | 33=>102 | 4=>4 | n=>n,fun | n=>n⟩
theorem Tryz.ael:Go.Proofs.SlLaysZI.n7 Tryz.prog Tryz.Vp:={
 mixed:=by kernel_rfl
 f7:=⟨Tryz.f102.name,by decide,Tryz.func102.trans (congrArg some (by kernel_rfl))⟩
 f10:=⟨Tryz.f174.name,by decide,Tryz.func174.trans (congrArg some (by kernel_rfl))⟩
 t0:=Tryz.underlying0
 a0:=Tryz.isAgg0
 z0:=Tryz.sizeOf0
 v0:=Tryz.zeroValue0
 t4:=Tryz.underlying4
 a4:=Tryz.isAgg4
 z4:=Tryz.sizeOf4
 v4:=Tryz.zeroValue4
 t23:=Tryz.underlying180
 a23:=Tryz.isAgg180
 z23:=Tryz.sizeOf180
 v23:=Tryz.zeroValue180
 t26:=Tryz.underlying3
 a26:=Tryz.isAgg3
 z26:=Tryz.sizeOf3
 v26:=Tryz.zeroValue3
 t27:=Tryz.underlying177
 a27:=Tryz.isAgg177
 z27:=Tryz.sizeOf177
 v27:=Tryz.zeroValue177
 t28:=Tryz.underlying178
 a28:=Tryz.isAgg178
 z28:=Tryz.sizeOf178
 v28:=Tryz.zeroValue178
 t33:=Tryz.underlying102
 a33:=Tryz.isAgg102
 z33:=Tryz.sizeOf102
 v33:=Tryz.zeroValue102 }
def Tryz.Qo:Go.Shelf.Ren:=⟨fun | 6=>101 | 8=>172 | 9=>173 | 11=>222 | 13=>224 | 12=>223 | 23=>258 | 24=>259 | 14=>249 | 15=>250 | 16=>251 | 17=>252 | 18=>253 | 19=>254 | 20=>255 | 21=>256 | 22=>257 | 25=>274 | 26=>275 | 27=>276 | 28=>277 | 29=>278 | 30=>279 | 31=>285 | n=>n,fun | 26=>3 | 28=>178 | 24=>151 | 0=>0 | 3=>3 | 37=>204 | 48=>203 | 50=>201 | 4=>4 | 40=>317 | 39=>316 | 45=>207 | 5=>5 | 9=>9 | 51=>340 | 55=>344 | 57=>348 | 58=>349 | 33=>102 | n=>n,fun | n=>n⟩
theorem Tryz.afg:Go.Proofs.SlLaysZI.n6 Tryz.prog Tryz.Qo:={
 mixed:=by kernel_rfl
 f6:=⟨Tryz.f101.name,by decide,Tryz.func101.trans (congrArg some (by kernel_rfl))⟩
 f8:=⟨Tryz.f172.name,by decide,Tryz.func172.trans (congrArg some (by kernel_rfl))⟩
 f11:=⟨Tryz.f222.name,by decide,Tryz.func222.trans (congrArg some (by kernel_rfl))⟩
 t0:=Tryz.underlying0
 a0:=Tryz.isAgg0
 z0:=Tryz.sizeOf0
 v0:=Tryz.zeroValue0
 t24:=Tryz.underlying151
 a24:=Tryz.isAgg151
 z24:=Tryz.sizeOf151
 v24:=Tryz.zeroValue151
 t26:=Tryz.underlying3
 a26:=Tryz.isAgg3
 z26:=Tryz.sizeOf3
 v26:=Tryz.zeroValue3
 t28:=Tryz.underlying178
 a28:=Tryz.isAgg178
 z28:=Tryz.sizeOf178
 v28:=Tryz.zeroValue178
 i26:=by kernel_rfl }
def Tryz.ac7:Go.Shelf.Ren:=⟨fun | 5=>173 | 8=>224 | 7=>223 | 19=>258 | 20=>259 | 10=>249 | 11=>250 | 12=>251 | 13=>252 | 14=>253 | 15=>254 | 16=>255 | 17=>256 | 18=>257 | 30=>274 | 31=>275 | 32=>276 | 33=>277 | 34=>278 | 35=>279 | 40=>285 | n=>n,fun | 23=>151 | 25=>3 | 3=>3 | 32=>204 | 22=>151 | 0=>0 | 44=>203 | 46=>201 | 4=>4 | 36=>317 | 35=>316 | 41=>207 | 5=>5 | 9=>9 | 53=>340 | 57=>344 | 63=>348 | 64=>349 | n=>n,fun | n=>n⟩
theorem Tryz.aeq:Go.Proofs.SlLaysM.n5 Tryz.prog Tryz.ac7:={
 mixed:=by kernel_rfl
 f5:=⟨Tryz.f173.name,by decide,Tryz.func173.trans (congrArg some (by kernel_rfl))⟩
 f7:=⟨Tryz.f223.name,by decide,Tryz.func223.trans (congrArg some (by kernel_rfl))⟩
 f8:=Tryz.func224.trans (congrArg some (by kernel_rfl))
 f10:=⟨Tryz.f249.name,by decide,Tryz.func249.trans (congrArg some (by kernel_rfl))⟩
 f11:=⟨Tryz.f250.name,by decide,Tryz.func250.trans (congrArg some (by kernel_rfl))⟩
 f12:=⟨Tryz.f251.name,by decide,Tryz.func251.trans (congrArg some (by kernel_rfl))⟩
 f13:=⟨Tryz.f252.name,by decide,Tryz.func252.trans (congrArg some (by kernel_rfl))⟩
 f14:=⟨Tryz.f253.name,by decide,Tryz.func253.trans (congrArg some (by kernel_rfl))⟩
 f15:=⟨Tryz.f254.name,by decide,Tryz.func254.trans (congrArg some (by kernel_rfl))⟩
 f16:=⟨Tryz.f255.name,by decide,Tryz.func255.trans (congrArg some (by kernel_rfl))⟩
 f17:=⟨Tryz.f256.name,by decide,Tryz.func256.trans (congrArg some (by kernel_rfl))⟩
 f18:=⟨Tryz.f257.name,by decide,Tryz.func257.trans (congrArg some (by kernel_rfl))⟩
 f19:=Tryz.func258.trans (congrArg some (by kernel_rfl))
 f20:=Tryz.func259.trans (congrArg some (by kernel_rfl))
 f30:=⟨Tryz.f274.name,by decide,Tryz.func274.trans (congrArg some (by kernel_rfl))⟩
 f31:=Tryz.func275.trans (congrArg some (by kernel_rfl))
 f32:=Tryz.func276.trans (congrArg some (by kernel_rfl))
 f33:=⟨Tryz.f277.name,by decide,Tryz.func277.trans (congrArg some (by kernel_rfl))⟩
 f34:=⟨Tryz.f278.name,by decide,Tryz.func278.trans (congrArg some (by kernel_rfl))⟩
 f35:=⟨Tryz.f279.name,by decide,Tryz.func279.trans (congrArg some (by kernel_rfl))⟩
 f40:=⟨Tryz.f285.name,by decide,Tryz.func285.trans (congrArg some (by kernel_rfl))⟩
 t0:=Tryz.underlying0
 a0:=Tryz.isAgg0
 z0:=Tryz.sizeOf0
 v0:=Tryz.zeroValue0
 t3:=Tryz.underlying3
 a3:=Tryz.isAgg3
 z3:=Tryz.sizeOf3
 v3:=Tryz.zeroValue3
 t4:=Tryz.underlying4
 a4:=Tryz.isAgg4
 z4:=Tryz.sizeOf4
 v4:=Tryz.zeroValue4
 t5:=Tryz.underlying5
 a5:=Tryz.isAgg5
 z5:=Tryz.sizeOf5
 v5:=Tryz.zeroValue5
 t9:=Tryz.underlying9
 a9:=Tryz.isAgg9
 z9:=Tryz.sizeOf9
 v9:=Tryz.zeroValue9
 t22:=Tryz.underlying151
 a22:=Tryz.isAgg151
 z22:=Tryz.sizeOf151
 v22:=Tryz.zeroValue151
 t23:=Tryz.underlying151
 a23:=Tryz.isAgg151
 z23:=Tryz.sizeOf151
 v23:=Tryz.zeroValue151
 t25:=Tryz.underlying3
 a25:=Tryz.isAgg3
 z25:=Tryz.sizeOf3
 v25:=Tryz.zeroValue3
 t32:=Tryz.underlying204
 a32:=Tryz.isAgg204
 z32:=Tryz.sizeOf204
 v32:=Tryz.zeroValue204
 t35:=Tryz.underlying316
 a35:=Tryz.isAgg316
 z35:=Tryz.sizeOf316
 v35:=Tryz.zeroValue316
 t36:=Tryz.underlying317
 a36:=Tryz.isAgg317
 z36:=Tryz.sizeOf317
 v36:=Tryz.zeroValue317
 t41:=Tryz.underlying207
 a41:=Tryz.isAgg207
 z41:=Tryz.sizeOf207
 v41:=Tryz.zeroValue207
 t44:=Tryz.underlying203
 a44:=Tryz.isAgg203
 z44:=Tryz.sizeOf203
 v44:=Tryz.zeroValue203
 t46:=Tryz.underlying201
 a46:=Tryz.isAgg201
 z46:=Tryz.sizeOf201
 v46:=Tryz.zeroValue201
 t53:=Tryz.underlying340
 a53:=Tryz.isAgg340
 z53:=Tryz.sizeOf340
 v53:=Tryz.zeroValue340
 t57:=Tryz.underlying344
 a57:=Tryz.isAgg344
 z57:=Tryz.sizeOf344
 v57:=Tryz.zeroValue344
 t63:=Tryz.underlying348
 a63:=Tryz.isAgg348
 z63:=Tryz.sizeOf348
 v63:=Tryz.zeroValue348
 t64:=Tryz.underlying349
 a64:=Tryz.isAgg349
 z64:=Tryz.sizeOf349
 v64:=Tryz.zeroValue349 }
end Go.Proofs
namespace Go.Proofs.SeatA
open Go.Dn Go.Md Go.Proofs Go.RowKit Go.Shelf Go.Lib Go.Sort
theorem afR (m:Nat):AnyZI.SortsIn Tryz.prog Tryz.Qo Fence.wide m:=
 ⟨fun blk off cap ss W hH hblk hsz=>callsIn_wide.2 (AnyM.slices_Sort_int Tryz.aeq blk off cap ss W hH hblk hsz),
  fun p cap W=>callsIn_wide.2 (AnyM.slices_Sort_int_none Tryz.aeq p cap W)⟩
def ZV:E5:= .mk 174
theorem aeS:aB Tryz.prog 102:=ay (fn:=Tryz.f102) (by kernel_rfl) rfl (by decide)
theorem aeV:OM Tryz.prog 102 ZV:=
 ⟨180,fun mb W=>callsIn_wide.1 (AnyZI.keys_in Tryz.ael Fence.wide 5 trivial rfl mb W)⟩
def ZU:E5:= .srt 174 3 3
theorem aeR:aB Tryz.prog 101:=ay (fn:=Tryz.f101) (by kernel_rfl) rfl (by decide)
theorem aeU:OM Tryz.prog 101 ZU:=by
 refine⟨Tryz.underlying3,fun Bm b nn D0 w hB hc hown BE hbytes=> ?_⟩
 have hseq:SeqGives Fence.wide 2 Tryz.prog 174 #[.pointer (some ⟨Bm,0,none⟩)] encZ (fun ss=>ss.Perm (intKeys D0)) (Maps.size D0) w:=
  AnyZI.keys_gives (ρ:=Tryz.Vp) { Tryz.ael with } Fence.wide _ trivial rfl (by omega) Bm b nn D0 _ hB hc hown
 have cS:=AnyZI.sorted_in Tryz.afg Fence.wide 5 trivial trivial trivial trivial rfl (by omega) (afR _) (enters_of Tryz.func173 (by kernel_rfl) rfl) 174 #[.pointer (some ⟨Bm,0,none⟩)] trivial (enters_of Tryz.func174 (by kernel_rfl) rfl) _ _ BE hbytes _ hseq
 change CallsIn _ _ Tryz.prog 101 _ _ _ at cS
 refine (callsIn_wide.1 cS).mono ?_
 rintro e w' ⟨v,ss,he,hS,hrow,_,hb⟩
 exact⟨v,ss,he,hS,hrow,hb⟩
end Go.Proofs.SeatA
