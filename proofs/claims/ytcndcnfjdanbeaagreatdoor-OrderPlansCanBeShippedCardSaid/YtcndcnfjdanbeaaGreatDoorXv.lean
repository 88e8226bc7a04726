/-
  Functions of the library and of kit, by contracts and by a walk. No condition.
-/
import Derived.Test.YtcndcnfjdanbeaaGreatDoorXo
import Derived.Test.YtcndcnfjdanbeaaGreatDoorXd
import Derived.Shelf.Strings.Split
import Derived.Shelf.LaysM
import Derived.Test.YtcndcnfjdanbeaaGreatDoorXx
import Derived.Test.YtcndcnfjdanbeaaGreatDoorProg
import Derived.Shelf.Strings.SlTrimAscii
import Derived.Shelf.Strconv.Atoi
import Derived.Shelf.Strings.Search1
import Derived.WalkKit
import Derived.Deep.QuietTactic
import Derived.BigQuiet
import Derived.Lib.AtoiErrMem
import Derived.Test.YtcndcnfjdanbeaaGreatDoorXr
import Derived.Test.YtcndcnfjdanbeaaGreatDoorXt
import Derived.Shelf.SlIterI.Sorted
import Derived.LoopN
set_option linter.all false
namespace Go.Md
open Go.Dn Go.Lib
theorem DJ (c b:UInt8) (r:Bys):index (b::r) [c]=if b=c then 0 else if index r [c]== -1 then -1 else index r [c]+1:=by
 rw[index]
 by_cases h:b=c
 ·subst h;simp
 ·have:(c==b)=false:=by simp[Ne.symm h]
  simp[h,List.isPrefixOf,this]
theorem count_cons (c b:UInt8) (r:Bys):count (b::r) [c]=(if b=c then 1 else 0)+count r [c]:=by
 rw[count_one,count_one,List.count_cons]
 by_cases h:b=c
 ·subst h;simp;omega
 ·simp[h]
theorem Mb (c b:UInt8) (h:b≠c):∀ (k:Nat) (r:Bys),splitK [c] 0 k (b::r)=(match splitK [c] 0 k r with | x::t=>(b::x)::t | []=>[[b]])
 | 0,r=>rfl
 | k+1,r=>by
  simp only[splitK,DJ,if_neg h]
  have hge:=index_ge r [c]
  by_cases h1:index r [c]= -1
  ·simp[h1]
  ·have e1:(index r [c]== -1)=false:=by simp[h1]
   have e2:(index r [c]+1== -1)=false:=by simp;omega
   simp only[e1,e2,Bool.false_eq_true,if_false]
   have e3:(index r [c]+1).toNat=(index r [c]).toNat+1:=by omega
   rw[e3]
   simp[Nat.add_assoc]
theorem HG (c:UInt8):∀ (s:Bys),splitK [c] 0 (count s [c]) s=l6 c s
 | []=>by
  have:count [] [c]=0:=by rw[count_one];rfl
  rw[this];rfl
 | b::r=>by
  have ih:=HG c r
  rw[count_cons]
  by_cases h:b=c
  ·subst h
   rw[if_pos rfl,Nat.add_comm]
   simp only[splitK,DJ,l6]
   simp[ih]
  ·have hb:(b==c)=false:=by simp[h]
   rw[if_neg h,Nat.zero_add,Mb c b h,ih]
   simp only[l6,hb,cond_false]
   cases l6 c r<;>rfl
end Go.Md
namespace Go.Dn
open Go.Md Go.Proofs Go.Shelf Go.RowKit Go.Lib
theorem MR {G:Gh}:∀ (l:List ByteArray),cm (aA G .str) (l.map (·.data.toList)) (l.map Value.string)
 | []=>rfl
 | x::r=>⟨[.string x],r.map Value.string,rfl,by show [Value.string x]=[Value.string (bs x.data.toList)];simp[bs],MR r⟩
theorem Rl {P:Program} {ρ:Ren} (L:LaysM.n146 P ρ) {G:Gh} {w:World} {ow:Nat→Option Nat} (s:Bys) (b:UInt8) (hG:Agr G w) (hT:rQ P G) (hlen:s.length<4294967281):
 Calls P (ρ.f 146) #[.string (bs s),.string (bs [b])] w fun e w'=>∃ G' ow' vs,Ny G w ow ⟨[.val .str,.val .str],[.row (ρ.t 9) .str],fun x=>strings_Split x.1 x.2.1⟩ [.string (bs s),.string (bs [b])] (l6 b s,()) e w' G' ow' vs:=by
 obtain⟨m,T,fz,hml⟩:=hT.maxLen _ L.m1
 have hcell:w.cell? ⟨ρ.g 1,0,none⟩=some (.int .i64 m):=by
  have:=hG _ _ hml
  simp[World.cell?,this]
 have hsz:(bs s).size=s.length:=List.size_toArray
 have h1b:1≤(bs [b]).size:=Nat.le_refl 1
 refine (Any.strings_Split { L with } L.i9 (bs s) (bs [b]) m w (by omega) hcell h1b).mono ?_
 rintro e w' ⟨rfl,rfl⟩
 have hsp:(splitB (bs [b]) 0 (countB (bs s) (bs [b])) (bs s)).map (·.data.toList)=l6 b s:=by
  rw[splitB_data]
  exact HG b s
 have hl:=splitB_all (bs [b]) h1b 0 _ (bs s) rfl
 have hle:=countB_le (bs [b]) h1b (bs s).size (bs s) (Nat.le_refl _)
 generalize splitB (bs [b]) 0 (countB (bs s) (bs [b])) (bs s)=q at hsp hl
 generalize countB (bs s) (bs [b])=n at hl hle
 have hrl:(l6 b s).length=n+1:=by rw[← hsp,List.length_map,hl]
 have hnone:G w.heap.size=none:=by
  cases hg:G w.heap.size with
  | none=>rfl
  | some o=>have:=dn (hG _ _ hg);omega
 have zB:n+1≤maxLen:=by
  have:maxLen=9223372036854775807:=rfl
  omega
 have hown:(w.alloc (.cells (q.map Value.string).toArray (ρ.t 9))).ownsRow 0 (ρ.t 9) 1 (.slice (some ⟨w.heap.size,0,none⟩) (n+1) (n+1)) (l6 b s).length (q.map Value.string):=
  ⟨by rw[List.length_map,hl,hrl,Nat.mul_one],.inr ⟨w.heap.size,n+1,(q.map Value.string).toArray,by rw[hrl],Nat.zero_le _,heap_alloc_new w _,by rw[hrl];exact Nat.le_refl _,zB,by rw[List.size_toArray,List.length_map,hl,Nat.mul_one],
    by rw[hrl,Nat.mul_one];exact List.take_of_length_le (by show (q.map Value.string).length≤_;rw[List.length_map,hl];exact Nat.le_refl _)⟩⟩
 refine⟨G,fun i=>if i=w.heap.size then some (64*24) else none,[.slice (some ⟨w.heap.size,0,none⟩) (n+1) (n+1)], ?_⟩
 exact {
  ret:=rfl
  le:=Gh.le_refl G
  agr:=fun i o hi=>by
   have h1:=hG i o hi
   rw[heap_alloc_old w _ (dn h1)];exact h1
  size:=by simp
  os:=rfl
  output:=rfl
  old:=fun i hi _=>⟨heap_alloc_old w _ hi,rfl⟩
  own:=fun i j hj=>by
   by_cases e:i=w.heap.size
   ·subst e;exact⟨hnone,by simp,.inl (Nat.le_refl _)⟩
   ·simp only[e,if_false] at hj;cases hj
  out:=by
   refine⟨_,[],rfl,⟨⟨q.map Value.string,hown,by rw[← hsp];exact MR q⟩,fun k hk=> ?_⟩,rfl,trivial⟩
   have:some w.heap.size=some k:=hk
   cases this
   show (if w.heap.size=w.heap.size then some (64*24) else none)=_
   rw[if_pos rfl]
  hnd:=fun _=>rfl }
theorem Rm {s c:Bys} {r:List Bys} (h:strings_Split s c=some (r,())):∃ b,c=[b]∧s.length<4294967281∧r=l6 b s:=by
 unfold strings_Split at h
 split at h
 ·rename_i b
  cases hb:decide (s.length<4294967281) with
  | false=>rw[hb] at h;cases h
  | true=>
   rw[hb] at h
   exact⟨b,rfl,of_decide_eq_true hb,(Prod.mk.inj (Option.some.inj h)).1.symm⟩
 ·cases h
theorem TP {P:Program} {ρ:Ren} (L:LaysM.n146 P ρ):aI P (ρ.f 146) ⟨[.val .str,.val .str],[.row (ρ.t 9) .str],fun x=>strings_Split x.1 x.2.1⟩:=by
 intro G w ow args x y hG how ha hm hT
 obtain⟨s,c,u⟩:=x
 obtain⟨r,u'⟩:=y
 obtain⟨v,us,h1,l1,hv,v',us',h2,l2,hv',h3⟩:=ha
 have e1:=h1 rfl
 have e2:=h2 rfl
 have e3:us'=[]:=h3
 have e4:v= .string (bs s):=by simpa [HP,bS,aA] using hv
 have e5:v'= .string (bs c):=by simpa [HP,bS,aA] using hv'
 subst e1;subst e2;subst e3;subst e4;subst e5
 obtain⟨b,rfl,hlen,rfl⟩:=Rm hm
 exact Rl L s b hG hT hlen
end Go.Dn
namespace Go.Proofs
open Go.Shelf
def Tryz.Px:Go.Shelf.Ren:=⟨fun | 160=>178 | 232=>201 | 231=>200 | 227=>202 | 234=>204 | 233=>203 | 236=>206 | 235=>205 | 228=>221 | 271=>224 | 151=>223 | 197=>222 | 120=>237 | 152=>236 | 260=>235 | 137=>248 | 119=>249 | 224=>240 | 225=>239 | 217=>238 | 266=>250 | n=>n,fun | 9=>9 | 4=>4 | 3=>3 | 5=>5 | 117=>246 | 116=>245 | 0=>0 | 124=>249 | 21=>21 | 105=>265 | 46=>175 | 119=>281 | 139=>284 | 138=>283 | n=>n,fun | 3=>1 | 4=>2 | n=>n⟩
theorem Tryz.Ux:Go.Proofs.Lays.n160 Tryz.prog Tryz.Px:={
 mixed:=by kernel_rfl
 f119:=Tryz.func249.trans (congrArg some (by kernel_rfl))
 f120:=Tryz.func237.trans (congrArg some (by kernel_rfl))
 f137:=Tryz.func248.trans (congrArg some (by kernel_rfl))
 f151:=Tryz.func223.trans (congrArg some (by kernel_rfl))
 f152:=Tryz.func236.trans (congrArg some (by kernel_rfl))
 f160:=Tryz.func178.trans (congrArg some (by kernel_rfl))
 f197:=Tryz.func222.trans (congrArg some (by kernel_rfl))
 f217:=Tryz.func238.trans (congrArg some (by kernel_rfl))
 f224:=Tryz.func240.trans (congrArg some (by kernel_rfl))
 f225:=Tryz.func239.trans (congrArg some (by kernel_rfl))
 f227:=Tryz.func202.trans (congrArg some (by kernel_rfl))
 f228:=Tryz.func221.trans (congrArg some (by kernel_rfl))
 f231:=Tryz.func200.trans (congrArg some (by kernel_rfl))
 f232:=Tryz.func201.trans (congrArg some (by kernel_rfl))
 f233:=Tryz.func203.trans (congrArg some (by kernel_rfl))
 f234:=Tryz.func204.trans (congrArg some (by kernel_rfl))
 f235:=Tryz.func205.trans (congrArg some (by kernel_rfl))
 f236:=Tryz.func206.trans (congrArg some (by kernel_rfl))
 f260:=Tryz.func235.trans (congrArg some (by kernel_rfl))
 f266:=Tryz.func250.trans (congrArg some (by kernel_rfl))
 f271:=Tryz.func224.trans (congrArg some (by kernel_rfl))
 t0:=Tryz.underlying0
 a0:=Tryz.isAgg0
 z0:=Tryz.sizeOf0
 v0:=Tryz.zeroValue0
 t3:=Tryz.underlying3
 a3:=Tryz.isAgg3
 z3:=Tryz.sizeOf3
 v3:=Tryz.zeroValue3
 t4:=Tryz.underlying4
 a4:=Tryz.isAgg4
 z4:=Tryz.sizeOf4
 v4:=Tryz.zeroValue4
 t5:=Tryz.underlying5
 a5:=Tryz.isAgg5
 z5:=Tryz.sizeOf5
 v5:=Tryz.zeroValue5
 t9:=Tryz.underlying9
 a9:=Tryz.isAgg9
 z9:=Tryz.sizeOf9
 v9:=Tryz.zeroValue9
 t21:=Tryz.underlying21
 a21:=Tryz.isAgg21
 z21:=Tryz.sizeOf21
 v21:=Tryz.zeroValue21
 t46:=Tryz.underlying175
 a46:=Tryz.isAgg175
 z46:=Tryz.sizeOf175
 v46:=Tryz.zeroValue175
 t105:=Tryz.underlying265
 a105:=Tryz.isAgg265
 z105:=Tryz.sizeOf265
 v105:=Tryz.zeroValue265
 t116:=Tryz.underlying245
 a116:=Tryz.isAgg245
 z116:=Tryz.sizeOf245
 t117:=Tryz.underlying246
 a117:=Tryz.isAgg246
 z117:=Tryz.sizeOf246
 v117:=Tryz.zeroValue246
 t119:=Tryz.underlying281
 a119:=Tryz.isAgg281
 z119:=Tryz.sizeOf281
 t124:=Tryz.underlying249
 a124:=Tryz.isAgg249
 z124:=Tryz.sizeOf249
 v124:=Tryz.zeroValue249
 t138:=Tryz.underlying283
 a138:=Tryz.isAgg283
 z138:=Tryz.sizeOf283
 v138:=Tryz.zeroValue283
 t139:=Tryz.underlying284
 a139:=Tryz.isAgg284
 z139:=Tryz.sizeOf284
 v139:=Tryz.zeroValue284
 g3:=by kernel_rfl
 g4:=by kernel_rfl }
def Tryz.Ox:Go.Shelf.Ren:=⟨fun | 146=>149 | 221=>186 | 268=>209 | 138=>210 | 143=>211 | 195=>226 | 197=>222 | 218=>227 | 219=>228 | 260=>235 | 217=>238 | 225=>239 | 224=>240 | 267=>241 | 266=>250 | 314=>251 | n=>n,fun | 9=>9 | 31=>165 | 3=>3 | 4=>4 | 0=>0 | 105=>265 | 21=>21 | 5=>5 | 46=>175 | 119=>281 | 139=>284 | 138=>283 | 146=>286 | 51=>192 | n=>n,fun | 1=>0 | 3=>1 | 4=>2 | n=>n⟩
theorem Tryz.Tn:Go.Proofs.LaysM.n146 Tryz.prog Tryz.Ox:={
 mixed:=by kernel_rfl
 f138:=Tryz.func210.trans (congrArg some (by kernel_rfl))
 f143:=Tryz.func211.trans (congrArg some (by kernel_rfl))
 f146:=Tryz.func149.trans (congrArg some (by kernel_rfl))
 f195:=Tryz.func226.trans (congrArg some (by kernel_rfl))
 f197:=Tryz.func222.trans (congrArg some (by kernel_rfl))
 f217:=Tryz.func238.trans (congrArg some (by kernel_rfl))
 f218:=Tryz.func227.trans (congrArg some (by kernel_rfl))
 f219:=Tryz.func228.trans (congrArg some (by kernel_rfl))
 f221:=Tryz.func186.trans (congrArg some (by kernel_rfl))
 f224:=Tryz.func240.trans (congrArg some (by kernel_rfl))
 f225:=Tryz.func239.trans (congrArg some (by kernel_rfl))
 f260:=Tryz.func235.trans (congrArg some (by kernel_rfl))
 f266:=Tryz.func250.trans (congrArg some (by kernel_rfl))
 f267:=Tryz.func241.trans (congrArg some (by kernel_rfl))
 f268:=Tryz.func209.trans (congrArg some (by kernel_rfl))
 f314:=Tryz.func251.trans (congrArg some (by kernel_rfl))
 t0:=Tryz.underlying0
 a0:=Tryz.isAgg0
 z0:=Tryz.sizeOf0
 v0:=Tryz.zeroValue0
 t3:=Tryz.underlying3
 a3:=Tryz.isAgg3
 z3:=Tryz.sizeOf3
 v3:=Tryz.zeroValue3
 t4:=Tryz.underlying4
 a4:=Tryz.isAgg4
 z4:=Tryz.sizeOf4
 v4:=Tryz.zeroValue4
 t5:=Tryz.underlying5
 a5:=Tryz.isAgg5
 z5:=Tryz.sizeOf5
 v5:=Tryz.zeroValue5
 t9:=Tryz.underlying9
 a9:=Tryz.isAgg9
 z9:=Tryz.sizeOf9
 v9:=Tryz.zeroValue9
 t21:=Tryz.underlying21
 a21:=Tryz.isAgg21
 z21:=Tryz.sizeOf21
 v21:=Tryz.zeroValue21
 t31:=Tryz.underlying165
 a31:=Tryz.isAgg165
 z31:=Tryz.sizeOf165
 v31:=Tryz.zeroValue165
 t46:=Tryz.underlying175
 a46:=Tryz.isAgg175
 z46:=Tryz.sizeOf175
 v46:=Tryz.zeroValue175
 t51:=Tryz.underlying192
 a51:=Tryz.isAgg192
 z51:=Tryz.sizeOf192
 v51:=Tryz.zeroValue192
 t105:=Tryz.underlying265
 a105:=Tryz.isAgg265
 z105:=Tryz.sizeOf265
 v105:=Tryz.zeroValue265
 t119:=Tryz.underlying281
 a119:=Tryz.isAgg281
 z119:=Tryz.sizeOf281
 t138:=Tryz.underlying283
 a138:=Tryz.isAgg283
 z138:=Tryz.sizeOf283
 v138:=Tryz.zeroValue283
 t139:=Tryz.underlying284
 a139:=Tryz.isAgg284
 z139:=Tryz.sizeOf284
 v139:=Tryz.zeroValue284
 t146:=Tryz.underlying286
 a146:=Tryz.isAgg286
 z146:=Tryz.sizeOf286
 v146:=Tryz.zeroValue286
 g1:=by kernel_rfl
 g3:=by kernel_rfl
 g4:=by kernel_rfl
 i0:=by kernel_rfl
 i3:=by kernel_rfl
 i4:=by kernel_rfl
 i5:=by kernel_rfl
 i9:=by kernel_rfl
 i21:=by kernel_rfl
 i31:=by kernel_rfl
 i46:=by kernel_rfl
 i51:=by kernel_rfl
 i105:=by kernel_rfl
 i138:=by kernel_rfl
 i139:=by kernel_rfl
 i146:=by kernel_rfl
 m1:=by kernel_rfl
 s1_3:=fun w h=>Go.Proofs.cell_of_shapedOpen_int (zero:= #[.int .i64 0]) (t:=3) h (of_decide_eq_true (by kernel_rfl)) (by kernel_rfl) rfl (by kernel_rfl) (by kernel_rfl) Tryz.underlying3
 m3:=by kernel_rfl
 m4:=by kernel_rfl }
def Tryz.Py:Go.Shelf.Ren:=⟨fun | 172=>213 | 244=>230 | 245=>231 | 247=>242 | 279=>243 | 280=>244 | 281=>245 | 282=>246 | 287=>252 | 316=>253 | 171=>255 | 205=>254 | 321=>256 | 322=>257 | 243=>258 | 246=>259 | 283=>260 | 284=>261 | 285=>262 | 286=>263 | 129=>170 | 317=>264 | 318=>265 | 319=>266 | 320=>267 | 337=>268 | 338=>269 | n=>n,fun | 9=>9 | 3=>3 | 75=>254 | 76=>255 | 4=>4 | 5=>5 | 167=>274 | 37=>275 | 0=>0 | 85=>276 | 2=>2 | 168=>278 | 53=>190 | 175=>288 | 46=>175 | 210=>292 | 127=>296 | 145=>299 | 143=>297 | 21=>21 | 171=>301 | 173=>303 | 212=>306 | 51=>192 | 20=>20 | 213=>307 | 232=>308 | 233=>309 | 80=>211 | n=>n,fun | 15=>3 | 16=>4 | 17=>5 | 18=>6 | 19=>7 | n=>n⟩
theorem Tryz.Uy:Go.Proofs.Lays.n172 Tryz.prog Tryz.Py:={
 mixed:=by kernel_rfl
 f129:=Tryz.func170.trans (congrArg some (by kernel_rfl))
 f171:=Tryz.func255.trans (congrArg some (by kernel_rfl))
 f172:=Tryz.func213.trans (congrArg some (by kernel_rfl))
 f205:=Tryz.func254.trans (congrArg some (by kernel_rfl))
 f243:=Tryz.func258.trans (congrArg some (by kernel_rfl))
 f244:=Tryz.func230.trans (congrArg some (by kernel_rfl))
 f245:=Tryz.func231.trans (congrArg some (by kernel_rfl))
 f246:=Tryz.func259.trans (congrArg some (by kernel_rfl))
 f247:=Tryz.func242.trans (congrArg some (by kernel_rfl))
 f279:=Tryz.func243.trans (congrArg some (by kernel_rfl))
 f280:=Tryz.func244.trans (congrArg some (by kernel_rfl))
 f281:=Tryz.func245.trans (congrArg some (by kernel_rfl))
 f282:=Tryz.func246.trans (congrArg some (by kernel_rfl))
 f283:=Tryz.func260.trans (congrArg some (by kernel_rfl))
 f284:=Tryz.func261.trans (congrArg some (by kernel_rfl))
 f285:=Tryz.func262.trans (congrArg some (by kernel_rfl))
 f286:=Tryz.func263.trans (congrArg some (by kernel_rfl))
 f287:=Tryz.func252.trans (congrArg some (by kernel_rfl))
 f316:=Tryz.func253.trans (congrArg some (by kernel_rfl))
 f317:=Tryz.func264.trans (congrArg some (by kernel_rfl))
 f318:=Tryz.func265.trans (congrArg some (by kernel_rfl))
 f319:=Tryz.func266.trans (congrArg some (by kernel_rfl))
 f320:=Tryz.func267.trans (congrArg some (by kernel_rfl))
 f321:=Tryz.func256.trans (congrArg some (by kernel_rfl))
 f322:=Tryz.func257.trans (congrArg some (by kernel_rfl))
 f337:=Tryz.func268.trans (congrArg some (by kernel_rfl))
 f338:=Tryz.func269.trans (congrArg some (by kernel_rfl))
 t0:=Tryz.underlying0
 a0:=Tryz.isAgg0
 z0:=Tryz.sizeOf0
 v0:=Tryz.zeroValue0
 t2:=Tryz.underlying2
 a2:=Tryz.isAgg2
 z2:=Tryz.sizeOf2
 v2:=Tryz.zeroValue2
 t3:=Tryz.underlying3
 a3:=Tryz.isAgg3
 z3:=Tryz.sizeOf3
 v3:=Tryz.zeroValue3
 t4:=Tryz.underlying4
 a4:=Tryz.isAgg4
 z4:=Tryz.sizeOf4
 v4:=Tryz.zeroValue4
 t5:=Tryz.underlying5
 a5:=Tryz.isAgg5
 z5:=Tryz.sizeOf5
 v5:=Tryz.zeroValue5
 t9:=Tryz.underlying9
 a9:=Tryz.isAgg9
 z9:=Tryz.sizeOf9
 v9:=Tryz.zeroValue9
 t20:=Tryz.underlying20
 a20:=Tryz.isAgg20
 z20:=Tryz.sizeOf20
 v20:=Tryz.zeroValue20
 t21:=Tryz.underlying21
 a21:=Tryz.isAgg21
 z21:=Tryz.sizeOf21
 v21:=Tryz.zeroValue21
 t37:=Tryz.underlying275
 a37:=Tryz.isAgg275
 z37:=Tryz.sizeOf275
 v37:=Tryz.zeroValue275
 t46:=Tryz.underlying175
 a46:=Tryz.isAgg175
 z46:=Tryz.sizeOf175
 v46:=Tryz.zeroValue175
 t51:=Tryz.underlying192
 a51:=Tryz.isAgg192
 z51:=Tryz.sizeOf192
 v51:=Tryz.zeroValue192
 t53:=Tryz.underlying190
 a53:=Tryz.isAgg190
 z53:=Tryz.sizeOf190
 v53:=Tryz.zeroValue190
 t75:=Tryz.underlying254
 a75:=Tryz.isAgg254
 z75:=Tryz.sizeOf254
 v75:=Tryz.zeroValue254
 t76:=Tryz.underlying255
 a76:=Tryz.isAgg255
 z76:=Tryz.sizeOf255
 v76:=Tryz.zeroValue255
 t85:=Tryz.underlying276
 a85:=Tryz.isAgg276
 z85:=Tryz.sizeOf276
 v85:=Tryz.zeroValue276
 t127:=Tryz.underlying296
 a127:=Tryz.isAgg296
 z127:=Tryz.sizeOf296
 v127:=Tryz.zeroValue296
 t143:=Tryz.underlying297
 a143:=Tryz.isAgg297
 z143:=Tryz.sizeOf297
 v143:=Tryz.zeroValue297
 t145:=Tryz.underlying299
 a145:=Tryz.isAgg299
 z145:=Tryz.sizeOf299
 v145:=Tryz.zeroValue299
 t167:=Tryz.underlying274
 a167:=Tryz.isAgg274
 z167:=Tryz.sizeOf274
 v167:=Tryz.zeroValue274
 t168:=Tryz.underlying278
 a168:=Tryz.isAgg278
 z168:=Tryz.sizeOf278
 v168:=Tryz.zeroValue278
 t171:=Tryz.underlying301
 a171:=Tryz.isAgg301
 z171:=Tryz.sizeOf301
 v171:=Tryz.zeroValue301
 t173:=Tryz.underlying303
 a173:=Tryz.isAgg303
 z173:=Tryz.sizeOf303
 v173:=Tryz.zeroValue303
 t175:=Tryz.underlying288
 a175:=Tryz.isAgg288
 z175:=Tryz.sizeOf288
 v175:=Tryz.zeroValue288
 t210:=Tryz.underlying292
 a210:=Tryz.isAgg292
 z210:=Tryz.sizeOf292
 v210:=Tryz.zeroValue292
 t212:=Tryz.underlying306
 a212:=Tryz.isAgg306
 z212:=Tryz.sizeOf306
 v212:=Tryz.zeroValue306
 t213:=Tryz.underlying307
 a213:=Tryz.isAgg307
 z213:=Tryz.sizeOf307
 t232:=Tryz.underlying308
 a232:=Tryz.isAgg308
 z232:=Tryz.sizeOf308
 v232:=Tryz.zeroValue308
 t233:=Tryz.underlying309
 a233:=Tryz.isAgg309
 z233:=Tryz.sizeOf309
 v233:=Tryz.zeroValue309
 g15:=by kernel_rfl
 g16:=by kernel_rfl
 g17:=by kernel_rfl
 g18:=by kernel_rfl
 g19:=by kernel_rfl }
def Tryz.Pz:Go.Shelf.Ren:=⟨fun | 217=>238 | 266=>250 | n=>n,fun | 9=>9 | 5=>5 | 3=>3 | n=>n,fun | n=>n⟩
theorem Tryz.Uz:Go.Proofs.Lays.n217 Tryz.prog Tryz.Pz:={
 mixed:=by kernel_rfl
 f217:=Tryz.func238.trans (congrArg some (by kernel_rfl))
 f266:=Tryz.func250.trans (congrArg some (by kernel_rfl))
 t3:=Tryz.underlying3
 a3:=Tryz.isAgg3
 z3:=Tryz.sizeOf3
 v3:=Tryz.zeroValue3
 t5:=Tryz.underlying5
 a5:=Tryz.isAgg5
 z5:=Tryz.sizeOf5
 v5:=Tryz.zeroValue5
 t9:=Tryz.underlying9
 a9:=Tryz.isAgg9
 z9:=Tryz.sizeOf9
 v9:=Tryz.zeroValue9 }
end Go.Proofs
namespace Go.Proofs.SeatA
open Go.Dn Go.Md Go.Proofs Go.RowKit Go.Shelf Go.Lib
def xz:aB:=⟨[.val .str,.val .str],[.val .str],fun x=>p9 x.1 x.2.1⟩
theorem Kt:ay Tryz.prog 178:=av (fn:=Tryz.f178) (by kernel_rfl) rfl (by decide)
theorem KI:aI Tryz.prog 178 xz:=by
 intro G w ow args x y hG how ha hm
 refine Pu (P:=Tryz.prog) (f:=178) (m:=xz.m) ?_ G w ow args x y hG how ha hm
 intro s c r w hm
 replace hm:p9 s c=some (r,()):=hm
 unfold p9 at hm
 cases hb:(decide (s.length≤9223372036854775807)&&(decide (c.length<4294967281)&&c.all fun b=>decide (b.toNat<128))) with
 | false=>rw[hb] at hm;cases hm
 | true=>
  rw[hb] at hm
  simp only[cond_true,Option.some.injEq,Prod.mk.injEq,and_true] at hm
  subst hm
  simp only[Bool.and_eq_true,decide_eq_true_eq,List.all_eq_true] at hb
  have:=Any.strings_Trim_laid Tryz.Ux (by kernel_rfl) (bs s) (bs c) w (by simpa [bs,ByteArray.size] using hb.1) (by simpa [bs,ByteArray.size] using hb.2.1) (fun j b hj=>hb.2.2 b (List.mem_of_getElem? (by simpa [bs] using hj)))
  change Calls Tryz.prog 178 _ _ _ at this
  simpa [bs] using this
def iB:aB:=⟨[.val .str,.val (.int .u8)],[.val tI],fun x=>gu x.1 x.2.1⟩
theorem uX:ay Tryz.prog 238:=av (fn:=Tryz.f238) (by kernel_rfl) rfl (by decide)
theorem u9:aI Tryz.prog 238 iB:=by
 intro G w ow args x y hG how ha hm
 refine Pt (P:=Tryz.prog) (f:=238) (a:= .str) (a':= .int .u8) (t:=tI) (m:=iB.m) rfl rfl ?_ G w ow args x y hG how ha hm
 intro s c r w hm
 replace hm:gu s c=some (r,()):=hm
 unfold gu at hm
 obtain rfl:Lib.indexByte s c.toNat.toUInt8=r:=congrArg (fun o=>(Option.getD o (0,())).1) hm
 have:=Any.stringslite_IndexByte Tryz.Uz (bs s) c w
 refine⟨.int .i64 (Lib.indexByte s c.toNat.toUInt8),fun G=>rfl,this.mono ?_⟩
 rintro e w' ⟨he,rfl⟩
 exact⟨he,RowKit.Below.refl _ _⟩
def vS:aB:=⟨[.val .str,.val .str],[.row 9 .str],fun x=>strings_Split x.1 x.2.1⟩
theorem AV:ay Tryz.prog 149:=av (fn:=Tryz.f149) (by kernel_rfl) rfl (by decide)
theorem Bf:aI Tryz.prog 149 vS:=TP Tryz.Tn
end Go.Proofs.SeatA
set_option maxRecDepth 100000
namespace Go.Proofs.SeatA
open Go.Dn Go.Md Go.Proofs Go.RowKit Go.Shelf Go.Lib
def Au:List (Nat×Ann):=[(2,⟨[(0,.val .str),(1,.val (.int .u8)),(2,.val (.int .u8)),(9,.val tI),(10,.val tI)],[],[],bh _⟩),
 (200002,⟨[],[],[],fun _=>0⟩)]
noncomputable def pX:aB:=⟨[.val .str,.val (.int .u8),.val (.int .u8)],[.val .bool],fun x=>CH x.1 x.2.1 x.2.2.1⟩
noncomputable def Dm:Cx:=⟨Tryz.prog,[],[]⟩
theorem J8:∀ x,aT Dm Au none Tryz.f229 pX x=pX.m x:=by intro x;kernel_rfl
theorem LB:ay Tryz.prog 229:=av (fn:=Tryz.f229) (by kernel_rfl) rfl (by decide)
theorem LQ:aI Tryz.prog 229 pX:=aG (X:=Dm) (.nil _) (by kernel_rfl) pX Au none (by kernel_rfl) (fun x y h=>(J8 x).trans h)
def zH:List (Nat×Ann):=[]
noncomputable def lQ:aB:=⟨[.val .str],[.val .bool],fun x=>pJ x.1⟩
noncomputable def BV:Cx:=⟨Tryz.prog,[(229,pX)],[]⟩
theorem Je:∀ x,aT BV zH none Tryz.f212 lQ x=lQ.m x:=by intro x;kernel_rfl
theorem B8:ay Tryz.prog 212:=av (fn:=Tryz.f212) (by kernel_rfl) rfl (by decide)
theorem xg:aI Tryz.prog 212 lQ:=aG (X:=BV) (.cons LQ LB (.nil _)) (by kernel_rfl) lQ zH none (by kernel_rfl) (fun x y h=>(Je x).trans h)
structure Kept (w w':World):Prop where
 size:w.heap.size≤w'.heap.size
 os:w'.os=w.os
 output:w'.output=w.output
 block:∀ b,b<w.heap.size→w'.heap[b]? =w.heap[b]?
theorem Kept.refl (w:World):Kept w w:=⟨Nat.le_refl _,rfl,rfl,fun _ _=>rfl⟩
theorem Kept.trans {a b c:World} (h:Kept a b) (k:Kept b c):Kept a c:=⟨Nat.le_trans h.size k.size,k.os.trans h.os,k.output.trans h.output,fun i hi=>(k.block i (Nat.lt_of_lt_of_le hi h.size)).trans (h.block i hi)⟩
theorem Kept.drawn {a b:World} (h:Kept a b) (n:Nat):Kept a (b.drewN n):=⟨h.size,h.os,h.output,h.block⟩
theorem Tv (s:Bys) (most:Int) (w:World) (h1:most<(s.length:Int)):
 Calls Tryz.prog 187 #[.string (bs s),.int .i64 most] w fun e w'=>e= .returned (.tuple #[.int .i64 0,.bool false])∧w'=w:=by
 have e212:∀ args w,(callFunc 212 args).run Tryz.prog w= .ok (.enter 212 args) w:=enters_of Tryz.func212 (by kernel_rfl) rfl
 have e213:∀ args w,(callFunc 213 args).run Tryz.prog w= .ok (.enter 213 args) w:=enters_of Tryz.func213 (by kernel_rfl) rfl
 have mixed:Tryz.prog.follows .mixedOrders=true:=by kernel_rfl
 have t3:=Tryz.underlying3;have t4:=Tryz.underlying4;have t5:=Tryz.underlying5;have t9:=Tryz.underlying9
 have hsz:(bs s).size=s.length:=List.size_toArray
 go_enter Tryz.func187,Tryz.ntmps187
 go_wp2
 go_ret2
 exact⟨rfl,rfl⟩
theorem Tw (s:Bys) (most:Int) (w:World) (h1:(s.length:Int)≤most)
 (hd:Calls Tryz.prog 212 #[.string (bs s)] w fun e w'=>e= .returned (.bool false)∧Kept w w'):
 Calls Tryz.prog 187 #[.string (bs s),.int .i64 most] w fun e w'=>e= .returned (.tuple #[.int .i64 0,.bool false])∧Kept w w':=by
 have e212:∀ args w,(callFunc 212 args).run Tryz.prog w= .ok (.enter 212 args) w:=enters_of Tryz.func212 (by kernel_rfl) rfl
 have e213:∀ args w,(callFunc 213 args).run Tryz.prog w= .ok (.enter 213 args) w:=enters_of Tryz.func213 (by kernel_rfl) rfl
 have mixed:Tryz.prog.follows .mixedOrders=true:=by kernel_rfl
 have t3:=Tryz.underlying3;have t4:=Tryz.underlying4;have t5:=Tryz.underlying5;have t9:=Tryz.underlying9
 have hsz:(bs s).size=s.length:=List.size_toArray
 go_enter Tryz.func187,Tryz.ntmps187
 go_wp2_with (go_at_fn 212;refine hd.mono ?_;rintro e w' ⟨rfl,hk⟩)
 go_ret2
 exact⟨rfl,hk⟩
theorem Tx (s:Bys) (most:Int) (w:World) (h1:(s.length:Int)≤most) (h2:1<(s.length:Int)) (h3:(bs s)[0]? =some 48)
 (hd:Calls Tryz.prog 212 #[.string (bs s)] w fun e w'=>e= .returned (.bool true)∧Kept w w'):
 Calls Tryz.prog 187 #[.string (bs s),.int .i64 most] w fun e w'=>e= .returned (.tuple #[.int .i64 0,.bool false])∧Kept w w':=by
 have e212:∀ args w,(callFunc 212 args).run Tryz.prog w= .ok (.enter 212 args) w:=enters_of Tryz.func212 (by kernel_rfl) rfl
 have e213:∀ args w,(callFunc 213 args).run Tryz.prog w= .ok (.enter 213 args) w:=enters_of Tryz.func213 (by kernel_rfl) rfl
 have mixed:Tryz.prog.follows .mixedOrders=true:=by kernel_rfl
 have t3:=Tryz.underlying3;have t4:=Tryz.underlying4;have t5:=Tryz.underlying5;have t9:=Tryz.underlying9
 have hsz:(bs s).size=s.length:=List.size_toArray
 have h3':∀ h:0<(bs s).size,(bs s)[0]'h=48:=fun h=>by rw[getElem?_pos (bs s) 0 h] at h3;exact Option.some.inj h3
 go_enter Tryz.func187,Tryz.ntmps187
 go_wp2_with (go_at_fn 212;refine hd.mono ?_;rintro e w' ⟨rfl,hk⟩)
 all_goals first | (go_ret2;exact⟨rfl,hk⟩) | (exfalso;simp_all)
theorem Tz (s:Bys) (most n:Int) (b:UInt8) (w:World) (h1:(s.length:Int)≤most) (h3:(bs s)[0]? =some b) (h2:¬(1<(s.length:Int))∨b≠48)
 (hd:Calls Tryz.prog 212 #[.string (bs s)] w fun e w'=>e= .returned (.bool true)∧Kept w w')
 (ha:∀ w,Calls Tryz.prog 213 #[.string (bs s)] w fun e w'=>e= .returned (.tuple #[.int .i64 n,.nilIface])∧Kept w w'):
 Calls Tryz.prog 187 #[.string (bs s),.int .i64 most] w fun e w'=>e= .returned (.tuple #[.int .i64 n,.bool true])∧Kept w w':=by
 have e212:∀ args w,(callFunc 212 args).run Tryz.prog w= .ok (.enter 212 args) w:=enters_of Tryz.func212 (by kernel_rfl) rfl
 have e213:∀ args w,(callFunc 213 args).run Tryz.prog w= .ok (.enter 213 args) w:=enters_of Tryz.func213 (by kernel_rfl) rfl
 have mixed:Tryz.prog.follows .mixedOrders=true:=by kernel_rfl
 have t3:=Tryz.underlying3;have t4:=Tryz.underlying4;have t5:=Tryz.underlying5;have t9:=Tryz.underlying9
 have hsz:(bs s).size=s.length:=List.size_toArray
 have t253:=Tryz.underlying253;have t254:=Tryz.underlying254
 have h3':∀ h:0<(bs s).size,(bs s)[0]'h=b:=fun h=>by rw[getElem?_pos (bs s) 0 h] at h3;exact Option.some.inj h3
 have hb48:b≠48→¬((b.toNat:Int)=48):=fun h e=>h (UInt8.toNat_inj.1 (show b.toNat=48 by omega))
 rcases Classical.em (1<(s.length:Int)) with h4 | h4
 ·have h5:¬((b.toNat:Int)=48):=hb48 (h2.resolve_left (fun h=>h h4))
  go_enter Tryz.func187,Tryz.ntmps187
  go_wp2_with (first | (go_at_fn 212;refine hd.mono ?_;rintro e w' ⟨rfl,hk⟩) | (go_at_fn 213;refine (ha _).mono ?_;rintro e w'' ⟨rfl,hk2⟩))
  all_goals first | (exfalso;omega) | skip
  all_goals first | (go_quiet (fail);go_wp2;go_ret2;exact⟨rfl,hk.trans (hk2.drawn _)⟩) | (exfalso;simp_all;done) | (exfalso;simp_all;omega)
 ·go_enter Tryz.func187,Tryz.ntmps187
  go_wp2_with (first | (go_at_fn 212;refine hd.mono ?_;rintro e w' ⟨rfl,hk⟩) | (go_at_fn 213;refine (ha _).mono ?_;rintro e w'' ⟨rfl,hk2⟩))
  all_goals first | (exfalso;omega) | skip
  all_goals first | (go_quiet (fail);go_wp2;go_ret2;exact⟨rfl,hk.trans (hk2.drawn _)⟩) | (exfalso;simp_all;done) | (exfalso;simp_all;omega)
theorem Kept.TB {w w':World} (h:RowKit.Below w.heap.size w w'):Kept w w':=⟨h.size,h.os,h.output,h.block⟩
theorem Ob {G:Gh} {w:World} (s:Bys) (hG:Agr G w) (hT:rQ Tryz.prog G) (D:Bool) (hm:pJ s=some (D,())):
 Calls Tryz.prog 212 #[.string (bs s)] w fun e w'=>e= .returned (.bool D)∧Kept w w':=by
 have h:=xg G w (fun _=>none) [.string (bs s)] (s,()) (D,()) hG (fun _ _ h=>nomatch h) ⟨_,[],fun _=>rfl,fun h=>(Bool.noConfusion h),(by show aA G .str s [.string (bs s)];rfl),rfl⟩ hm hT
 refine h.mono ?_
 rintro e w' ⟨G',ow',vs,g⟩
 obtain⟨v,us,hv,hr,h2,_⟩:=g.out
 have e2:us=[]:=h2
 have e1:[v]=[Value.bool D]:=hr
 cases e1
 subst e2;subst hv
 exact⟨g.ret,g.size,g.os,g.output,fun b hb=>(g.old b hb rfl).1⟩
def FL:aB:=⟨[.val .str,.val tI],[.val tI,.val .bool],fun x=>z7 x.1 x.2.1⟩
theorem Nd:ay Tryz.prog 187:=av (fn:=Tryz.f187) (by kernel_rfl) rfl (by decide)
theorem OD {G:Gh} {w:World} (s:Bys) (most n:Int) (b:Bool) (hG:Agr G w) (hT:rQ Tryz.prog G) (hm:z7 s most=some (n,b,())):
 Calls Tryz.prog 187 #[.string (bs s),.int .i64 most] w fun e w'=>e= .returned (.tuple #[.int .i64 n,.bool b])∧Kept w w':=by
 unfold z7 at hm
 rcases Classical.em (most<(s.length:Int)) with h | h
 ·rw[decide_eq_true h,cond_true] at hm
  cases hm
  exact (Tv s most w h).mono fun e w' hh=>⟨hh.1,hh.2 ▸ Kept.refl w⟩
 ·rw[decide_eq_false h,cond_false] at hm
  rcases Classical.em (s.length≤18) with h18 | h18
  rotate_left
  ·rw[decide_eq_false h18,cond_false] at hm;cases hm
  rw[decide_eq_true h18,cond_true] at hm
  have hD:=KC s (by omega)
  have hle:(s.length:Int)≤most:=by omega
  have hdd:(!(s==[])&&s.all T6)=(decide (s≠[])&&s.all AN):=by cases s<;>rfl
  rw[hdd] at hm
  generalize hDD:(decide (s≠[])&&s.all AN)=D at hD hm
  have hd:=Ob s hG hT D hD
  cases D with
  | false=>
   cases hm
   exact Tw s most w hle hd
  | true=>
   cases s with
   | nil=>cases hDD
   | cons c r=>
    have h3:(bs (c::r))[0]? =some c:=by
     rw[getElem?_pos (bs (c::r)) 0 (by show 0<(c::r).toArray.size;simp)];rfl
    rcases Classical.em (1<(c::r).length∧c=48) with h2 | h2
    ·obtain⟨h2,rfl⟩:=h2
     have e:(!true||(decide (1<((48:UInt8)::r).length)&&((48:UInt8)::r).head? ==some 48))=true:=by rw[decide_eq_true h2];rfl
     rw[e,cond_true] at hm
     cases hm
     exact Tx _ most w hle (by omega) h3 hd
    ·have e:(!true||(decide (1<(c::r).length)&&(c::r).head? ==some 48))=false:=by
      rw[Bool.not_true,Bool.false_or,Bool.and_eq_false_iff]
      rcases Classical.em (1<(c::r).length) with h4 | h4
      ·right
       have h5:c≠48:=fun h=>h2 ⟨h4,h⟩
       exact beq_eq_false_iff_ne.2 (fun h=>h5 (Option.some.inj h))
      ·left;exact decide_eq_false h4
     rw[e,cond_false] at hm
     cases ha:Lib.atoi (c::r) with
     | none=>rw[ha] at hm;cases hm
     | some m=>
      rw[ha] at hm
      cases hm
      refine Tz _ most n c w hle h3 ?_ hd fun w=> ?_
      ·rcases Classical.em (1<(c::r).length) with h4 | h4
       ·right;exact fun h=>h2 ⟨h4,h⟩
       ·left;omega
      ·have:=Any.strconv_Atoi Tryz.Uy (bs (c::r)) n (by show (c::r).toArray.size≤18;simpa using h18) (by simpa [bs] using ha) w
       change Calls Tryz.prog 213 _ _ _ at this
       refine this.mono ?_
       rintro e w' ⟨rfl,t,rfl⟩
       exact⟨rfl,Kept.TB (bytesWorld_below w _ t)⟩
theorem Nj:aI Tryz.prog 187 FL:=by
 intro G w ow args x y hG how ha hm hT
 obtain⟨s,most,u⟩:=x
 obtain⟨n,b,u'⟩:=y
 obtain⟨v,us,h1,_,hv,v',us',h2,_,hv',h3⟩:=ha
 have e1:=h1 rfl
 have e2:=h2 rfl
 have e3:us'=[]:=h3
 have e4:[v]=[.string (bs s)]:=hv
 have e5:[v']=[.int .i64 most]:=hv'
 cases e4;cases e5
 subst e1;subst e2;subst e3
 refine (OD s most n b hG hT hm).mono ?_
 rintro e w' ⟨he,hk⟩
 refine⟨G,fun _=>none,[.int .i64 n,.bool b], ?_⟩
 exact {
  ret:=he
  le:=Gh.le_refl G
  agr:=fun i o hio=>by
   have hw:=hG i o hio
   rw[hk.block i (dn hw)];exact hw
  size:=hk.size
  os:=hk.os
  output:=hk.output
  old:=fun i hlt _=>⟨hk.block i hlt,rfl⟩
  own:=fun i j hij=>by cases hij
  out:=⟨_,_,rfl,rfl,_,_,rfl,rfl,rfl,trivial⟩
  hnd:=fun _=>rfl }
end Go.Proofs.SeatA
set_option maxRecDepth 100000
namespace Go.Proofs
open Go.Shelf
def Tryz.MB:Go.Shelf.Ren:=⟨fun | 7=>77 | 10=>127 | n=>n,fun | 23=>75 | 26=>3 | 3=>68 | 28=>136 | 0=>0 | 27=>135 | 33=>81 | 4=>4 | n=>n,fun | n=>n⟩
theorem Tryz.T8:Go.Proofs.SlLaysZI.n7 Tryz.prog Tryz.MB:={
 mixed:=by kernel_rfl
 f7:=⟨Tryz.f77.name,by decide,Tryz.func77.trans (congrArg some (by kernel_rfl))⟩
 f10:=⟨Tryz.f127.name,by decide,Tryz.func127.trans (congrArg some (by kernel_rfl))⟩
 t0:=Tryz.underlying0
 a0:=Tryz.isAgg0
 z0:=Tryz.sizeOf0
 v0:=Tryz.zeroValue0
 t4:=Tryz.underlying4
 a4:=Tryz.isAgg4
 z4:=Tryz.sizeOf4
 v4:=Tryz.zeroValue4
 t23:=Tryz.underlying75
 a23:=Tryz.isAgg75
 z23:=Tryz.sizeOf75
 v23:=Tryz.zeroValue75
 t26:=Tryz.underlying3
 a26:=Tryz.isAgg3
 z26:=Tryz.sizeOf3
 v26:=Tryz.zeroValue3
 t27:=Tryz.underlying135
 a27:=Tryz.isAgg135
 z27:=Tryz.sizeOf135
 v27:=Tryz.zeroValue135
 t28:=Tryz.underlying136
 a28:=Tryz.isAgg136
 z28:=Tryz.sizeOf136
 v28:=Tryz.zeroValue136
 t33:=Tryz.underlying81
 a33:=Tryz.isAgg81
 z33:=Tryz.sizeOf81
 v33:=Tryz.zeroValue81 }
def Tryz.IV:Go.Shelf.Ren:=⟨fun | 6=>76 | 8=>126 | 9=>54 | 11=>181 | 13=>111 | 12=>110 | 23=>169 | 24=>170 | 14=>160 | 15=>161 | 16=>162 | 17=>163 | 18=>164 | 19=>165 | 20=>166 | 21=>167 | 22=>168 | 25=>193 | 26=>194 | 27=>195 | 28=>196 | 29=>197 | 30=>198 | 31=>220 | n=>n,fun | 26=>3 | 28=>136 | 24=>49 | 0=>0 | 3=>3 | 37=>175 | 48=>192 | 50=>190 | 4=>4 | 40=>217 | 39=>216 | 45=>196 | 5=>5 | 9=>9 | 51=>237 | 55=>241 | 57=>261 | 58=>262 | 33=>81 | n=>n,fun | n=>n⟩
theorem Tryz.UN:Go.Proofs.SlLaysZI.n6 Tryz.prog Tryz.IV:={
 mixed:=by kernel_rfl
 f6:=⟨Tryz.f76.name,by decide,Tryz.func76.trans (congrArg some (by kernel_rfl))⟩
 f8:=⟨Tryz.f126.name,by decide,Tryz.func126.trans (congrArg some (by kernel_rfl))⟩
 f11:=⟨Tryz.f181.name,by decide,Tryz.func181.trans (congrArg some (by kernel_rfl))⟩
 t0:=Tryz.underlying0
 a0:=Tryz.isAgg0
 z0:=Tryz.sizeOf0
 v0:=Tryz.zeroValue0
 t24:=Tryz.underlying49
 a24:=Tryz.isAgg49
 z24:=Tryz.sizeOf49
 v24:=Tryz.zeroValue49
 t26:=Tryz.underlying3
 a26:=Tryz.isAgg3
 z26:=Tryz.sizeOf3
 v26:=Tryz.zeroValue3
 t28:=Tryz.underlying136
 a28:=Tryz.isAgg136
 z28:=Tryz.sizeOf136
 v28:=Tryz.zeroValue136
 i26:=by kernel_rfl }
def Tryz.SQ:Go.Shelf.Ren:=⟨fun | 5=>54 | 8=>111 | 7=>110 | 19=>169 | 20=>170 | 10=>160 | 11=>161 | 12=>162 | 13=>163 | 14=>164 | 15=>165 | 16=>166 | 17=>167 | 18=>168 | 30=>193 | 31=>194 | 32=>195 | 33=>196 | 34=>197 | 35=>198 | 40=>220 | n=>n,fun | 23=>49 | 25=>3 | 3=>3 | 32=>175 | 22=>49 | 0=>0 | 44=>192 | 46=>190 | 4=>4 | 36=>217 | 35=>216 | 41=>196 | 5=>5 | 9=>9 | 53=>237 | 57=>241 | 63=>261 | 64=>262 | n=>n,fun | n=>n⟩
theorem Tryz.Ub:Go.Proofs.SlLaysM.n5 Tryz.prog Tryz.SQ:={
 mixed:=by kernel_rfl
 f5:=⟨Tryz.f54.name,by decide,Tryz.func54.trans (congrArg some (by kernel_rfl))⟩
 f7:=⟨Tryz.f110.name,by decide,Tryz.func110.trans (congrArg some (by kernel_rfl))⟩
 f8:=Tryz.func111.trans (congrArg some (by kernel_rfl))
 f10:=⟨Tryz.f160.name,by decide,Tryz.func160.trans (congrArg some (by kernel_rfl))⟩
 f11:=⟨Tryz.f161.name,by decide,Tryz.func161.trans (congrArg some (by kernel_rfl))⟩
 f12:=⟨Tryz.f162.name,by decide,Tryz.func162.trans (congrArg some (by kernel_rfl))⟩
 f13:=⟨Tryz.f163.name,by decide,Tryz.func163.trans (congrArg some (by kernel_rfl))⟩
 f14:=⟨Tryz.f164.name,by decide,Tryz.func164.trans (congrArg some (by kernel_rfl))⟩
 f15:=⟨Tryz.f165.name,by decide,Tryz.func165.trans (congrArg some (by kernel_rfl))⟩
 f16:=⟨Tryz.f166.name,by decide,Tryz.func166.trans (congrArg some (by kernel_rfl))⟩
 f17:=⟨Tryz.f167.name,by decide,Tryz.func167.trans (congrArg some (by kernel_rfl))⟩
 f18:=⟨Tryz.f168.name,by decide,Tryz.func168.trans (congrArg some (by kernel_rfl))⟩
 f19:=Tryz.func169.trans (congrArg some (by kernel_rfl))
 f20:=Tryz.func170.trans (congrArg some (by kernel_rfl))
 f30:=⟨Tryz.f193.name,by decide,Tryz.func193.trans (congrArg some (by kernel_rfl))⟩
 f31:=Tryz.func194.trans (congrArg some (by kernel_rfl))
 f32:=Tryz.func195.trans (congrArg some (by kernel_rfl))
 f33:=⟨Tryz.f196.name,by decide,Tryz.func196.trans (congrArg some (by kernel_rfl))⟩
 f34:=⟨Tryz.f197.name,by decide,Tryz.func197.trans (congrArg some (by kernel_rfl))⟩
 f35:=⟨Tryz.f198.name,by decide,Tryz.func198.trans (congrArg some (by kernel_rfl))⟩
 f40:=⟨Tryz.f220.name,by decide,Tryz.func220.trans (congrArg some (by kernel_rfl))⟩
 t0:=Tryz.underlying0
 a0:=Tryz.isAgg0
 z0:=Tryz.sizeOf0
 v0:=Tryz.zeroValue0
 t3:=Tryz.underlying3
 a3:=Tryz.isAgg3
 z3:=Tryz.sizeOf3
 v3:=Tryz.zeroValue3
 t4:=Tryz.underlying4
 a4:=Tryz.isAgg4
 z4:=Tryz.sizeOf4
 v4:=Tryz.zeroValue4
 t5:=Tryz.underlying5
 a5:=Tryz.isAgg5
 z5:=Tryz.sizeOf5
 v5:=Tryz.zeroValue5
 t9:=Tryz.underlying9
 a9:=Tryz.isAgg9
 z9:=Tryz.sizeOf9
 v9:=Tryz.zeroValue9
 t22:=Tryz.underlying49
 a22:=Tryz.isAgg49
 z22:=Tryz.sizeOf49
 v22:=Tryz.zeroValue49
 t23:=Tryz.underlying49
 a23:=Tryz.isAgg49
 z23:=Tryz.sizeOf49
 v23:=Tryz.zeroValue49
 t25:=Tryz.underlying3
 a25:=Tryz.isAgg3
 z25:=Tryz.sizeOf3
 v25:=Tryz.zeroValue3
 t32:=Tryz.underlying175
 a32:=Tryz.isAgg175
 z32:=Tryz.sizeOf175
 v32:=Tryz.zeroValue175
 t35:=Tryz.underlying216
 a35:=Tryz.isAgg216
 z35:=Tryz.sizeOf216
 v35:=Tryz.zeroValue216
 t36:=Tryz.underlying217
 a36:=Tryz.isAgg217
 z36:=Tryz.sizeOf217
 v36:=Tryz.zeroValue217
 t41:=Tryz.underlying196
 a41:=Tryz.isAgg196
 z41:=Tryz.sizeOf196
 v41:=Tryz.zeroValue196
 t44:=Tryz.underlying192
 a44:=Tryz.isAgg192
 z44:=Tryz.sizeOf192
 v44:=Tryz.zeroValue192
 t46:=Tryz.underlying190
 a46:=Tryz.isAgg190
 z46:=Tryz.sizeOf190
 v46:=Tryz.zeroValue190
 t53:=Tryz.underlying237
 a53:=Tryz.isAgg237
 z53:=Tryz.sizeOf237
 v53:=Tryz.zeroValue237
 t57:=Tryz.underlying241
 a57:=Tryz.isAgg241
 z57:=Tryz.sizeOf241
 v57:=Tryz.zeroValue241
 t63:=Tryz.underlying261
 a63:=Tryz.isAgg261
 z63:=Tryz.sizeOf261
 v63:=Tryz.zeroValue261
 t64:=Tryz.underlying262
 a64:=Tryz.isAgg262
 z64:=Tryz.sizeOf262
 v64:=Tryz.zeroValue262 }
end Go.Proofs
namespace Go.Proofs.SeatA
open Go.Dn Go.Md Go.Proofs Go.RowKit Go.Shelf Go.Lib Go.Sort
theorem Vo (m:Nat):AnyZI.SortsIn Tryz.prog Tryz.IV Fence.wide m:=
 ⟨fun blk off cap ss W hH hblk hsz=>callsIn_wide.2 (AnyM.slices_Sort_int Tryz.Ub blk off cap ss W hH hblk hsz),
  fun p cap W=>callsIn_wide.2 (AnyM.slices_Sort_int_none Tryz.Ub p cap W)⟩
def Sa:Aq:= .mk 127
theorem U9:ay Tryz.prog 77:=av (fn:=Tryz.f77) (by kernel_rfl) rfl (by decide)
theorem Vb:Nz Tryz.prog 77 Sa:=
 ⟨75,fun mb W=>callsIn_wide.1 (AnyZI.keys_in Tryz.T8 Fence.wide 5 trivial rfl mb W)⟩
def R9:Aq:= .srt 127 3 3
theorem U8:ay Tryz.prog 76:=av (fn:=Tryz.f76) (by kernel_rfl) rfl (by decide)
theorem Va:Nz Tryz.prog 76 R9:=by
 refine⟨Tryz.underlying3,fun Bm b nn D0 w hB hc hown zB hbytes=> ?_⟩
 have hseq:SeqGives Fence.wide 2 Tryz.prog 127 #[.pointer (some ⟨Bm,0,none⟩)] encZ (fun ss=>ss.Perm (intKeys D0)) (Maps.size D0) w:=
  AnyZI.keys_gives (ρ:=Tryz.MB) { Tryz.T8 with } Fence.wide _ trivial rfl (by omega) Bm b nn D0 _ hB hc hown
 have cS:=AnyZI.sorted_in Tryz.UN Fence.wide 5 trivial trivial trivial trivial rfl (by omega) (Vo _) (enters_of Tryz.func54 (by kernel_rfl) rfl) 127 #[.pointer (some ⟨Bm,0,none⟩)] trivial (enters_of Tryz.func127 (by kernel_rfl) rfl) _ _ zB hbytes _ hseq
 change CallsIn _ _ Tryz.prog 76 _ _ _ at cS
 refine (callsIn_wide.1 cS).mono ?_
 rintro e w' ⟨v,ss,he,hS,hrow,_,hb⟩
 exact⟨v,ss,he,hS,hrow,hb⟩
end Go.Proofs.SeatA
