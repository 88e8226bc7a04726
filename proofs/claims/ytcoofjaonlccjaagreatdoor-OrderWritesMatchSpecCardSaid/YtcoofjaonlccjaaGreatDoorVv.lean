/-
  Functions of the library and of kit, by contracts and by a walk. No condition.
-/
import Derived.Test.YtcoofjaonlccjaaGreatDoorVo
import Derived.Test.YtcoofjaonlccjaaGreatDoorVd
import Derived.Shelf.Strings.Split
import Derived.Shelf.LaysM
import Derived.Test.YtcoofjaonlccjaaGreatDoorVx
import Derived.Test.YtcoofjaonlccjaaGreatDoorProg
import Derived.Shelf.Strings.SlTrimAscii
import Derived.Shelf.Strconv.Atoi
import Derived.Shelf.Strings.Search1
import Derived.WalkKit
import Derived.Deep.QuietTactic
import Derived.BigQuiet
import Derived.Lib.AtoiErrMem
import Derived.Test.YtcoofjaonlccjaaGreatDoorVr
import Derived.Test.YtcoofjaonlccjaaGreatDoorVt
import Derived.Shelf.SlIterI.Sorted
import Derived.LoopN
set_option linter.all false
namespace Go.Md
open Go.Dn Go.Lib
theorem FR (c b:UInt8) (r:List UInt8):index (b::r) [c]=if b=c then 0 else if index r [c]== -1 then -1 else index r [c]+1:=by
 rw [index]
 by_cases h:b=c
 ·subst h;simp
 ·have:(c==b)=false:=by simp [Ne.symm h]
  simp [h,List.isPrefixOf,this]
theorem count_cons (c b:UInt8) (r:List UInt8):count (b::r) [c]=(if b=c then 1 else 0)+count r [c]:=by
 rw [count_one,count_one,List.count_cons]
 by_cases h:b=c
 ·subst h;simp;omega
 ·simp [h]
theorem PC (c b:UInt8) (h:b≠c):∀ (k:Nat) (r:List UInt8),splitK [c] 0 k (b::r)=(match splitK [c] 0 k r with | x::t=>(b::x)::t | []=>[[b]])
 | 0,r=>rfl
 | k+1,r=>by
  simp only [splitK,FR,if_neg h]
  have hge:=index_ge r [c]
  by_cases h1:index r [c]= -1
  ·simp [h1]
  ·have e1:(index r [c]== -1)=false:=by simp [h1]
   have e2:(index r [c]+1== -1)=false:=by simp;omega
   simp only [e1,e2,Bool.false_eq_true,if_false]
   have e3:(index r [c]+1).toNat=(index r [c]).toNat+1:=by omega
   rw [e3]
   simp [Nat.add_assoc]
theorem Kt (c:UInt8):∀ (s:List UInt8),splitK [c] 0 (count s [c]) s=kz c s
 | []=>by
  have:count [] [c]=0:=by rw [count_one];rfl
  rw [this];rfl
 | b::r=>by
  have ih:=Kt c r
  rw [count_cons]
  by_cases h:b=c
  ·subst h
   rw [if_pos rfl,Nat.add_comm]
   simp only [splitK,FR,kz]
   simp [ih]
  ·have hb:(b==c)=false:=by simp [h]
   rw [if_neg h,Nat.zero_add,PC c b h,ih]
   simp only [kz,hb,cond_false]
   cases kz c r<;>rfl
end Go.Md
namespace Go.Dn
open Go.Md Go.Proofs Go.Shelf Go.RowKit Go.Lib
theorem Qx {G:Gh}:∀ (l:List ByteArray),bL (aH G .str) (l.map (·.data.toList)) (l.map Value.string)
 | []=>rfl
 | x::r=>⟨[.string x],r.map Value.string,rfl,by show [Value.string x]=[Value.string (bs x.data.toList)];simp [bs],Qx r⟩
theorem Vx {P:Program} {ρ:Ren} (L:LaysM.n146 P ρ) {G:Gh} {w:World} {ow:Nat→Option Nat} (s:List UInt8) (b:UInt8) (hG:Agr G w) (hT:uW P G) (hlen:s.length<4294967281):
 Calls P (ρ.f 146) #[.string (bs s),.string (bs [b])] w fun e w'=>∃ G' ow' vs,MY G w ow ⟨[.val .str,.val .str],[.row (ρ.t 9) .str],fun x=>strings_Split x.1 x.2.1⟩ [.string (bs s),.string (bs [b])] (kz b s,()) e w' G' ow' vs:=by
 obtain ⟨m,T,fz,hml⟩:=hT.maxLen _ L.m1
 have hcell:w.cell? ⟨ρ.g 1,0,none⟩=some (.int .i64 m):=by
  have:=hG _ _ hml
  simp [World.cell?,this]
 have hsz:(bs s).size=s.length:=List.size_toArray
 have h1b:1≤(bs [b]).size:=Nat.le_refl 1
 refine (Any.strings_Split { L with } L.i9 (bs s) (bs [b]) m w (by omega) hcell h1b).mono ?_
 rintro e w' ⟨rfl,rfl⟩
 have hsp:(splitB (bs [b]) 0 (countB (bs s) (bs [b])) (bs s)).map (·.data.toList)=kz b s:=by
  rw [splitB_data]
  exact Kt b s
 have hl:=splitB_all (bs [b]) h1b 0 _ (bs s) rfl
 have hle:=countB_le (bs [b]) h1b (bs s).size (bs s) (Nat.le_refl _)
 generalize splitB (bs [b]) 0 (countB (bs s) (bs [b])) (bs s)=q at hsp hl
 generalize countB (bs s) (bs [b])=n at hl hle
 have hrl:(kz b s).length=n+1:=by rw [← hsp,List.length_map,hl]
 have hnone:G w.heap.size=none:=by
  cases hg:G w.heap.size with
  | none=>rfl
  | some o=>have:=cE (hG _ _ hg);omega
 have wZ:n+1≤maxLen:=by
  have:maxLen=9223372036854775807:=rfl
  omega
 have hown:(w.alloc (.cells (q.map Value.string).toArray (ρ.t 9))).ownsRow 0 (ρ.t 9) 1 (.slice (some ⟨w.heap.size,0,none⟩) (n+1) (n+1)) (kz b s).length (q.map Value.string):=
  ⟨by rw [List.length_map,hl,hrl,Nat.mul_one],.inr ⟨w.heap.size,n+1,(q.map Value.string).toArray,by rw [hrl],Nat.zero_le _,heap_alloc_new w _,by rw [hrl];exact Nat.le_refl _,wZ,by rw [List.size_toArray,List.length_map,hl,Nat.mul_one],
    by rw [hrl,Nat.mul_one];exact List.take_of_length_le (by show (q.map Value.string).length≤_;rw [List.length_map,hl];exact Nat.le_refl _)⟩⟩
 refine ⟨G,fun i=>if i=w.heap.size then some (64*24) else none,[.slice (some ⟨w.heap.size,0,none⟩) (n+1) (n+1)], ?_⟩
 exact {
  ret:=rfl
  le:=Gh.le_refl G
  agr:=fun i o hi=>by
   have h1:=hG i o hi
   rw [heap_alloc_old w _ (cE h1)];exact h1
  size:=by simp
  os:=rfl
  output:=rfl
  old:=fun i hi _=>⟨heap_alloc_old w _ hi,rfl⟩
  own:=fun i j hj=>by
   by_cases e:i=w.heap.size
   ·subst e;exact ⟨hnone,by simp,.inl (Nat.le_refl _)⟩
   ·simp only [e,if_false] at hj;cases hj
  out:=by
   refine ⟨_,[],rfl,⟨⟨q.map Value.string,hown,by rw [← hsp];exact Qx q⟩,fun k hk=> ?_⟩,rfl,trivial⟩
   have:some w.heap.size=some k:=hk
   cases this
   show (if w.heap.size=w.heap.size then some (64*24) else none)=_
   rw [if_pos rfl]
  hnd:=fun _=>rfl }
theorem Vy {s c:List UInt8} {r:List (List UInt8)} (h:strings_Split s c=some (r,())):∃ b,c=[b]∧s.length<4294967281∧r=kz b s:=by
 unfold strings_Split at h
 split at h
 ·rename_i b
  cases hb:decide (s.length<4294967281) with
  | false=>rw [hb] at h;cases h
  | true=>
   rw [hb] at h
   exact ⟨b,rfl,of_decide_eq_true hb,(Prod.mk.inj (Option.some.inj h)).1.symm⟩
 ·cases h
theorem XE {P:Program} {ρ:Ren} (L:LaysM.n146 P ρ):aF P (ρ.f 146) ⟨[.val .str,.val .str],[.row (ρ.t 9) .str],fun x=>strings_Split x.1 x.2.1⟩:=by
 intro G w ow args x y hG how ha hm hT
 obtain ⟨s,c,u⟩:=x
 obtain ⟨r,u'⟩:=y
 obtain ⟨v,us,h1,l1,hv,v',us',h2,l2,hv',h3⟩:=ha
 have e1:=h1 rfl
 have e2:=h2 rfl
 have e3:us'=[]:=h3
 have e4:v= .string (bs s):=by simpa [Gl,cr,aH] using hv
 have e5:v'= .string (bs c):=by simpa [Gl,cr,aH] using hv'
 subst e1;subst e2;subst e3;subst e4;subst e5
 obtain ⟨b,rfl,hlen,rfl⟩:=Vy hm
 exact Vx L s b hG hT hlen
end Go.Dn
namespace Go.Proofs
open Go.Shelf
def Tryz.Tz:Go.Shelf.Ren:=⟨fun | 160=>71 | 232=>110 | 231=>109 | 227=>111 | 234=>113 | 233=>112 | 236=>115 | 235=>114 | 228=>168 | 271=>171 | 151=>170 | 197=>169 | 120=>195 | 152=>194 | 260=>193 | 137=>213 | 119=>214 | 224=>215 | 225=>216 | 217=>228 | 266=>236 | n=>n,fun | 9=>9 | 4=>4 | 3=>3 | 5=>5 | 117=>169 | 116=>168 | 0=>0 | 124=>172 | 21=>21 | 105=>215 | 46=>122 | 119=>252 | 139=>255 | 138=>254 | n=>n,fun | 3=>0 | 4=>1 | n=>n⟩
theorem Tryz.Yf:Go.Proofs.Lays.n160 Tryz.prog Tryz.Tz:={
 mixed:=by kernel_rfl
 f119:=Tryz.func214.trans (congrArg some (by kernel_rfl))
 f120:=Tryz.func195.trans (congrArg some (by kernel_rfl))
 f137:=Tryz.func213.trans (congrArg some (by kernel_rfl))
 f151:=Tryz.func170.trans (congrArg some (by kernel_rfl))
 f152:=Tryz.func194.trans (congrArg some (by kernel_rfl))
 f160:=Tryz.func71.trans (congrArg some (by kernel_rfl))
 f197:=Tryz.func169.trans (congrArg some (by kernel_rfl))
 f217:=Tryz.func228.trans (congrArg some (by kernel_rfl))
 f224:=Tryz.func215.trans (congrArg some (by kernel_rfl))
 f225:=Tryz.func216.trans (congrArg some (by kernel_rfl))
 f227:=Tryz.func111.trans (congrArg some (by kernel_rfl))
 f228:=Tryz.func168.trans (congrArg some (by kernel_rfl))
 f231:=Tryz.func109.trans (congrArg some (by kernel_rfl))
 f232:=Tryz.func110.trans (congrArg some (by kernel_rfl))
 f233:=Tryz.func112.trans (congrArg some (by kernel_rfl))
 f234:=Tryz.func113.trans (congrArg some (by kernel_rfl))
 f235:=Tryz.func114.trans (congrArg some (by kernel_rfl))
 f236:=Tryz.func115.trans (congrArg some (by kernel_rfl))
 f260:=Tryz.func193.trans (congrArg some (by kernel_rfl))
 f266:=Tryz.func236.trans (congrArg some (by kernel_rfl))
 f271:=Tryz.func171.trans (congrArg some (by kernel_rfl))
 t0:=Tryz.underlying0
 a0:=Tryz.isAgg0
 z0:=Tryz.sizeOf0
 v0:=Tryz.zeroValue0
 t3:=Tryz.underlying3
 a3:=Tryz.isAgg3
 z3:=Tryz.sizeOf3
 v3:=Tryz.zeroValue3
 t4:=Tryz.underlying4
 a4:=Tryz.isAgg4
 z4:=Tryz.sizeOf4
 v4:=Tryz.zeroValue4
 t5:=Tryz.underlying5
 a5:=Tryz.isAgg5
 z5:=Tryz.sizeOf5
 v5:=Tryz.zeroValue5
 t9:=Tryz.underlying9
 a9:=Tryz.isAgg9
 z9:=Tryz.sizeOf9
 v9:=Tryz.zeroValue9
 t21:=Tryz.underlying21
 a21:=Tryz.isAgg21
 z21:=Tryz.sizeOf21
 v21:=Tryz.zeroValue21
 t46:=Tryz.underlying122
 a46:=Tryz.isAgg122
 z46:=Tryz.sizeOf122
 v46:=Tryz.zeroValue122
 t105:=Tryz.underlying215
 a105:=Tryz.isAgg215
 z105:=Tryz.sizeOf215
 v105:=Tryz.zeroValue215
 t116:=Tryz.underlying168
 a116:=Tryz.isAgg168
 z116:=Tryz.sizeOf168
 t117:=Tryz.underlying169
 a117:=Tryz.isAgg169
 z117:=Tryz.sizeOf169
 v117:=Tryz.zeroValue169
 t119:=Tryz.underlying252
 a119:=Tryz.isAgg252
 z119:=Tryz.sizeOf252
 t124:=Tryz.underlying172
 a124:=Tryz.isAgg172
 z124:=Tryz.sizeOf172
 v124:=Tryz.zeroValue172
 t138:=Tryz.underlying254
 a138:=Tryz.isAgg254
 z138:=Tryz.sizeOf254
 v138:=Tryz.zeroValue254
 t139:=Tryz.underlying255
 a139:=Tryz.isAgg255
 z139:=Tryz.sizeOf255
 v139:=Tryz.zeroValue255
 g3:=by kernel_rfl
 g4:=by kernel_rfl }
def Tryz.Sx:Go.Shelf.Ren:=⟨fun | 146=>122 | 221=>173 | 268=>197 | 138=>198 | 143=>199 | 195=>217 | 197=>169 | 218=>218 | 219=>219 | 260=>193 | 217=>228 | 225=>216 | 224=>215 | 267=>229 | 266=>236 | 314=>237 | n=>n,fun | 9=>9 | 31=>130 | 3=>3 | 4=>4 | 0=>0 | 105=>215 | 21=>21 | 5=>5 | 46=>122 | 119=>252 | 139=>255 | 138=>254 | 146=>270 | 51=>163 | n=>n,fun | 1=>2 | 3=>0 | 4=>1 | n=>n⟩
theorem Tryz.Xh:Go.Proofs.LaysM.n146 Tryz.prog Tryz.Sx:={
 mixed:=by kernel_rfl
 f138:=Tryz.func198.trans (congrArg some (by kernel_rfl))
 f143:=Tryz.func199.trans (congrArg some (by kernel_rfl))
 f146:=Tryz.func122.trans (congrArg some (by kernel_rfl))
 f195:=Tryz.func217.trans (congrArg some (by kernel_rfl))
 f197:=Tryz.func169.trans (congrArg some (by kernel_rfl))
 f217:=Tryz.func228.trans (congrArg some (by kernel_rfl))
 f218:=Tryz.func218.trans (congrArg some (by kernel_rfl))
 f219:=Tryz.func219.trans (congrArg some (by kernel_rfl))
 f221:=Tryz.func173.trans (congrArg some (by kernel_rfl))
 f224:=Tryz.func215.trans (congrArg some (by kernel_rfl))
 f225:=Tryz.func216.trans (congrArg some (by kernel_rfl))
 f260:=Tryz.func193.trans (congrArg some (by kernel_rfl))
 f266:=Tryz.func236.trans (congrArg some (by kernel_rfl))
 f267:=Tryz.func229.trans (congrArg some (by kernel_rfl))
 f268:=Tryz.func197.trans (congrArg some (by kernel_rfl))
 f314:=Tryz.func237.trans (congrArg some (by kernel_rfl))
 t0:=Tryz.underlying0
 a0:=Tryz.isAgg0
 z0:=Tryz.sizeOf0
 v0:=Tryz.zeroValue0
 t3:=Tryz.underlying3
 a3:=Tryz.isAgg3
 z3:=Tryz.sizeOf3
 v3:=Tryz.zeroValue3
 t4:=Tryz.underlying4
 a4:=Tryz.isAgg4
 z4:=Tryz.sizeOf4
 v4:=Tryz.zeroValue4
 t5:=Tryz.underlying5
 a5:=Tryz.isAgg5
 z5:=Tryz.sizeOf5
 v5:=Tryz.zeroValue5
 t9:=Tryz.underlying9
 a9:=Tryz.isAgg9
 z9:=Tryz.sizeOf9
 v9:=Tryz.zeroValue9
 t21:=Tryz.underlying21
 a21:=Tryz.isAgg21
 z21:=Tryz.sizeOf21
 v21:=Tryz.zeroValue21
 t31:=Tryz.underlying130
 a31:=Tryz.isAgg130
 z31:=Tryz.sizeOf130
 v31:=Tryz.zeroValue130
 t46:=Tryz.underlying122
 a46:=Tryz.isAgg122
 z46:=Tryz.sizeOf122
 v46:=Tryz.zeroValue122
 t51:=Tryz.underlying163
 a51:=Tryz.isAgg163
 z51:=Tryz.sizeOf163
 v51:=Tryz.zeroValue163
 t105:=Tryz.underlying215
 a105:=Tryz.isAgg215
 z105:=Tryz.sizeOf215
 v105:=Tryz.zeroValue215
 t119:=Tryz.underlying252
 a119:=Tryz.isAgg252
 z119:=Tryz.sizeOf252
 t138:=Tryz.underlying254
 a138:=Tryz.isAgg254
 z138:=Tryz.sizeOf254
 v138:=Tryz.zeroValue254
 t139:=Tryz.underlying255
 a139:=Tryz.isAgg255
 z139:=Tryz.sizeOf255
 v139:=Tryz.zeroValue255
 t146:=Tryz.underlying270
 a146:=Tryz.isAgg270
 z146:=Tryz.sizeOf270
 v146:=Tryz.zeroValue270
 g1:=by kernel_rfl
 g3:=by kernel_rfl
 g4:=by kernel_rfl
 i0:=by kernel_rfl
 i3:=by kernel_rfl
 i4:=by kernel_rfl
 i5:=by kernel_rfl
 i9:=by kernel_rfl
 i21:=by kernel_rfl
 i31:=by kernel_rfl
 i46:=by kernel_rfl
 i51:=by kernel_rfl
 i105:=by kernel_rfl
 i138:=by kernel_rfl
 i139:=by kernel_rfl
 i146:=by kernel_rfl
 m1:=by kernel_rfl
 s1_3:=fun w h=>Go.Proofs.cell_of_shapedOpen_int (zero:= #[.int .i64 0]) (t:=3) h (of_decide_eq_true (by kernel_rfl)) (by kernel_rfl) rfl (by kernel_rfl) (by kernel_rfl) Tryz.underlying3
 m3:=by kernel_rfl
 m4:=by kernel_rfl }
def Tryz.TA:Go.Shelf.Ren:=⟨fun | 172=>201 | 244=>221 | 245=>222 | 247=>230 | 279=>231 | 280=>232 | 281=>233 | 282=>234 | 287=>238 | 316=>239 | 171=>241 | 205=>240 | 321=>242 | 322=>243 | 243=>244 | 246=>245 | 283=>246 | 284=>247 | 285=>248 | 286=>249 | 129=>107 | 317=>250 | 318=>251 | 319=>252 | 320=>253 | 337=>254 | 338=>255 | n=>n,fun | 9=>9 | 3=>3 | 75=>241 | 76=>242 | 4=>4 | 5=>5 | 167=>263 | 37=>264 | 0=>0 | 85=>265 | 2=>2 | 168=>267 | 53=>165 | 175=>272 | 46=>122 | 210=>276 | 127=>280 | 145=>283 | 143=>281 | 21=>21 | 171=>285 | 173=>287 | 212=>290 | 51=>163 | 20=>20 | 213=>291 | 232=>292 | 233=>293 | 80=>182 | n=>n,fun | 15=>3 | 16=>4 | 17=>5 | 18=>6 | 19=>7 | n=>n⟩
theorem Tryz.Yg:Go.Proofs.Lays.n172 Tryz.prog Tryz.TA:={
 mixed:=by kernel_rfl
 f129:=Tryz.func107.trans (congrArg some (by kernel_rfl))
 f171:=Tryz.func241.trans (congrArg some (by kernel_rfl))
 f172:=Tryz.func201.trans (congrArg some (by kernel_rfl))
 f205:=Tryz.func240.trans (congrArg some (by kernel_rfl))
 f243:=Tryz.func244.trans (congrArg some (by kernel_rfl))
 f244:=Tryz.func221.trans (congrArg some (by kernel_rfl))
 f245:=Tryz.func222.trans (congrArg some (by kernel_rfl))
 f246:=Tryz.func245.trans (congrArg some (by kernel_rfl))
 f247:=Tryz.func230.trans (congrArg some (by kernel_rfl))
 f279:=Tryz.func231.trans (congrArg some (by kernel_rfl))
 f280:=Tryz.func232.trans (congrArg some (by kernel_rfl))
 f281:=Tryz.func233.trans (congrArg some (by kernel_rfl))
 f282:=Tryz.func234.trans (congrArg some (by kernel_rfl))
 f283:=Tryz.func246.trans (congrArg some (by kernel_rfl))
 f284:=Tryz.func247.trans (congrArg some (by kernel_rfl))
 f285:=Tryz.func248.trans (congrArg some (by kernel_rfl))
 f286:=Tryz.func249.trans (congrArg some (by kernel_rfl))
 f287:=Tryz.func238.trans (congrArg some (by kernel_rfl))
 f316:=Tryz.func239.trans (congrArg some (by kernel_rfl))
 f317:=Tryz.func250.trans (congrArg some (by kernel_rfl))
 f318:=Tryz.func251.trans (congrArg some (by kernel_rfl))
 f319:=Tryz.func252.trans (congrArg some (by kernel_rfl))
 f320:=Tryz.func253.trans (congrArg some (by kernel_rfl))
 f321:=Tryz.func242.trans (congrArg some (by kernel_rfl))
 f322:=Tryz.func243.trans (congrArg some (by kernel_rfl))
 f337:=Tryz.func254.trans (congrArg some (by kernel_rfl))
 f338:=Tryz.func255.trans (congrArg some (by kernel_rfl))
 t0:=Tryz.underlying0
 a0:=Tryz.isAgg0
 z0:=Tryz.sizeOf0
 v0:=Tryz.zeroValue0
 t2:=Tryz.underlying2
 a2:=Tryz.isAgg2
 z2:=Tryz.sizeOf2
 v2:=Tryz.zeroValue2
 t3:=Tryz.underlying3
 a3:=Tryz.isAgg3
 z3:=Tryz.sizeOf3
 v3:=Tryz.zeroValue3
 t4:=Tryz.underlying4
 a4:=Tryz.isAgg4
 z4:=Tryz.sizeOf4
 v4:=Tryz.zeroValue4
 t5:=Tryz.underlying5
 a5:=Tryz.isAgg5
 z5:=Tryz.sizeOf5
 v5:=Tryz.zeroValue5
 t9:=Tryz.underlying9
 a9:=Tryz.isAgg9
 z9:=Tryz.sizeOf9
 v9:=Tryz.zeroValue9
 t20:=Tryz.underlying20
 a20:=Tryz.isAgg20
 z20:=Tryz.sizeOf20
 v20:=Tryz.zeroValue20
 t21:=Tryz.underlying21
 a21:=Tryz.isAgg21
 z21:=Tryz.sizeOf21
 v21:=Tryz.zeroValue21
 t37:=Tryz.underlying264
 a37:=Tryz.isAgg264
 z37:=Tryz.sizeOf264
 v37:=Tryz.zeroValue264
 t46:=Tryz.underlying122
 a46:=Tryz.isAgg122
 z46:=Tryz.sizeOf122
 v46:=Tryz.zeroValue122
 t51:=Tryz.underlying163
 a51:=Tryz.isAgg163
 z51:=Tryz.sizeOf163
 v51:=Tryz.zeroValue163
 t53:=Tryz.underlying165
 a53:=Tryz.isAgg165
 z53:=Tryz.sizeOf165
 v53:=Tryz.zeroValue165
 t75:=Tryz.underlying241
 a75:=Tryz.isAgg241
 z75:=Tryz.sizeOf241
 v75:=Tryz.zeroValue241
 t76:=Tryz.underlying242
 a76:=Tryz.isAgg242
 z76:=Tryz.sizeOf242
 v76:=Tryz.zeroValue242
 t85:=Tryz.underlying265
 a85:=Tryz.isAgg265
 z85:=Tryz.sizeOf265
 v85:=Tryz.zeroValue265
 t127:=Tryz.underlying280
 a127:=Tryz.isAgg280
 z127:=Tryz.sizeOf280
 v127:=Tryz.zeroValue280
 t143:=Tryz.underlying281
 a143:=Tryz.isAgg281
 z143:=Tryz.sizeOf281
 v143:=Tryz.zeroValue281
 t145:=Tryz.underlying283
 a145:=Tryz.isAgg283
 z145:=Tryz.sizeOf283
 v145:=Tryz.zeroValue283
 t167:=Tryz.underlying263
 a167:=Tryz.isAgg263
 z167:=Tryz.sizeOf263
 v167:=Tryz.zeroValue263
 t168:=Tryz.underlying267
 a168:=Tryz.isAgg267
 z168:=Tryz.sizeOf267
 v168:=Tryz.zeroValue267
 t171:=Tryz.underlying285
 a171:=Tryz.isAgg285
 z171:=Tryz.sizeOf285
 v171:=Tryz.zeroValue285
 t173:=Tryz.underlying287
 a173:=Tryz.isAgg287
 z173:=Tryz.sizeOf287
 v173:=Tryz.zeroValue287
 t175:=Tryz.underlying272
 a175:=Tryz.isAgg272
 z175:=Tryz.sizeOf272
 v175:=Tryz.zeroValue272
 t210:=Tryz.underlying276
 a210:=Tryz.isAgg276
 z210:=Tryz.sizeOf276
 v210:=Tryz.zeroValue276
 t212:=Tryz.underlying290
 a212:=Tryz.isAgg290
 z212:=Tryz.sizeOf290
 v212:=Tryz.zeroValue290
 t213:=Tryz.underlying291
 a213:=Tryz.isAgg291
 z213:=Tryz.sizeOf291
 t232:=Tryz.underlying292
 a232:=Tryz.isAgg292
 z232:=Tryz.sizeOf292
 v232:=Tryz.zeroValue292
 t233:=Tryz.underlying293
 a233:=Tryz.isAgg293
 z233:=Tryz.sizeOf293
 v233:=Tryz.zeroValue293
 g15:=by kernel_rfl
 g16:=by kernel_rfl
 g17:=by kernel_rfl
 g18:=by kernel_rfl
 g19:=by kernel_rfl }
def Tryz.TB:Go.Shelf.Ren:=⟨fun | 217=>228 | 266=>236 | n=>n,fun | 9=>9 | 5=>5 | 3=>3 | n=>n,fun | n=>n⟩
theorem Tryz.Yh:Go.Proofs.Lays.n217 Tryz.prog Tryz.TB:={
 mixed:=by kernel_rfl
 f217:=Tryz.func228.trans (congrArg some (by kernel_rfl))
 f266:=Tryz.func236.trans (congrArg some (by kernel_rfl))
 t3:=Tryz.underlying3
 a3:=Tryz.isAgg3
 z3:=Tryz.sizeOf3
 v3:=Tryz.zeroValue3
 t5:=Tryz.underlying5
 a5:=Tryz.isAgg5
 z5:=Tryz.sizeOf5
 v5:=Tryz.zeroValue5
 t9:=Tryz.underlying9
 a9:=Tryz.isAgg9
 z9:=Tryz.sizeOf9
 v9:=Tryz.zeroValue9 }
end Go.Proofs
namespace Go.Proofs.SeatA
open Go.Dn Go.Md Go.Proofs Go.RowKit Go.Shelf Go.Lib
def xQ:az:=⟨[.val .str,.val .str],[.val .str],fun x=>jC x.1 x.2.1⟩
theorem NN:aq Tryz.prog 71:=an (fn:=Tryz.f71) (by kernel_rfl) rfl (by decide)
theorem N5:aF Tryz.prog 71 xQ:=by
 intro G w ow args x y hG how ha hm
 refine Tn (P:=Tryz.prog) (f:=71) (m:=xQ.m) ?_ G w ow args x y hG how ha hm
 intro s c r w hm
 replace hm:jC s c=some (r,()):=hm
 unfold jC at hm
 cases hb:(decide (s.length≤9223372036854775807)&&(decide (c.length<4294967281)&&c.all fun b=>decide (b.toNat<128))) with
 | false=>rw [hb] at hm;cases hm
 | true=>
  rw [hb] at hm
  simp only [cond_true,Option.some.injEq,Prod.mk.injEq,and_true] at hm
  subst hm
  simp only [Bool.and_eq_true,decide_eq_true_eq,List.all_eq_true] at hb
  have:=Any.strings_Trim_laid Tryz.Yf (by kernel_rfl) (bs s) (bs c) w (by simpa [bs,ByteArray.size] using hb.1) (by simpa [bs,ByteArray.size] using hb.2.1) (fun j b hj=>hb.2.2 b (List.mem_of_getElem? (by simpa [bs] using hj)))
  change Calls Tryz.prog 71 _ _ _ at this
  simpa [bs] using this
def gf:az:=⟨[.val .str,.val (.int .u8)],[.val tI],fun x=>eF x.1 x.2.1⟩
theorem uw:aq Tryz.prog 228:=an (fn:=Tryz.f228) (by kernel_rfl) rfl (by decide)
theorem uE:aF Tryz.prog 228 gf:=by
 intro G w ow args x y hG how ha hm
 refine Tm (P:=Tryz.prog) (f:=228) (a:= .str) (a':= .int .u8) (t:=tI) (m:=gf.m) rfl rfl ?_ G w ow args x y hG how ha hm
 intro s c r w hm
 replace hm:eF s c=some (r,()):=hm
 unfold eF at hm
 obtain rfl:Lib.indexByte s c.toNat.toUInt8=r:=congrArg (fun o=>(Option.getD o (0,())).1) hm
 have:=Any.stringslite_IndexByte Tryz.Yh (bs s) c w
 refine ⟨.int .i64 (Lib.indexByte s c.toNat.toUInt8),fun G=>rfl,this.mono ?_⟩
 rintro e w' ⟨he,rfl⟩
 exact ⟨he,RowKit.Below.refl _ _⟩
def vH:az:=⟨[.val .str,.val .str],[.row 9 .str],fun x=>strings_Split x.1 x.2.1⟩
theorem CA:aq Tryz.prog 122:=an (fn:=Tryz.f122) (by kernel_rfl) rfl (by decide)
theorem CQ:aF Tryz.prog 122 vH:=XE Tryz.Xh
end Go.Proofs.SeatA
set_option maxRecDepth 100000
namespace Go.Proofs.SeatA
open Go.Dn Go.Md Go.Proofs Go.RowKit Go.Shelf Go.Lib
def B0:List (Nat×Ann):=[(2,⟨[(0,.val .str),(1,.val (.int .u8)),(2,.val (.int .u8)),(9,.val tI),(10,.val tI)],[],[],bq _⟩),
 (200002,⟨[],[],[],fun _=>0⟩)]
noncomputable def oI:az:=⟨[.val .str,.val (.int .u8),.val (.int .u8)],[.val .bool],fun x=>Ez x.1 x.2.1 x.2.2.1⟩
noncomputable def Fp:Cx:=⟨Tryz.prog,[],[]⟩
theorem Nn:∀ x,aO Fp B0 none Tryz.f220 oI x=oI.m x:=by intro x;kernel_rfl
theorem OZ:aq Tryz.prog 220:=an (fn:=Tryz.f220) (by kernel_rfl) rfl (by decide)
theorem Pe:aF Tryz.prog 220 oI:=aA (X:=Fp) (.nil _) (by kernel_rfl) oI B0 none (by kernel_rfl) (fun x y h=>(Nn x).trans h)
def AX:List (Nat×Ann):=[]
noncomputable def jX:az:=⟨[.val .str],[.val .bool],fun x=>om x.1⟩
noncomputable def DG:Cx:=⟨Tryz.prog,[(220,oI)],[]⟩
theorem Mi:∀ x,aO DG AX none Tryz.f200 jX x=jX.m x:=by intro x;kernel_rfl
theorem DS:aq Tryz.prog 200:=an (fn:=Tryz.f200) (by kernel_rfl) rfl (by decide)
theorem xd:aF Tryz.prog 200 jX:=aA (X:=DG) (.cons Pe OZ (.nil _)) (by kernel_rfl) jX AX none (by kernel_rfl) (fun x y h=>(Mi x).trans h)
structure Kept (w w':World):Prop where
 size:w.heap.size≤w'.heap.size
 os:w'.os=w.os
 output:w'.output=w.output
 block:∀ b,b<w.heap.size→w'.heap[b]? =w.heap[b]?
theorem Kept.refl (w:World):Kept w w:=⟨Nat.le_refl _,rfl,rfl,fun _ _=>rfl⟩
theorem Kept.trans {a b c:World} (h:Kept a b) (k:Kept b c):Kept a c:=⟨Nat.le_trans h.size k.size,k.os.trans h.os,k.output.trans h.output,fun i hi=>(k.block i (Nat.lt_of_lt_of_le hi h.size)).trans (h.block i hi)⟩
theorem Kept.drawn {a b:World} (h:Kept a b) (n:Nat):Kept a (b.drewN n):=⟨h.size,h.os,h.output,h.block⟩
theorem Xm (s:List UInt8) (most:Int) (w:World) (h1:most<(s.length:Int)):
 Calls Tryz.prog 174 #[.string (bs s),.int .i64 most] w fun e w'=>e= .returned (.tuple #[.int .i64 0,.bool false])∧w'=w:=by
 have e200:∀ args w,(callFunc 200 args).run Tryz.prog w= .ok (.enter 200 args) w:=enters_of Tryz.func200 (by kernel_rfl) rfl
 have e201:∀ args w,(callFunc 201 args).run Tryz.prog w= .ok (.enter 201 args) w:=enters_of Tryz.func201 (by kernel_rfl) rfl
 have mixed:Tryz.prog.follows .mixedOrders=true:=by kernel_rfl
 have t3:=Tryz.underlying3;have t4:=Tryz.underlying4;have t5:=Tryz.underlying5;have t9:=Tryz.underlying9
 have hsz:(bs s).size=s.length:=List.size_toArray
 go_enter Tryz.func174,Tryz.ntmps174
 go_wp2
 go_ret2
 exact ⟨rfl,rfl⟩
theorem Xn (s:List UInt8) (most:Int) (w:World) (h1:(s.length:Int)≤most)
 (hd:Calls Tryz.prog 200 #[.string (bs s)] w fun e w'=>e= .returned (.bool false)∧Kept w w'):
 Calls Tryz.prog 174 #[.string (bs s),.int .i64 most] w fun e w'=>e= .returned (.tuple #[.int .i64 0,.bool false])∧Kept w w':=by
 have e200:∀ args w,(callFunc 200 args).run Tryz.prog w= .ok (.enter 200 args) w:=enters_of Tryz.func200 (by kernel_rfl) rfl
 have e201:∀ args w,(callFunc 201 args).run Tryz.prog w= .ok (.enter 201 args) w:=enters_of Tryz.func201 (by kernel_rfl) rfl
 have mixed:Tryz.prog.follows .mixedOrders=true:=by kernel_rfl
 have t3:=Tryz.underlying3;have t4:=Tryz.underlying4;have t5:=Tryz.underlying5;have t9:=Tryz.underlying9
 have hsz:(bs s).size=s.length:=List.size_toArray
 go_enter Tryz.func174,Tryz.ntmps174
 go_wp2_with (go_at_fn 200;refine hd.mono ?_;rintro e w' ⟨rfl,hk⟩)
 go_ret2
 exact ⟨rfl,hk⟩
theorem Xo (s:List UInt8) (most:Int) (w:World) (h1:(s.length:Int)≤most) (h2:1<(s.length:Int)) (h3:(bs s)[0]? =some 48)
 (hd:Calls Tryz.prog 200 #[.string (bs s)] w fun e w'=>e= .returned (.bool true)∧Kept w w'):
 Calls Tryz.prog 174 #[.string (bs s),.int .i64 most] w fun e w'=>e= .returned (.tuple #[.int .i64 0,.bool false])∧Kept w w':=by
 have e200:∀ args w,(callFunc 200 args).run Tryz.prog w= .ok (.enter 200 args) w:=enters_of Tryz.func200 (by kernel_rfl) rfl
 have e201:∀ args w,(callFunc 201 args).run Tryz.prog w= .ok (.enter 201 args) w:=enters_of Tryz.func201 (by kernel_rfl) rfl
 have mixed:Tryz.prog.follows .mixedOrders=true:=by kernel_rfl
 have t3:=Tryz.underlying3;have t4:=Tryz.underlying4;have t5:=Tryz.underlying5;have t9:=Tryz.underlying9
 have hsz:(bs s).size=s.length:=List.size_toArray
 have h3':∀ h:0<(bs s).size,(bs s)[0]'h=48:=fun h=>by rw [getElem?_pos (bs s) 0 h] at h3;exact Option.some.inj h3
 go_enter Tryz.func174,Tryz.ntmps174
 go_wp2_with (go_at_fn 200;refine hd.mono ?_;rintro e w' ⟨rfl,hk⟩)
 all_goals first | (go_ret2;exact ⟨rfl,hk⟩) | (exfalso;simp_all)
theorem Xp (s:List UInt8) (most n:Int) (b:UInt8) (w:World) (h1:(s.length:Int)≤most) (h3:(bs s)[0]? =some b) (h2:¬(1<(s.length:Int))∨b≠48)
 (hd:Calls Tryz.prog 200 #[.string (bs s)] w fun e w'=>e= .returned (.bool true)∧Kept w w')
 (ha:∀ w,Calls Tryz.prog 201 #[.string (bs s)] w fun e w'=>e= .returned (.tuple #[.int .i64 n,.nilIface])∧Kept w w'):
 Calls Tryz.prog 174 #[.string (bs s),.int .i64 most] w fun e w'=>e= .returned (.tuple #[.int .i64 n,.bool true])∧Kept w w':=by
 have e200:∀ args w,(callFunc 200 args).run Tryz.prog w= .ok (.enter 200 args) w:=enters_of Tryz.func200 (by kernel_rfl) rfl
 have e201:∀ args w,(callFunc 201 args).run Tryz.prog w= .ok (.enter 201 args) w:=enters_of Tryz.func201 (by kernel_rfl) rfl
 have mixed:Tryz.prog.follows .mixedOrders=true:=by kernel_rfl
 have t3:=Tryz.underlying3;have t4:=Tryz.underlying4;have t5:=Tryz.underlying5;have t9:=Tryz.underlying9
 have hsz:(bs s).size=s.length:=List.size_toArray
 have t240:=Tryz.underlying240;have t241:=Tryz.underlying241
 have h3':∀ h:0<(bs s).size,(bs s)[0]'h=b:=fun h=>by rw [getElem?_pos (bs s) 0 h] at h3;exact Option.some.inj h3
 have hb48:b≠48→¬((b.toNat:Int)=48):=fun h e=>h (UInt8.toNat_inj.1 (show b.toNat=48 by omega))
 rcases Classical.em (1<(s.length:Int)) with h4 | h4
 ·have h5:¬((b.toNat:Int)=48):=hb48 (h2.resolve_left (fun h=>h h4))
  go_enter Tryz.func174,Tryz.ntmps174
  go_wp2_with (first | (go_at_fn 200;refine hd.mono ?_;rintro e w' ⟨rfl,hk⟩) | (go_at_fn 201;refine (ha _).mono ?_;rintro e w'' ⟨rfl,hk2⟩))
  all_goals first | (exfalso;omega) | skip
  all_goals first | (go_quiet (fail);go_wp2;go_ret2;exact ⟨rfl,hk.trans (hk2.drawn _)⟩) | (exfalso;simp_all;done) | (exfalso;simp_all;omega)
 ·go_enter Tryz.func174,Tryz.ntmps174
  go_wp2_with (first | (go_at_fn 200;refine hd.mono ?_;rintro e w' ⟨rfl,hk⟩) | (go_at_fn 201;refine (ha _).mono ?_;rintro e w'' ⟨rfl,hk2⟩))
  all_goals first | (exfalso;omega) | skip
  all_goals first | (go_quiet (fail);go_wp2;go_ret2;exact ⟨rfl,hk.trans (hk2.drawn _)⟩) | (exfalso;simp_all;done) | (exfalso;simp_all;omega)
theorem Kept.Xt {w w':World} (h:RowKit.Below w.heap.size w w'):Kept w w':=⟨h.size,h.os,h.output,h.block⟩
theorem Sc {G:Gh} {w:World} (s:List UInt8) (hG:Agr G w) (hT:uW Tryz.prog G) (D:Bool) (hm:om s=some (D,())):
 Calls Tryz.prog 200 #[.string (bs s)] w fun e w'=>e= .returned (.bool D)∧Kept w w':=by
 have h:=xd G w (fun _=>none) [.string (bs s)] (s,()) (D,()) hG (fun _ _ h=>nomatch h) ⟨_,[],fun _=>rfl,fun h=>(Bool.noConfusion h),(by show aH G .str s [.string (bs s)];rfl),rfl⟩ hm hT
 refine h.mono ?_
 rintro e w' ⟨G',ow',vs,g⟩
 obtain ⟨v,us,hv,hr,h2,_⟩:=g.out
 have e2:us=[]:=h2
 have e1:[v]=[Value.bool D]:=hr
 cases e1
 subst e2;subst hv
 exact ⟨g.ret,g.size,g.os,g.output,fun b hb=>(g.old b hb rfl).1⟩
def Io:az:=⟨[.val .str,.val tI],[.val tI,.val .bool],fun x=>Bw x.1 x.2.1⟩
theorem QW:aq Tryz.prog 174:=an (fn:=Tryz.f174) (by kernel_rfl) rfl (by decide)
theorem Sz {G:Gh} {w:World} (s:List UInt8) (most n:Int) (b:Bool) (hG:Agr G w) (hT:uW Tryz.prog G) (hm:Bw s most=some (n,b,())):
 Calls Tryz.prog 174 #[.string (bs s),.int .i64 most] w fun e w'=>e= .returned (.tuple #[.int .i64 n,.bool b])∧Kept w w':=by
 unfold Bw at hm
 rcases Classical.em (most<(s.length:Int)) with h | h
 ·rw [decide_eq_true h,cond_true] at hm
  cases hm
  exact (Xm s most w h).mono fun e w' hh=>⟨hh.1,hh.2 ▸ Kept.refl w⟩
 ·rw [decide_eq_false h,cond_false] at hm
  rcases Classical.em (s.length≤18) with h18 | h18
  rotate_left
  ·rw [decide_eq_false h18,cond_false] at hm;cases hm
  rw [decide_eq_true h18,cond_true] at hm
  have hD:=NX s (by omega)
  have hle:(s.length:Int)≤most:=by omega
  have hdd:(!(s==[])&&s.all XO)=(decide (s≠[])&&s.all Co):=by cases s<;>rfl
  rw [hdd] at hm
  generalize hDD:(decide (s≠[])&&s.all Co)=D at hD hm
  have hd:=Sc s hG hT D hD
  cases D with
  | false=>
   cases hm
   exact Xn s most w hle hd
  | true=>
   cases s with
   | nil=>cases hDD
   | cons c r=>
    have h3:(bs (c::r))[0]? =some c:=by
     rw [getElem?_pos (bs (c::r)) 0 (by show 0<(c::r).toArray.size;simp)];rfl
    rcases Classical.em (1<(c::r).length∧c=48) with h2 | h2
    ·obtain ⟨h2,rfl⟩:=h2
     have e:(!true||(decide (1<((48:UInt8)::r).length)&&((48:UInt8)::r).head? ==some 48))=true:=by rw [decide_eq_true h2];rfl
     rw [e,cond_true] at hm
     cases hm
     exact Xo _ most w hle (by omega) h3 hd
    ·have e:(!true||(decide (1<(c::r).length)&&(c::r).head? ==some 48))=false:=by
      rw [Bool.not_true,Bool.false_or,Bool.and_eq_false_iff]
      rcases Classical.em (1<(c::r).length) with h4 | h4
      ·right
       have h5:c≠48:=fun h=>h2 ⟨h4,h⟩
       exact beq_eq_false_iff_ne.2 (fun h=>h5 (Option.some.inj h))
      ·left;exact decide_eq_false h4
     rw [e,cond_false] at hm
     cases ha:Lib.atoi (c::r) with
     | none=>rw [ha] at hm;cases hm
     | some m=>
      rw [ha] at hm
      cases hm
      refine Xp _ most n c w hle h3 ?_ hd fun w=> ?_
      ·rcases Classical.em (1<(c::r).length) with h4 | h4
       ·right;exact fun h=>h2 ⟨h4,h⟩
       ·left;omega
      ·have:=Any.strconv_Atoi Tryz.Yg (bs (c::r)) n (by show (c::r).toArray.size≤18;simpa using h18) (by simpa [bs] using ha) w
       change Calls Tryz.prog 201 _ _ _ at this
       refine this.mono ?_
       rintro e w' ⟨rfl,t,rfl⟩
       exact ⟨rfl,Kept.Xt (bytesWorld_below w _ t)⟩
theorem Q4:aF Tryz.prog 174 Io:=by
 intro G w ow args x y hG how ha hm hT
 obtain ⟨s,most,u⟩:=x
 obtain ⟨n,b,u'⟩:=y
 obtain ⟨v,us,h1,_,hv,v',us',h2,_,hv',h3⟩:=ha
 have e1:=h1 rfl
 have e2:=h2 rfl
 have e3:us'=[]:=h3
 have e4:[v]=[.string (bs s)]:=hv
 have e5:[v']=[.int .i64 most]:=hv'
 cases e4;cases e5
 subst e1;subst e2;subst e3
 refine (Sz s most n b hG hT hm).mono ?_
 rintro e w' ⟨he,hk⟩
 refine ⟨G,fun _=>none,[.int .i64 n,.bool b], ?_⟩
 exact {
  ret:=he
  le:=Gh.le_refl G
  agr:=fun i o hio=>by
   have hw:=hG i o hio
   rw [hk.block i (cE hw)];exact hw
  size:=hk.size
  os:=hk.os
  output:=hk.output
  old:=fun i hlt _=>⟨hk.block i hlt,rfl⟩
  own:=fun i j hij=>by cases hij
  out:=⟨_,_,rfl,rfl,_,_,rfl,rfl,rfl,trivial⟩
  hnd:=fun _=>rfl }
end Go.Proofs.SeatA
set_option maxRecDepth 100000
namespace Go.Proofs
open Go.Shelf
def Tryz.V6:Go.Shelf.Ren:=⟨fun | 4=>66 | n=>n,fun | 22=>25 | 25=>35 | 3=>3 | 4=>4 | 9=>9 | 20=>20 | 0=>0 | n=>n,fun | n=>n⟩
theorem Tryz.u7:Go.Proofs.Lays8.n4 Tryz.prog Tryz.V6:={
 mixed:=by kernel_rfl
 f4:=⟨Tryz.f66.name,by decide,Tryz.func66.trans (congrArg some (by kernel_rfl))⟩
 t0:=Tryz.underlying0
 a0:=Tryz.isAgg0
 z0:=Tryz.sizeOf0
 v0:=Tryz.zeroValue0
 t3:=Tryz.underlying3
 a3:=Tryz.isAgg3
 z3:=Tryz.sizeOf3
 v3:=Tryz.zeroValue3
 t4:=Tryz.underlying4
 a4:=Tryz.isAgg4
 z4:=Tryz.sizeOf4
 v4:=Tryz.zeroValue4
 t9:=Tryz.underlying9
 a9:=Tryz.isAgg9
 z9:=Tryz.sizeOf9
 v9:=Tryz.zeroValue9
 t20:=Tryz.underlying20
 a20:=Tryz.isAgg20
 z20:=Tryz.sizeOf20
 v20:=Tryz.zeroValue20
 t22:=Tryz.underlying25
 a22:=Tryz.isAgg25
 z22:=Tryz.sizeOf25
 v22:=Tryz.zeroValue25 }
end Go.Proofs
namespace Go.Proofs.SeatA
open Go.Dn Go.Md Go.Proofs Go.RowKit Go.Shelf Go.Lib Go.Sort
end Go.Proofs.SeatA
