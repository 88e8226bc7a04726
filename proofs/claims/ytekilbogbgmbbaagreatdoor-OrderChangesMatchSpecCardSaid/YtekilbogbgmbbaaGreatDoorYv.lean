/-
  Functions of the library and of kit, by contracts and by a walk. No condition.
-/
import Derived.Test.YtekilbogbgmbbaaGreatDoorYo
import Derived.Test.YtekilbogbgmbbaaGreatDoorYd
import Derived.Shelf.Strings.Split
import Derived.Shelf.LaysM
import Derived.Test.YtekilbogbgmbbaaGreatDoorYf
import Derived.Test.YtekilbogbgmbbaaGreatDoorProg
import Derived.Shelf.Strings.SlTrimAscii
import Derived.Shelf.Strconv.Atoi
import Derived.Shelf.Strings.Search1
import Derived.WalkKit
import Derived.Deep.QuietTactic
import Derived.BigQuiet
import Derived.Lib.AtoiErrMem
import Derived.Test.YtekilbogbgmbbaaGreatDoorYr
set_option linter.all false
namespace Go.Md
open Go.Dn Go.Lib
theorem EI (c b:UInt8) (r:Bys):index (b::r) [c]=if b=c then 0 else if index r [c]== -1 then -1 else index r [c]+1:=by
 rw[index]
 by_cases h:b=c
 ·subst h;simp
 ·have:(c==b)=false:=by simp[Ne.symm h]
  simp[h,List.isPrefixOf,this]
theorem count_cons (c b:UInt8) (r:Bys):count (b::r) [c]=(if b=c then 1 else 0)+count r [c]:=by
 rw[count_one,count_one,List.count_cons]
 by_cases h:b=c
 ·subst h;simp;omega
 ·simp[h]
theorem PO (c b:UInt8) (h:b≠c):∀ (k:Nat) (r:Bys),splitK [c] 0 k (b::r)=(match splitK [c] 0 k r with | x::t=>(b::x)::t | []=>[[b]])
 | 0,r=>rfl
 | k+1,r=>by
  simp only[splitK,EI,if_neg h]
  have hge:=index_ge r [c]
  by_cases h1:index r [c]= -1
  ·simp[h1]
  ·have e1:(index r [c]== -1)=false:=by simp[h1]
   have e2:(index r [c]+1== -1)=false:=by simp;omega
   simp only[e1,e2,Bool.false_eq_true,if_false]
   have e3:(index r [c]+1).toNat=(index r [c]).toNat+1:=by omega
   rw[e3]
   simp[Nat.add_assoc]
theorem Jr (c:UInt8):∀ (s:Bys),splitK [c] 0 (count s [c]) s=kg c s
 | []=>by
  have:count [] [c]=0:=by rw[count_one];rfl
  rw[this];rfl
 | b::r=>by
  have ih:=Jr c r
  rw[count_cons]
  by_cases h:b=c
  ·subst h
   rw[if_pos rfl,Nat.add_comm]
   simp only[splitK,EI,kg]
   simp[ih]
  ·have hb:(b==c)=false:=by simp[h]
   rw[if_neg h,Nat.zero_add,PO c b h,ih]
   simp only[kg,hb,cond_false]
   cases kg c r<;>rfl
end Go.Md
namespace Go.Dn
open Go.Md Go.Proofs Go.Shelf Go.RowKit Go.Lib
theorem QV {G:Gh}:∀ (l:List ByteArray),bN (aB G .str) (l.map (·.data.toList)) (l.map Value.string)
 | []=>rfl
 | x::r=>⟨[.string x],r.map Value.string,rfl,by show [Value.string x]=[Value.string (bs x.data.toList)];simp[bs],QV r⟩
theorem XS {P:Program} {ρ:Ren} (L:LaysM.n146 P ρ) {G:Gh} {w:World} {ow:Nat->Option Nat} (s:Bys) (b:UInt8) (hG:Agr G w) (hT:jf P G) (hlen:s.length<4294967281): Calls P (ρ.f 146) #[.string (bs s),.string (bs [b])] w fun e w'=>∃ G' ow' vs,Fc G w ow ⟨[.val .str,.val .str],[.row (ρ.t 9) .str],fun x=>strings_Split x.1 x.2.1⟩ [.string (bs s),.string (bs [b])] (kg b s,()) e w' G' ow' vs:=by
 obtain⟨m,T,fz,hml⟩:=hT.maxLen _ L.m1
 have hcell:w.cell? ⟨ρ.g 1,0,none⟩=some (.int .i64 m):=by
  have:=hG _ _ hml
  simp[World.cell?,this]
 have hsz:(bs s).size=s.length:=List.size_toArray
 have h1b:1<=(bs [b]).size:=Nat.le_refl 1
 refine (Any.strings_Split { L with } L.i9 (bs s) (bs [b]) m w (by omega) hcell h1b).mono ?_
 rintro e w' ⟨rfl,rfl⟩
 have hsp:(splitB (bs [b]) 0 (countB (bs s) (bs [b])) (bs s)).map (·.data.toList)=kg b s:=by
  rw[splitB_data]
  exact Jr b s
 have hl:=splitB_all (bs [b]) h1b 0 _ (bs s) rfl
 have hle:=countB_le (bs [b]) h1b (bs s).size (bs s) (Nat.le_refl _)
 generalize splitB (bs [b]) 0 (countB (bs s) (bs [b])) (bs s)=q at hsp hl
 generalize countB (bs s) (bs [b])=n at hl hle
 have hrl:(kg b s).length=n+1:=by rw[<- hsp,List.length_map,hl]
 have hnone:G w.heap.size=none:=by
  cases hg:G w.heap.size with
  | none=>rfl
  | some o=>have:=bf (hG _ _ hg);omega
 have lZ:n+1<=maxLen:=by
  have:maxLen=9223372036854775807:=rfl
  omega
 have hown:(w.alloc (.cells (q.map Value.string).toArray (ρ.t 9))).ownsRow 0 (ρ.t 9) 1 (.slice (some ⟨w.heap.size,0,none⟩) (n+1) (n+1)) (kg b s).length (q.map Value.string):=
  ⟨by rw[List.length_map,hl,hrl,Nat.mul_one],.inr ⟨w.heap.size,n+1,(q.map Value.string).toArray,by rw[hrl],Nat.zero_le _,heap_alloc_new w _,by rw[hrl];exact Nat.le_refl _,lZ,by rw[List.size_toArray,List.length_map,hl,Nat.mul_one],
    by rw[hrl,Nat.mul_one];exact List.take_of_length_le (by show (q.map Value.string).length<=_;rw[List.length_map,hl];exact Nat.le_refl _)⟩⟩
 refine⟨G,fun i=>if i=w.heap.size then some (64*24) else none,[.slice (some ⟨w.heap.size,0,none⟩) (n+1) (n+1)], ?_⟩
 exact {
  ret:=rfl
  le:=Gh.le_refl G
  agr:=fun i o hi=>by
   have h1:=hG i o hi
   rw[heap_alloc_old w _ (bf h1)];exact h1
  size:=by simp
  os:=rfl
  output:=rfl
  old:=fun i hi _=>⟨heap_alloc_old w _ hi,rfl⟩
  own:=fun i j hj=>by
   by_cases e:i=w.heap.size
   ·subst e;exact⟨hnone,by simp,.inl (Nat.le_refl _)⟩
   ·simp only[e,if_false] at hj;cases hj
  out:=by
   refine⟨_,[],rfl,⟨⟨q.map Value.string,hown,by rw[<- hsp];exact QV q⟩,fun k hk=> ?_⟩,rfl,trivial⟩
   have:some w.heap.size=some k:=hk
   cases this
   show (if w.heap.size=w.heap.size then some (64*24) else none)=_
   rw[if_pos rfl]
  hnd:=fun _=>rfl }
theorem XT {s c:Bys} {r:List Bys} (h:strings_Split s c=some (r,())):∃ b,c=[b]/\s.length<4294967281/\r=kg b s:=by
 unfold strings_Split at h
 split at h
 ·rename_i b
  cases hb:decide (s.length<4294967281) with
  | false=>rw[hb] at h;cases h
  | true=>
   rw[hb] at h
   exact⟨b,rfl,of_decide_eq_true hb,(Prod.mk.inj (Option.some.inj h)).1.symm⟩
 ·cases h
theorem aaG {P:Program} {ρ:Ren} (L:LaysM.n146 P ρ):ig P (ρ.f 146) ⟨[.val .str,.val .str],[.row (ρ.t 9) .str],fun x=>strings_Split x.1 x.2.1⟩:=by
 intro G w ow args x y hG how ha hm hT
 obtain⟨s,c,u⟩:=x
 obtain⟨r,u'⟩:=y
 obtain⟨v,us,h1,l1,hv,v',us',h2,l2,hv',h3⟩:=ha
 have e1:=h1 rfl
 have e2:=h2 rfl
 have e3:us'=[]:=h3
 have e4:v= .string (bs s):=by simpa [Fb,bX,aB] using hv
 have e5:v'= .string (bs c):=by simpa [Fb,bX,aB] using hv'
 subst e1;subst e2;subst e3;subst e4;subst e5
 obtain⟨b,rfl,hlen,rfl⟩:=XT hm
 exact XS L s b hG hT hlen
end Go.Dn
namespace Go.Proofs
open Go.Shelf
def Tryz.Vd:Go.Shelf.Ren:=⟨fun | 160=>68 | 232=>112 | 231=>111 | 227=>113 | 234=>115 | 233=>114 | 236=>117 | 235=>116 | 228=>152 | 271=>155 | 151=>154 | 197=>153 | 120=>183 | 152=>182 | 260=>181 | 137=>196 | 119=>197 | 224=>198 | 225=>199 | 217=>200 | 266=>208 | n=>n,fun | 9=>9 | 4=>4 | 3=>3 | 5=>5 | 117=>166 | 116=>165 | 0=>0 | 124=>169 | 21=>21 | 105=>199 | 46=>127 | 119=>234 | 139=>237 | 138=>236 | n=>n,fun | 3=>0 | 4=>1 | n=>n⟩
theorem Tryz.abr:Go.Proofs.Lays.n160 Tryz.prog Tryz.Vd:={
 mixed:=by kernel_rfl
 f119:=Tryz.func197.trans (congrArg some (by kernel_rfl))
 f120:=Tryz.func183.trans (congrArg some (by kernel_rfl))
 f137:=Tryz.func196.trans (congrArg some (by kernel_rfl))
 f151:=Tryz.func154.trans (congrArg some (by kernel_rfl))
 f152:=Tryz.func182.trans (congrArg some (by kernel_rfl))
 f160:=Tryz.func68.trans (congrArg some (by kernel_rfl))
 f197:=Tryz.func153.trans (congrArg some (by kernel_rfl))
 f217:=Tryz.func200.trans (congrArg some (by kernel_rfl))
 f224:=Tryz.func198.trans (congrArg some (by kernel_rfl))
 f225:=Tryz.func199.trans (congrArg some (by kernel_rfl))
 f227:=Tryz.func113.trans (congrArg some (by kernel_rfl))
 f228:=Tryz.func152.trans (congrArg some (by kernel_rfl))
 f231:=Tryz.func111.trans (congrArg some (by kernel_rfl))
 f232:=Tryz.func112.trans (congrArg some (by kernel_rfl))
 f233:=Tryz.func114.trans (congrArg some (by kernel_rfl))
 f234:=Tryz.func115.trans (congrArg some (by kernel_rfl))
 f235:=Tryz.func116.trans (congrArg some (by kernel_rfl))
 f236:=Tryz.func117.trans (congrArg some (by kernel_rfl))
 f260:=Tryz.func181.trans (congrArg some (by kernel_rfl))
 f266:=Tryz.func208.trans (congrArg some (by kernel_rfl))
 f271:=Tryz.func155.trans (congrArg some (by kernel_rfl))
 t0:=Tryz.underlying0
 a0:=Tryz.isAgg0
 z0:=Tryz.sizeOf0
 v0:=Tryz.zeroValue0
 t3:=Tryz.underlying3
 a3:=Tryz.isAgg3
 z3:=Tryz.sizeOf3
 v3:=Tryz.zeroValue3
 t4:=Tryz.underlying4
 a4:=Tryz.isAgg4
 z4:=Tryz.sizeOf4
 v4:=Tryz.zeroValue4
 t5:=Tryz.underlying5
 a5:=Tryz.isAgg5
 z5:=Tryz.sizeOf5
 v5:=Tryz.zeroValue5
 t9:=Tryz.underlying9
 a9:=Tryz.isAgg9
 z9:=Tryz.sizeOf9
 v9:=Tryz.zeroValue9
 t21:=Tryz.underlying21
 a21:=Tryz.isAgg21
 z21:=Tryz.sizeOf21
 v21:=Tryz.zeroValue21
 t46:=Tryz.underlying127
 a46:=Tryz.isAgg127
 z46:=Tryz.sizeOf127
 v46:=Tryz.zeroValue127
 t105:=Tryz.underlying199
 a105:=Tryz.isAgg199
 z105:=Tryz.sizeOf199
 v105:=Tryz.zeroValue199
 t116:=Tryz.underlying165
 a116:=Tryz.isAgg165
 z116:=Tryz.sizeOf165
 t117:=Tryz.underlying166
 a117:=Tryz.isAgg166
 z117:=Tryz.sizeOf166
 v117:=Tryz.zeroValue166
 t119:=Tryz.underlying234
 a119:=Tryz.isAgg234
 z119:=Tryz.sizeOf234
 t124:=Tryz.underlying169
 a124:=Tryz.isAgg169
 z124:=Tryz.sizeOf169
 v124:=Tryz.zeroValue169
 t138:=Tryz.underlying236
 a138:=Tryz.isAgg236
 z138:=Tryz.sizeOf236
 v138:=Tryz.zeroValue236
 t139:=Tryz.underlying237
 a139:=Tryz.isAgg237
 z139:=Tryz.sizeOf237
 v139:=Tryz.zeroValue237
 g3:=by kernel_rfl
 g4:=by kernel_rfl }
def Tryz.TI:Go.Shelf.Ren:=⟨fun | 146=>102 | 221=>148 | 268=>172 | 138=>173 | 143=>174 | 195=>186 | 197=>153 | 218=>187 | 219=>188 | 260=>181 | 217=>200 | 225=>199 | 224=>198 | 267=>201 | 266=>208 | 314=>209 | n=>n,fun | 9=>9 | 31=>116 | 3=>3 | 4=>4 | 0=>0 | 105=>199 | 21=>21 | 5=>5 | 46=>127 | 119=>234 | 139=>237 | 138=>236 | 146=>246 | 51=>181 | n=>n,fun | 1=>2 | 3=>0 | 4=>1 | n=>n⟩
theorem Tryz.aai:Go.Proofs.LaysM.n146 Tryz.prog Tryz.TI:={
 mixed:=by kernel_rfl
 f138:=Tryz.func173.trans (congrArg some (by kernel_rfl))
 f143:=Tryz.func174.trans (congrArg some (by kernel_rfl))
 f146:=Tryz.func102.trans (congrArg some (by kernel_rfl))
 f195:=Tryz.func186.trans (congrArg some (by kernel_rfl))
 f197:=Tryz.func153.trans (congrArg some (by kernel_rfl))
 f217:=Tryz.func200.trans (congrArg some (by kernel_rfl))
 f218:=Tryz.func187.trans (congrArg some (by kernel_rfl))
 f219:=Tryz.func188.trans (congrArg some (by kernel_rfl))
 f221:=Tryz.func148.trans (congrArg some (by kernel_rfl))
 f224:=Tryz.func198.trans (congrArg some (by kernel_rfl))
 f225:=Tryz.func199.trans (congrArg some (by kernel_rfl))
 f260:=Tryz.func181.trans (congrArg some (by kernel_rfl))
 f266:=Tryz.func208.trans (congrArg some (by kernel_rfl))
 f267:=Tryz.func201.trans (congrArg some (by kernel_rfl))
 f268:=Tryz.func172.trans (congrArg some (by kernel_rfl))
 f314:=Tryz.func209.trans (congrArg some (by kernel_rfl))
 t0:=Tryz.underlying0
 a0:=Tryz.isAgg0
 z0:=Tryz.sizeOf0
 v0:=Tryz.zeroValue0
 t3:=Tryz.underlying3
 a3:=Tryz.isAgg3
 z3:=Tryz.sizeOf3
 v3:=Tryz.zeroValue3
 t4:=Tryz.underlying4
 a4:=Tryz.isAgg4
 z4:=Tryz.sizeOf4
 v4:=Tryz.zeroValue4
 t5:=Tryz.underlying5
 a5:=Tryz.isAgg5
 z5:=Tryz.sizeOf5
 v5:=Tryz.zeroValue5
 t9:=Tryz.underlying9
 a9:=Tryz.isAgg9
 z9:=Tryz.sizeOf9
 v9:=Tryz.zeroValue9
 t21:=Tryz.underlying21
 a21:=Tryz.isAgg21
 z21:=Tryz.sizeOf21
 v21:=Tryz.zeroValue21
 t31:=Tryz.underlying116
 a31:=Tryz.isAgg116
 z31:=Tryz.sizeOf116
 v31:=Tryz.zeroValue116
 t46:=Tryz.underlying127
 a46:=Tryz.isAgg127
 z46:=Tryz.sizeOf127
 v46:=Tryz.zeroValue127
 t51:=Tryz.underlying181
 a51:=Tryz.isAgg181
 z51:=Tryz.sizeOf181
 v51:=Tryz.zeroValue181
 t105:=Tryz.underlying199
 a105:=Tryz.isAgg199
 z105:=Tryz.sizeOf199
 v105:=Tryz.zeroValue199
 t119:=Tryz.underlying234
 a119:=Tryz.isAgg234
 z119:=Tryz.sizeOf234
 t138:=Tryz.underlying236
 a138:=Tryz.isAgg236
 z138:=Tryz.sizeOf236
 v138:=Tryz.zeroValue236
 t139:=Tryz.underlying237
 a139:=Tryz.isAgg237
 z139:=Tryz.sizeOf237
 v139:=Tryz.zeroValue237
 t146:=Tryz.underlying246
 a146:=Tryz.isAgg246
 z146:=Tryz.sizeOf246
 v146:=Tryz.zeroValue246
 g1:=by kernel_rfl
 g3:=by kernel_rfl
 g4:=by kernel_rfl
 i0:=by kernel_rfl
 i3:=by kernel_rfl
 i4:=by kernel_rfl
 i5:=by kernel_rfl
 i9:=by kernel_rfl
 i21:=by kernel_rfl
 i31:=by kernel_rfl
 i46:=by kernel_rfl
 i51:=by kernel_rfl
 i105:=by kernel_rfl
 i138:=by kernel_rfl
 i139:=by kernel_rfl
 i146:=by kernel_rfl
 m1:=by kernel_rfl
 s1_3:=fun w h=>Go.Proofs.cell_of_shapedOpen_int (zero:= #[.int .i64 0]) (t:=3) h (of_decide_eq_true (by kernel_rfl)) (by kernel_rfl) rfl (by kernel_rfl) (by kernel_rfl) Tryz.underlying3
 m3:=by kernel_rfl
 m4:=by kernel_rfl }
def Tryz.Ve:Go.Shelf.Ren:=⟨fun | 172=>176 | 244=>190 | 245=>191 | 247=>202 | 279=>203 | 280=>204 | 281=>205 | 282=>206 | 287=>210 | 316=>211 | 171=>213 | 205=>212 | 321=>214 | 322=>215 | 243=>216 | 246=>217 | 283=>218 | 284=>219 | 285=>220 | 286=>221 | 129=>130 | 317=>222 | 318=>223 | 319=>224 | 320=>225 | 337=>226 | 338=>227 | n=>n,fun | 9=>9 | 3=>3 | 75=>218 | 76=>219 | 4=>4 | 5=>5 | 167=>239 | 37=>240 | 0=>0 | 85=>241 | 2=>2 | 168=>243 | 53=>183 | 175=>248 | 46=>127 | 210=>252 | 127=>256 | 145=>259 | 143=>257 | 21=>21 | 171=>261 | 173=>263 | 212=>266 | 51=>181 | 20=>20 | 213=>267 | 232=>268 | 233=>269 | 80=>161 | n=>n,fun | 15=>3 | 16=>4 | 17=>5 | 18=>6 | 19=>7 | n=>n⟩
theorem Tryz.abt:Go.Proofs.Lays.n172 Tryz.prog Tryz.Ve:={
 mixed:=by kernel_rfl
 f129:=Tryz.func130.trans (congrArg some (by kernel_rfl))
 f171:=Tryz.func213.trans (congrArg some (by kernel_rfl))
 f172:=Tryz.func176.trans (congrArg some (by kernel_rfl))
 f205:=Tryz.func212.trans (congrArg some (by kernel_rfl))
 f243:=Tryz.func216.trans (congrArg some (by kernel_rfl))
 f244:=Tryz.func190.trans (congrArg some (by kernel_rfl))
 f245:=Tryz.func191.trans (congrArg some (by kernel_rfl))
 f246:=Tryz.func217.trans (congrArg some (by kernel_rfl))
 f247:=Tryz.func202.trans (congrArg some (by kernel_rfl))
 f279:=Tryz.func203.trans (congrArg some (by kernel_rfl))
 f280:=Tryz.func204.trans (congrArg some (by kernel_rfl))
 f281:=Tryz.func205.trans (congrArg some (by kernel_rfl))
 f282:=Tryz.func206.trans (congrArg some (by kernel_rfl))
 f283:=Tryz.func218.trans (congrArg some (by kernel_rfl))
 f284:=Tryz.func219.trans (congrArg some (by kernel_rfl))
 f285:=Tryz.func220.trans (congrArg some (by kernel_rfl))
 f286:=Tryz.func221.trans (congrArg some (by kernel_rfl))
 f287:=Tryz.func210.trans (congrArg some (by kernel_rfl))
 f316:=Tryz.func211.trans (congrArg some (by kernel_rfl))
 f317:=Tryz.func222.trans (congrArg some (by kernel_rfl))
 f318:=Tryz.func223.trans (congrArg some (by kernel_rfl))
 f319:=Tryz.func224.trans (congrArg some (by kernel_rfl))
 f320:=Tryz.func225.trans (congrArg some (by kernel_rfl))
 f321:=Tryz.func214.trans (congrArg some (by kernel_rfl))
 f322:=Tryz.func215.trans (congrArg some (by kernel_rfl))
 f337:=Tryz.func226.trans (congrArg some (by kernel_rfl))
 f338:=Tryz.func227.trans (congrArg some (by kernel_rfl))
 t0:=Tryz.underlying0
 a0:=Tryz.isAgg0
 z0:=Tryz.sizeOf0
 v0:=Tryz.zeroValue0
 t2:=Tryz.underlying2
 a2:=Tryz.isAgg2
 z2:=Tryz.sizeOf2
 v2:=Tryz.zeroValue2
 t3:=Tryz.underlying3
 a3:=Tryz.isAgg3
 z3:=Tryz.sizeOf3
 v3:=Tryz.zeroValue3
 t4:=Tryz.underlying4
 a4:=Tryz.isAgg4
 z4:=Tryz.sizeOf4
 v4:=Tryz.zeroValue4
 t5:=Tryz.underlying5
 a5:=Tryz.isAgg5
 z5:=Tryz.sizeOf5
 v5:=Tryz.zeroValue5
 t9:=Tryz.underlying9
 a9:=Tryz.isAgg9
 z9:=Tryz.sizeOf9
 v9:=Tryz.zeroValue9
 t20:=Tryz.underlying20
 a20:=Tryz.isAgg20
 z20:=Tryz.sizeOf20
 v20:=Tryz.zeroValue20
 t21:=Tryz.underlying21
 a21:=Tryz.isAgg21
 z21:=Tryz.sizeOf21
 v21:=Tryz.zeroValue21
 t37:=Tryz.underlying240
 a37:=Tryz.isAgg240
 z37:=Tryz.sizeOf240
 v37:=Tryz.zeroValue240
 t46:=Tryz.underlying127
 a46:=Tryz.isAgg127
 z46:=Tryz.sizeOf127
 v46:=Tryz.zeroValue127
 t51:=Tryz.underlying181
 a51:=Tryz.isAgg181
 z51:=Tryz.sizeOf181
 v51:=Tryz.zeroValue181
 t53:=Tryz.underlying183
 a53:=Tryz.isAgg183
 z53:=Tryz.sizeOf183
 v53:=Tryz.zeroValue183
 t75:=Tryz.underlying218
 a75:=Tryz.isAgg218
 z75:=Tryz.sizeOf218
 v75:=Tryz.zeroValue218
 t76:=Tryz.underlying219
 a76:=Tryz.isAgg219
 z76:=Tryz.sizeOf219
 v76:=Tryz.zeroValue219
 t85:=Tryz.underlying241
 a85:=Tryz.isAgg241
 z85:=Tryz.sizeOf241
 v85:=Tryz.zeroValue241
 t127:=Tryz.underlying256
 a127:=Tryz.isAgg256
 z127:=Tryz.sizeOf256
 v127:=Tryz.zeroValue256
 t143:=Tryz.underlying257
 a143:=Tryz.isAgg257
 z143:=Tryz.sizeOf257
 v143:=Tryz.zeroValue257
 t145:=Tryz.underlying259
 a145:=Tryz.isAgg259
 z145:=Tryz.sizeOf259
 v145:=Tryz.zeroValue259
 t167:=Tryz.underlying239
 a167:=Tryz.isAgg239
 z167:=Tryz.sizeOf239
 v167:=Tryz.zeroValue239
 t168:=Tryz.underlying243
 a168:=Tryz.isAgg243
 z168:=Tryz.sizeOf243
 v168:=Tryz.zeroValue243
 t171:=Tryz.underlying261
 a171:=Tryz.isAgg261
 z171:=Tryz.sizeOf261
 v171:=Tryz.zeroValue261
 t173:=Tryz.underlying263
 a173:=Tryz.isAgg263
 z173:=Tryz.sizeOf263
 v173:=Tryz.zeroValue263
 t175:=Tryz.underlying248
 a175:=Tryz.isAgg248
 z175:=Tryz.sizeOf248
 v175:=Tryz.zeroValue248
 t210:=Tryz.underlying252
 a210:=Tryz.isAgg252
 z210:=Tryz.sizeOf252
 v210:=Tryz.zeroValue252
 t212:=Tryz.underlying266
 a212:=Tryz.isAgg266
 z212:=Tryz.sizeOf266
 v212:=Tryz.zeroValue266
 t213:=Tryz.underlying267
 a213:=Tryz.isAgg267
 z213:=Tryz.sizeOf267
 t232:=Tryz.underlying268
 a232:=Tryz.isAgg268
 z232:=Tryz.sizeOf268
 v232:=Tryz.zeroValue268
 t233:=Tryz.underlying269
 a233:=Tryz.isAgg269
 z233:=Tryz.sizeOf269
 v233:=Tryz.zeroValue269
 g15:=by kernel_rfl
 g16:=by kernel_rfl
 g17:=by kernel_rfl
 g18:=by kernel_rfl
 g19:=by kernel_rfl }
def Tryz.Vf:Go.Shelf.Ren:=⟨fun | 217=>200 | 266=>208 | n=>n,fun | 9=>9 | 5=>5 | 3=>3 | n=>n,fun | n=>n⟩
theorem Tryz.abu:Go.Proofs.Lays.n217 Tryz.prog Tryz.Vf:={
 mixed:=by kernel_rfl
 f217:=Tryz.func200.trans (congrArg some (by kernel_rfl))
 f266:=Tryz.func208.trans (congrArg some (by kernel_rfl))
 t3:=Tryz.underlying3
 a3:=Tryz.isAgg3
 z3:=Tryz.sizeOf3
 v3:=Tryz.zeroValue3
 t5:=Tryz.underlying5
 a5:=Tryz.isAgg5
 z5:=Tryz.sizeOf5
 v5:=Tryz.zeroValue5
 t9:=Tryz.underlying9
 a9:=Tryz.isAgg9
 z9:=Tryz.sizeOf9
 v9:=Tryz.zeroValue9 }
end Go.Proofs
namespace Go.Proofs.SeatA
open Go.Dn Go.Md Go.Proofs Go.RowKit Go.Shelf Go.Lib
def xk:av:=⟨[.val .str,.val .str],[.val .str],fun x=>gB x.1 x.2.1⟩
theorem NF:fe Tryz.prog 68:=jW (fn:=Tryz.f68) (by kernel_rfl) rfl (by decide)
theorem NY:ig Tryz.prog 68 xk:=by
 intro G w ow args x y hG how ha hm
 refine Vb (P:=Tryz.prog) (f:=68) (m:=xk.m) ?_ G w ow args x y hG how ha hm
 intro s c r w hm
 replace hm:gB s c=some (r,()):=hm
 unfold gB at hm
 cases hb:(decide (s.length<=9223372036854775807)&&(decide (c.length<4294967281)&&c.all fun b=>decide (b.toNat<128))) with
 | false=>rw[hb] at hm;cases hm
 | true=>
  rw[hb] at hm
  simp only[cond_true,Option.some.injEq,Prod.mk.injEq,and_true] at hm
  subst hm
  simp only[Bool.and_eq_true,decide_eq_true_eq,List.all_eq_true] at hb
  have:=Any.strings_Trim_laid Tryz.abr (by kernel_rfl) (bs s) (bs c) w (by simpa [bs,ByteArray.size] using hb.1) (by simpa [bs,ByteArray.size] using hb.2.1) (fun j b hj=>hb.2.2 b (List.mem_of_getElem? (by simpa [bs] using hj)))
  change Calls Tryz.prog 68 _ _ _ at this
  simpa [bs] using this
def gA:av:=⟨[.val .str,.val (.int .u8)],[.val tI],fun x=>fq x.1 x.2.1⟩
theorem tO:fe Tryz.prog 200:=jW (fn:=Tryz.f200) (by kernel_rfl) rfl (by decide)
theorem tP:ig Tryz.prog 200 gA:=by
 intro G w ow args x y hG how ha hm
 refine Va (P:=Tryz.prog) (f:=200) (a:= .str) (a':= .int .u8) (t:=tI) (m:=gA.m) rfl rfl ?_ G w ow args x y hG how ha hm
 intro s c r w hm
 replace hm:fq s c=some (r,()):=hm
 unfold fq at hm
 obtain rfl:Lib.indexByte s c.toNat.toUInt8=r:=congrArg (fun o=>(Option.getD o (0,())).1) hm
 have:=Any.stringslite_IndexByte Tryz.abu (bs s) c w
 refine⟨.int .i64 (Lib.indexByte s c.toNat.toUInt8),fun G=>rfl,this.mono ?_⟩
 rintro e w' ⟨he,rfl⟩
 exact⟨he,RowKit.Below.refl _ _⟩
def vf:av:=⟨[.val .str,.val .str],[.row 9 .str],fun x=>strings_Split x.1 x.2.1⟩
theorem BE:fe Tryz.prog 102:=jW (fn:=Tryz.f102) (by kernel_rfl) rfl (by decide)
theorem BN:ig Tryz.prog 102 vf:=aaG Tryz.aai
end Go.Proofs.SeatA
set_option maxRecDepth 100000
namespace Go.Proofs.SeatA
open Go.Dn Go.Md Go.Proofs Go.RowKit Go.Shelf Go.Lib
def A9:List (Nat×Ann):=[(2,⟨[(0,.val .str),(1,.val (.int .u8)),(2,.val (.int .u8)),(9,.val tI),(10,.val tI)],[],[],bg _⟩),
 (200002,⟨[],[],[],fun _=>0⟩)]
noncomputable def oF:av:=⟨[.val .str,.val (.int .u8),.val (.int .u8)],[.val .bool],fun x=>DK x.1 x.2.1 x.2.2.1⟩
noncomputable def En:Cx:=⟨Tryz.prog,[],[]⟩
theorem No:∀ x,LP En A9 none Tryz.f189 oF x=oF.m x:=by intro x;kernel_rfl
theorem Pn:fe Tryz.prog 189:=jW (fn:=Tryz.f189) (by kernel_rfl) rfl (by decide)
theorem Px:ig Tryz.prog 189 oF:=Tv (X:=En) (.nil _) (by kernel_rfl) oF A9 none (by kernel_rfl) (fun x y h=>(No x).trans h)
def Ac:List (Nat×Ann):=[]
noncomputable def jR:av:=⟨[.val .str],[.val .bool],fun x=>nZ x.1⟩
noncomputable def Cw:Cx:=⟨Tryz.prog,[(189,oF)],[]⟩
theorem LQ:∀ x,LP Cw Ac none Tryz.f175 jR x=jR.m x:=by intro x;kernel_rfl
theorem CF:fe Tryz.prog 175:=jW (fn:=Tryz.f175) (by kernel_rfl) rfl (by decide)
theorem wz:ig Tryz.prog 175 jR:=Tv (X:=Cw) (.cons Px Pn (.nil _)) (by kernel_rfl) jR Ac none (by kernel_rfl) (fun x y h=>(LQ x).trans h)
structure Kept (w w':World):Prop where
 size:w.heap.size<=w'.heap.size
 os:w'.os=w.os
 output:w'.output=w.output
 block:∀ b,b<w.heap.size->w'.heap[b]? =w.heap[b]?
theorem Kept.refl (w:World):Kept w w:=⟨Nat.le_refl _,rfl,rfl,fun _ _=>rfl⟩
theorem Kept.trans {a b c:World} (h:Kept a b) (k:Kept b c):Kept a c:=⟨Nat.le_trans h.size k.size,k.os.trans h.os,k.output.trans h.output,fun i hi=>(k.block i (Nat.lt_of_lt_of_le hi h.size)).trans (h.block i hi)⟩
theorem Kept.drawn {a b:World} (h:Kept a b) (n:Nat):Kept a (b.drewN n):=⟨h.size,h.os,h.output,h.block⟩
theorem aar (s:Bys) (most:Int) (w:World) (h1:most<(s.length:Int)): Calls Tryz.prog 149 #[.string (bs s),.int .i64 most] w fun e w'=>e= .returned (.tuple #[.int .i64 0,.bool false])/\w'=w:=by
 have e175:∀ args w,(callFunc 175 args).run Tryz.prog w= .ok (.enter 175 args) w:=enters_of Tryz.func175 (by kernel_rfl) rfl
 have e176:∀ args w,(callFunc 176 args).run Tryz.prog w= .ok (.enter 176 args) w:=enters_of Tryz.func176 (by kernel_rfl) rfl
 have mixed:Tryz.prog.follows .mixedOrders=true:=by kernel_rfl
 have t3:=Tryz.underlying3;have t4:=Tryz.underlying4;have t5:=Tryz.underlying5;have t9:=Tryz.underlying9
 have hsz:(bs s).size=s.length:=List.size_toArray
 go_enter Tryz.func149,Tryz.ntmps149
 go_wp2
 go_ret2
 exact⟨rfl,rfl⟩
theorem aas (s:Bys) (most:Int) (w:World) (h1:(s.length:Int)<=most) (hd:Calls Tryz.prog 175 #[.string (bs s)] w fun e w'=>e= .returned (.bool false)/\Kept w w'): Calls Tryz.prog 149 #[.string (bs s),.int .i64 most] w fun e w'=>e= .returned (.tuple #[.int .i64 0,.bool false])/\Kept w w':=by
 have e175:∀ args w,(callFunc 175 args).run Tryz.prog w= .ok (.enter 175 args) w:=enters_of Tryz.func175 (by kernel_rfl) rfl
 have e176:∀ args w,(callFunc 176 args).run Tryz.prog w= .ok (.enter 176 args) w:=enters_of Tryz.func176 (by kernel_rfl) rfl
 have mixed:Tryz.prog.follows .mixedOrders=true:=by kernel_rfl
 have t3:=Tryz.underlying3;have t4:=Tryz.underlying4;have t5:=Tryz.underlying5;have t9:=Tryz.underlying9
 have hsz:(bs s).size=s.length:=List.size_toArray
 go_enter Tryz.func149,Tryz.ntmps149
 go_wp2_with (go_at_fn 175;refine hd.mono ?_;rintro e w' ⟨rfl,hk⟩)
 go_ret2
 exact⟨rfl,hk⟩
theorem aat (s:Bys) (most:Int) (w:World) (h1:(s.length:Int)<=most) (h2:1<(s.length:Int)) (h3:(bs s)[0]? =some 48) (hd:Calls Tryz.prog 175 #[.string (bs s)] w fun e w'=>e= .returned (.bool true)/\Kept w w'): Calls Tryz.prog 149 #[.string (bs s),.int .i64 most] w fun e w'=>e= .returned (.tuple #[.int .i64 0,.bool false])/\Kept w w':=by
 have e175:∀ args w,(callFunc 175 args).run Tryz.prog w= .ok (.enter 175 args) w:=enters_of Tryz.func175 (by kernel_rfl) rfl
 have e176:∀ args w,(callFunc 176 args).run Tryz.prog w= .ok (.enter 176 args) w:=enters_of Tryz.func176 (by kernel_rfl) rfl
 have mixed:Tryz.prog.follows .mixedOrders=true:=by kernel_rfl
 have t3:=Tryz.underlying3;have t4:=Tryz.underlying4;have t5:=Tryz.underlying5;have t9:=Tryz.underlying9
 have hsz:(bs s).size=s.length:=List.size_toArray
 have h3':∀ h:0<(bs s).size,(bs s)[0]'h=48:=fun h=>by rw[getElem?_pos (bs s) 0 h] at h3;exact Option.some.inj h3
 go_enter Tryz.func149,Tryz.ntmps149
 go_wp2_with (go_at_fn 175;refine hd.mono ?_;rintro e w' ⟨rfl,hk⟩)
 all_goals first | (go_ret2;exact⟨rfl,hk⟩) | (exfalso;simp_all)
theorem aau (s:Bys) (most n:Int) (b:UInt8) (w:World) (h1:(s.length:Int)<=most) (h3:(bs s)[0]? =some b) (h2:¬(1<(s.length:Int))\/b≠48) (hd:Calls Tryz.prog 175 #[.string (bs s)] w fun e w'=>e= .returned (.bool true)/\Kept w w') (ha:∀ w,Calls Tryz.prog 176 #[.string (bs s)] w fun e w'=>e= .returned (.tuple #[.int .i64 n,.nilIface])/\Kept w w'): Calls Tryz.prog 149 #[.string (bs s),.int .i64 most] w fun e w'=>e= .returned (.tuple #[.int .i64 n,.bool true])/\Kept w w':=by
 have e175:∀ args w,(callFunc 175 args).run Tryz.prog w= .ok (.enter 175 args) w:=enters_of Tryz.func175 (by kernel_rfl) rfl
 have e176:∀ args w,(callFunc 176 args).run Tryz.prog w= .ok (.enter 176 args) w:=enters_of Tryz.func176 (by kernel_rfl) rfl
 have mixed:Tryz.prog.follows .mixedOrders=true:=by kernel_rfl
 have t3:=Tryz.underlying3;have t4:=Tryz.underlying4;have t5:=Tryz.underlying5;have t9:=Tryz.underlying9
 have hsz:(bs s).size=s.length:=List.size_toArray
 have t218:=Tryz.underlying218;have t219:=Tryz.underlying219
 have h3':∀ h:0<(bs s).size,(bs s)[0]'h=b:=fun h=>by rw[getElem?_pos (bs s) 0 h] at h3;exact Option.some.inj h3
 have hb48:b≠48->¬((b.toNat:Int)=48):=fun h e=>h (UInt8.toNat_inj.1 (show b.toNat=48 by omega))
 rcases Classical.em (1<(s.length:Int)) with h4 | h4
 ·have h5:¬((b.toNat:Int)=48):=hb48 (h2.resolve_left (fun h=>h h4))
  go_enter Tryz.func149,Tryz.ntmps149
  go_wp2_with (first | (go_at_fn 175;refine hd.mono ?_;rintro e w' ⟨rfl,hk⟩) | (go_at_fn 176;refine (ha _).mono ?_;rintro e w'' ⟨rfl,hk2⟩))
  all_goals first | (exfalso;omega) | skip
  all_goals first | (go_quiet (fail);go_wp2;go_ret2;exact⟨rfl,hk.trans (hk2.drawn _)⟩) | (exfalso;simp_all;done) | (exfalso;simp_all;omega)
 ·go_enter Tryz.func149,Tryz.ntmps149
  go_wp2_with (first | (go_at_fn 175;refine hd.mono ?_;rintro e w' ⟨rfl,hk⟩) | (go_at_fn 176;refine (ha _).mono ?_;rintro e w'' ⟨rfl,hk2⟩))
  all_goals first | (exfalso;omega) | skip
  all_goals first | (go_quiet (fail);go_wp2;go_ret2;exact⟨rfl,hk.trans (hk2.drawn _)⟩) | (exfalso;simp_all;done) | (exfalso;simp_all;omega)
theorem Kept.aav {w w':World} (h:RowKit.Below w.heap.size w w'):Kept w w':=⟨h.size,h.os,h.output,h.block⟩
theorem Tk {G:Gh} {w:World} (s:Bys) (hG:Agr G w) (hT:jf Tryz.prog G) (D:Bool) (hm:nZ s=some (D,())): Calls Tryz.prog 175 #[.string (bs s)] w fun e w'=>e= .returned (.bool D)/\Kept w w':=by
 have h:=wz G w (fun _=>none) [.string (bs s)] (s,()) (D,()) hG (fun _ _ h=>nomatch h) ⟨_,[],fun _=>rfl,fun h=>(Bool.noConfusion h),(by show aB G .str s [.string (bs s)];rfl),rfl⟩ hm hT
 refine h.mono ?_
 rintro e w' ⟨G',ow',vs,g⟩
 obtain⟨v,us,hv,hr,h2,_⟩:=g.out
 have e2:us=[]:=h2
 have e1:[v]=[Value.bool D]:=hr
 cases e1
 subst e2;subst hv
 exact⟨g.ret,g.size,g.os,g.output,fun b hb=>(g.old b hb rfl).1⟩
def GP:av:=⟨[.val .str,.val tI],[.val tI,.val .bool],fun x=>AB x.1 x.2.1⟩
theorem RL:fe Tryz.prog 149:=jW (fn:=Tryz.f149) (by kernel_rfl) rfl (by decide)
theorem TQ {G:Gh} {w:World} (s:Bys) (most n:Int) (b:Bool) (hG:Agr G w) (hT:jf Tryz.prog G) (hm:AB s most=some (n,b,())): Calls Tryz.prog 149 #[.string (bs s),.int .i64 most] w fun e w'=>e= .returned (.tuple #[.int .i64 n,.bool b])/\Kept w w':=by
 unfold AB at hm
 rcases Classical.em (most<(s.length:Int)) with h | h
 ·rw[decide_eq_true h,cond_true] at hm
  cases hm
  exact (aar s most w h).mono fun e w' hh=>⟨hh.1,hh.2 ▸ Kept.refl w⟩
 ·rw[decide_eq_false h,cond_false] at hm
  rcases Classical.em (s.length<=18) with h18 | h18
  rotate_left
  ·rw[decide_eq_false h18,cond_false] at hm;cases hm
  rw[decide_eq_true h18,cond_true] at hm
  have hD:=NQ s (by omega)
  have hle:(s.length:Int)<=most:=by omega
  have hdd:(!(s==[])&&s.all aaT)=(decide (s≠[])&&s.all Bq):=by cases s<;>rfl
  rw[hdd] at hm
  generalize hDD:(decide (s≠[])&&s.all Bq)=D at hD hm
  have hd:=Tk s hG hT D hD
  cases D with
  | false=>
   cases hm
   exact aas s most w hle hd
  | true=>
   cases s with
   | nil=>cases hDD
   | cons c r=>
    have h3:(bs (c::r))[0]? =some c:=by
     rw[getElem?_pos (bs (c::r)) 0 (by show 0<(c::r).toArray.size;simp)];rfl
    rcases Classical.em (1<(c::r).length/\c=48) with h2 | h2
    ·obtain⟨h2,rfl⟩:=h2
     have e:(!true||(decide (1<((48:UInt8)::r).length)&&((48:UInt8)::r).head? ==some 48))=true:=by rw[decide_eq_true h2];rfl
     rw[e,cond_true] at hm
     cases hm
     exact aat _ most w hle (by omega) h3 hd
    ·have e:(!true||(decide (1<(c::r).length)&&(c::r).head? ==some 48))=false:=by
      rw[Bool.not_true,Bool.false_or,Bool.and_eq_false_iff]
      rcases Classical.em (1<(c::r).length) with h4 | h4
      ·right
       have h5:c≠48:=fun h=>h2 ⟨h4,h⟩
       exact beq_eq_false_iff_ne.2 (fun h=>h5 (Option.some.inj h))
      ·left;exact decide_eq_false h4
     rw[e,cond_false] at hm
     cases ha:Lib.atoi (c::r) with
     | none=>rw[ha] at hm;cases hm
     | some m=>
      rw[ha] at hm
      cases hm
      refine aau _ most n c w hle h3 ?_ hd fun w=> ?_
      ·rcases Classical.em (1<(c::r).length) with h4 | h4
       ·right;exact fun h=>h2 ⟨h4,h⟩
       ·left;omega
      ·have:=Any.strconv_Atoi Tryz.abt (bs (c::r)) n (by show (c::r).toArray.size<=18;simpa using h18) (by simpa [bs] using ha) w
       change Calls Tryz.prog 176 _ _ _ at this
       refine this.mono ?_
       rintro e w' ⟨rfl,t,rfl⟩
       exact⟨rfl,Kept.aav (bytesWorld_below w _ t)⟩
theorem RR:ig Tryz.prog 149 GP:=by
 intro G w ow args x y hG how ha hm hT
 obtain⟨s,most,u⟩:=x
 obtain⟨n,b,u'⟩:=y
 obtain⟨v,us,h1,_,hv,v',us',h2,_,hv',h3⟩:=ha
 have e1:=h1 rfl
 have e2:=h2 rfl
 have e3:us'=[]:=h3
 have e4:[v]=[.string (bs s)]:=hv
 have e5:[v']=[.int .i64 most]:=hv'
 cases e4;cases e5
 subst e1;subst e2;subst e3
 refine (TQ s most n b hG hT hm).mono ?_
 rintro e w' ⟨he,hk⟩
 refine⟨G,fun _=>none,[.int .i64 n,.bool b], ?_⟩
 exact {
  ret:=he
  le:=Gh.le_refl G
  agr:=fun i o hio=>by
   have hw:=hG i o hio
   rw[hk.block i (bf hw)];exact hw
  size:=hk.size
  os:=hk.os
  output:=hk.output
  old:=fun i hlt _=>⟨hk.block i hlt,rfl⟩
  own:=fun i j hij=>by cases hij
  out:=⟨_,_,rfl,rfl,_,_,rfl,rfl,rfl,trivial⟩
  hnd:=fun _=>rfl }
end Go.Proofs.SeatA
