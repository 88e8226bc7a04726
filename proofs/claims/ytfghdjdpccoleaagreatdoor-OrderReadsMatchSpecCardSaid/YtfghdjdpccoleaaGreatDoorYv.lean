/-
  Functions of the library and of kit, by contracts and by a walk. No condition.
-/
import Derived.Test.YtfghdjdpccoleaaGreatDoorYo
import Derived.Test.YtfghdjdpccoleaaGreatDoorYd
import Derived.Shelf.Strings.Split
import Derived.Shelf.LaysM
import Derived.Test.YtfghdjdpccoleaaGreatDoorProg
import Derived.Shelf.Strings.SlTrimAscii
import Derived.Shelf.Strconv.Atoi
import Derived.Shelf.Strings.Search1
import Derived.WalkKit
import Derived.Deep.QuietTactic
import Derived.BigQuiet
import Derived.Lib.AtoiErrMem
import Derived.Test.YtfghdjdpccoleaaGreatDoorYr
set_option linter.all false
namespace Go.Md
open Go.Dn Go.Lib
theorem wF (c b:UInt8) (r:List UInt8):index (b::r) [c]=if b=c then 0 else if index r [c]== -1 then -1 else index r [c]+1:=by
 rw[index]
 by_cases h:b=c
 ·subst h;simp
 ·have:(c==b)=false:=by simp[Ne.symm h]
  simp[h,List.isPrefixOf,this]
theorem count_cons (c b:UInt8) (r:List UInt8):count (b::r) [c]=(if b=c then 1 else 0)+count r [c]:=by
 rw[count_one,count_one,List.count_cons]
 by_cases h:b=c
 ·subst h;simp;omega
 ·simp[h]
theorem ET (c b:UInt8) (h:b≠c):∀ (k:Nat) (r:List UInt8),splitK [c] 0 k (b::r)=(match splitK [c] 0 k r with | x::t=>(b::x)::t | []=>[[b]])
 | 0,r=>rfl
 | k+1,r=>by
  simp only[splitK,wF,if_neg h]
  have hge:=index_ge r [c]
  by_cases h1:index r [c]= -1
  ·simp[h1]
  ·have e1:(index r [c]== -1)=false:=by simp[h1]
   have e2:(index r [c]+1== -1)=false:=by simp;omega
   simp only[e1,e2,Bool.false_eq_true,if_false]
   have e3:(index r [c]+1).toNat=(index r [c]).toNat+1:=by omega
   rw[e3]
   simp[Nat.add_assoc]
theorem Ap (c:UInt8):∀ (s:List UInt8),splitK [c] 0 (count s [c]) s=aD c s
 | []=>by
  have:count [] [c]=0:=by rw[count_one];rfl
  rw[this];rfl
 | b::r=>by
  have ih:=Ap c r
  rw[count_cons]
  by_cases h:b=c
  ·subst h
   rw[if_pos rfl,Nat.add_comm]
   simp only[splitK,wF,aD]
   simp[ih]
  ·have hb:(b==c)=false:=by simp[h]
   rw[if_neg h,Nat.zero_add,ET c b h,ih]
   simp only[aD,hb,cond_false]
   cases aD c r<;>rfl
end Go.Md
namespace Go.Dn
open Go.Md Go.Proofs Go.Shelf Go.RowKit Go.Lib
theorem Fx {G:Gh}:∀ (l:List ByteArray),bL (aq G .str) (l.map (·.data.toList)) (l.map Value.string)
 | []=>rfl
 | x::r=>⟨[.string x],r.map Value.string,rfl,by show [Value.string x]=[Value.string (bs x.data.toList)];simp[bs],Fx r⟩
theorem Ku {P:Program} {ρ:Ren} (L:LaysM.n146 P ρ) {G:Gh} {w:World} {ow:Nat->Option Nat} (s:List UInt8) (b:UInt8) (hG:Agr G w) (hT:ju P G) (hlen:s.length<4294967281): Calls P (ρ.f 146) #[.string (bs s),.string (bs [b])] w fun e w'=>∃ G' ow' vs,Gf G w ow ⟨[.val .str,.val .str],[.row (ρ.t 9) .str],fun x=>strings_Split x.1 x.2.1⟩ [.string (bs s),.string (bs [b])] (aD b s,()) e w' G' ow' vs:=by
 obtain⟨m,T,fz,hml⟩:=hT.maxLen _ L.m1
 have hcell:w.cell? ⟨ρ.g 1,0,none⟩=some (.int .i64 m):=by
  have:=hG _ _ hml
  simp[World.cell?,this]
 have hsz:(bs s).size=s.length:=List.size_toArray
 have h1b:1<=(bs [b]).size:=Nat.le_refl 1
 refine (Any.strings_Split { L with } L.i9 (bs s) (bs [b]) m w (by omega) hcell h1b).mono ?_
 rintro e w' ⟨rfl,rfl⟩
 have hsp:(splitB (bs [b]) 0 (countB (bs s) (bs [b])) (bs s)).map (·.data.toList)=aD b s:=by
  rw[splitB_data]
  exact Ap b s
 have hl:=splitB_all (bs [b]) h1b 0 _ (bs s) rfl
 have hle:=countB_le (bs [b]) h1b (bs s).size (bs s) (Nat.le_refl _)
 generalize splitB (bs [b]) 0 (countB (bs s) (bs [b])) (bs s)=q at hsp hl
 generalize countB (bs s) (bs [b])=n at hl hle
 have hrl:(aD b s).length=n+1:=by rw[<- hsp,List.length_map,hl]
 have hnone:G w.heap.size=none:=by
  cases hg:G w.heap.size with
  | none=>rfl
  | some o=>have:=cD (hG _ _ hg);omega
 have LW:n+1<=maxLen:=by
  have:maxLen=9223372036854775807:=rfl
  omega
 have hown:(w.alloc (.cells (q.map Value.string).toArray (ρ.t 9))).ownsRow 0 (ρ.t 9) 1 (.slice (some ⟨w.heap.size,0,none⟩) (n+1) (n+1)) (aD b s).length (q.map Value.string):=
  ⟨by rw[List.length_map,hl,hrl,Nat.mul_one],.inr ⟨w.heap.size,n+1,(q.map Value.string).toArray,by rw[hrl],Nat.zero_le _,heap_alloc_new w _,by rw[hrl];exact Nat.le_refl _,LW,by rw[List.size_toArray,List.length_map,hl,Nat.mul_one],
    by rw[hrl,Nat.mul_one];exact List.take_of_length_le (by show (q.map Value.string).length<=_;rw[List.length_map,hl];exact Nat.le_refl _)⟩⟩
 refine⟨G,fun i=>if i=w.heap.size then some (64*24) else none,[.slice (some ⟨w.heap.size,0,none⟩) (n+1) (n+1)], ?_⟩
 exact {
  ret:=rfl
  le:=Gh.le_refl G
  agr:=fun i o hi=>by
   have h1:=hG i o hi
   rw[heap_alloc_old w _ (cD h1)];exact h1
  size:=by simp
  os:=rfl
  output:=rfl
  old:=fun i hi _=>⟨heap_alloc_old w _ hi,rfl⟩
  own:=fun i j hj=>by
   by_cases e:i=w.heap.size
   ·subst e;exact⟨hnone,by simp,.inl (Nat.le_refl _)⟩
   ·simp only[e,if_false] at hj;cases hj
  out:=by
   refine⟨_,[],rfl,⟨⟨q.map Value.string,hown,by rw[<- hsp];exact Fx q⟩,fun k hk=> ?_⟩,rfl,trivial⟩
   have:some w.heap.size=some k:=hk
   cases this
   show (if w.heap.size=w.heap.size then some (64*24) else none)=_
   rw[if_pos rfl]
  hnd:=fun _=>rfl }
theorem Kv {s c:List UInt8} {r:List (List UInt8)} (h:strings_Split s c=some (r,())):∃ b,c=[b]/\s.length<4294967281/\r=aD b s:=by
 unfold strings_Split at h
 split at h
 ·rename_i b
  cases hb:decide (s.length<4294967281) with
  | false=>rw[hb] at h;cases h
  | true=>
   rw[hb] at h
   exact⟨b,rfl,of_decide_eq_true hb,(Prod.mk.inj (Option.some.inj h)).1.symm⟩
 ·cases h
theorem Mt {P:Program} {ρ:Ren} (L:LaysM.n146 P ρ):jr P (ρ.f 146) ⟨[.val .str,.val .str],[.row (ρ.t 9) .str],fun x=>strings_Split x.1 x.2.1⟩:=by
 intro G w ow args x y hG how ha hm hT
 obtain⟨s,c,u⟩:=x
 obtain⟨r,u'⟩:=y
 obtain⟨v,us,h1,l1,hv,v',us',h2,l2,hv',h3⟩:=ha
 have e1:=h1 rfl
 have e2:=h2 rfl
 have e3:us'=[]:=h3
 have e4:v= .string (bs s):=by simpa [Az,bJ,aq] using hv
 have e5:v'= .string (bs c):=by simpa [Az,bJ,aq] using hv'
 subst e1;subst e2;subst e3;subst e4;subst e5
 obtain⟨b,rfl,hlen,rfl⟩:=Kv hm
 exact Ku L s b hG hT hlen
end Go.Dn
namespace Go.Proofs
open Go.Shelf
def Tryz.IE:Go.Shelf.Ren:=⟨fun | 160=>70 | 232=>95 | 231=>94 | 227=>96 | 234=>98 | 233=>97 | 236=>100 | 235=>99 | 228=>116 | 271=>118 | 151=>117 | 197=>78 | 120=>131 | 152=>130 | 260=>103 | 137=>138 | 119=>139 | 224=>67 | 225=>66 | 217=>65 | 266=>92 | n=>n,fun | 9=>9 | 4=>4 | 3=>3 | 5=>5 | 117=>112 | 116=>111 | 0=>0 | 124=>115 | 21=>21 | 105=>94 | 46=>90 | 119=>138 | 139=>141 | 138=>140 | n=>n,fun | 3=>1 | 4=>2 | n=>n⟩
theorem Tryz.MQ:Go.Proofs.Lays.n160 Tryz.prog Tryz.IE:={
 mixed:=by kernel_rfl
 f119:=Tryz.func139.trans (congrArg some (by kernel_rfl))
 f120:=Tryz.func131.trans (congrArg some (by kernel_rfl))
 f137:=Tryz.func138.trans (congrArg some (by kernel_rfl))
 f151:=Tryz.func117.trans (congrArg some (by kernel_rfl))
 f152:=Tryz.func130.trans (congrArg some (by kernel_rfl))
 f160:=Tryz.func70.trans (congrArg some (by kernel_rfl))
 f197:=Tryz.func78.trans (congrArg some (by kernel_rfl))
 f217:=Tryz.func65.trans (congrArg some (by kernel_rfl))
 f224:=Tryz.func67.trans (congrArg some (by kernel_rfl))
 f225:=Tryz.func66.trans (congrArg some (by kernel_rfl))
 f227:=Tryz.func96.trans (congrArg some (by kernel_rfl))
 f228:=Tryz.func116.trans (congrArg some (by kernel_rfl))
 f231:=Tryz.func94.trans (congrArg some (by kernel_rfl))
 f232:=Tryz.func95.trans (congrArg some (by kernel_rfl))
 f233:=Tryz.func97.trans (congrArg some (by kernel_rfl))
 f234:=Tryz.func98.trans (congrArg some (by kernel_rfl))
 f235:=Tryz.func99.trans (congrArg some (by kernel_rfl))
 f236:=Tryz.func100.trans (congrArg some (by kernel_rfl))
 f260:=Tryz.func103.trans (congrArg some (by kernel_rfl))
 f266:=Tryz.func92.trans (congrArg some (by kernel_rfl))
 f271:=Tryz.func118.trans (congrArg some (by kernel_rfl))
 t0:=Tryz.underlying0
 a0:=Tryz.isAgg0
 z0:=Tryz.sizeOf0
 v0:=Tryz.zeroValue0
 t3:=Tryz.underlying3
 a3:=Tryz.isAgg3
 z3:=Tryz.sizeOf3
 v3:=Tryz.zeroValue3
 t4:=Tryz.underlying4
 a4:=Tryz.isAgg4
 z4:=Tryz.sizeOf4
 v4:=Tryz.zeroValue4
 t5:=Tryz.underlying5
 a5:=Tryz.isAgg5
 z5:=Tryz.sizeOf5
 v5:=Tryz.zeroValue5
 t9:=Tryz.underlying9
 a9:=Tryz.isAgg9
 z9:=Tryz.sizeOf9
 v9:=Tryz.zeroValue9
 t21:=Tryz.underlying21
 a21:=Tryz.isAgg21
 z21:=Tryz.sizeOf21
 v21:=Tryz.zeroValue21
 t46:=Tryz.underlying90
 a46:=Tryz.isAgg90
 z46:=Tryz.sizeOf90
 v46:=Tryz.zeroValue90
 t105:=Tryz.underlying94
 a105:=Tryz.isAgg94
 z105:=Tryz.sizeOf94
 v105:=Tryz.zeroValue94
 t116:=Tryz.underlying111
 a116:=Tryz.isAgg111
 z116:=Tryz.sizeOf111
 t117:=Tryz.underlying112
 a117:=Tryz.isAgg112
 z117:=Tryz.sizeOf112
 v117:=Tryz.zeroValue112
 t119:=Tryz.underlying138
 a119:=Tryz.isAgg138
 z119:=Tryz.sizeOf138
 t124:=Tryz.underlying115
 a124:=Tryz.isAgg115
 z124:=Tryz.sizeOf115
 v124:=Tryz.zeroValue115
 t138:=Tryz.underlying140
 a138:=Tryz.isAgg140
 z138:=Tryz.sizeOf140
 v138:=Tryz.zeroValue140
 t139:=Tryz.underlying141
 a139:=Tryz.isAgg141
 z139:=Tryz.sizeOf141
 v139:=Tryz.zeroValue141
 g3:=by kernel_rfl
 g4:=by kernel_rfl }
def Tryz.Hw:Go.Shelf.Ren:=⟨fun | 146=>15 | 221=>39 | 268=>54 | 138=>55 | 143=>56 | 195=>77 | 197=>78 | 218=>79 | 219=>46 | 260=>103 | 217=>65 | 225=>66 | 224=>67 | 267=>68 | 266=>92 | 314=>93 | n=>n,fun | 9=>9 | 31=>33 | 3=>3 | 4=>4 | 0=>0 | 105=>94 | 21=>21 | 5=>5 | 46=>90 | 119=>138 | 139=>141 | 138=>140 | 146=>107 | 51=>106 | n=>n,fun | 1=>0 | 3=>1 | 4=>2 | n=>n⟩
theorem Tryz.L3:Go.Proofs.LaysM.n146 Tryz.prog Tryz.Hw:={
 mixed:=by kernel_rfl
 f138:=Tryz.func55.trans (congrArg some (by kernel_rfl))
 f143:=Tryz.func56.trans (congrArg some (by kernel_rfl))
 f146:=Tryz.func15.trans (congrArg some (by kernel_rfl))
 f195:=Tryz.func77.trans (congrArg some (by kernel_rfl))
 f197:=Tryz.func78.trans (congrArg some (by kernel_rfl))
 f217:=Tryz.func65.trans (congrArg some (by kernel_rfl))
 f218:=Tryz.func79.trans (congrArg some (by kernel_rfl))
 f219:=Tryz.func46.trans (congrArg some (by kernel_rfl))
 f221:=Tryz.func39.trans (congrArg some (by kernel_rfl))
 f224:=Tryz.func67.trans (congrArg some (by kernel_rfl))
 f225:=Tryz.func66.trans (congrArg some (by kernel_rfl))
 f260:=Tryz.func103.trans (congrArg some (by kernel_rfl))
 f266:=Tryz.func92.trans (congrArg some (by kernel_rfl))
 f267:=Tryz.func68.trans (congrArg some (by kernel_rfl))
 f268:=Tryz.func54.trans (congrArg some (by kernel_rfl))
 f314:=Tryz.func93.trans (congrArg some (by kernel_rfl))
 t0:=Tryz.underlying0
 a0:=Tryz.isAgg0
 z0:=Tryz.sizeOf0
 v0:=Tryz.zeroValue0
 t3:=Tryz.underlying3
 a3:=Tryz.isAgg3
 z3:=Tryz.sizeOf3
 v3:=Tryz.zeroValue3
 t4:=Tryz.underlying4
 a4:=Tryz.isAgg4
 z4:=Tryz.sizeOf4
 v4:=Tryz.zeroValue4
 t5:=Tryz.underlying5
 a5:=Tryz.isAgg5
 z5:=Tryz.sizeOf5
 v5:=Tryz.zeroValue5
 t9:=Tryz.underlying9
 a9:=Tryz.isAgg9
 z9:=Tryz.sizeOf9
 v9:=Tryz.zeroValue9
 t21:=Tryz.underlying21
 a21:=Tryz.isAgg21
 z21:=Tryz.sizeOf21
 v21:=Tryz.zeroValue21
 t31:=Tryz.underlying33
 a31:=Tryz.isAgg33
 z31:=Tryz.sizeOf33
 v31:=Tryz.zeroValue33
 t46:=Tryz.underlying90
 a46:=Tryz.isAgg90
 z46:=Tryz.sizeOf90
 v46:=Tryz.zeroValue90
 t51:=Tryz.underlying106
 a51:=Tryz.isAgg106
 z51:=Tryz.sizeOf106
 v51:=Tryz.zeroValue106
 t105:=Tryz.underlying94
 a105:=Tryz.isAgg94
 z105:=Tryz.sizeOf94
 v105:=Tryz.zeroValue94
 t119:=Tryz.underlying138
 a119:=Tryz.isAgg138
 z119:=Tryz.sizeOf138
 t138:=Tryz.underlying140
 a138:=Tryz.isAgg140
 z138:=Tryz.sizeOf140
 v138:=Tryz.zeroValue140
 t139:=Tryz.underlying141
 a139:=Tryz.isAgg141
 z139:=Tryz.sizeOf141
 v139:=Tryz.zeroValue141
 t146:=Tryz.underlying107
 a146:=Tryz.isAgg107
 z146:=Tryz.sizeOf107
 v146:=Tryz.zeroValue107
 g1:=by kernel_rfl
 g3:=by kernel_rfl
 g4:=by kernel_rfl
 i0:=by kernel_rfl
 i3:=by kernel_rfl
 i4:=by kernel_rfl
 i5:=by kernel_rfl
 i9:=by kernel_rfl
 i21:=by kernel_rfl
 i31:=by kernel_rfl
 i46:=by kernel_rfl
 i51:=by kernel_rfl
 i105:=by kernel_rfl
 i138:=by kernel_rfl
 i139:=by kernel_rfl
 i146:=by kernel_rfl
 m1:=by kernel_rfl
 s1_3:=fun w h=>Go.Proofs.cell_of_shapedOpen_int (zero:= #[.int .i64 0]) (t:=3) h (of_decide_eq_true (by kernel_rfl)) (by kernel_rfl) rfl (by kernel_rfl) (by kernel_rfl) Tryz.underlying3
 m3:=by kernel_rfl
 m4:=by kernel_rfl }
def Tryz.IF:Go.Shelf.Ren:=⟨fun | 172=>58 | 244=>81 | 245=>82 | 247=>104 | 279=>105 | 280=>106 | 281=>107 | 282=>108 | 287=>125 | 316=>126 | 171=>128 | 205=>127 | 321=>135 | 322=>136 | 243=>137 | 246=>140 | 283=>141 | 284=>142 | 285=>143 | 286=>144 | 129=>146 | 317=>145 | 318=>147 | 319=>148 | 320=>149 | 337=>150 | 338=>151 | n=>n,fun | 9=>9 | 3=>3 | 75=>84 | 76=>85 | 4=>4 | 5=>5 | 167=>120 | 37=>121 | 0=>0 | 85=>122 | 2=>2 | 168=>124 | 53=>127 | 175=>142 | 46=>90 | 210=>146 | 127=>154 | 145=>157 | 143=>155 | 21=>21 | 171=>160 | 173=>163 | 212=>166 | 51=>106 | 20=>20 | 213=>167 | 232=>170 | 233=>171 | 80=>53 | n=>n,fun | 15=>3 | 16=>4 | 17=>5 | 18=>6 | 19=>7 | n=>n⟩
theorem Tryz.MR:Go.Proofs.Lays.n172 Tryz.prog Tryz.IF:={
 mixed:=by kernel_rfl
 f129:=Tryz.func146.trans (congrArg some (by kernel_rfl))
 f171:=Tryz.func128.trans (congrArg some (by kernel_rfl))
 f172:=Tryz.func58.trans (congrArg some (by kernel_rfl))
 f205:=Tryz.func127.trans (congrArg some (by kernel_rfl))
 f243:=Tryz.func137.trans (congrArg some (by kernel_rfl))
 f244:=Tryz.func81.trans (congrArg some (by kernel_rfl))
 f245:=Tryz.func82.trans (congrArg some (by kernel_rfl))
 f246:=Tryz.func140.trans (congrArg some (by kernel_rfl))
 f247:=Tryz.func104.trans (congrArg some (by kernel_rfl))
 f279:=Tryz.func105.trans (congrArg some (by kernel_rfl))
 f280:=Tryz.func106.trans (congrArg some (by kernel_rfl))
 f281:=Tryz.func107.trans (congrArg some (by kernel_rfl))
 f282:=Tryz.func108.trans (congrArg some (by kernel_rfl))
 f283:=Tryz.func141.trans (congrArg some (by kernel_rfl))
 f284:=Tryz.func142.trans (congrArg some (by kernel_rfl))
 f285:=Tryz.func143.trans (congrArg some (by kernel_rfl))
 f286:=Tryz.func144.trans (congrArg some (by kernel_rfl))
 f287:=Tryz.func125.trans (congrArg some (by kernel_rfl))
 f316:=Tryz.func126.trans (congrArg some (by kernel_rfl))
 f317:=Tryz.func145.trans (congrArg some (by kernel_rfl))
 f318:=Tryz.func147.trans (congrArg some (by kernel_rfl))
 f319:=Tryz.func148.trans (congrArg some (by kernel_rfl))
 f320:=Tryz.func149.trans (congrArg some (by kernel_rfl))
 f321:=Tryz.func135.trans (congrArg some (by kernel_rfl))
 f322:=Tryz.func136.trans (congrArg some (by kernel_rfl))
 f337:=Tryz.func150.trans (congrArg some (by kernel_rfl))
 f338:=Tryz.func151.trans (congrArg some (by kernel_rfl))
 t0:=Tryz.underlying0
 a0:=Tryz.isAgg0
 z0:=Tryz.sizeOf0
 v0:=Tryz.zeroValue0
 t2:=Tryz.underlying2
 a2:=Tryz.isAgg2
 z2:=Tryz.sizeOf2
 v2:=Tryz.zeroValue2
 t3:=Tryz.underlying3
 a3:=Tryz.isAgg3
 z3:=Tryz.sizeOf3
 v3:=Tryz.zeroValue3
 t4:=Tryz.underlying4
 a4:=Tryz.isAgg4
 z4:=Tryz.sizeOf4
 v4:=Tryz.zeroValue4
 t5:=Tryz.underlying5
 a5:=Tryz.isAgg5
 z5:=Tryz.sizeOf5
 v5:=Tryz.zeroValue5
 t9:=Tryz.underlying9
 a9:=Tryz.isAgg9
 z9:=Tryz.sizeOf9
 v9:=Tryz.zeroValue9
 t20:=Tryz.underlying20
 a20:=Tryz.isAgg20
 z20:=Tryz.sizeOf20
 v20:=Tryz.zeroValue20
 t21:=Tryz.underlying21
 a21:=Tryz.isAgg21
 z21:=Tryz.sizeOf21
 v21:=Tryz.zeroValue21
 t37:=Tryz.underlying121
 a37:=Tryz.isAgg121
 z37:=Tryz.sizeOf121
 v37:=Tryz.zeroValue121
 t46:=Tryz.underlying90
 a46:=Tryz.isAgg90
 z46:=Tryz.sizeOf90
 v46:=Tryz.zeroValue90
 t51:=Tryz.underlying106
 a51:=Tryz.isAgg106
 z51:=Tryz.sizeOf106
 v51:=Tryz.zeroValue106
 t53:=Tryz.underlying127
 a53:=Tryz.isAgg127
 z53:=Tryz.sizeOf127
 v53:=Tryz.zeroValue127
 t75:=Tryz.underlying84
 a75:=Tryz.isAgg84
 z75:=Tryz.sizeOf84
 v75:=Tryz.zeroValue84
 t76:=Tryz.underlying85
 a76:=Tryz.isAgg85
 z76:=Tryz.sizeOf85
 v76:=Tryz.zeroValue85
 t85:=Tryz.underlying122
 a85:=Tryz.isAgg122
 z85:=Tryz.sizeOf122
 v85:=Tryz.zeroValue122
 t127:=Tryz.underlying154
 a127:=Tryz.isAgg154
 z127:=Tryz.sizeOf154
 v127:=Tryz.zeroValue154
 t143:=Tryz.underlying155
 a143:=Tryz.isAgg155
 z143:=Tryz.sizeOf155
 v143:=Tryz.zeroValue155
 t145:=Tryz.underlying157
 a145:=Tryz.isAgg157
 z145:=Tryz.sizeOf157
 v145:=Tryz.zeroValue157
 t167:=Tryz.underlying120
 a167:=Tryz.isAgg120
 z167:=Tryz.sizeOf120
 v167:=Tryz.zeroValue120
 t168:=Tryz.underlying124
 a168:=Tryz.isAgg124
 z168:=Tryz.sizeOf124
 v168:=Tryz.zeroValue124
 t171:=Tryz.underlying160
 a171:=Tryz.isAgg160
 z171:=Tryz.sizeOf160
 v171:=Tryz.zeroValue160
 t173:=Tryz.underlying163
 a173:=Tryz.isAgg163
 z173:=Tryz.sizeOf163
 v173:=Tryz.zeroValue163
 t175:=Tryz.underlying142
 a175:=Tryz.isAgg142
 z175:=Tryz.sizeOf142
 v175:=Tryz.zeroValue142
 t210:=Tryz.underlying146
 a210:=Tryz.isAgg146
 z210:=Tryz.sizeOf146
 v210:=Tryz.zeroValue146
 t212:=Tryz.underlying166
 a212:=Tryz.isAgg166
 z212:=Tryz.sizeOf166
 v212:=Tryz.zeroValue166
 t213:=Tryz.underlying167
 a213:=Tryz.isAgg167
 z213:=Tryz.sizeOf167
 t232:=Tryz.underlying170
 a232:=Tryz.isAgg170
 z232:=Tryz.sizeOf170
 v232:=Tryz.zeroValue170
 t233:=Tryz.underlying171
 a233:=Tryz.isAgg171
 z233:=Tryz.sizeOf171
 v233:=Tryz.zeroValue171
 g15:=by kernel_rfl
 g16:=by kernel_rfl
 g17:=by kernel_rfl
 g18:=by kernel_rfl
 g19:=by kernel_rfl }
def Tryz.IG:Go.Shelf.Ren:=⟨fun | 217=>65 | 266=>92 | n=>n,fun | 9=>9 | 5=>5 | 3=>3 | n=>n,fun | n=>n⟩
theorem Tryz.MS:Go.Proofs.Lays.n217 Tryz.prog Tryz.IG:={
 mixed:=by kernel_rfl
 f217:=Tryz.func65.trans (congrArg some (by kernel_rfl))
 f266:=Tryz.func92.trans (congrArg some (by kernel_rfl))
 t3:=Tryz.underlying3
 a3:=Tryz.isAgg3
 z3:=Tryz.sizeOf3
 v3:=Tryz.zeroValue3
 t5:=Tryz.underlying5
 a5:=Tryz.isAgg5
 z5:=Tryz.sizeOf5
 v5:=Tryz.zeroValue5
 t9:=Tryz.underlying9
 a9:=Tryz.isAgg9
 z9:=Tryz.sizeOf9
 v9:=Tryz.zeroValue9 }
end Go.Proofs
namespace Go.Proofs.SeatU
open Go.Dn Go.Md Go.Proofs Go.RowKit Go.Shelf Go.Lib
def lS:an:=⟨[.val .str,.val .str],[.val .str],fun x=>dY x.1 x.2.1⟩
theorem uW:gY Tryz.prog 70:=ov (fn:=Tryz.f70) (by kernel_rfl) rfl (by decide)
theorem u7:jr Tryz.prog 70 lS:=by
 intro G w ow args x y hG how ha hm
 refine IC (P:=Tryz.prog) (f:=70) (m:=lS.m) ?_ G w ow args x y hG how ha hm
 intro s c r w hm
 replace hm:dY s c=some (r,()):=hm
 unfold dY at hm
 cases hb:(decide (s.length<=9223372036854775807)&&(decide (c.length<4294967281)&&c.all fun b=>decide (b.toNat<128))) with
 | false=>rw[hb] at hm;cases hm
 | true=>
  rw[hb] at hm
  simp only[cond_true,Option.some.injEq,Prod.mk.injEq,and_true] at hm
  subst hm
  simp only[Bool.and_eq_true,decide_eq_true_eq,List.all_eq_true] at hb
  have:=Any.strings_Trim_laid Tryz.MQ (by kernel_rfl) (bs s) (bs c) w (by simpa [bs,ByteArray.size] using hb.1) (by simpa [bs,ByteArray.size] using hb.2.1) (fun j b hj=>hb.2.2 b (List.mem_of_getElem? (by simpa [bs] using hj)))
  change Calls Tryz.prog 70 _ _ _ at this
  simpa [bs] using this
def eP:an:=⟨[.val .str,.val (.int .u8)],[.val tI],fun x=>cw x.1 x.2.1⟩
theorem nF:gY Tryz.prog 65:=ov (fn:=Tryz.f65) (by kernel_rfl) rfl (by decide)
theorem nG:jr Tryz.prog 65 eP:=by
 intro G w ow args x y hG how ha hm
 refine IB (P:=Tryz.prog) (f:=65) (a:= .str) (a':= .int .u8) (t:=tI) (m:=eP.m) rfl rfl ?_ G w ow args x y hG how ha hm
 intro s c r w hm
 replace hm:cw s c=some (r,()):=hm
 unfold cw at hm
 obtain rfl:Lib.indexByte s c.toNat.toUInt8=r:=congrArg (fun o=>(Option.getD o (0,())).1) hm
 have:=Any.stringslite_IndexByte Tryz.MS (bs s) c w
 refine⟨.int .i64 (Lib.indexByte s c.toNat.toUInt8),fun G=>rfl,this.mono ?_⟩
 rintro e w' ⟨he,rfl⟩
 exact⟨he,RowKit.Below.refl _ _⟩
def kM:an:=⟨[.val .str,.val .str],[.row 9 .str],fun x=>strings_Split x.1 x.2.1⟩
theorem ox:gY Tryz.prog 15:=ov (fn:=Tryz.f15) (by kernel_rfl) rfl (by decide)
theorem oA:jr Tryz.prog 15 kM:=Mt Tryz.L3
end Go.Proofs.SeatU
set_option maxRecDepth 100000
namespace Go.Proofs.SeatU
open Go.Dn Go.Md Go.Proofs Go.RowKit Go.Shelf Go.Lib
def tK:List (Nat×Ann):=[(2,⟨[(0,.val .str),(1,.val (.int .u8)),(2,.val (.int .u8)),(9,.val tI),(10,.val tI)],[],[],bA _⟩),
 (200002,⟨[],[],[],fun _=>0⟩)]
noncomputable def jP:an:=⟨[.val .str,.val (.int .u8),.val (.int .u8)],[.val .bool],fun x=>vz x.1 x.2.1 x.2.2.1⟩
noncomputable def wm:Cx:=⟨Tryz.prog,[],[]⟩
theorem CX:∀ x,B3 wm tK none Tryz.f80 jP x=jP.m x:=by intro x;kernel_rfl
theorem Ew:gY Tryz.prog 80:=ov (fn:=Tryz.f80) (by kernel_rfl) rfl (by decide)
theorem EG:jr Tryz.prog 80 jP:=Ho (X:=wm) (.nil _) (by kernel_rfl) jP tK none (by kernel_rfl) (fun x y h=>(CX x).trans h)
def sN:List (Nat×Ann):=[]
noncomputable def gF:an:=⟨[.val .str],[.val .bool],fun x=>jE x.1⟩
noncomputable def uQ:Cx:=⟨Tryz.prog,[(80,jP)],[]⟩
theorem B4:∀ x,B3 uQ sN none Tryz.f57 gF x=gF.m x:=by intro x;kernel_rfl
theorem uV:gY Tryz.prog 57:=ov (fn:=Tryz.f57) (by kernel_rfl) rfl (by decide)
theorem pN:jr Tryz.prog 57 gF:=Ho (X:=uQ) (.cons EG Ew (.nil _)) (by kernel_rfl) gF sN none (by kernel_rfl) (fun x y h=>(B4 x).trans h)
structure Kept (w w':World):Prop where
 size:w.heap.size<=w'.heap.size
 os:w'.os=w.os
 output:w'.output=w.output
 block:∀ b,b<w.heap.size->w'.heap[b]? =w.heap[b]?
theorem Kept.refl (w:World):Kept w w:=⟨Nat.le_refl _,rfl,rfl,fun _ _=>rfl⟩
theorem Kept.trans {a b c:World} (h:Kept a b) (k:Kept b c):Kept a c:=⟨Nat.le_trans h.size k.size,k.os.trans h.os,k.output.trans h.output,fun i hi=>(k.block i (Nat.lt_of_lt_of_le hi h.size)).trans (h.block i hi)⟩
theorem Kept.drawn {a b:World} (h:Kept a b) (n:Nat):Kept a (b.drewN n):=⟨h.size,h.os,h.output,h.block⟩
theorem L8 (s:List UInt8) (most:Int) (w:World) (h1:most<(s.length:Int)): Calls Tryz.prog 40 #[.string (bs s),.int .i64 most] w fun e w'=>e= .returned (.tuple #[.int .i64 0,.bool false])/\w'=w:=by
 have e57:∀ args w,(callFunc 57 args).run Tryz.prog w= .ok (.enter 57 args) w:=enters_of Tryz.func57 (by kernel_rfl) rfl
 have e58:∀ args w,(callFunc 58 args).run Tryz.prog w= .ok (.enter 58 args) w:=enters_of Tryz.func58 (by kernel_rfl) rfl
 have mixed:Tryz.prog.follows .mixedOrders=true:=by kernel_rfl
 have t3:=Tryz.underlying3;have t4:=Tryz.underlying4;have t5:=Tryz.underlying5;have t9:=Tryz.underlying9
 have hsz:(bs s).size=s.length:=List.size_toArray
 go_enter Tryz.func40,Tryz.ntmps40
 go_wp2
 go_ret2
 exact⟨rfl,rfl⟩
theorem L9 (s:List UInt8) (most:Int) (w:World) (h1:(s.length:Int)<=most) (hd:Calls Tryz.prog 57 #[.string (bs s)] w fun e w'=>e= .returned (.bool false)/\Kept w w'): Calls Tryz.prog 40 #[.string (bs s),.int .i64 most] w fun e w'=>e= .returned (.tuple #[.int .i64 0,.bool false])/\Kept w w':=by
 have e57:∀ args w,(callFunc 57 args).run Tryz.prog w= .ok (.enter 57 args) w:=enters_of Tryz.func57 (by kernel_rfl) rfl
 have e58:∀ args w,(callFunc 58 args).run Tryz.prog w= .ok (.enter 58 args) w:=enters_of Tryz.func58 (by kernel_rfl) rfl
 have mixed:Tryz.prog.follows .mixedOrders=true:=by kernel_rfl
 have t3:=Tryz.underlying3;have t4:=Tryz.underlying4;have t5:=Tryz.underlying5;have t9:=Tryz.underlying9
 have hsz:(bs s).size=s.length:=List.size_toArray
 go_enter Tryz.func40,Tryz.ntmps40
 go_wp2_with (go_at_fn 57;refine hd.mono ?_;rintro e w' ⟨rfl,hk⟩)
 go_ret2
 exact⟨rfl,hk⟩
theorem Ma (s:List UInt8) (most:Int) (w:World) (h1:(s.length:Int)<=most) (h2:1<(s.length:Int)) (h3:(bs s)[0]? =some 48) (hd:Calls Tryz.prog 57 #[.string (bs s)] w fun e w'=>e= .returned (.bool true)/\Kept w w'): Calls Tryz.prog 40 #[.string (bs s),.int .i64 most] w fun e w'=>e= .returned (.tuple #[.int .i64 0,.bool false])/\Kept w w':=by
 have e57:∀ args w,(callFunc 57 args).run Tryz.prog w= .ok (.enter 57 args) w:=enters_of Tryz.func57 (by kernel_rfl) rfl
 have e58:∀ args w,(callFunc 58 args).run Tryz.prog w= .ok (.enter 58 args) w:=enters_of Tryz.func58 (by kernel_rfl) rfl
 have mixed:Tryz.prog.follows .mixedOrders=true:=by kernel_rfl
 have t3:=Tryz.underlying3;have t4:=Tryz.underlying4;have t5:=Tryz.underlying5;have t9:=Tryz.underlying9
 have hsz:(bs s).size=s.length:=List.size_toArray
 have h3':∀ h:0<(bs s).size,(bs s)[0]'h=48:=fun h=>by rw[getElem?_pos (bs s) 0 h] at h3;exact Option.some.inj h3
 go_enter Tryz.func40,Tryz.ntmps40
 go_wp2_with (go_at_fn 57;refine hd.mono ?_;rintro e w' ⟨rfl,hk⟩)
 all_goals first | (go_ret2;exact⟨rfl,hk⟩) | (exfalso;simp_all)
theorem Mb (s:List UInt8) (most n:Int) (b:UInt8) (w:World) (h1:(s.length:Int)<=most) (h3:(bs s)[0]? =some b) (h2:¬(1<(s.length:Int))\/b≠48) (hd:Calls Tryz.prog 57 #[.string (bs s)] w fun e w'=>e= .returned (.bool true)/\Kept w w') (ha:∀ w,Calls Tryz.prog 58 #[.string (bs s)] w fun e w'=>e= .returned (.tuple #[.int .i64 n,.nilIface])/\Kept w w'): Calls Tryz.prog 40 #[.string (bs s),.int .i64 most] w fun e w'=>e= .returned (.tuple #[.int .i64 n,.bool true])/\Kept w w':=by
 have e57:∀ args w,(callFunc 57 args).run Tryz.prog w= .ok (.enter 57 args) w:=enters_of Tryz.func57 (by kernel_rfl) rfl
 have e58:∀ args w,(callFunc 58 args).run Tryz.prog w= .ok (.enter 58 args) w:=enters_of Tryz.func58 (by kernel_rfl) rfl
 have mixed:Tryz.prog.follows .mixedOrders=true:=by kernel_rfl
 have t3:=Tryz.underlying3;have t4:=Tryz.underlying4;have t5:=Tryz.underlying5;have t9:=Tryz.underlying9
 have hsz:(bs s).size=s.length:=List.size_toArray
 have t83:=Tryz.underlying83;have t84:=Tryz.underlying84
 have h3':∀ h:0<(bs s).size,(bs s)[0]'h=b:=fun h=>by rw[getElem?_pos (bs s) 0 h] at h3;exact Option.some.inj h3
 have hb48:b≠48->¬((b.toNat:Int)=48):=fun h e=>h (UInt8.toNat_inj.1 (show b.toNat=48 by omega))
 rcases Classical.em (1<(s.length:Int)) with h4 | h4
 ·have h5:¬((b.toNat:Int)=48):=hb48 (h2.resolve_left (fun h=>h h4))
  go_enter Tryz.func40,Tryz.ntmps40
  go_wp2_with (first | (go_at_fn 57;refine hd.mono ?_;rintro e w' ⟨rfl,hk⟩) | (go_at_fn 58;refine (ha _).mono ?_;rintro e w'' ⟨rfl,hk2⟩))
  all_goals first | (exfalso;omega) | skip
  all_goals first | (go_quiet (fail);go_wp2;go_ret2;exact⟨rfl,hk.trans (hk2.drawn _)⟩) | (exfalso;simp_all;done) | (exfalso;simp_all;omega)
 ·go_enter Tryz.func40,Tryz.ntmps40
  go_wp2_with (first | (go_at_fn 57;refine hd.mono ?_;rintro e w' ⟨rfl,hk⟩) | (go_at_fn 58;refine (ha _).mono ?_;rintro e w'' ⟨rfl,hk2⟩))
  all_goals first | (exfalso;omega) | skip
  all_goals first | (go_quiet (fail);go_wp2;go_ret2;exact⟨rfl,hk.trans (hk2.drawn _)⟩) | (exfalso;simp_all;done) | (exfalso;simp_all;omega)
theorem Kept.Mc {w w':World} (h:RowKit.Below w.heap.size w w'):Kept w w':=⟨h.size,h.os,h.output,h.block⟩
theorem G6 {G:Gh} {w:World} (s:List UInt8) (hG:Agr G w) (hT:ju Tryz.prog G) (D:Bool) (hm:jE s=some (D,())): Calls Tryz.prog 57 #[.string (bs s)] w fun e w'=>e= .returned (.bool D)/\Kept w w':=by
 have h:=pN G w (fun _=>none) [.string (bs s)] (s,()) (D,()) hG (fun _ _ h=>nomatch h) ⟨_,[],fun _=>rfl,fun h=>(Bool.noConfusion h),(by show aq G .str s [.string (bs s)];rfl),rfl⟩ hm hT
 refine h.mono ?_
 rintro e w' ⟨G',ow',vs,g⟩
 obtain⟨v,us,hv,hr,h2,_⟩:=g.out
 have e2:us=[]:=h2
 have e1:[v]=[Value.bool D]:=hr
 cases e1
 subst e2;subst hv
 exact⟨g.ret,g.size,g.os,g.output,fun b hb=>(g.old b hb rfl).1⟩
def yl:an:=⟨[.val .str,.val tI],[.val tI,.val .bool],fun x=>mP x.1 x.2.1⟩
theorem F0:gY Tryz.prog 40:=ov (fn:=Tryz.f40) (by kernel_rfl) rfl (by decide)
theorem HC {G:Gh} {w:World} (s:List UInt8) (most n:Int) (b:Bool) (hG:Agr G w) (hT:ju Tryz.prog G) (hm:mP s most=some (n,b,())): Calls Tryz.prog 40 #[.string (bs s),.int .i64 most] w fun e w'=>e= .returned (.tuple #[.int .i64 n,.bool b])/\Kept w w':=by
 unfold mP at hm
 rcases Classical.em (most<(s.length:Int)) with h | h
 ·rw[decide_eq_true h,cond_true] at hm
  cases hm
  exact (L8 s most w h).mono fun e w' hh=>⟨hh.1,hh.2 ▸ Kept.refl w⟩
 ·rw[decide_eq_false h,cond_false] at hm
  rcases Classical.em (s.length<=18) with h18 | h18
  rotate_left
  ·rw[decide_eq_false h18,cond_false] at hm;cases hm
  rw[decide_eq_true h18,cond_true] at hm
  have hD:=pH s (by omega)
  have hle:(s.length:Int)<=most:=by omega
  have hdd:(!(s==[])&&s.all J1)=(decide (s≠[])&&s.all bM):=by cases s<;>rfl
  rw[hdd] at hm
  generalize hDD:(decide (s≠[])&&s.all bM)=D at hD hm
  have hd:=G6 s hG hT D hD
  cases D with
  | false=>
   cases hm
   exact L9 s most w hle hd
  | true=>
   cases s with
   | nil=>cases hDD
   | cons c r=>
    have h3:(bs (c::r))[0]? =some c:=by
     rw[getElem?_pos (bs (c::r)) 0 (by show 0<(c::r).toArray.size;simp)];rfl
    rcases Classical.em (1<(c::r).length/\c=48) with h2 | h2
    ·obtain⟨h2,rfl⟩:=h2
     have e:(!true||(decide (1<((48:UInt8)::r).length)&&((48:UInt8)::r).head? ==some 48))=true:=by rw[decide_eq_true h2];rfl
     rw[e,cond_true] at hm
     cases hm
     exact Ma _ most w hle (by omega) h3 hd
    ·have e:(!true||(decide (1<(c::r).length)&&(c::r).head? ==some 48))=false:=by
      rw[Bool.not_true,Bool.false_or,Bool.and_eq_false_iff]
      rcases Classical.em (1<(c::r).length) with h4 | h4
      ·right
       have h5:c≠48:=fun h=>h2 ⟨h4,h⟩
       exact beq_eq_false_iff_ne.2 (fun h=>h5 (Option.some.inj h))
      ·left;exact decide_eq_false h4
     rw[e,cond_false] at hm
     cases ha:Lib.atoi (c::r) with
     | none=>rw[ha] at hm;cases hm
     | some m=>
      rw[ha] at hm
      cases hm
      refine Mb _ most n c w hle h3 ?_ hd fun w=> ?_
      ·rcases Classical.em (1<(c::r).length) with h4 | h4
       ·right;exact fun h=>h2 ⟨h4,h⟩
       ·left;omega
      ·have:=Any.strconv_Atoi Tryz.MR (bs (c::r)) n (by show (c::r).toArray.size<=18;simpa using h18) (by simpa [bs] using ha) w
       change Calls Tryz.prog 58 _ _ _ at this
       refine this.mono ?_
       rintro e w' ⟨rfl,t,rfl⟩
       exact⟨rfl,Kept.Mc (bytesWorld_below w _ t)⟩
theorem F5:jr Tryz.prog 40 yl:=by
 intro G w ow args x y hG how ha hm hT
 obtain⟨s,most,u⟩:=x
 obtain⟨n,b,u'⟩:=y
 obtain⟨v,us,h1,_,hv,v',us',h2,_,hv',h3⟩:=ha
 have e1:=h1 rfl
 have e2:=h2 rfl
 have e3:us'=[]:=h3
 have e4:[v]=[.string (bs s)]:=hv
 have e5:[v']=[.int .i64 most]:=hv'
 cases e4;cases e5
 subst e1;subst e2;subst e3
 refine (HC s most n b hG hT hm).mono ?_
 rintro e w' ⟨he,hk⟩
 refine⟨G,fun _=>none,[.int .i64 n,.bool b], ?_⟩
 exact {
  ret:=he
  le:=Gh.le_refl G
  agr:=fun i o hio=>by
   have hw:=hG i o hio
   rw[hk.block i (cD hw)];exact hw
  size:=hk.size
  os:=hk.os
  output:=hk.output
  old:=fun i hlt _=>⟨hk.block i hlt,rfl⟩
  own:=fun i j hij=>by cases hij
  out:=⟨_,_,rfl,rfl,_,_,rfl,rfl,rfl,trivial⟩
  hnd:=fun _=>rfl }
end Go.Proofs.SeatU
