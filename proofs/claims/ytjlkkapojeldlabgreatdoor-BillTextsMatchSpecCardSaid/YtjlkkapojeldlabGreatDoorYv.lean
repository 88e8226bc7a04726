/-
  Functions of the library and of kit, by contracts and by a walk. No condition.
-/
import Derived.Test.YtjlkkapojeldlabGreatDoorYo
import Derived.Test.YtjlkkapojeldlabGreatDoorYd
import Derived.Shelf.Strings.Split
import Derived.Shelf.LaysM
import Derived.Shelf.Vars
import Derived.Lib.LaidTab
import Derived.Sort.Grow
import Derived.Deep.Draws
import Derived.Test.YtjlkkapojeldlabGreatDoorYf
import Derived.Test.YtjlkkapojeldlabGreatDoorYg
import Derived.Test.YtjlkkapojeldlabGreatDoorProg
import Derived.Shelf.Strings.SlTrimAscii
import Derived.Shelf.Strconv.Atoi
import Derived.Shelf.Strconv.Itoa3
import Derived.Shelf.Strings.Repeat
import Derived.Shelf.Small.Strs
import Derived.Shelf.Strings.Search1
import Derived.WalkKit
import Derived.Deep.QuietTactic
import Derived.BigQuiet
import Derived.Lib.AtoiErrMem
import Derived.Test.YtjlkkapojeldlabGreatDoorYr
set_option linter.all false
namespace Go.Md
open Go.Dn Go.Lib
theorem En (c b:UInt8) (r:Bys):index (b::r) [c]=if b=c then 0 else if index r [c]== -1 then -1 else index r [c]+1:=by
 rw[index]
 by_cases h:b=c
 ·subst h;simp
 ·have:(c==b)=false:=by simp[Ne.symm h]
  simp[h,List.isPrefixOf,this]
theorem count_cons (c b:UInt8) (r:Bys):count (b::r) [c]=(if b=c then 1 else 0)+count r [c]:=by
 rw[count_one,count_one,List.count_cons]
 by_cases h:b=c
 ·subst h;simp;omega
 ·simp[h]
theorem PB (c b:UInt8) (h:b≠c):∀ (k:Nat) (r:Bys),splitK [c] 0 k (b::r)=(match splitK [c] 0 k r with | x::t=>(b::x)::t | []=>[[b]])
 | 0,r=>rfl
 | k+1,r=>by
  simp only[splitK,En,if_neg h]
  have hge:=index_ge r [c]
  by_cases h1:index r [c]= -1
  ·simp[h1]
  ·have e1:(index r [c]== -1)=false:=by simp[h1]
   have e2:(index r [c]+1== -1)=false:=by simp;omega
   simp only[e1,e2,Bool.false_eq_true,if_false]
   have e3:(index r [c]+1).toNat=(index r [c]).toNat+1:=by omega
   rw[e3]
   simp[Nat.add_assoc]
theorem Ji (c:UInt8):∀ (s:Bys),splitK [c] 0 (count s [c]) s=bh c s
 | []=>by
  have:count [] [c]=0:=by rw[count_one];rfl
  rw[this];rfl
 | b::r=>by
  have ih:=Ji c r
  rw[count_cons]
  by_cases h:b=c
  ·subst h
   rw[if_pos rfl,Nat.add_comm]
   simp only[splitK,En,bh]
   simp[ih]
  ·have hb:(b==c)=false:=by simp[h]
   rw[if_neg h,Nat.zero_add,PB c b h,ih]
   simp only[bh,hb,cond_false]
   cases bh c r<;>rfl
end Go.Md
namespace Go.Dn
open Go.Md Go.Proofs Go.Shelf Go.RowKit Go.Lib
theorem Qv {G:Gh}:∀ (l:List ByteArray),bQ (ax G .str) (l.map (·.data.toList)) (l.map Value.string)
 | []=>rfl
 | x::r=>⟨[.string x],r.map Value.string,rfl,by show [Value.string x]=[Value.string (bs x.data.toList)];simp[bs],Qv r⟩
theorem XK {P:Program} {ρ:Ren} (L:LaysM.n146 P ρ) {G:Gh} {w:World} {ow:Nat->Option Nat} (s:Bys) (b:UInt8) (hG:Agr G w) (hT:bZ P G) (hlen:s.length<4294967281): Calls P (ρ.f 146) #[.string (bs s),.string (bs [b])] w fun e w'=>∃ G' ow' vs,Jt G w ow ⟨[.val .str,.val .str],[.row (ρ.t 9) .str],fun x=>strings_Split x.1 x.2.1⟩ [.string (bs s),.string (bs [b])] (bh b s,()) e w' G' ow' vs:=by
 obtain⟨m,T,fz,hml⟩:=hT.maxLen _ L.m1
 have hcell:w.cell? ⟨ρ.g 1,0,none⟩=some (.int .i64 m):=by
  have:=hG _ _ hml
  simp[World.cell?,this]
 have hsz:(bs s).size=s.length:=List.size_toArray
 have h1b:1<=(bs [b]).size:=Nat.le_refl 1
 refine (Any.strings_Split { L with } L.i9 (bs s) (bs [b]) m w (by omega) hcell h1b).mono ?_
 rintro e w' ⟨rfl,rfl⟩
 have hsp:(splitB (bs [b]) 0 (countB (bs s) (bs [b])) (bs s)).map (·.data.toList)=bh b s:=by
  rw[splitB_data]
  exact Ji b s
 have hl:=splitB_all (bs [b]) h1b 0 _ (bs s) rfl
 have hle:=countB_le (bs [b]) h1b (bs s).size (bs s) (Nat.le_refl _)
 generalize splitB (bs [b]) 0 (countB (bs s) (bs [b])) (bs s)=q at hsp hl
 generalize countB (bs s) (bs [b])=n at hl hle
 have hrl:(bh b s).length=n+1:=by rw[<- hsp,List.length_map,hl]
 have hnone:G w.heap.size=none:=by
  cases hg:G w.heap.size with
  | none=>rfl
  | some o=>have:=aB (hG _ _ hg);omega
 have qJ:n+1<=maxLen:=by
  have:maxLen=9223372036854775807:=rfl
  omega
 have hown:(w.alloc (.cells (q.map Value.string).toArray (ρ.t 9))).ownsRow 0 (ρ.t 9) 1 (.slice (some ⟨w.heap.size,0,none⟩) (n+1) (n+1)) (bh b s).length (q.map Value.string):=
  ⟨by rw[List.length_map,hl,hrl,Nat.mul_one],.inr ⟨w.heap.size,n+1,(q.map Value.string).toArray,by rw[hrl],Nat.zero_le _,heap_alloc_new w _,by rw[hrl];exact Nat.le_refl _,qJ,by rw[List.size_toArray,List.length_map,hl,Nat.mul_one],
    by rw[hrl,Nat.mul_one];exact List.take_of_length_le (by show (q.map Value.string).length<=_;rw[List.length_map,hl];exact Nat.le_refl _)⟩⟩
 refine⟨G,fun i=>if i=w.heap.size then some (64*24) else none,[.slice (some ⟨w.heap.size,0,none⟩) (n+1) (n+1)], ?_⟩
 exact {
  ret:=rfl
  le:=Gh.le_refl G
  agr:=fun i o hi=>by
   have h1:=hG i o hi
   rw[heap_alloc_old w _ (aB h1)];exact h1
  size:=by simp
  os:=rfl
  output:=rfl
  old:=fun i hi _=>⟨heap_alloc_old w _ hi,rfl⟩
  own:=fun i j hj=>by
   by_cases e:i=w.heap.size
   ·subst e;exact⟨hnone,by simp,.inl (Nat.le_refl _)⟩
   ·simp only[e,if_false] at hj;cases hj
  out:=by
   refine⟨_,[],rfl,⟨⟨q.map Value.string,hown,by rw[<- hsp];exact Qv q⟩,fun k hk=> ?_⟩,rfl,trivial⟩
   have:some w.heap.size=some k:=hk
   cases this
   show (if w.heap.size=w.heap.size then some (64*24) else none)=_
   rw[if_pos rfl]
  hnd:=fun _=>rfl }
theorem XL {s c:Bys} {r:List Bys} (h:strings_Split s c=some (r,())):∃ b,c=[b]/\s.length<4294967281/\r=bh b s:=by
 unfold strings_Split at h
 split at h
 ·rename_i b
  cases hb:decide (s.length<4294967281) with
  | false=>rw[hb] at h;cases h
  | true=>
   rw[hb] at h
   exact⟨b,rfl,of_decide_eq_true hb,(Prod.mk.inj (Option.some.inj h)).1.symm⟩
 ·cases h
theorem aaK {P:Program} {ρ:Ren} (L:LaysM.n146 P ρ):cM P (ρ.f 146) ⟨[.val .str,.val .str],[.row (ρ.t 9) .str],fun x=>strings_Split x.1 x.2.1⟩:=by
 intro G w ow args x y hG how ha hm hT
 obtain⟨s,c,u⟩:=x
 obtain⟨r,u'⟩:=y
 obtain⟨v,us,h1,l1,hv,v',us',h2,l2,hv',h3⟩:=ha
 have e1:=h1 rfl
 have e2:=h2 rfl
 have e3:us'=[]:=h3
 have e4:v= .string (bs s):=by simpa [AK,bT,ax] using hv
 have e5:v'= .string (bs c):=by simpa [AK,bT,ax] using hv'
 subst e1;subst e2;subst e3;subst e4;subst e5
 obtain⟨b,rfl,hlen,rfl⟩:=XL hm
 exact XK L s b hG hT hlen
end Go.Dn
namespace Go.Dn
open Go Go.Md Go.Proofs Go.Shelf Go.Lib
end Go.Dn
namespace Go.Dn
open Go.Lib
theorem TY (w:World) (k:Nat) (os:Array Obj):RowKit.Below w.heap.size w (Sort.grow (w.drewN k) os):=
 ⟨rfl,rfl,rfl,by show w.heap.size<=(w.heap++os).size;rw[Array.size_append];omega,fun b hb=>by
   show (w.heap++os)[b]? =w.heap[b]?
   rw[Array.getElem?_append_left hb]⟩
theorem aaL {P:Program} {G:Gh} {w:World} (hG:Agr G w) (hT:bZ P G) {g:Nat} (hg:P.globalNamed "internal/strconv.uint64pow10" =some g):TabIs P w "internal/strconv.uint64pow10" .u64 BL:=by
 obtain⟨T,fz,e⟩:=hT.pow g hg
 have h:=hG _ _ e
 unfold TabIs World.var?
 rw[hg,Option.bind_some,h]
theorem SH {P:Program} {f:FuncId} {a t:Ty} {m:dL [.val a]->Option (cD [.val a] [.val t])} {g:Nat} (hg:P.globalNamed "internal/strconv.uint64pow10" =some g) (ha:isLit a=true) (h:∀ (s:a.den) (r:t.den) (w:World),TabIs P w "internal/strconv.uint64pow10" .u64 BL->m (s,())=some (r,())->∃ v,(∀ G:Gh,bT G t r v)/\Calls P f #[Fy a s] w fun e w'=>e= .returned v/\RowKit.Below w.heap.size w w'):cM P f ⟨[.val a],[.val t],m⟩:=by
 intro G w ow args x y hG how hargs hm hT
 obtain⟨s,u⟩:=x
 obtain⟨r,u'⟩:=y
 obtain⟨v,us,h1,_,hv,h3⟩:=hargs
 have e1:=h1 rfl
 have e3:us=[]:=h3
 have e4:v=Fy a s:=Pb ha hv
 subst e1;subst e3;subst e4
 obtain⟨z,hz,hc⟩:=h s r w (aaL hG hT hg) hm
 refine hc.mono ?_
 rintro e w' ⟨he,hb⟩
 refine⟨G,fun _=>none,[z], ?_⟩
 exact {
  ret:=he
  le:=Gh.le_refl G
  agr:=fun b o hbo=>by
   have hw:=hG b o hbo
   have hlt:b<w.heap.size:=by
    rcases Nat.lt_or_ge b w.heap.size with h | h
    ·exact h
    ·rw[Array.getElem?_eq_none h] at hw;cases hw
   rw[hb.block b hlt];exact hw
  size:=hb.size
  os:=hb.os
  output:=hb.output
  old:=fun b hlt _=>⟨hb.block b hlt,rfl⟩
  own:=fun b i hbi=>by cases hbi
  out:=⟨_,_,rfl,hz G,rfl,trivial⟩
  hnd:=fun _=>rfl }
end Go.Dn
namespace Go.Proofs
open Go.Shelf
def Tryz.UG:Go.Shelf.Ren:=⟨fun | 160=>70 | 232=>113 | 231=>112 | 227=>114 | 234=>116 | 233=>115 | 236=>118 | 235=>117 | 228=>161 | 271=>163 | 151=>162 | 197=>150 | 120=>199 | 152=>198 | 260=>188 | 137=>210 | 119=>211 | 224=>124 | 225=>123 | 217=>122 | 266=>168 | n=>n,fun | 9=>9 | 4=>4 | 3=>3 | 5=>5 | 117=>157 | 116=>156 | 0=>0 | 124=>160 | 21=>21 | 105=>190 | 46=>164 | 119=>229 | 139=>232 | 138=>231 | n=>n,fun | 3=>3 | 4=>4 | n=>n⟩
theorem Tryz.abf:Go.Proofs.Lays.n160 Tryz.prog Tryz.UG:={
 mixed:=by kernel_rfl
 f119:=Tryz.func211.trans (congrArg some (by kernel_rfl))
 f120:=Tryz.func199.trans (congrArg some (by kernel_rfl))
 f137:=Tryz.func210.trans (congrArg some (by kernel_rfl))
 f151:=Tryz.func162.trans (congrArg some (by kernel_rfl))
 f152:=Tryz.func198.trans (congrArg some (by kernel_rfl))
 f160:=Tryz.func70.trans (congrArg some (by kernel_rfl))
 f197:=Tryz.func150.trans (congrArg some (by kernel_rfl))
 f217:=Tryz.func122.trans (congrArg some (by kernel_rfl))
 f224:=Tryz.func124.trans (congrArg some (by kernel_rfl))
 f225:=Tryz.func123.trans (congrArg some (by kernel_rfl))
 f227:=Tryz.func114.trans (congrArg some (by kernel_rfl))
 f228:=Tryz.func161.trans (congrArg some (by kernel_rfl))
 f231:=Tryz.func112.trans (congrArg some (by kernel_rfl))
 f232:=Tryz.func113.trans (congrArg some (by kernel_rfl))
 f233:=Tryz.func115.trans (congrArg some (by kernel_rfl))
 f234:=Tryz.func116.trans (congrArg some (by kernel_rfl))
 f235:=Tryz.func117.trans (congrArg some (by kernel_rfl))
 f236:=Tryz.func118.trans (congrArg some (by kernel_rfl))
 f260:=Tryz.func188.trans (congrArg some (by kernel_rfl))
 f266:=Tryz.func168.trans (congrArg some (by kernel_rfl))
 f271:=Tryz.func163.trans (congrArg some (by kernel_rfl))
 t0:=Tryz.underlying0
 a0:=Tryz.isAgg0
 z0:=Tryz.sizeOf0
 v0:=Tryz.zeroValue0
 t3:=Tryz.underlying3
 a3:=Tryz.isAgg3
 z3:=Tryz.sizeOf3
 v3:=Tryz.zeroValue3
 t4:=Tryz.underlying4
 a4:=Tryz.isAgg4
 z4:=Tryz.sizeOf4
 v4:=Tryz.zeroValue4
 t5:=Tryz.underlying5
 a5:=Tryz.isAgg5
 z5:=Tryz.sizeOf5
 v5:=Tryz.zeroValue5
 t9:=Tryz.underlying9
 a9:=Tryz.isAgg9
 z9:=Tryz.sizeOf9
 v9:=Tryz.zeroValue9
 t21:=Tryz.underlying21
 a21:=Tryz.isAgg21
 z21:=Tryz.sizeOf21
 v21:=Tryz.zeroValue21
 t46:=Tryz.underlying164
 a46:=Tryz.isAgg164
 z46:=Tryz.sizeOf164
 v46:=Tryz.zeroValue164
 t105:=Tryz.underlying190
 a105:=Tryz.isAgg190
 z105:=Tryz.sizeOf190
 v105:=Tryz.zeroValue190
 t116:=Tryz.underlying156
 a116:=Tryz.isAgg156
 z116:=Tryz.sizeOf156
 t117:=Tryz.underlying157
 a117:=Tryz.isAgg157
 z117:=Tryz.sizeOf157
 v117:=Tryz.zeroValue157
 t119:=Tryz.underlying229
 a119:=Tryz.isAgg229
 z119:=Tryz.sizeOf229
 t124:=Tryz.underlying160
 a124:=Tryz.isAgg160
 z124:=Tryz.sizeOf160
 v124:=Tryz.zeroValue160
 t138:=Tryz.underlying231
 a138:=Tryz.isAgg231
 z138:=Tryz.sizeOf231
 v138:=Tryz.zeroValue231
 t139:=Tryz.underlying232
 a139:=Tryz.isAgg232
 z139:=Tryz.sizeOf232
 v139:=Tryz.zeroValue232
 g3:=by kernel_rfl
 g4:=by kernel_rfl }
def Tryz.S7:Go.Shelf.Ren:=⟨fun | 146=>32 | 221=>67 | 268=>104 | 138=>105 | 143=>106 | 195=>149 | 197=>150 | 218=>151 | 219=>75 | 260=>188 | 217=>122 | 225=>123 | 224=>124 | 267=>125 | 266=>168 | 314=>169 | n=>n,fun | 9=>9 | 31=>36 | 3=>3 | 4=>4 | 0=>0 | 105=>190 | 21=>21 | 5=>5 | 46=>164 | 119=>229 | 139=>232 | 138=>231 | 146=>183 | 51=>181 | n=>n,fun | 1=>0 | 3=>3 | 4=>4 | n=>n⟩
theorem Tryz.aak:Go.Proofs.LaysM.n146 Tryz.prog Tryz.S7:={
 mixed:=by kernel_rfl
 f138:=Tryz.func105.trans (congrArg some (by kernel_rfl))
 f143:=Tryz.func106.trans (congrArg some (by kernel_rfl))
 f146:=Tryz.func32.trans (congrArg some (by kernel_rfl))
 f195:=Tryz.func149.trans (congrArg some (by kernel_rfl))
 f197:=Tryz.func150.trans (congrArg some (by kernel_rfl))
 f217:=Tryz.func122.trans (congrArg some (by kernel_rfl))
 f218:=Tryz.func151.trans (congrArg some (by kernel_rfl))
 f219:=Tryz.func75.trans (congrArg some (by kernel_rfl))
 f221:=Tryz.func67.trans (congrArg some (by kernel_rfl))
 f224:=Tryz.func124.trans (congrArg some (by kernel_rfl))
 f225:=Tryz.func123.trans (congrArg some (by kernel_rfl))
 f260:=Tryz.func188.trans (congrArg some (by kernel_rfl))
 f266:=Tryz.func168.trans (congrArg some (by kernel_rfl))
 f267:=Tryz.func125.trans (congrArg some (by kernel_rfl))
 f268:=Tryz.func104.trans (congrArg some (by kernel_rfl))
 f314:=Tryz.func169.trans (congrArg some (by kernel_rfl))
 t0:=Tryz.underlying0
 a0:=Tryz.isAgg0
 z0:=Tryz.sizeOf0
 v0:=Tryz.zeroValue0
 t3:=Tryz.underlying3
 a3:=Tryz.isAgg3
 z3:=Tryz.sizeOf3
 v3:=Tryz.zeroValue3
 t4:=Tryz.underlying4
 a4:=Tryz.isAgg4
 z4:=Tryz.sizeOf4
 v4:=Tryz.zeroValue4
 t5:=Tryz.underlying5
 a5:=Tryz.isAgg5
 z5:=Tryz.sizeOf5
 v5:=Tryz.zeroValue5
 t9:=Tryz.underlying9
 a9:=Tryz.isAgg9
 z9:=Tryz.sizeOf9
 v9:=Tryz.zeroValue9
 t21:=Tryz.underlying21
 a21:=Tryz.isAgg21
 z21:=Tryz.sizeOf21
 v21:=Tryz.zeroValue21
 t31:=Tryz.underlying36
 a31:=Tryz.isAgg36
 z31:=Tryz.sizeOf36
 v31:=Tryz.zeroValue36
 t46:=Tryz.underlying164
 a46:=Tryz.isAgg164
 z46:=Tryz.sizeOf164
 v46:=Tryz.zeroValue164
 t51:=Tryz.underlying181
 a51:=Tryz.isAgg181
 z51:=Tryz.sizeOf181
 v51:=Tryz.zeroValue181
 t105:=Tryz.underlying190
 a105:=Tryz.isAgg190
 z105:=Tryz.sizeOf190
 v105:=Tryz.zeroValue190
 t119:=Tryz.underlying229
 a119:=Tryz.isAgg229
 z119:=Tryz.sizeOf229
 t138:=Tryz.underlying231
 a138:=Tryz.isAgg231
 z138:=Tryz.sizeOf231
 v138:=Tryz.zeroValue231
 t139:=Tryz.underlying232
 a139:=Tryz.isAgg232
 z139:=Tryz.sizeOf232
 v139:=Tryz.zeroValue232
 t146:=Tryz.underlying183
 a146:=Tryz.isAgg183
 z146:=Tryz.sizeOf183
 v146:=Tryz.zeroValue183
 g1:=by kernel_rfl
 g3:=by kernel_rfl
 g4:=by kernel_rfl
 i0:=by kernel_rfl
 i3:=by kernel_rfl
 i4:=by kernel_rfl
 i5:=by kernel_rfl
 i9:=by kernel_rfl
 i21:=by kernel_rfl
 i31:=by kernel_rfl
 i46:=by kernel_rfl
 i51:=by kernel_rfl
 i105:=by kernel_rfl
 i138:=by kernel_rfl
 i139:=by kernel_rfl
 i146:=by kernel_rfl
 m1:=by kernel_rfl
 s1_3:=fun w h=>Go.Proofs.cell_of_shapedOpen_int (zero:= #[.int .i64 0]) (t:=3) h (of_decide_eq_true (by kernel_rfl)) (by kernel_rfl) rfl (by kernel_rfl) (by kernel_rfl) Tryz.underlying3
 m3:=by kernel_rfl
 m4:=by kernel_rfl }
def Tryz.UI:Go.Shelf.Ren:=⟨fun | 172=>108 | 244=>153 | 245=>154 | 247=>189 | 279=>190 | 280=>191 | 281=>192 | 282=>193 | 287=>207 | 316=>208 | 171=>20 | 205=>209 | 321=>214 | 322=>215 | 243=>61 | 246=>94 | 283=>137 | 284=>138 | 285=>139 | 286=>140 | 129=>181 | 317=>180 | 318=>182 | 319=>183 | 320=>184 | 337=>205 | 338=>206 | n=>n,fun | 9=>9 | 3=>3 | 75=>75 | 76=>76 | 4=>4 | 5=>5 | 167=>216 | 37=>70 | 0=>0 | 85=>217 | 2=>2 | 168=>219 | 53=>175 | 175=>233 | 46=>164 | 210=>236 | 127=>115 | 145=>244 | 143=>242 | 21=>21 | 171=>174 | 173=>178 | 212=>210 | 51=>181 | 20=>20 | 213=>211 | 232=>239 | 233=>240 | 80=>83 | n=>n,fun | 15=>5 | 16=>6 | 17=>1 | 18=>7 | 19=>8 | n=>n⟩
theorem Tryz.abh:Go.Proofs.Lays.n172 Tryz.prog Tryz.UI:={
 mixed:=by kernel_rfl
 f129:=Tryz.func181.trans (congrArg some (by kernel_rfl))
 f171:=Tryz.func20.trans (congrArg some (by kernel_rfl))
 f172:=Tryz.func108.trans (congrArg some (by kernel_rfl))
 f205:=Tryz.func209.trans (congrArg some (by kernel_rfl))
 f243:=Tryz.func61.trans (congrArg some (by kernel_rfl))
 f244:=Tryz.func153.trans (congrArg some (by kernel_rfl))
 f245:=Tryz.func154.trans (congrArg some (by kernel_rfl))
 f246:=Tryz.func94.trans (congrArg some (by kernel_rfl))
 f247:=Tryz.func189.trans (congrArg some (by kernel_rfl))
 f279:=Tryz.func190.trans (congrArg some (by kernel_rfl))
 f280:=Tryz.func191.trans (congrArg some (by kernel_rfl))
 f281:=Tryz.func192.trans (congrArg some (by kernel_rfl))
 f282:=Tryz.func193.trans (congrArg some (by kernel_rfl))
 f283:=Tryz.func137.trans (congrArg some (by kernel_rfl))
 f284:=Tryz.func138.trans (congrArg some (by kernel_rfl))
 f285:=Tryz.func139.trans (congrArg some (by kernel_rfl))
 f286:=Tryz.func140.trans (congrArg some (by kernel_rfl))
 f287:=Tryz.func207.trans (congrArg some (by kernel_rfl))
 f316:=Tryz.func208.trans (congrArg some (by kernel_rfl))
 f317:=Tryz.func180.trans (congrArg some (by kernel_rfl))
 f318:=Tryz.func182.trans (congrArg some (by kernel_rfl))
 f319:=Tryz.func183.trans (congrArg some (by kernel_rfl))
 f320:=Tryz.func184.trans (congrArg some (by kernel_rfl))
 f321:=Tryz.func214.trans (congrArg some (by kernel_rfl))
 f322:=Tryz.func215.trans (congrArg some (by kernel_rfl))
 f337:=Tryz.func205.trans (congrArg some (by kernel_rfl))
 f338:=Tryz.func206.trans (congrArg some (by kernel_rfl))
 t0:=Tryz.underlying0
 a0:=Tryz.isAgg0
 z0:=Tryz.sizeOf0
 v0:=Tryz.zeroValue0
 t2:=Tryz.underlying2
 a2:=Tryz.isAgg2
 z2:=Tryz.sizeOf2
 v2:=Tryz.zeroValue2
 t3:=Tryz.underlying3
 a3:=Tryz.isAgg3
 z3:=Tryz.sizeOf3
 v3:=Tryz.zeroValue3
 t4:=Tryz.underlying4
 a4:=Tryz.isAgg4
 z4:=Tryz.sizeOf4
 v4:=Tryz.zeroValue4
 t5:=Tryz.underlying5
 a5:=Tryz.isAgg5
 z5:=Tryz.sizeOf5
 v5:=Tryz.zeroValue5
 t9:=Tryz.underlying9
 a9:=Tryz.isAgg9
 z9:=Tryz.sizeOf9
 v9:=Tryz.zeroValue9
 t20:=Tryz.underlying20
 a20:=Tryz.isAgg20
 z20:=Tryz.sizeOf20
 v20:=Tryz.zeroValue20
 t21:=Tryz.underlying21
 a21:=Tryz.isAgg21
 z21:=Tryz.sizeOf21
 v21:=Tryz.zeroValue21
 t37:=Tryz.underlying70
 a37:=Tryz.isAgg70
 z37:=Tryz.sizeOf70
 v37:=Tryz.zeroValue70
 t46:=Tryz.underlying164
 a46:=Tryz.isAgg164
 z46:=Tryz.sizeOf164
 v46:=Tryz.zeroValue164
 t51:=Tryz.underlying181
 a51:=Tryz.isAgg181
 z51:=Tryz.sizeOf181
 v51:=Tryz.zeroValue181
 t53:=Tryz.underlying175
 a53:=Tryz.isAgg175
 z53:=Tryz.sizeOf175
 v53:=Tryz.zeroValue175
 t75:=Tryz.underlying75
 a75:=Tryz.isAgg75
 z75:=Tryz.sizeOf75
 v75:=Tryz.zeroValue75
 t76:=Tryz.underlying76
 a76:=Tryz.isAgg76
 z76:=Tryz.sizeOf76
 v76:=Tryz.zeroValue76
 t85:=Tryz.underlying217
 a85:=Tryz.isAgg217
 z85:=Tryz.sizeOf217
 v85:=Tryz.zeroValue217
 t127:=Tryz.underlying115
 a127:=Tryz.isAgg115
 z127:=Tryz.sizeOf115
 v127:=Tryz.zeroValue115
 t143:=Tryz.underlying242
 a143:=Tryz.isAgg242
 z143:=Tryz.sizeOf242
 v143:=Tryz.zeroValue242
 t145:=Tryz.underlying244
 a145:=Tryz.isAgg244
 z145:=Tryz.sizeOf244
 v145:=Tryz.zeroValue244
 t167:=Tryz.underlying216
 a167:=Tryz.isAgg216
 z167:=Tryz.sizeOf216
 v167:=Tryz.zeroValue216
 t168:=Tryz.underlying219
 a168:=Tryz.isAgg219
 z168:=Tryz.sizeOf219
 v168:=Tryz.zeroValue219
 t171:=Tryz.underlying174
 a171:=Tryz.isAgg174
 z171:=Tryz.sizeOf174
 v171:=Tryz.zeroValue174
 t173:=Tryz.underlying178
 a173:=Tryz.isAgg178
 z173:=Tryz.sizeOf178
 v173:=Tryz.zeroValue178
 t175:=Tryz.underlying233
 a175:=Tryz.isAgg233
 z175:=Tryz.sizeOf233
 v175:=Tryz.zeroValue233
 t210:=Tryz.underlying236
 a210:=Tryz.isAgg236
 z210:=Tryz.sizeOf236
 v210:=Tryz.zeroValue236
 t212:=Tryz.underlying210
 a212:=Tryz.isAgg210
 z212:=Tryz.sizeOf210
 v212:=Tryz.zeroValue210
 t213:=Tryz.underlying211
 a213:=Tryz.isAgg211
 z213:=Tryz.sizeOf211
 t232:=Tryz.underlying239
 a232:=Tryz.isAgg239
 z232:=Tryz.sizeOf239
 v232:=Tryz.zeroValue239
 t233:=Tryz.underlying240
 a233:=Tryz.isAgg240
 z233:=Tryz.sizeOf240
 v233:=Tryz.zeroValue240
 g15:=by kernel_rfl
 g16:=by kernel_rfl
 g17:=by kernel_rfl
 g18:=by kernel_rfl
 g19:=by kernel_rfl }
def Tryz.UJ:Go.Shelf.Ren:=⟨fun | 217=>122 | 266=>168 | n=>n,fun | 9=>9 | 5=>5 | 3=>3 | n=>n,fun | n=>n⟩
theorem Tryz.abi:Go.Proofs.Lays.n217 Tryz.prog Tryz.UJ:={
 mixed:=by kernel_rfl
 f217:=Tryz.func122.trans (congrArg some (by kernel_rfl))
 f266:=Tryz.func168.trans (congrArg some (by kernel_rfl))
 t3:=Tryz.underlying3
 a3:=Tryz.isAgg3
 z3:=Tryz.sizeOf3
 v3:=Tryz.zeroValue3
 t5:=Tryz.underlying5
 a5:=Tryz.isAgg5
 z5:=Tryz.sizeOf5
 v5:=Tryz.zeroValue5
 t9:=Tryz.underlying9
 a9:=Tryz.isAgg9
 z9:=Tryz.sizeOf9
 v9:=Tryz.zeroValue9 }
def Tryz.S8:Go.Shelf.Ren:=⟨fun | 171=>20 | 243=>61 | 246=>94 | 283=>137 | 284=>138 | 285=>139 | 286=>140 | 129=>181 | 317=>180 | 318=>182 | 319=>183 | 320=>184 | 337=>205 | 338=>206 | n=>n,fun | 3=>3 | 9=>9 | 2=>2 | 4=>4 | 171=>174 | 0=>0 | 53=>175 | 37=>70 | 5=>5 | 173=>178 | 212=>210 | 51=>181 | 20=>20 | 213=>211 | 46=>164 | 232=>239 | 233=>240 | n=>n,fun | 17=>1 | 18=>7 | 19=>8 | n=>n⟩
theorem Tryz.aal:Go.Proofs.LaysM.n171 Tryz.prog Tryz.S8:={
 mixed:=by kernel_rfl
 f129:=Tryz.func181.trans (congrArg some (by kernel_rfl))
 f171:=Tryz.func20.trans (congrArg some (by kernel_rfl))
 f243:=Tryz.func61.trans (congrArg some (by kernel_rfl))
 f246:=Tryz.func94.trans (congrArg some (by kernel_rfl))
 f283:=Tryz.func137.trans (congrArg some (by kernel_rfl))
 f284:=Tryz.func138.trans (congrArg some (by kernel_rfl))
 f285:=Tryz.func139.trans (congrArg some (by kernel_rfl))
 f286:=Tryz.func140.trans (congrArg some (by kernel_rfl))
 f317:=Tryz.func180.trans (congrArg some (by kernel_rfl))
 f318:=Tryz.func182.trans (congrArg some (by kernel_rfl))
 f319:=Tryz.func183.trans (congrArg some (by kernel_rfl))
 f320:=Tryz.func184.trans (congrArg some (by kernel_rfl))
 f337:=Tryz.func205.trans (congrArg some (by kernel_rfl))
 f338:=Tryz.func206.trans (congrArg some (by kernel_rfl))
 t0:=Tryz.underlying0
 a0:=Tryz.isAgg0
 z0:=Tryz.sizeOf0
 v0:=Tryz.zeroValue0
 t2:=Tryz.underlying2
 a2:=Tryz.isAgg2
 z2:=Tryz.sizeOf2
 v2:=Tryz.zeroValue2
 t3:=Tryz.underlying3
 a3:=Tryz.isAgg3
 z3:=Tryz.sizeOf3
 v3:=Tryz.zeroValue3
 t4:=Tryz.underlying4
 a4:=Tryz.isAgg4
 z4:=Tryz.sizeOf4
 v4:=Tryz.zeroValue4
 t5:=Tryz.underlying5
 a5:=Tryz.isAgg5
 z5:=Tryz.sizeOf5
 v5:=Tryz.zeroValue5
 t9:=Tryz.underlying9
 a9:=Tryz.isAgg9
 z9:=Tryz.sizeOf9
 v9:=Tryz.zeroValue9
 t20:=Tryz.underlying20
 a20:=Tryz.isAgg20
 z20:=Tryz.sizeOf20
 v20:=Tryz.zeroValue20
 t37:=Tryz.underlying70
 a37:=Tryz.isAgg70
 z37:=Tryz.sizeOf70
 v37:=Tryz.zeroValue70
 t46:=Tryz.underlying164
 a46:=Tryz.isAgg164
 z46:=Tryz.sizeOf164
 v46:=Tryz.zeroValue164
 t51:=Tryz.underlying181
 a51:=Tryz.isAgg181
 z51:=Tryz.sizeOf181
 v51:=Tryz.zeroValue181
 t53:=Tryz.underlying175
 a53:=Tryz.isAgg175
 z53:=Tryz.sizeOf175
 v53:=Tryz.zeroValue175
 t171:=Tryz.underlying174
 a171:=Tryz.isAgg174
 z171:=Tryz.sizeOf174
 v171:=Tryz.zeroValue174
 t173:=Tryz.underlying178
 a173:=Tryz.isAgg178
 z173:=Tryz.sizeOf178
 v173:=Tryz.zeroValue178
 t212:=Tryz.underlying210
 a212:=Tryz.isAgg210
 z212:=Tryz.sizeOf210
 v212:=Tryz.zeroValue210
 t213:=Tryz.underlying211
 a213:=Tryz.isAgg211
 z213:=Tryz.sizeOf211
 t232:=Tryz.underlying239
 a232:=Tryz.isAgg239
 z232:=Tryz.sizeOf239
 v232:=Tryz.zeroValue239
 t233:=Tryz.underlying240
 a233:=Tryz.isAgg240
 z233:=Tryz.sizeOf240
 v233:=Tryz.zeroValue240
 g17:=by kernel_rfl
 g18:=by kernel_rfl
 g19:=by kernel_rfl
 i0:=by kernel_rfl
 i2:=by kernel_rfl
 i3:=by kernel_rfl
 i4:=by kernel_rfl
 i5:=by kernel_rfl
 i9:=by kernel_rfl
 i20:=by kernel_rfl
 i37:=by kernel_rfl
 i46:=by kernel_rfl
 i51:=by kernel_rfl
 i53:=by kernel_rfl
 i171:=by kernel_rfl
 i173:=by kernel_rfl
 i212:=by kernel_rfl
 i232:=by kernel_rfl
 i233:=by kernel_rfl
 m17:=by kernel_rfl
 m18:=by kernel_rfl
 m19:=by kernel_rfl }
def Tryz.UF:Go.Shelf.Ren:=⟨fun | 106=>167 | 213=>200 | 265=>212 | n=>n,fun | 9=>9 | 3=>3 | n=>n,fun | n=>n⟩
theorem Tryz.abe:Go.Proofs.Lays.n106 Tryz.prog Tryz.UF:={
 mixed:=by kernel_rfl
 f106:=Tryz.func167.trans (congrArg some (by kernel_rfl))
 f213:=Tryz.func200.trans (congrArg some (by kernel_rfl))
 f265:=Tryz.func212.trans (congrArg some (by kernel_rfl))
 t3:=Tryz.underlying3
 a3:=Tryz.isAgg3
 z3:=Tryz.sizeOf3
 v3:=Tryz.zeroValue3
 t9:=Tryz.underlying9
 a9:=Tryz.isAgg9
 z9:=Tryz.sizeOf9
 v9:=Tryz.zeroValue9 }
def Tryz.KJ:Go.Shelf.Ren:=⟨fun | 105=>101 | 212=>146 | 99=>147 | 165=>65 | 166=>21 | 170=>26 | 169=>27 | 263=>185 | 264=>186 | 206=>187 | 240=>62 | 241=>102 | 276=>95 | 277=>148 | n=>n,fun | 9=>9 | 3=>3 | 4=>4 | 20=>20 | 0=>0 | 46=>164 | 109=>186 | 5=>5 | 72=>72 | 76=>76 | 51=>181 | 146=>183 | 53=>175 | 148=>214 | 70=>69 | 37=>70 | 75=>75 | 127=>115 | 164=>141 | 80=>83 | n=>n,fun | n=>n⟩
theorem Tryz.abd:Go.Proofs.Lays.n105 Tryz.prog Tryz.KJ:={
 mixed:=by kernel_rfl
 f99:=Tryz.func147.trans (congrArg some (by kernel_rfl))
 f105:=Tryz.func101.trans (congrArg some (by kernel_rfl))
 f165:=Tryz.func65.trans (congrArg some (by kernel_rfl))
 f166:=Tryz.func21.trans (congrArg some (by kernel_rfl))
 f169:=Tryz.func27.trans (congrArg some (by kernel_rfl))
 f170:=Tryz.func26.trans (congrArg some (by kernel_rfl))
 f206:=Tryz.func187.trans (congrArg some (by kernel_rfl))
 f212:=Tryz.func146.trans (congrArg some (by kernel_rfl))
 f240:=Tryz.func62.trans (congrArg some (by kernel_rfl))
 f241:=Tryz.func102.trans (congrArg some (by kernel_rfl))
 f263:=Tryz.func185.trans (congrArg some (by kernel_rfl))
 f264:=Tryz.func186.trans (congrArg some (by kernel_rfl))
 f276:=Tryz.func95.trans (congrArg some (by kernel_rfl))
 f277:=Tryz.func148.trans (congrArg some (by kernel_rfl))
 t0:=Tryz.underlying0
 a0:=Tryz.isAgg0
 z0:=Tryz.sizeOf0
 v0:=Tryz.zeroValue0
 t3:=Tryz.underlying3
 a3:=Tryz.isAgg3
 z3:=Tryz.sizeOf3
 v3:=Tryz.zeroValue3
 t4:=Tryz.underlying4
 a4:=Tryz.isAgg4
 z4:=Tryz.sizeOf4
 v4:=Tryz.zeroValue4
 t5:=Tryz.underlying5
 a5:=Tryz.isAgg5
 z5:=Tryz.sizeOf5
 v5:=Tryz.zeroValue5
 t9:=Tryz.underlying9
 a9:=Tryz.isAgg9
 z9:=Tryz.sizeOf9
 v9:=Tryz.zeroValue9
 t20:=Tryz.underlying20
 a20:=Tryz.isAgg20
 z20:=Tryz.sizeOf20
 v20:=Tryz.zeroValue20
 t37:=Tryz.underlying70
 a37:=Tryz.isAgg70
 z37:=Tryz.sizeOf70
 v37:=Tryz.zeroValue70
 t46:=Tryz.underlying164
 a46:=Tryz.isAgg164
 z46:=Tryz.sizeOf164
 v46:=Tryz.zeroValue164
 t51:=Tryz.underlying181
 a51:=Tryz.isAgg181
 z51:=Tryz.sizeOf181
 v51:=Tryz.zeroValue181
 t53:=Tryz.underlying175
 a53:=Tryz.isAgg175
 z53:=Tryz.sizeOf175
 v53:=Tryz.zeroValue175
 t70:=Tryz.underlying69
 a70:=Tryz.isAgg69
 z70:=Tryz.sizeOf69
 v70:=Tryz.zeroValue69
 t72:=Tryz.underlying72
 a72:=Tryz.isAgg72
 z72:=Tryz.sizeOf72
 v72:=Tryz.zeroValue72
 t75:=Tryz.underlying75
 a75:=Tryz.isAgg75
 z75:=Tryz.sizeOf75
 v75:=Tryz.zeroValue75
 t76:=Tryz.underlying76
 a76:=Tryz.isAgg76
 z76:=Tryz.sizeOf76
 v76:=Tryz.zeroValue76
 t109:=Tryz.underlying186
 a109:=Tryz.isAgg186
 z109:=Tryz.sizeOf186
 v109:=Tryz.zeroValue186
 t127:=Tryz.underlying115
 a127:=Tryz.isAgg115
 z127:=Tryz.sizeOf115
 v127:=Tryz.zeroValue115
 t146:=Tryz.underlying183
 a146:=Tryz.isAgg183
 z146:=Tryz.sizeOf183
 v146:=Tryz.zeroValue183
 t148:=Tryz.underlying214
 a148:=Tryz.isAgg214
 z148:=Tryz.sizeOf214
 v148:=Tryz.zeroValue214
 t164:=Tryz.underlying141
 a164:=Tryz.isAgg141
 z164:=Tryz.sizeOf141
 v164:=Tryz.zeroValue141 }
def Tryz.yJ:Go.Shelf.Ren:=⟨fun | 156=>29 | 165=>65 | 166=>21 | 169=>27 | 240=>62 | 241=>102 | 276=>95 | 277=>148 | n=>n,fun | 31=>36 | 9=>9 | 3=>3 | 4=>4 | 0=>0 | 20=>20 | 72=>72 | 76=>76 | 70=>69 | 37=>70 | 75=>75 | 127=>115 | 164=>141 | 5=>5 | 80=>83 | n=>n,fun | n=>n⟩
theorem Tryz.O8:Go.Proofs.Lays.n156 Tryz.prog Tryz.yJ:={
 mixed:=by kernel_rfl
 f156:=Tryz.func29.trans (congrArg some (by kernel_rfl))
 f165:=Tryz.func65.trans (congrArg some (by kernel_rfl))
 f166:=Tryz.func21.trans (congrArg some (by kernel_rfl))
 f169:=Tryz.func27.trans (congrArg some (by kernel_rfl))
 f240:=Tryz.func62.trans (congrArg some (by kernel_rfl))
 f241:=Tryz.func102.trans (congrArg some (by kernel_rfl))
 f276:=Tryz.func95.trans (congrArg some (by kernel_rfl))
 f277:=Tryz.func148.trans (congrArg some (by kernel_rfl))
 t0:=Tryz.underlying0
 a0:=Tryz.isAgg0
 z0:=Tryz.sizeOf0
 v0:=Tryz.zeroValue0
 t3:=Tryz.underlying3
 a3:=Tryz.isAgg3
 z3:=Tryz.sizeOf3
 v3:=Tryz.zeroValue3
 t4:=Tryz.underlying4
 a4:=Tryz.isAgg4
 z4:=Tryz.sizeOf4
 v4:=Tryz.zeroValue4
 t9:=Tryz.underlying9
 a9:=Tryz.isAgg9
 z9:=Tryz.sizeOf9
 v9:=Tryz.zeroValue9
 t20:=Tryz.underlying20
 a20:=Tryz.isAgg20
 z20:=Tryz.sizeOf20
 v20:=Tryz.zeroValue20
 t31:=Tryz.underlying36
 a31:=Tryz.isAgg36
 z31:=Tryz.sizeOf36
 v31:=Tryz.zeroValue36
 t37:=Tryz.underlying70
 a37:=Tryz.isAgg70
 z37:=Tryz.sizeOf70
 v37:=Tryz.zeroValue70
 t70:=Tryz.underlying69
 a70:=Tryz.isAgg69
 z70:=Tryz.sizeOf69
 v70:=Tryz.zeroValue69
 t72:=Tryz.underlying72
 a72:=Tryz.isAgg72
 z72:=Tryz.sizeOf72
 v72:=Tryz.zeroValue72
 t75:=Tryz.underlying75
 a75:=Tryz.isAgg75
 z75:=Tryz.sizeOf75
 v75:=Tryz.zeroValue75
 t76:=Tryz.underlying76
 a76:=Tryz.isAgg76
 z76:=Tryz.sizeOf76
 v76:=Tryz.zeroValue76
 t127:=Tryz.underlying115
 a127:=Tryz.isAgg115
 z127:=Tryz.sizeOf115
 v127:=Tryz.zeroValue115
 t164:=Tryz.underlying141
 a164:=Tryz.isAgg141
 z164:=Tryz.sizeOf141
 v164:=Tryz.zeroValue141 }
def Tryz.UH:Go.Shelf.Ren:=⟨fun | 170=>26 | n=>n,fun | 70=>69 | 3=>3 | 0=>0 | 72=>72 | 37=>70 | 5=>5 | n=>n,fun | n=>n⟩
theorem Tryz.abg:Go.Proofs.Lays.n170 Tryz.prog Tryz.UH:={
 mixed:=by kernel_rfl
 f170:=Tryz.func26.trans (congrArg some (by kernel_rfl))
 t0:=Tryz.underlying0
 a0:=Tryz.isAgg0
 z0:=Tryz.sizeOf0
 v0:=Tryz.zeroValue0
 t3:=Tryz.underlying3
 a3:=Tryz.isAgg3
 z3:=Tryz.sizeOf3
 v3:=Tryz.zeroValue3
 t37:=Tryz.underlying70
 a37:=Tryz.isAgg70
 z37:=Tryz.sizeOf70
 v37:=Tryz.zeroValue70
 t70:=Tryz.underlying69
 a70:=Tryz.isAgg69
 z70:=Tryz.sizeOf69
 v70:=Tryz.zeroValue69
 t72:=Tryz.underlying72
 a72:=Tryz.isAgg72
 z72:=Tryz.sizeOf72
 v72:=Tryz.zeroValue72 }
end Go.Proofs
namespace Go.Proofs
theorem Tryz.JZ:Builder.Extra Tryz.prog Tryz.KJ:={
 sizeBuilder:=by kernel_rfl
 liesBuilder:=by kernel_rfl
 t5:=Tryz.underlying5
 a5:=Tryz.isAgg5
 z5:=Tryz.sizeOf5
 v5:=Tryz.zeroValue5
 infoByte:=by kernel_rfl
 cellsByte:=by kernel_rfl
 sizeByte:=by kernel_rfl
 neB5:=by decide }
end Go.Proofs
namespace Go.Proofs
theorem Tryz.sS:Builder.Extra Tryz.prog Tryz.yJ:={
 sizeBuilder:=by kernel_rfl
 liesBuilder:=by kernel_rfl
 t5:=Tryz.underlying5
 a5:=Tryz.isAgg5
 z5:=Tryz.sizeOf5
 v5:=Tryz.zeroValue5
 infoByte:=by kernel_rfl
 cellsByte:=by kernel_rfl
 sizeByte:=by kernel_rfl
 neB5:=by decide }
end Go.Proofs
namespace Go.Proofs.SeatU
open Go.Dn Go.Md Go.Proofs Go.RowKit Go.Shelf Go.Lib
def w7:an:=⟨[.val .str,.val .str],[.val .str],fun x=>fV x.1 x.2.1⟩
theorem Nc:dZ Tryz.prog 70:=iA (fn:=Tryz.f70) (by kernel_rfl) rfl (by decide)
theorem Nt:cM Tryz.prog 70 w7:=by
 intro G w ow args x y hG how ha hm
 refine UC (P:=Tryz.prog) (f:=70) (m:=w7.m) ?_ G w ow args x y hG how ha hm
 intro s c r w hm
 replace hm:fV s c=some (r,()):=hm
 unfold fV at hm
 cases hb:(decide (s.length<=9223372036854775807)&&(decide (c.length<4294967281)&&c.all fun b=>decide (b.toNat<128))) with
 | false=>rw[hb] at hm;cases hm
 | true=>
  rw[hb] at hm
  simp only[cond_true,Option.some.injEq,Prod.mk.injEq,and_true] at hm
  subst hm
  simp only[Bool.and_eq_true,decide_eq_true_eq,List.all_eq_true] at hb
  have:=Any.strings_Trim_laid Tryz.abf (by kernel_rfl) (bs s) (bs c) w (by simpa [bs,ByteArray.size] using hb.1) (by simpa [bs,ByteArray.size] using hb.2.1) (fun j b hj=>hb.2.2 b (List.mem_of_getElem? (by simpa [bs] using hj)))
  change Calls Tryz.prog 70 _ _ _ at this
  simpa [bs] using this
def gM:an:=⟨[.val .str,.val (.int .u8)],[.val tI],fun x=>cY x.1 x.2.1⟩
theorem tV:dZ Tryz.prog 122:=iA (fn:=Tryz.f122) (by kernel_rfl) rfl (by decide)
theorem tX:cM Tryz.prog 122 gM:=by
 intro G w ow args x y hG how ha hm
 refine KI (P:=Tryz.prog) (f:=122) (a:= .str) (a':= .int .u8) (t:=tI) (m:=gM.m) rfl rfl ?_ G w ow args x y hG how ha hm
 intro s c r w hm
 replace hm:cY s c=some (r,()):=hm
 unfold cY at hm
 obtain rfl:Lib.indexByte s c.toNat.toUInt8=r:=congrArg (fun o=>(Option.getD o (0,())).1) hm
 have:=Any.stringslite_IndexByte Tryz.abi (bs s) c w
 refine⟨.int .i64 (Lib.indexByte s c.toNat.toUInt8),fun G=>rfl,this.mono ?_⟩
 rintro e w' ⟨he,rfl⟩
 exact⟨he,RowKit.Below.refl _ _⟩
def vj:an:=⟨[.val .str,.val .str],[.row 9 .str],fun x=>strings_Split x.1 x.2.1⟩
theorem BE:dZ Tryz.prog 32:=iA (fn:=Tryz.f32) (by kernel_rfl) rfl (by decide)
theorem BJ:cM Tryz.prog 32 vj:=aaK Tryz.aak
theorem aa0 (n:Nat) (h:n<100):Lib.decDigits n=So n:=by
 unfold So
 rw[Lib.decDigits]
 by_cases h1:n<10
 ·simp[h1]
 ·rw[dif_neg h1,Lib.decDigits,dif_pos (by omega),if_neg h1];rfl
def qm:an:=⟨[.val tI],[.val .str],fun x=>strconv_Itoa x.1⟩
theorem CG:dZ Tryz.prog 20:=iA (fn:=Tryz.f20) (by kernel_rfl) rfl (by decide)
theorem wI:cM Tryz.prog 20 qm:=by
 intro G w ow args x y hG how ha hm
 refine SH (P:=Tryz.prog) (f:=20) (a:=tI) (t:= .str) (m:=qm.m) (g:=1) (by kernel_rfl) rfl ?_ G w ow args x y hG how ha hm
 intro (n:Int) (r:Bys) w htab hm
 replace hm:strconv_Itoa n=some (r,()):=hm
 unfold strconv_Itoa at hm
 have fin: -9223372036854775808<=n->n<=9223372036854775807->Lib.itoa n=r->∃ v,(∀ G:Gh,bT G .str r v)/\Calls Tryz.prog 20 #[Fy tI n] w fun e w'=>e= .returned v/\RowKit.Below w.heap.size w w':=by
  intro h0 h1 e
  subst e
  have:=Any.strconv_Itoa Tryz.aal n h0 h1 w htab
  refine⟨.string (bs (Lib.itoa n)),fun G=>rfl,this.mono ?_⟩
  rintro e w' ⟨he,k,os,rfl⟩
  exact⟨he,TY w k os⟩
 cases hb:(decide (0<=n)&&decide (n<100)) with
 | true=>
  rw[hb] at hm
  simp only[cond_true,Option.some.injEq,Prod.mk.injEq,and_true] at hm
  simp only[Bool.and_eq_true,decide_eq_true_eq] at hb
  obtain⟨k,rfl⟩:∃ k:Nat,n=k:=⟨n.toNat,by omega⟩
  refine fin (by omega) (by omega) ?_
  rw[<- hm,Int.toNat_natCast, <- aa0 k (by omega)]
  rfl
 | false=>
  rw[hb,cond_false] at hm
  cases hc:(decide (-9223372036854775808<=n)&&decide (n<=9223372036854775807)) with
  | false=>rw[hc] at hm;cases hm
  | true=>
   rw[hc] at hm
   simp only[cond_true,Option.some.injEq,Prod.mk.injEq,and_true] at hm
   simp only[Bool.and_eq_true,decide_eq_true_eq] at hc
   exact fin hc.1 hc.2 hm
def nx:an:=⟨[.val .str,.val tI],[.val .str],fun x=>strings_Repeat x.1 x.2.1⟩
theorem Ax:dZ Tryz.prog 101:=iA (fn:=Tryz.f101) (by kernel_rfl) rfl (by decide)
theorem Az:cM Tryz.prog 101 nx:=by
 intro G w ow args x y hG how ha hm
 refine KI (P:=Tryz.prog) (f:=101) (a:= .str) (a':=tI) (t:= .str) (m:=nx.m) rfl rfl ?_ G w ow args x y hG how ha hm
 intro (s:Bys) (n:Int) (r:Bys) w hm
 replace hm:strings_Repeat s n=some (r,()):=hm
 unfold strings_Repeat at hm
 cases hb:(decide (0<=n)&&(decide (n<=9223372036854775807)&&decide (s.length*n.toNat<=140737488355328))) with
 | false=>rw[hb] at hm;cases hm
 | true=>
  rw[hb] at hm
  simp only[cond_true,Option.some.injEq,Prod.mk.injEq,and_true] at hm
  subst hm
  simp only[Bool.and_eq_true,decide_eq_true_eq] at hb
  obtain⟨k,rfl⟩:∃ k:Nat,n=k:=⟨n.toNat,by omega⟩
  have hsz:(bs s).size=s.length:=by simp[bs,ByteArray.size]
  have:=Any.strings_Repeat Tryz.abd Tryz.JZ (bs s) k w (by omega) (by rw[hsz];simpa using hb.2.2)
  refine⟨.string (bs (Lib.repeatL s k)),fun G=>rfl,this.mono ?_⟩
  rintro e w' ⟨he,hbel⟩
  exact⟨he,hbel⟩
def rD:an:=⟨[.val .str,.val .str],[.val tI],fun x=>strings_Compare x.1 x.2.1⟩
theorem It:dZ Tryz.prog 167:=iA (fn:=Tryz.f167) (by kernel_rfl) rfl (by decide)
theorem IP:cM Tryz.prog 167 rD:=by
 intro G w ow args x y hG how ha hm
 refine Yt (P:=Tryz.prog) (f:=167) (t:=tI) (m:=rD.m) ?_ G w ow args x y hG how ha hm
 intro s c r w hm
 replace hm:strings_Compare s c=some (r,()):=hm
 unfold strings_Compare at hm
 obtain rfl:Lib.compareBytes s c=r:=congrArg (fun o=>(Option.getD o (0,())).1) hm
 have:=Any.strings_Compare Tryz.abe (bs s) (bs c) w
 refine⟨.int .i64 (Lib.compareBytes s c),fun G=> ?_,this.mono ?_⟩
 ·rfl
 ·rintro e w' ⟨he,rfl⟩
  exact⟨he,Below.refl _ _⟩
def w6:an:=⟨[.val (.slice .str),.val .str],[.val .str],fun x=>strings_Join x.1 x.2.1⟩
theorem CI:dZ Tryz.prog 29:=iA (fn:=Tryz.f29) (by kernel_rfl) rfl (by decide)
theorem CP:cM Tryz.prog 29 w6:=xT Tryz.O8 Tryz.sS
end Go.Proofs.SeatU
set_option maxRecDepth 100000
namespace Go.Proofs.SeatU
open Go.Dn Go.Md Go.Proofs Go.RowKit Go.Shelf Go.Lib
def Bl:List (Nat×Ann):=[(2,⟨[(0,.val .str),(1,.val (.int .u8)),(2,.val (.int .u8)),(9,.val tI),(10,.val tI)],[],[],aO _⟩),
 (200002,⟨[],[],[],fun _=>0⟩)]
noncomputable def nV:an:=⟨[.val .str,.val (.int .u8),.val (.int .u8)],[.val .bool],fun x=>Du x.1 x.2.1 x.2.2.1⟩
noncomputable def D8:Cx:=⟨Tryz.prog,[],[]⟩
theorem MQ:∀ x,Dk D8 Bl none Tryz.f152 nV x=nV.m x:=by intro x;kernel_rfl
theorem OV:dZ Tryz.prog 152:=iA (fn:=Tryz.f152) (by kernel_rfl) rfl (by decide)
theorem Ph:cM Tryz.prog 152 nV:=Ir (X:=D8) (.nil _) (by kernel_rfl) nV Bl none (by kernel_rfl) (fun x y h=>(MQ x).trans h)
def Au:List (Nat×Ann):=[]
noncomputable def jO:an:=⟨[.val .str],[.val .bool],fun x=>nO x.1⟩
noncomputable def CA:Cx:=⟨Tryz.prog,[(152,nV)],[]⟩
theorem LC:∀ x,Dk CA Au none Tryz.f107 jO x=jO.m x:=by intro x;kernel_rfl
theorem CF:dZ Tryz.prog 107:=iA (fn:=Tryz.f107) (by kernel_rfl) rfl (by decide)
theorem wH:cM Tryz.prog 107 jO:=Ir (X:=CA) (.cons Ph OV (.nil _)) (by kernel_rfl) jO Au none (by kernel_rfl) (fun x y h=>(LC x).trans h)
structure Kept (w w':World):Prop where
 size:w.heap.size<=w'.heap.size
 os:w'.os=w.os
 output:w'.output=w.output
 block:∀ b,b<w.heap.size->w'.heap[b]? =w.heap[b]?
theorem Kept.refl (w:World):Kept w w:=⟨Nat.le_refl _,rfl,rfl,fun _ _=>rfl⟩
theorem Kept.trans {a b c:World} (h:Kept a b) (k:Kept b c):Kept a c:=⟨Nat.le_trans h.size k.size,k.os.trans h.os,k.output.trans h.output,fun i hi=>(k.block i (Nat.lt_of_lt_of_le hi h.size)).trans (h.block i hi)⟩
theorem Kept.drawn {a b:World} (h:Kept a b) (n:Nat):Kept a (b.drewN n):=⟨h.size,h.os,h.output,h.block⟩
theorem aaq (s:Bys) (most:Int) (w:World) (h1:most<(s.length:Int)): Calls Tryz.prog 68 #[.string (bs s),.int .i64 most] w fun e w'=>e= .returned (.tuple #[.int .i64 0,.bool false])/\w'=w:=by
 have e107:∀ args w,(callFunc 107 args).run Tryz.prog w= .ok (.enter 107 args) w:=enters_of Tryz.func107 (by kernel_rfl) rfl
 have e108:∀ args w,(callFunc 108 args).run Tryz.prog w= .ok (.enter 108 args) w:=enters_of Tryz.func108 (by kernel_rfl) rfl
 have mixed:Tryz.prog.follows .mixedOrders=true:=by kernel_rfl
 have t3:=Tryz.underlying3;have t4:=Tryz.underlying4;have t5:=Tryz.underlying5;have t9:=Tryz.underlying9
 have hsz:(bs s).size=s.length:=List.size_toArray
 go_enter Tryz.func68,Tryz.ntmps68
 go_wp2
 go_ret2
 exact⟨rfl,rfl⟩
theorem aar (s:Bys) (most:Int) (w:World) (h1:(s.length:Int)<=most) (hd:Calls Tryz.prog 107 #[.string (bs s)] w fun e w'=>e= .returned (.bool false)/\Kept w w'): Calls Tryz.prog 68 #[.string (bs s),.int .i64 most] w fun e w'=>e= .returned (.tuple #[.int .i64 0,.bool false])/\Kept w w':=by
 have e107:∀ args w,(callFunc 107 args).run Tryz.prog w= .ok (.enter 107 args) w:=enters_of Tryz.func107 (by kernel_rfl) rfl
 have e108:∀ args w,(callFunc 108 args).run Tryz.prog w= .ok (.enter 108 args) w:=enters_of Tryz.func108 (by kernel_rfl) rfl
 have mixed:Tryz.prog.follows .mixedOrders=true:=by kernel_rfl
 have t3:=Tryz.underlying3;have t4:=Tryz.underlying4;have t5:=Tryz.underlying5;have t9:=Tryz.underlying9
 have hsz:(bs s).size=s.length:=List.size_toArray
 go_enter Tryz.func68,Tryz.ntmps68
 go_wp2_with (go_at_fn 107;refine hd.mono ?_;rintro e w' ⟨rfl,hk⟩)
 go_ret2
 exact⟨rfl,hk⟩
theorem aas (s:Bys) (most:Int) (w:World) (h1:(s.length:Int)<=most) (h2:1<(s.length:Int)) (h3:(bs s)[0]? =some 48) (hd:Calls Tryz.prog 107 #[.string (bs s)] w fun e w'=>e= .returned (.bool true)/\Kept w w'): Calls Tryz.prog 68 #[.string (bs s),.int .i64 most] w fun e w'=>e= .returned (.tuple #[.int .i64 0,.bool false])/\Kept w w':=by
 have e107:∀ args w,(callFunc 107 args).run Tryz.prog w= .ok (.enter 107 args) w:=enters_of Tryz.func107 (by kernel_rfl) rfl
 have e108:∀ args w,(callFunc 108 args).run Tryz.prog w= .ok (.enter 108 args) w:=enters_of Tryz.func108 (by kernel_rfl) rfl
 have mixed:Tryz.prog.follows .mixedOrders=true:=by kernel_rfl
 have t3:=Tryz.underlying3;have t4:=Tryz.underlying4;have t5:=Tryz.underlying5;have t9:=Tryz.underlying9
 have hsz:(bs s).size=s.length:=List.size_toArray
 have h3':∀ h:0<(bs s).size,(bs s)[0]'h=48:=fun h=>by rw[getElem?_pos (bs s) 0 h] at h3;exact Option.some.inj h3
 go_enter Tryz.func68,Tryz.ntmps68
 go_wp2_with (go_at_fn 107;refine hd.mono ?_;rintro e w' ⟨rfl,hk⟩)
 all_goals first | (go_ret2;exact⟨rfl,hk⟩) | (exfalso;simp_all)
theorem aat (s:Bys) (most n:Int) (b:UInt8) (w:World) (h1:(s.length:Int)<=most) (h3:(bs s)[0]? =some b) (h2:¬(1<(s.length:Int))\/b≠48) (hd:Calls Tryz.prog 107 #[.string (bs s)] w fun e w'=>e= .returned (.bool true)/\Kept w w') (ha:∀ w,Calls Tryz.prog 108 #[.string (bs s)] w fun e w'=>e= .returned (.tuple #[.int .i64 n,.nilIface])/\Kept w w'): Calls Tryz.prog 68 #[.string (bs s),.int .i64 most] w fun e w'=>e= .returned (.tuple #[.int .i64 n,.bool true])/\Kept w w':=by
 have e107:∀ args w,(callFunc 107 args).run Tryz.prog w= .ok (.enter 107 args) w:=enters_of Tryz.func107 (by kernel_rfl) rfl
 have e108:∀ args w,(callFunc 108 args).run Tryz.prog w= .ok (.enter 108 args) w:=enters_of Tryz.func108 (by kernel_rfl) rfl
 have mixed:Tryz.prog.follows .mixedOrders=true:=by kernel_rfl
 have t3:=Tryz.underlying3;have t4:=Tryz.underlying4;have t5:=Tryz.underlying5;have t9:=Tryz.underlying9
 have hsz:(bs s).size=s.length:=List.size_toArray
 have t75:=Tryz.underlying75;have t76:=Tryz.underlying76
 have h3':∀ h:0<(bs s).size,(bs s)[0]'h=b:=fun h=>by rw[getElem?_pos (bs s) 0 h] at h3;exact Option.some.inj h3
 have hb48:b≠48->¬((b.toNat:Int)=48):=fun h e=>h (UInt8.toNat_inj.1 (show b.toNat=48 by omega))
 rcases Classical.em (1<(s.length:Int)) with h4 | h4
 ·have h5:¬((b.toNat:Int)=48):=hb48 (h2.resolve_left (fun h=>h h4))
  go_enter Tryz.func68,Tryz.ntmps68
  go_wp2_with (first | (go_at_fn 107;refine hd.mono ?_;rintro e w' ⟨rfl,hk⟩) | (go_at_fn 108;refine (ha _).mono ?_;rintro e w'' ⟨rfl,hk2⟩))
  all_goals first | (exfalso;omega) | skip
  all_goals first | (go_quiet (fail);go_wp2;go_ret2;exact⟨rfl,hk.trans (hk2.drawn _)⟩) | (exfalso;simp_all;done) | (exfalso;simp_all;omega)
 ·go_enter Tryz.func68,Tryz.ntmps68
  go_wp2_with (first | (go_at_fn 107;refine hd.mono ?_;rintro e w' ⟨rfl,hk⟩) | (go_at_fn 108;refine (ha _).mono ?_;rintro e w'' ⟨rfl,hk2⟩))
  all_goals first | (exfalso;omega) | skip
  all_goals first | (go_quiet (fail);go_wp2;go_ret2;exact⟨rfl,hk.trans (hk2.drawn _)⟩) | (exfalso;simp_all;done) | (exfalso;simp_all;omega)
theorem Kept.aau {w w':World} (h:RowKit.Below w.heap.size w w'):Kept w w':=⟨h.size,h.os,h.output,h.block⟩
theorem Sz {G:Gh} {w:World} (s:Bys) (hG:Agr G w) (hT:bZ Tryz.prog G) (D:Bool) (hm:nO s=some (D,())): Calls Tryz.prog 107 #[.string (bs s)] w fun e w'=>e= .returned (.bool D)/\Kept w w':=by
 have h:=wH G w (fun _=>none) [.string (bs s)] (s,()) (D,()) hG (fun _ _ h=>nomatch h) ⟨_,[],fun _=>rfl,fun h=>(Bool.noConfusion h),(by show ax G .str s [.string (bs s)];rfl),rfl⟩ hm hT
 refine h.mono ?_
 rintro e w' ⟨G',ow',vs,g⟩
 obtain⟨v,us,hv,hr,h2,_⟩:=g.out
 have e2:us=[]:=h2
 have e1:[v]=[Value.bool D]:=hr
 cases e1
 subst e2;subst hv
 exact⟨g.ret,g.size,g.os,g.output,fun b hb=>(g.old b hb rfl).1⟩
def GH:an:=⟨[.val .str,.val tI],[.val tI,.val .bool],fun x=>oG x.1 x.2.1⟩
theorem Rc:dZ Tryz.prog 68:=iA (fn:=Tryz.f68) (by kernel_rfl) rfl (by decide)
theorem Ti {G:Gh} {w:World} (s:Bys) (most n:Int) (b:Bool) (hG:Agr G w) (hT:bZ Tryz.prog G) (hm:oG s most=some (n,b,())): Calls Tryz.prog 68 #[.string (bs s),.int .i64 most] w fun e w'=>e= .returned (.tuple #[.int .i64 n,.bool b])/\Kept w w':=by
 unfold oG at hm
 rcases Classical.em (most<(s.length:Int)) with h | h
 ·rw[decide_eq_true h,cond_true] at hm
  cases hm
  exact (aaq s most w h).mono fun e w' hh=>⟨hh.1,hh.2 ▸ Kept.refl w⟩
 ·rw[decide_eq_false h,cond_false] at hm
  rcases Classical.em (s.length<=18) with h18 | h18
  rotate_left
  ·rw[decide_eq_false h18,cond_false] at hm;cases hm
  rw[decide_eq_true h18,cond_true] at hm
  have hD:=wz s (by omega)
  have hle:(s.length:Int)<=most:=by omega
  have hdd:(!(s==[])&&s.all WR)=(decide (s≠[])&&s.all dz):=by cases s<;>rfl
  rw[hdd] at hm
  generalize hDD:(decide (s≠[])&&s.all dz)=D at hD hm
  have hd:=Sz s hG hT D hD
  cases D with
  | false=>
   cases hm
   exact aar s most w hle hd
  | true=>
   cases s with
   | nil=>cases hDD
   | cons c r=>
    have h3:(bs (c::r))[0]? =some c:=by
     rw[getElem?_pos (bs (c::r)) 0 (by show 0<(c::r).toArray.size;simp)];rfl
    rcases Classical.em (1<(c::r).length/\c=48) with h2 | h2
    ·obtain⟨h2,rfl⟩:=h2
     have e:(!true||(decide (1<((48:UInt8)::r).length)&&((48:UInt8)::r).head? ==some 48))=true:=by rw[decide_eq_true h2];rfl
     rw[e,cond_true] at hm
     cases hm
     exact aas _ most w hle (by omega) h3 hd
    ·have e:(!true||(decide (1<(c::r).length)&&(c::r).head? ==some 48))=false:=by
      rw[Bool.not_true,Bool.false_or,Bool.and_eq_false_iff]
      rcases Classical.em (1<(c::r).length) with h4 | h4
      ·right
       have h5:c≠48:=fun h=>h2 ⟨h4,h⟩
       exact beq_eq_false_iff_ne.2 (fun h=>h5 (Option.some.inj h))
      ·left;exact decide_eq_false h4
     rw[e,cond_false] at hm
     cases ha:Lib.atoi (c::r) with
     | none=>rw[ha] at hm;cases hm
     | some m=>
      rw[ha] at hm
      cases hm
      refine aat _ most n c w hle h3 ?_ hd fun w=> ?_
      ·rcases Classical.em (1<(c::r).length) with h4 | h4
       ·right;exact fun h=>h2 ⟨h4,h⟩
       ·left;omega
      ·have:=Any.strconv_Atoi Tryz.abh (bs (c::r)) n (by show (c::r).toArray.size<=18;simpa using h18) (by simpa [bs] using ha) w
       change Calls Tryz.prog 108 _ _ _ at this
       refine this.mono ?_
       rintro e w' ⟨rfl,t,rfl⟩
       exact⟨rfl,Kept.aau (bytesWorld_below w _ t)⟩
theorem Rh:cM Tryz.prog 68 GH:=by
 intro G w ow args x y hG how ha hm hT
 obtain⟨s,most,u⟩:=x
 obtain⟨n,b,u'⟩:=y
 obtain⟨v,us,h1,_,hv,v',us',h2,_,hv',h3⟩:=ha
 have e1:=h1 rfl
 have e2:=h2 rfl
 have e3:us'=[]:=h3
 have e4:[v]=[.string (bs s)]:=hv
 have e5:[v']=[.int .i64 most]:=hv'
 cases e4;cases e5
 subst e1;subst e2;subst e3
 refine (Ti s most n b hG hT hm).mono ?_
 rintro e w' ⟨he,hk⟩
 refine⟨G,fun _=>none,[.int .i64 n,.bool b], ?_⟩
 exact {
  ret:=he
  le:=Gh.le_refl G
  agr:=fun i o hio=>by
   have hw:=hG i o hio
   rw[hk.block i (aB hw)];exact hw
  size:=hk.size
  os:=hk.os
  output:=hk.output
  old:=fun i hlt _=>⟨hk.block i hlt,rfl⟩
  own:=fun i j hij=>by cases hij
  out:=⟨_,_,rfl,rfl,_,_,rfl,rfl,rfl,trivial⟩
  hnd:=fun _=>rfl }
end Go.Proofs.SeatU
