/-
  Functions of the library and of kit, by contracts and by a walk. No condition.
-/
import Derived.Test.YtjlkkapojeldlaaGreatDoorYo
import Derived.Test.YtjlkkapojeldlaaGreatDoorYd
import Derived.Shelf.Strings.Split
import Derived.Shelf.LaysM
import Derived.Shelf.Vars
import Derived.Lib.LaidTab
import Derived.Sort.Grow
import Derived.Deep.Draws
import Derived.Test.YtjlkkapojeldlaaGreatDoorYf
import Derived.Test.YtjlkkapojeldlaaGreatDoorYg
import Derived.Test.YtjlkkapojeldlaaGreatDoorProg
import Derived.Shelf.Strings.SlTrimAscii
import Derived.Shelf.Strconv.Atoi
import Derived.Shelf.Strconv.Itoa3
import Derived.Shelf.Strings.Repeat
import Derived.Shelf.Small.Strs
import Derived.Shelf.Strings.Search1
import Derived.WalkKit
import Derived.Deep.QuietTactic
import Derived.BigQuiet
import Derived.Lib.AtoiErrMem
import Derived.Test.YtjlkkapojeldlaaGreatDoorYr
set_option linter.all false
namespace Go.Md
open Go.Dn Go.Lib
theorem Ag (c b:UInt8) (r:List UInt8):index (b::r) [c]=if b=c then 0 else if index r [c]== -1 then -1 else index r [c]+1:=by
 rw[index]
 by_cases h:b=c
 ·subst h;simp
 ·have:(c==b)=false:=by simp[Ne.symm h]
  simp[h,List.isPrefixOf,this]
theorem count_cons (c b:UInt8) (r:List UInt8):count (b::r) [c]=(if b=c then 1 else 0)+count r [c]:=by
 rw[count_one,count_one,List.count_cons]
 by_cases h:b=c
 ·subst h;simp;omega
 ·simp[h]
theorem Kz (c b:UInt8) (h:b≠c):∀ (k:Nat) (r:List UInt8),splitK [c] 0 k (b::r)=(match splitK [c] 0 k r with | x::t=>(b::x)::t | []=>[[b]])
 | 0,r=>rfl
 | k+1,r=>by
  simp only[splitK,Ag,if_neg h]
  have hge:=index_ge r [c]
  by_cases h1:index r [c]= -1
  ·simp[h1]
  ·have e1:(index r [c]== -1)=false:=by simp[h1]
   have e2:(index r [c]+1== -1)=false:=by simp;omega
   simp only[e1,e2,Bool.false_eq_true,if_false]
   have e3:(index r [c]+1).toNat=(index r [c]).toNat+1:=by omega
   rw[e3]
   simp[Nat.add_assoc]
theorem Ej (c:UInt8):∀ (s:List UInt8),splitK [c] 0 (count s [c]) s=aS c s
 | []=>by
  have:count [] [c]=0:=by rw[count_one];rfl
  rw[this];rfl
 | b::r=>by
  have ih:=Ej c r
  rw[count_cons]
  by_cases h:b=c
  ·subst h
   rw[if_pos rfl,Nat.add_comm]
   simp only[splitK,Ag,aS]
   simp[ih]
  ·have hb:(b==c)=false:=by simp[h]
   rw[if_neg h,Nat.zero_add,Kz c b h,ih]
   simp only[aS,hb,cond_false]
   cases aS c r<;>rfl
end Go.Md
namespace Go.Dn
open Go.Md Go.Proofs Go.Shelf Go.RowKit Go.Lib
theorem Lh {G:Gh}:∀ (l:List ByteArray),bA (ax G .str) (l.map (·.data.toList)) (l.map Value.string)
 | []=>rfl
 | x::r=>⟨[.string x],r.map Value.string,rfl,by show [Value.string x]=[Value.string (bs x.data.toList)];simp[bs],Lh r⟩
theorem Ra {P:Program} {ρ:Ren} (L:LaysM.n146 P ρ) {G:Gh} {w:World} {ow:Nat->Option Nat} (s:List UInt8) (b:UInt8) (hG:Agr G w) (hT:cq P G) (hlen:s.length<4294967281): Calls P (ρ.f 146) #[.string (bs s),.string (bs [b])] w fun e w'=>∃ G' ow' vs,Ev G w ow ⟨[.val .str,.val .str],[.row (ρ.t 9) .str],fun x=>strings_Split x.1 x.2.1⟩ [.string (bs s),.string (bs [b])] (aS b s,()) e w' G' ow' vs:=by
 obtain⟨m,T,fz,hml⟩:=hT.maxLen _ L.m1
 have hcell:w.cell? ⟨ρ.g 1,0,none⟩=some (.int .i64 m):=by
  have:=hG _ _ hml
  simp[World.cell?,this]
 have hsz:(bs s).size=s.length:=List.size_toArray
 have h1b:1<=(bs [b]).size:=Nat.le_refl 1
 refine (Any.strings_Split { L with } L.i9 (bs s) (bs [b]) m w (by omega) hcell h1b).mono ?_
 rintro e w' ⟨rfl,rfl⟩
 have hsp:(splitB (bs [b]) 0 (countB (bs s) (bs [b])) (bs s)).map (·.data.toList)=aS b s:=by
  rw[splitB_data]
  exact Ej b s
 have hl:=splitB_all (bs [b]) h1b 0 _ (bs s) rfl
 have hle:=countB_le (bs [b]) h1b (bs s).size (bs s) (Nat.le_refl _)
 generalize splitB (bs [b]) 0 (countB (bs s) (bs [b])) (bs s)=q at hsp hl
 generalize countB (bs s) (bs [b])=n at hl hle
 have hrl:(aS b s).length=n+1:=by rw[<- hsp,List.length_map,hl]
 have hnone:G w.heap.size=none:=by
  cases hg:G w.heap.size with
  | none=>rfl
  | some o=>have:=aG (hG _ _ hg);omega
 have sw:n+1<=maxLen:=by
  have:maxLen=9223372036854775807:=rfl
  omega
 have hown:(w.alloc (.cells (q.map Value.string).toArray (ρ.t 9))).ownsRow 0 (ρ.t 9) 1 (.slice (some ⟨w.heap.size,0,none⟩) (n+1) (n+1)) (aS b s).length (q.map Value.string):=
  ⟨by rw[List.length_map,hl,hrl,Nat.mul_one],.inr ⟨w.heap.size,n+1,(q.map Value.string).toArray,by rw[hrl],Nat.zero_le _,heap_alloc_new w _,by rw[hrl];exact Nat.le_refl _,sw,by rw[List.size_toArray,List.length_map,hl,Nat.mul_one],
    by rw[hrl,Nat.mul_one];exact List.take_of_length_le (by show (q.map Value.string).length<=_;rw[List.length_map,hl];exact Nat.le_refl _)⟩⟩
 refine⟨G,fun i=>if i=w.heap.size then some (64*24) else none,[.slice (some ⟨w.heap.size,0,none⟩) (n+1) (n+1)], ?_⟩
 exact {
  ret:=rfl
  le:=Gh.le_refl G
  agr:=fun i o hi=>by
   have h1:=hG i o hi
   rw[heap_alloc_old w _ (aG h1)];exact h1
  size:=by simp
  os:=rfl
  output:=rfl
  old:=fun i hi _=>⟨heap_alloc_old w _ hi,rfl⟩
  own:=fun i j hj=>by
   by_cases e:i=w.heap.size
   ·subst e;exact⟨hnone,by simp,.inl (Nat.le_refl _)⟩
   ·simp only[e,if_false] at hj;cases hj
  out:=by
   refine⟨_,[],rfl,⟨⟨q.map Value.string,hown,by rw[<- hsp];exact Lh q⟩,fun k hk=> ?_⟩,rfl,trivial⟩
   have:some w.heap.size=some k:=hk
   cases this
   show (if w.heap.size=w.heap.size then some (64*24) else none)=_
   rw[if_pos rfl]
  hnd:=fun _=>rfl }
theorem Rb {s c:List UInt8} {r:List (List UInt8)} (h:strings_Split s c=some (r,())):∃ b,c=[b]/\s.length<4294967281/\r=aS b s:=by
 unfold strings_Split at h
 split at h
 ·rename_i b
  cases hb:decide (s.length<4294967281) with
  | false=>rw[hb] at h;cases h
  | true=>
   rw[hb] at h
   exact⟨b,rfl,of_decide_eq_true hb,(Prod.mk.inj (Option.some.inj h)).1.symm⟩
 ·cases h
theorem TQ {P:Program} {ρ:Ren} (L:LaysM.n146 P ρ):bQ P (ρ.f 146) ⟨[.val .str,.val .str],[.row (ρ.t 9) .str],fun x=>strings_Split x.1 x.2.1⟩:=by
 intro G w ow args x y hG how ha hm hT
 obtain⟨s,c,u⟩:=x
 obtain⟨r,u'⟩:=y
 obtain⟨v,us,h1,l1,hv,v',us',h2,l2,hv',h3⟩:=ha
 have e1:=h1 rfl
 have e2:=h2 rfl
 have e3:us'=[]:=h3
 have e4:v= .string (bs s):=by simpa [wF,bC,ax] using hv
 have e5:v'= .string (bs c):=by simpa [wF,bC,ax] using hv'
 subst e1;subst e2;subst e3;subst e4;subst e5
 obtain⟨b,rfl,hlen,rfl⟩:=Rb hm
 exact Ra L s b hG hT hlen
end Go.Dn
namespace Go.Dn
open Go Go.Md Go.Proofs Go.Shelf Go.Lib
end Go.Dn
namespace Go.Dn
open Go.Lib
theorem Oo (w:World) (k:Nat) (os:Array Obj):RowKit.Below w.heap.size w (Sort.grow (w.drewN k) os):=
 ⟨rfl,rfl,rfl,by show w.heap.size<=(w.heap++os).size;rw[Array.size_append];omega,fun b hb=>by
   show (w.heap++os)[b]? =w.heap[b]?
   rw[Array.getElem?_append_left hb]⟩
theorem TR {P:Program} {G:Gh} {w:World} (hG:Agr G w) (hT:cq P G) {g:Nat} (hg:P.globalNamed "internal/strconv.uint64pow10" =some g):TabIs P w "internal/strconv.uint64pow10" .u64 xE:=by
 obtain⟨T,fz,e⟩:=hT.pow g hg
 have h:=hG _ _ e
 unfold TabIs World.var?
 rw[hg,Option.bind_some,h]
theorem Nq {P:Program} {f:FuncId} {a t:Ty} {m:dQ [.val a]->Option (cx [.val a] [.val t])} {g:Nat} (hg:P.globalNamed "internal/strconv.uint64pow10" =some g) (ha:isLit a=true) (h:∀ (s:a.den) (r:t.den) (w:World),TabIs P w "internal/strconv.uint64pow10" .u64 xE->m (s,())=some (r,())->∃ v,(∀ G:Gh,bC G t r v)/\Calls P f #[By a s] w fun e w'=>e= .returned v/\RowKit.Below w.heap.size w w'):bQ P f ⟨[.val a],[.val t],m⟩:=by
 intro G w ow args x y hG how hargs hm hT
 obtain⟨s,u⟩:=x
 obtain⟨r,u'⟩:=y
 obtain⟨v,us,h1,_,hv,h3⟩:=hargs
 have e1:=h1 rfl
 have e3:us=[]:=h3
 have e4:v=By a s:=J5 ha hv
 subst e1;subst e3;subst e4
 obtain⟨z,hz,hc⟩:=h s r w (TR hG hT hg) hm
 refine hc.mono ?_
 rintro e w' ⟨he,hb⟩
 refine⟨G,fun _=>none,[z], ?_⟩
 exact {
  ret:=he
  le:=Gh.le_refl G
  agr:=fun b o hbo=>by
   have hw:=hG b o hbo
   have hlt:b<w.heap.size:=by
    rcases Nat.lt_or_ge b w.heap.size with h | h
    ·exact h
    ·rw[Array.getElem?_eq_none h] at hw;cases hw
   rw[hb.block b hlt];exact hw
  size:=hb.size
  os:=hb.os
  output:=hb.output
  old:=fun b hlt _=>⟨hb.block b hlt,rfl⟩
  own:=fun b i hbi=>by cases hbi
  out:=⟨_,_,rfl,hz G,rfl,trivial⟩
  hnd:=fun _=>rfl }
end Go.Dn
namespace Go.Proofs
open Go.Shelf
def Tryz.OW:Go.Shelf.Ren:=⟨fun | 160=>66 | 232=>116 | 231=>115 | 227=>117 | 234=>119 | 233=>118 | 236=>121 | 235=>120 | 228=>168 | 271=>170 | 151=>169 | 197=>157 | 120=>200 | 152=>199 | 260=>195 | 137=>209 | 119=>210 | 224=>131 | 225=>130 | 217=>129 | 266=>175 | n=>n,fun | 9=>9 | 4=>4 | 3=>3 | 5=>5 | 117=>133 | 116=>132 | 0=>0 | 124=>136 | 21=>21 | 105=>163 | 46=>110 | 119=>199 | 139=>202 | 138=>201 | n=>n,fun | 3=>5 | 4=>6 | n=>n⟩
theorem Tryz.Un:Go.Proofs.Lays.n160 Tryz.prog Tryz.OW:={
 mixed:=by kernel_rfl
 f119:=Tryz.func210.trans (congrArg some (by kernel_rfl))
 f120:=Tryz.func200.trans (congrArg some (by kernel_rfl))
 f137:=Tryz.func209.trans (congrArg some (by kernel_rfl))
 f151:=Tryz.func169.trans (congrArg some (by kernel_rfl))
 f152:=Tryz.func199.trans (congrArg some (by kernel_rfl))
 f160:=Tryz.func66.trans (congrArg some (by kernel_rfl))
 f197:=Tryz.func157.trans (congrArg some (by kernel_rfl))
 f217:=Tryz.func129.trans (congrArg some (by kernel_rfl))
 f224:=Tryz.func131.trans (congrArg some (by kernel_rfl))
 f225:=Tryz.func130.trans (congrArg some (by kernel_rfl))
 f227:=Tryz.func117.trans (congrArg some (by kernel_rfl))
 f228:=Tryz.func168.trans (congrArg some (by kernel_rfl))
 f231:=Tryz.func115.trans (congrArg some (by kernel_rfl))
 f232:=Tryz.func116.trans (congrArg some (by kernel_rfl))
 f233:=Tryz.func118.trans (congrArg some (by kernel_rfl))
 f234:=Tryz.func119.trans (congrArg some (by kernel_rfl))
 f235:=Tryz.func120.trans (congrArg some (by kernel_rfl))
 f236:=Tryz.func121.trans (congrArg some (by kernel_rfl))
 f260:=Tryz.func195.trans (congrArg some (by kernel_rfl))
 f266:=Tryz.func175.trans (congrArg some (by kernel_rfl))
 f271:=Tryz.func170.trans (congrArg some (by kernel_rfl))
 t0:=Tryz.underlying0
 a0:=Tryz.isAgg0
 z0:=Tryz.sizeOf0
 v0:=Tryz.zeroValue0
 t3:=Tryz.underlying3
 a3:=Tryz.isAgg3
 z3:=Tryz.sizeOf3
 v3:=Tryz.zeroValue3
 t4:=Tryz.underlying4
 a4:=Tryz.isAgg4
 z4:=Tryz.sizeOf4
 v4:=Tryz.zeroValue4
 t5:=Tryz.underlying5
 a5:=Tryz.isAgg5
 z5:=Tryz.sizeOf5
 v5:=Tryz.zeroValue5
 t9:=Tryz.underlying9
 a9:=Tryz.isAgg9
 z9:=Tryz.sizeOf9
 v9:=Tryz.zeroValue9
 t21:=Tryz.underlying21
 a21:=Tryz.isAgg21
 z21:=Tryz.sizeOf21
 v21:=Tryz.zeroValue21
 t46:=Tryz.underlying110
 a46:=Tryz.isAgg110
 z46:=Tryz.sizeOf110
 v46:=Tryz.zeroValue110
 t105:=Tryz.underlying163
 a105:=Tryz.isAgg163
 z105:=Tryz.sizeOf163
 v105:=Tryz.zeroValue163
 t116:=Tryz.underlying132
 a116:=Tryz.isAgg132
 z116:=Tryz.sizeOf132
 t117:=Tryz.underlying133
 a117:=Tryz.isAgg133
 z117:=Tryz.sizeOf133
 v117:=Tryz.zeroValue133
 t119:=Tryz.underlying199
 a119:=Tryz.isAgg199
 z119:=Tryz.sizeOf199
 t124:=Tryz.underlying136
 a124:=Tryz.isAgg136
 z124:=Tryz.sizeOf136
 v124:=Tryz.zeroValue136
 t138:=Tryz.underlying201
 a138:=Tryz.isAgg201
 z138:=Tryz.sizeOf201
 v138:=Tryz.zeroValue201
 t139:=Tryz.underlying202
 a139:=Tryz.isAgg202
 z139:=Tryz.sizeOf202
 v139:=Tryz.zeroValue202
 g3:=by kernel_rfl
 g4:=by kernel_rfl }
def Tryz.NF:Go.Shelf.Ren:=⟨fun | 146=>29 | 221=>60 | 268=>103 | 138=>104 | 143=>105 | 195=>156 | 197=>157 | 218=>158 | 219=>72 | 260=>195 | 217=>129 | 225=>130 | 224=>131 | 267=>132 | 266=>175 | 314=>176 | n=>n,fun | 9=>9 | 31=>34 | 3=>3 | 4=>4 | 0=>0 | 105=>163 | 21=>21 | 5=>5 | 46=>110 | 119=>199 | 139=>202 | 138=>201 | 146=>149 | 51=>148 | n=>n,fun | 1=>0 | 3=>5 | 4=>6 | n=>n⟩
theorem Tryz.Tu:Go.Proofs.LaysM.n146 Tryz.prog Tryz.NF:={
 mixed:=by kernel_rfl
 f138:=Tryz.func104.trans (congrArg some (by kernel_rfl))
 f143:=Tryz.func105.trans (congrArg some (by kernel_rfl))
 f146:=Tryz.func29.trans (congrArg some (by kernel_rfl))
 f195:=Tryz.func156.trans (congrArg some (by kernel_rfl))
 f197:=Tryz.func157.trans (congrArg some (by kernel_rfl))
 f217:=Tryz.func129.trans (congrArg some (by kernel_rfl))
 f218:=Tryz.func158.trans (congrArg some (by kernel_rfl))
 f219:=Tryz.func72.trans (congrArg some (by kernel_rfl))
 f221:=Tryz.func60.trans (congrArg some (by kernel_rfl))
 f224:=Tryz.func131.trans (congrArg some (by kernel_rfl))
 f225:=Tryz.func130.trans (congrArg some (by kernel_rfl))
 f260:=Tryz.func195.trans (congrArg some (by kernel_rfl))
 f266:=Tryz.func175.trans (congrArg some (by kernel_rfl))
 f267:=Tryz.func132.trans (congrArg some (by kernel_rfl))
 f268:=Tryz.func103.trans (congrArg some (by kernel_rfl))
 f314:=Tryz.func176.trans (congrArg some (by kernel_rfl))
 t0:=Tryz.underlying0
 a0:=Tryz.isAgg0
 z0:=Tryz.sizeOf0
 v0:=Tryz.zeroValue0
 t3:=Tryz.underlying3
 a3:=Tryz.isAgg3
 z3:=Tryz.sizeOf3
 v3:=Tryz.zeroValue3
 t4:=Tryz.underlying4
 a4:=Tryz.isAgg4
 z4:=Tryz.sizeOf4
 v4:=Tryz.zeroValue4
 t5:=Tryz.underlying5
 a5:=Tryz.isAgg5
 z5:=Tryz.sizeOf5
 v5:=Tryz.zeroValue5
 t9:=Tryz.underlying9
 a9:=Tryz.isAgg9
 z9:=Tryz.sizeOf9
 v9:=Tryz.zeroValue9
 t21:=Tryz.underlying21
 a21:=Tryz.isAgg21
 z21:=Tryz.sizeOf21
 v21:=Tryz.zeroValue21
 t31:=Tryz.underlying34
 a31:=Tryz.isAgg34
 z31:=Tryz.sizeOf34
 v31:=Tryz.zeroValue34
 t46:=Tryz.underlying110
 a46:=Tryz.isAgg110
 z46:=Tryz.sizeOf110
 v46:=Tryz.zeroValue110
 t51:=Tryz.underlying148
 a51:=Tryz.isAgg148
 z51:=Tryz.sizeOf148
 v51:=Tryz.zeroValue148
 t105:=Tryz.underlying163
 a105:=Tryz.isAgg163
 z105:=Tryz.sizeOf163
 v105:=Tryz.zeroValue163
 t119:=Tryz.underlying199
 a119:=Tryz.isAgg199
 z119:=Tryz.sizeOf199
 t138:=Tryz.underlying201
 a138:=Tryz.isAgg201
 z138:=Tryz.sizeOf201
 v138:=Tryz.zeroValue201
 t139:=Tryz.underlying202
 a139:=Tryz.isAgg202
 z139:=Tryz.sizeOf202
 v139:=Tryz.zeroValue202
 t146:=Tryz.underlying149
 a146:=Tryz.isAgg149
 z146:=Tryz.sizeOf149
 v146:=Tryz.zeroValue149
 g1:=by kernel_rfl
 g3:=by kernel_rfl
 g4:=by kernel_rfl
 i0:=by kernel_rfl
 i3:=by kernel_rfl
 i4:=by kernel_rfl
 i5:=by kernel_rfl
 i9:=by kernel_rfl
 i21:=by kernel_rfl
 i31:=by kernel_rfl
 i46:=by kernel_rfl
 i51:=by kernel_rfl
 i105:=by kernel_rfl
 i138:=by kernel_rfl
 i139:=by kernel_rfl
 i146:=by kernel_rfl
 m1:=by kernel_rfl
 s1_3:=fun w h=>Go.Proofs.cell_of_shapedOpen_int (zero:= #[.int .i64 0]) (t:=3) h (of_decide_eq_true (by kernel_rfl)) (by kernel_rfl) rfl (by kernel_rfl) (by kernel_rfl) Tryz.underlying3
 m3:=by kernel_rfl
 m4:=by kernel_rfl }
def Tryz.OY:Go.Shelf.Ren:=⟨fun | 172=>62 | 244=>107 | 245=>108 | 247=>159 | 279=>160 | 280=>161 | 281=>162 | 282=>163 | 287=>196 | 316=>197 | 171=>21 | 205=>198 | 321=>207 | 322=>208 | 243=>56 | 246=>95 | 283=>147 | 284=>148 | 285=>149 | 286=>150 | 129=>191 | 317=>190 | 318=>192 | 319=>193 | 320=>194 | 337=>205 | 338=>206 | n=>n,fun | 9=>9 | 3=>3 | 75=>51 | 76=>52 | 4=>4 | 5=>5 | 167=>165 | 37=>47 | 0=>0 | 85=>166 | 2=>2 | 168=>168 | 53=>151 | 175=>191 | 46=>110 | 210=>194 | 127=>88 | 145=>206 | 143=>204 | 21=>21 | 171=>154 | 173=>157 | 212=>188 | 51=>148 | 20=>20 | 213=>189 | 232=>208 | 233=>209 | 80=>66 | n=>n,fun | 15=>3 | 16=>4 | 17=>1 | 18=>7 | 19=>8 | n=>n⟩
theorem Tryz.Up:Go.Proofs.Lays.n172 Tryz.prog Tryz.OY:={
 mixed:=by kernel_rfl
 f129:=Tryz.func191.trans (congrArg some (by kernel_rfl))
 f171:=Tryz.func21.trans (congrArg some (by kernel_rfl))
 f172:=Tryz.func62.trans (congrArg some (by kernel_rfl))
 f205:=Tryz.func198.trans (congrArg some (by kernel_rfl))
 f243:=Tryz.func56.trans (congrArg some (by kernel_rfl))
 f244:=Tryz.func107.trans (congrArg some (by kernel_rfl))
 f245:=Tryz.func108.trans (congrArg some (by kernel_rfl))
 f246:=Tryz.func95.trans (congrArg some (by kernel_rfl))
 f247:=Tryz.func159.trans (congrArg some (by kernel_rfl))
 f279:=Tryz.func160.trans (congrArg some (by kernel_rfl))
 f280:=Tryz.func161.trans (congrArg some (by kernel_rfl))
 f281:=Tryz.func162.trans (congrArg some (by kernel_rfl))
 f282:=Tryz.func163.trans (congrArg some (by kernel_rfl))
 f283:=Tryz.func147.trans (congrArg some (by kernel_rfl))
 f284:=Tryz.func148.trans (congrArg some (by kernel_rfl))
 f285:=Tryz.func149.trans (congrArg some (by kernel_rfl))
 f286:=Tryz.func150.trans (congrArg some (by kernel_rfl))
 f287:=Tryz.func196.trans (congrArg some (by kernel_rfl))
 f316:=Tryz.func197.trans (congrArg some (by kernel_rfl))
 f317:=Tryz.func190.trans (congrArg some (by kernel_rfl))
 f318:=Tryz.func192.trans (congrArg some (by kernel_rfl))
 f319:=Tryz.func193.trans (congrArg some (by kernel_rfl))
 f320:=Tryz.func194.trans (congrArg some (by kernel_rfl))
 f321:=Tryz.func207.trans (congrArg some (by kernel_rfl))
 f322:=Tryz.func208.trans (congrArg some (by kernel_rfl))
 f337:=Tryz.func205.trans (congrArg some (by kernel_rfl))
 f338:=Tryz.func206.trans (congrArg some (by kernel_rfl))
 t0:=Tryz.underlying0
 a0:=Tryz.isAgg0
 z0:=Tryz.sizeOf0
 v0:=Tryz.zeroValue0
 t2:=Tryz.underlying2
 a2:=Tryz.isAgg2
 z2:=Tryz.sizeOf2
 v2:=Tryz.zeroValue2
 t3:=Tryz.underlying3
 a3:=Tryz.isAgg3
 z3:=Tryz.sizeOf3
 v3:=Tryz.zeroValue3
 t4:=Tryz.underlying4
 a4:=Tryz.isAgg4
 z4:=Tryz.sizeOf4
 v4:=Tryz.zeroValue4
 t5:=Tryz.underlying5
 a5:=Tryz.isAgg5
 z5:=Tryz.sizeOf5
 v5:=Tryz.zeroValue5
 t9:=Tryz.underlying9
 a9:=Tryz.isAgg9
 z9:=Tryz.sizeOf9
 v9:=Tryz.zeroValue9
 t20:=Tryz.underlying20
 a20:=Tryz.isAgg20
 z20:=Tryz.sizeOf20
 v20:=Tryz.zeroValue20
 t21:=Tryz.underlying21
 a21:=Tryz.isAgg21
 z21:=Tryz.sizeOf21
 v21:=Tryz.zeroValue21
 t37:=Tryz.underlying47
 a37:=Tryz.isAgg47
 z37:=Tryz.sizeOf47
 v37:=Tryz.zeroValue47
 t46:=Tryz.underlying110
 a46:=Tryz.isAgg110
 z46:=Tryz.sizeOf110
 v46:=Tryz.zeroValue110
 t51:=Tryz.underlying148
 a51:=Tryz.isAgg148
 z51:=Tryz.sizeOf148
 v51:=Tryz.zeroValue148
 t53:=Tryz.underlying151
 a53:=Tryz.isAgg151
 z53:=Tryz.sizeOf151
 v53:=Tryz.zeroValue151
 t75:=Tryz.underlying51
 a75:=Tryz.isAgg51
 z75:=Tryz.sizeOf51
 v75:=Tryz.zeroValue51
 t76:=Tryz.underlying52
 a76:=Tryz.isAgg52
 z76:=Tryz.sizeOf52
 v76:=Tryz.zeroValue52
 t85:=Tryz.underlying166
 a85:=Tryz.isAgg166
 z85:=Tryz.sizeOf166
 v85:=Tryz.zeroValue166
 t127:=Tryz.underlying88
 a127:=Tryz.isAgg88
 z127:=Tryz.sizeOf88
 v127:=Tryz.zeroValue88
 t143:=Tryz.underlying204
 a143:=Tryz.isAgg204
 z143:=Tryz.sizeOf204
 v143:=Tryz.zeroValue204
 t145:=Tryz.underlying206
 a145:=Tryz.isAgg206
 z145:=Tryz.sizeOf206
 v145:=Tryz.zeroValue206
 t167:=Tryz.underlying165
 a167:=Tryz.isAgg165
 z167:=Tryz.sizeOf165
 v167:=Tryz.zeroValue165
 t168:=Tryz.underlying168
 a168:=Tryz.isAgg168
 z168:=Tryz.sizeOf168
 v168:=Tryz.zeroValue168
 t171:=Tryz.underlying154
 a171:=Tryz.isAgg154
 z171:=Tryz.sizeOf154
 v171:=Tryz.zeroValue154
 t173:=Tryz.underlying157
 a173:=Tryz.isAgg157
 z173:=Tryz.sizeOf157
 v173:=Tryz.zeroValue157
 t175:=Tryz.underlying191
 a175:=Tryz.isAgg191
 z175:=Tryz.sizeOf191
 v175:=Tryz.zeroValue191
 t210:=Tryz.underlying194
 a210:=Tryz.isAgg194
 z210:=Tryz.sizeOf194
 v210:=Tryz.zeroValue194
 t212:=Tryz.underlying188
 a212:=Tryz.isAgg188
 z212:=Tryz.sizeOf188
 v212:=Tryz.zeroValue188
 t213:=Tryz.underlying189
 a213:=Tryz.isAgg189
 z213:=Tryz.sizeOf189
 t232:=Tryz.underlying208
 a232:=Tryz.isAgg208
 z232:=Tryz.sizeOf208
 v232:=Tryz.zeroValue208
 t233:=Tryz.underlying209
 a233:=Tryz.isAgg209
 z233:=Tryz.sizeOf209
 v233:=Tryz.zeroValue209
 g15:=by kernel_rfl
 g16:=by kernel_rfl
 g17:=by kernel_rfl
 g18:=by kernel_rfl
 g19:=by kernel_rfl }
def Tryz.OZ:Go.Shelf.Ren:=⟨fun | 217=>129 | 266=>175 | n=>n,fun | 9=>9 | 5=>5 | 3=>3 | n=>n,fun | n=>n⟩
theorem Tryz.Uq:Go.Proofs.Lays.n217 Tryz.prog Tryz.OZ:={
 mixed:=by kernel_rfl
 f217:=Tryz.func129.trans (congrArg some (by kernel_rfl))
 f266:=Tryz.func175.trans (congrArg some (by kernel_rfl))
 t3:=Tryz.underlying3
 a3:=Tryz.isAgg3
 z3:=Tryz.sizeOf3
 v3:=Tryz.zeroValue3
 t5:=Tryz.underlying5
 a5:=Tryz.isAgg5
 z5:=Tryz.sizeOf5
 v5:=Tryz.zeroValue5
 t9:=Tryz.underlying9
 a9:=Tryz.isAgg9
 z9:=Tryz.sizeOf9
 v9:=Tryz.zeroValue9 }
def Tryz.NG:Go.Shelf.Ren:=⟨fun | 171=>21 | 243=>56 | 246=>95 | 283=>147 | 284=>148 | 285=>149 | 286=>150 | 129=>191 | 317=>190 | 318=>192 | 319=>193 | 320=>194 | 337=>205 | 338=>206 | n=>n,fun | 3=>3 | 9=>9 | 2=>2 | 4=>4 | 171=>154 | 0=>0 | 53=>151 | 37=>47 | 5=>5 | 173=>157 | 212=>188 | 51=>148 | 20=>20 | 213=>189 | 46=>110 | 232=>208 | 233=>209 | n=>n,fun | 17=>1 | 18=>7 | 19=>8 | n=>n⟩
theorem Tryz.Tv:Go.Proofs.LaysM.n171 Tryz.prog Tryz.NG:={
 mixed:=by kernel_rfl
 f129:=Tryz.func191.trans (congrArg some (by kernel_rfl))
 f171:=Tryz.func21.trans (congrArg some (by kernel_rfl))
 f243:=Tryz.func56.trans (congrArg some (by kernel_rfl))
 f246:=Tryz.func95.trans (congrArg some (by kernel_rfl))
 f283:=Tryz.func147.trans (congrArg some (by kernel_rfl))
 f284:=Tryz.func148.trans (congrArg some (by kernel_rfl))
 f285:=Tryz.func149.trans (congrArg some (by kernel_rfl))
 f286:=Tryz.func150.trans (congrArg some (by kernel_rfl))
 f317:=Tryz.func190.trans (congrArg some (by kernel_rfl))
 f318:=Tryz.func192.trans (congrArg some (by kernel_rfl))
 f319:=Tryz.func193.trans (congrArg some (by kernel_rfl))
 f320:=Tryz.func194.trans (congrArg some (by kernel_rfl))
 f337:=Tryz.func205.trans (congrArg some (by kernel_rfl))
 f338:=Tryz.func206.trans (congrArg some (by kernel_rfl))
 t0:=Tryz.underlying0
 a0:=Tryz.isAgg0
 z0:=Tryz.sizeOf0
 v0:=Tryz.zeroValue0
 t2:=Tryz.underlying2
 a2:=Tryz.isAgg2
 z2:=Tryz.sizeOf2
 v2:=Tryz.zeroValue2
 t3:=Tryz.underlying3
 a3:=Tryz.isAgg3
 z3:=Tryz.sizeOf3
 v3:=Tryz.zeroValue3
 t4:=Tryz.underlying4
 a4:=Tryz.isAgg4
 z4:=Tryz.sizeOf4
 v4:=Tryz.zeroValue4
 t5:=Tryz.underlying5
 a5:=Tryz.isAgg5
 z5:=Tryz.sizeOf5
 v5:=Tryz.zeroValue5
 t9:=Tryz.underlying9
 a9:=Tryz.isAgg9
 z9:=Tryz.sizeOf9
 v9:=Tryz.zeroValue9
 t20:=Tryz.underlying20
 a20:=Tryz.isAgg20
 z20:=Tryz.sizeOf20
 v20:=Tryz.zeroValue20
 t37:=Tryz.underlying47
 a37:=Tryz.isAgg47
 z37:=Tryz.sizeOf47
 v37:=Tryz.zeroValue47
 t46:=Tryz.underlying110
 a46:=Tryz.isAgg110
 z46:=Tryz.sizeOf110
 v46:=Tryz.zeroValue110
 t51:=Tryz.underlying148
 a51:=Tryz.isAgg148
 z51:=Tryz.sizeOf148
 v51:=Tryz.zeroValue148
 t53:=Tryz.underlying151
 a53:=Tryz.isAgg151
 z53:=Tryz.sizeOf151
 v53:=Tryz.zeroValue151
 t171:=Tryz.underlying154
 a171:=Tryz.isAgg154
 z171:=Tryz.sizeOf154
 v171:=Tryz.zeroValue154
 t173:=Tryz.underlying157
 a173:=Tryz.isAgg157
 z173:=Tryz.sizeOf157
 v173:=Tryz.zeroValue157
 t212:=Tryz.underlying188
 a212:=Tryz.isAgg188
 z212:=Tryz.sizeOf188
 v212:=Tryz.zeroValue188
 t213:=Tryz.underlying189
 a213:=Tryz.isAgg189
 z213:=Tryz.sizeOf189
 t232:=Tryz.underlying208
 a232:=Tryz.isAgg208
 z232:=Tryz.sizeOf208
 v232:=Tryz.zeroValue208
 t233:=Tryz.underlying209
 a233:=Tryz.isAgg209
 z233:=Tryz.sizeOf209
 v233:=Tryz.zeroValue209
 g17:=by kernel_rfl
 g18:=by kernel_rfl
 g19:=by kernel_rfl
 i0:=by kernel_rfl
 i2:=by kernel_rfl
 i3:=by kernel_rfl
 i4:=by kernel_rfl
 i5:=by kernel_rfl
 i9:=by kernel_rfl
 i20:=by kernel_rfl
 i37:=by kernel_rfl
 i46:=by kernel_rfl
 i51:=by kernel_rfl
 i53:=by kernel_rfl
 i171:=by kernel_rfl
 i173:=by kernel_rfl
 i212:=by kernel_rfl
 i232:=by kernel_rfl
 i233:=by kernel_rfl
 m17:=by kernel_rfl
 m18:=by kernel_rfl
 m19:=by kernel_rfl }
def Tryz.OV:Go.Shelf.Ren:=⟨fun | 106=>127 | 213=>173 | 265=>201 | n=>n,fun | 9=>9 | 3=>3 | n=>n,fun | n=>n⟩
theorem Tryz.Um:Go.Proofs.Lays.n106 Tryz.prog Tryz.OV:={
 mixed:=by kernel_rfl
 f106:=Tryz.func127.trans (congrArg some (by kernel_rfl))
 f213:=Tryz.func173.trans (congrArg some (by kernel_rfl))
 f265:=Tryz.func201.trans (congrArg some (by kernel_rfl))
 t3:=Tryz.underlying3
 a3:=Tryz.isAgg3
 z3:=Tryz.sizeOf3
 v3:=Tryz.zeroValue3
 t9:=Tryz.underlying9
 a9:=Tryz.isAgg9
 z9:=Tryz.sizeOf9
 v9:=Tryz.zeroValue9 }
def Tryz.FD:Go.Shelf.Ren:=⟨fun | 105=>53 | 212=>91 | 99=>92 | 165=>93 | 166=>19 | 170=>24 | 169=>25 | 263=>143 | 264=>144 | 206=>145 | 240=>54 | 241=>146 | 276=>94 | 277=>189 | n=>n,fun | 9=>9 | 3=>3 | 4=>4 | 20=>20 | 0=>0 | 46=>110 | 109=>111 | 5=>5 | 72=>49 | 76=>52 | 51=>148 | 146=>149 | 53=>151 | 148=>152 | 70=>46 | 37=>47 | 75=>51 | 127=>88 | 164=>115 | 80=>66 | n=>n,fun | n=>n⟩
theorem Tryz.Ul:Go.Proofs.Lays.n105 Tryz.prog Tryz.FD:={
 mixed:=by kernel_rfl
 f99:=Tryz.func92.trans (congrArg some (by kernel_rfl))
 f105:=Tryz.func53.trans (congrArg some (by kernel_rfl))
 f165:=Tryz.func93.trans (congrArg some (by kernel_rfl))
 f166:=Tryz.func19.trans (congrArg some (by kernel_rfl))
 f169:=Tryz.func25.trans (congrArg some (by kernel_rfl))
 f170:=Tryz.func24.trans (congrArg some (by kernel_rfl))
 f206:=Tryz.func145.trans (congrArg some (by kernel_rfl))
 f212:=Tryz.func91.trans (congrArg some (by kernel_rfl))
 f240:=Tryz.func54.trans (congrArg some (by kernel_rfl))
 f241:=Tryz.func146.trans (congrArg some (by kernel_rfl))
 f263:=Tryz.func143.trans (congrArg some (by kernel_rfl))
 f264:=Tryz.func144.trans (congrArg some (by kernel_rfl))
 f276:=Tryz.func94.trans (congrArg some (by kernel_rfl))
 f277:=Tryz.func189.trans (congrArg some (by kernel_rfl))
 t0:=Tryz.underlying0
 a0:=Tryz.isAgg0
 z0:=Tryz.sizeOf0
 v0:=Tryz.zeroValue0
 t3:=Tryz.underlying3
 a3:=Tryz.isAgg3
 z3:=Tryz.sizeOf3
 v3:=Tryz.zeroValue3
 t4:=Tryz.underlying4
 a4:=Tryz.isAgg4
 z4:=Tryz.sizeOf4
 v4:=Tryz.zeroValue4
 t5:=Tryz.underlying5
 a5:=Tryz.isAgg5
 z5:=Tryz.sizeOf5
 v5:=Tryz.zeroValue5
 t9:=Tryz.underlying9
 a9:=Tryz.isAgg9
 z9:=Tryz.sizeOf9
 v9:=Tryz.zeroValue9
 t20:=Tryz.underlying20
 a20:=Tryz.isAgg20
 z20:=Tryz.sizeOf20
 v20:=Tryz.zeroValue20
 t37:=Tryz.underlying47
 a37:=Tryz.isAgg47
 z37:=Tryz.sizeOf47
 v37:=Tryz.zeroValue47
 t46:=Tryz.underlying110
 a46:=Tryz.isAgg110
 z46:=Tryz.sizeOf110
 v46:=Tryz.zeroValue110
 t51:=Tryz.underlying148
 a51:=Tryz.isAgg148
 z51:=Tryz.sizeOf148
 v51:=Tryz.zeroValue148
 t53:=Tryz.underlying151
 a53:=Tryz.isAgg151
 z53:=Tryz.sizeOf151
 v53:=Tryz.zeroValue151
 t70:=Tryz.underlying46
 a70:=Tryz.isAgg46
 z70:=Tryz.sizeOf46
 v70:=Tryz.zeroValue46
 t72:=Tryz.underlying49
 a72:=Tryz.isAgg49
 z72:=Tryz.sizeOf49
 v72:=Tryz.zeroValue49
 t75:=Tryz.underlying51
 a75:=Tryz.isAgg51
 z75:=Tryz.sizeOf51
 v75:=Tryz.zeroValue51
 t76:=Tryz.underlying52
 a76:=Tryz.isAgg52
 z76:=Tryz.sizeOf52
 v76:=Tryz.zeroValue52
 t109:=Tryz.underlying111
 a109:=Tryz.isAgg111
 z109:=Tryz.sizeOf111
 v109:=Tryz.zeroValue111
 t127:=Tryz.underlying88
 a127:=Tryz.isAgg88
 z127:=Tryz.sizeOf88
 v127:=Tryz.zeroValue88
 t146:=Tryz.underlying149
 a146:=Tryz.isAgg149
 z146:=Tryz.sizeOf149
 v146:=Tryz.zeroValue149
 t148:=Tryz.underlying152
 a148:=Tryz.isAgg152
 z148:=Tryz.sizeOf152
 v148:=Tryz.zeroValue152
 t164:=Tryz.underlying115
 a164:=Tryz.isAgg115
 z164:=Tryz.sizeOf115
 v164:=Tryz.zeroValue115 }
def Tryz.uM:Go.Shelf.Ren:=⟨fun | 156=>55 | 165=>93 | 166=>19 | 169=>25 | 240=>54 | 241=>146 | 276=>94 | 277=>189 | n=>n,fun | 31=>34 | 9=>9 | 3=>3 | 4=>4 | 0=>0 | 20=>20 | 72=>49 | 76=>52 | 70=>46 | 37=>47 | 75=>51 | 127=>88 | 164=>115 | 5=>5 | 80=>66 | n=>n,fun | n=>n⟩
theorem Tryz.J2:Go.Proofs.Lays.n156 Tryz.prog Tryz.uM:={
 mixed:=by kernel_rfl
 f156:=Tryz.func55.trans (congrArg some (by kernel_rfl))
 f165:=Tryz.func93.trans (congrArg some (by kernel_rfl))
 f166:=Tryz.func19.trans (congrArg some (by kernel_rfl))
 f169:=Tryz.func25.trans (congrArg some (by kernel_rfl))
 f240:=Tryz.func54.trans (congrArg some (by kernel_rfl))
 f241:=Tryz.func146.trans (congrArg some (by kernel_rfl))
 f276:=Tryz.func94.trans (congrArg some (by kernel_rfl))
 f277:=Tryz.func189.trans (congrArg some (by kernel_rfl))
 t0:=Tryz.underlying0
 a0:=Tryz.isAgg0
 z0:=Tryz.sizeOf0
 v0:=Tryz.zeroValue0
 t3:=Tryz.underlying3
 a3:=Tryz.isAgg3
 z3:=Tryz.sizeOf3
 v3:=Tryz.zeroValue3
 t4:=Tryz.underlying4
 a4:=Tryz.isAgg4
 z4:=Tryz.sizeOf4
 v4:=Tryz.zeroValue4
 t9:=Tryz.underlying9
 a9:=Tryz.isAgg9
 z9:=Tryz.sizeOf9
 v9:=Tryz.zeroValue9
 t20:=Tryz.underlying20
 a20:=Tryz.isAgg20
 z20:=Tryz.sizeOf20
 v20:=Tryz.zeroValue20
 t31:=Tryz.underlying34
 a31:=Tryz.isAgg34
 z31:=Tryz.sizeOf34
 v31:=Tryz.zeroValue34
 t37:=Tryz.underlying47
 a37:=Tryz.isAgg47
 z37:=Tryz.sizeOf47
 v37:=Tryz.zeroValue47
 t70:=Tryz.underlying46
 a70:=Tryz.isAgg46
 z70:=Tryz.sizeOf46
 v70:=Tryz.zeroValue46
 t72:=Tryz.underlying49
 a72:=Tryz.isAgg49
 z72:=Tryz.sizeOf49
 v72:=Tryz.zeroValue49
 t75:=Tryz.underlying51
 a75:=Tryz.isAgg51
 z75:=Tryz.sizeOf51
 v75:=Tryz.zeroValue51
 t76:=Tryz.underlying52
 a76:=Tryz.isAgg52
 z76:=Tryz.sizeOf52
 v76:=Tryz.zeroValue52
 t127:=Tryz.underlying88
 a127:=Tryz.isAgg88
 z127:=Tryz.sizeOf88
 v127:=Tryz.zeroValue88
 t164:=Tryz.underlying115
 a164:=Tryz.isAgg115
 z164:=Tryz.sizeOf115
 v164:=Tryz.zeroValue115 }
def Tryz.OX:Go.Shelf.Ren:=⟨fun | 170=>24 | n=>n,fun | 70=>46 | 3=>3 | 0=>0 | 72=>49 | 37=>47 | 5=>5 | n=>n,fun | n=>n⟩
theorem Tryz.Uo:Go.Proofs.Lays.n170 Tryz.prog Tryz.OX:={
 mixed:=by kernel_rfl
 f170:=Tryz.func24.trans (congrArg some (by kernel_rfl))
 t0:=Tryz.underlying0
 a0:=Tryz.isAgg0
 z0:=Tryz.sizeOf0
 v0:=Tryz.zeroValue0
 t3:=Tryz.underlying3
 a3:=Tryz.isAgg3
 z3:=Tryz.sizeOf3
 v3:=Tryz.zeroValue3
 t37:=Tryz.underlying47
 a37:=Tryz.isAgg47
 z37:=Tryz.sizeOf47
 v37:=Tryz.zeroValue47
 t70:=Tryz.underlying46
 a70:=Tryz.isAgg46
 z70:=Tryz.sizeOf46
 v70:=Tryz.zeroValue46
 t72:=Tryz.underlying49
 a72:=Tryz.isAgg49
 z72:=Tryz.sizeOf49
 v72:=Tryz.zeroValue49 }
end Go.Proofs
namespace Go.Proofs
theorem Tryz.EZ:Builder.Extra Tryz.prog Tryz.FD:={
 sizeBuilder:=by kernel_rfl
 liesBuilder:=by kernel_rfl
 t5:=Tryz.underlying5
 a5:=Tryz.isAgg5
 z5:=Tryz.sizeOf5
 v5:=Tryz.zeroValue5
 infoByte:=by kernel_rfl
 cellsByte:=by kernel_rfl
 sizeByte:=by kernel_rfl
 neB5:=by decide }
end Go.Proofs
namespace Go.Proofs
theorem Tryz.pE:Builder.Extra Tryz.prog Tryz.uM:={
 sizeBuilder:=by kernel_rfl
 liesBuilder:=by kernel_rfl
 t5:=Tryz.underlying5
 a5:=Tryz.isAgg5
 z5:=Tryz.sizeOf5
 v5:=Tryz.zeroValue5
 infoByte:=by kernel_rfl
 cellsByte:=by kernel_rfl
 sizeByte:=by kernel_rfl
 neB5:=by decide }
end Go.Proofs
namespace Go.Proofs.SeatU
open Go.Dn Go.Md Go.Proofs Go.RowKit Go.Shelf Go.Lib
def tc:ak:=⟨[.val .str,.val .str],[.val .str],fun x=>dV x.1 x.2.1⟩
theorem Ib:cm Tryz.prog 66:=cX (fn:=Tryz.f66) (by kernel_rfl) rfl (by decide)
theorem Iu:bQ Tryz.prog 66 tc:=by
 intro G w ow args x y hG how ha hm
 refine OS (P:=Tryz.prog) (f:=66) (m:=tc.m) ?_ G w ow args x y hG how ha hm
 intro s c r w hm
 replace hm:dV s c=some (r,()):=hm
 unfold dV at hm
 cases hb:(decide (s.length<=9223372036854775807)&&(decide (c.length<4294967281)&&c.all fun b=>decide (b.toNat<128))) with
 | false=>rw[hb] at hm;cases hm
 | true=>
  rw[hb] at hm
  simp only[cond_true,Option.some.injEq,Prod.mk.injEq,and_true] at hm
  subst hm
  simp only[Bool.and_eq_true,decide_eq_true_eq,List.all_eq_true] at hb
  have:=Any.strings_Trim_laid Tryz.Un (by kernel_rfl) (bs s) (bs c) w (by simpa [bs,ByteArray.size] using hb.1) (by simpa [bs,ByteArray.size] using hb.2.1) (fun j b hj=>hb.2.2 b (List.mem_of_getElem? (by simpa [bs] using hj)))
  change Calls Tryz.prog 66 _ _ _ at this
  simpa [bs] using this
def eP:ak:=⟨[.val .str,.val (.int .u8)],[.val tI],fun x=>cw x.1 x.2.1⟩
theorem p4:cm Tryz.prog 129:=cX (fn:=Tryz.f129) (by kernel_rfl) rfl (by decide)
theorem p9:bQ Tryz.prog 129 eP:=by
 intro G w ow args x y hG how ha hm
 refine FC (P:=Tryz.prog) (f:=129) (a:= .str) (a':= .int .u8) (t:=tI) (m:=eP.m) rfl rfl ?_ G w ow args x y hG how ha hm
 intro s c r w hm
 replace hm:cw s c=some (r,()):=hm
 unfold cw at hm
 obtain rfl:Lib.indexByte s c.toNat.toUInt8=r:=congrArg (fun o=>(Option.getD o (0,())).1) hm
 have:=Any.stringslite_IndexByte Tryz.Uq (bs s) c w
 refine⟨.int .i64 (Lib.indexByte s c.toNat.toUInt8),fun G=>rfl,this.mono ?_⟩
 rintro e w' ⟨he,rfl⟩
 exact⟨he,RowKit.Below.refl _ _⟩
def rm:ak:=⟨[.val .str,.val .str],[.row 9 .str],fun x=>strings_Split x.1 x.2.1⟩
theorem xu:cm Tryz.prog 29:=cX (fn:=Tryz.f29) (by kernel_rfl) rfl (by decide)
theorem xD:bQ Tryz.prog 29 rm:=TQ Tryz.Tu
theorem T7 (n:Nat) (h:n<100):Lib.decDigits n=M0 n:=by
 unfold M0
 rw[Lib.decDigits]
 by_cases h1:n<10
 ·simp[h1]
 ·rw[dif_neg h1,Lib.decDigits,dif_pos (by omega),if_neg h1];rfl
def gU:ak:=⟨[.val tI],[.val .str],fun x=>strconv_Itoa x.1⟩
theorem nC:cm Tryz.prog 21:=cX (fn:=Tryz.f21) (by kernel_rfl) rfl (by decide)
theorem jN:bQ Tryz.prog 21 gU:=by
 intro G w ow args x y hG how ha hm
 refine Nq (P:=Tryz.prog) (f:=21) (a:=tI) (t:= .str) (m:=gU.m) (g:=1) (by kernel_rfl) rfl ?_ G w ow args x y hG how ha hm
 intro (n:Int) (r:List UInt8) w htab hm
 replace hm:strconv_Itoa n=some (r,()):=hm
 unfold strconv_Itoa at hm
 have fin: -9223372036854775808<=n->n<=9223372036854775807->Lib.itoa n=r->∃ v,(∀ G:Gh,bC G .str r v)/\Calls Tryz.prog 21 #[By tI n] w fun e w'=>e= .returned v/\RowKit.Below w.heap.size w w':=by
  intro h0 h1 e
  subst e
  have:=Any.strconv_Itoa Tryz.Tv n h0 h1 w htab
  refine⟨.string (bs (Lib.itoa n)),fun G=>rfl,this.mono ?_⟩
  rintro e w' ⟨he,k,os,rfl⟩
  exact⟨he,Oo w k os⟩
 cases hb:(decide (0<=n)&&decide (n<100)) with
 | true=>
  rw[hb] at hm
  simp only[cond_true,Option.some.injEq,Prod.mk.injEq,and_true] at hm
  simp only[Bool.and_eq_true,decide_eq_true_eq] at hb
  obtain⟨k,rfl⟩:∃ k:Nat,n=k:=⟨n.toNat,by omega⟩
  refine fin (by omega) (by omega) ?_
  rw[<- hm,Int.toNat_natCast, <- T7 k (by omega)]
  rfl
 | false=>
  rw[hb,cond_false] at hm
  cases hc:(decide (-9223372036854775808<=n)&&decide (n<=9223372036854775807)) with
  | false=>rw[hc] at hm;cases hm
  | true=>
   rw[hc] at hm
   simp only[cond_true,Option.some.injEq,Prod.mk.injEq,and_true] at hm
   simp only[Bool.and_eq_true,decide_eq_true_eq] at hc
   exact fin hc.1 hc.2 hm
def ij:ak:=⟨[.val .str,.val tI],[.val .str],fun x=>strings_Repeat x.1 x.2.1⟩
theorem pG:cm Tryz.prog 53:=cX (fn:=Tryz.f53) (by kernel_rfl) rfl (by decide)
theorem pH:bQ Tryz.prog 53 ij:=by
 intro G w ow args x y hG how ha hm
 refine FC (P:=Tryz.prog) (f:=53) (a:= .str) (a':=tI) (t:= .str) (m:=ij.m) rfl rfl ?_ G w ow args x y hG how ha hm
 intro (s:List UInt8) (n:Int) (r:List UInt8) w hm
 replace hm:strings_Repeat s n=some (r,()):=hm
 unfold strings_Repeat at hm
 cases hb:(decide (0<=n)&&(decide (n<=9223372036854775807)&&decide (s.length*n.toNat<=140737488355328))) with
 | false=>rw[hb] at hm;cases hm
 | true=>
  rw[hb] at hm
  simp only[cond_true,Option.some.injEq,Prod.mk.injEq,and_true] at hm
  subst hm
  simp only[Bool.and_eq_true,decide_eq_true_eq] at hb
  obtain⟨k,rfl⟩:∃ k:Nat,n=k:=⟨n.toNat,by omega⟩
  have hsz:(bs s).size=s.length:=by simp[bs,ByteArray.size]
  have:=Any.strings_Repeat Tryz.Ul Tryz.EZ (bs s) k w (by omega) (by rw[hsz];simpa using hb.2.2)
  refine⟨.string (bs (Lib.repeatL s k)),fun G=>rfl,this.mono ?_⟩
  rintro e w' ⟨he,hbel⟩
  exact⟨he,hbel⟩
def gN:ak:=⟨[.val .str,.val .str],[.val tI],fun x=>strings_Compare x.1 x.2.1⟩
theorem nQ:cm Tryz.prog 127:=cX (fn:=Tryz.f127) (by kernel_rfl) rfl (by decide)
theorem nX:bQ Tryz.prog 127 gN:=by
 intro G w ow args x y hG how ha hm
 refine RR (P:=Tryz.prog) (f:=127) (t:=tI) (m:=gN.m) ?_ G w ow args x y hG how ha hm
 intro s c r w hm
 replace hm:strings_Compare s c=some (r,()):=hm
 unfold strings_Compare at hm
 obtain rfl:Lib.compareBytes s c=r:=congrArg (fun o=>(Option.getD o (0,())).1) hm
 have:=Any.strings_Compare Tryz.Um (bs s) (bs c) w
 refine⟨.int .i64 (Lib.compareBytes s c),fun G=> ?_,this.mono ?_⟩
 ·rfl
 ·rintro e w' ⟨he,rfl⟩
  exact⟨he,Below.refl _ _⟩
def yN:ak:=⟨[.val (.slice .str),.val .str],[.val .str],fun x=>strings_Join x.1 x.2.1⟩
theorem Ia:cm Tryz.prog 55:=cX (fn:=Tryz.f55) (by kernel_rfl) rfl (by decide)
theorem It:bQ Tryz.prog 55 yN:=Uh Tryz.J2 Tryz.pE
noncomputable def s5:ak:=⟨[.val .str],[.val tI],fun x=>wj x.1⟩
theorem Bo:cm Tryz.prog 87:=cX (fn:=Tryz.f87) (by kernel_rfl) rfl (by decide)
theorem BE:bQ Tryz.prog 87 s5:=gz Tryz.prog 87 [.val .str] [.val tI]
noncomputable def ri:ak:=⟨[.val .str],[.val .bool],fun x=>vS x.1⟩
theorem xq:cm Tryz.prog 89:=cX (fn:=Tryz.f89) (by kernel_rfl) rfl (by decide)
theorem xC:bQ Tryz.prog 89 ri:=gz Tryz.prog 89 [.val .str] [.val .bool]
noncomputable def xU:ak:=⟨[.val .str],[.val .bool],fun x=>B6 x.1⟩
theorem Gz:cm Tryz.prog 86:=cX (fn:=Tryz.f86) (by kernel_rfl) rfl (by decide)
theorem GI:bQ Tryz.prog 86 xU:=gz Tryz.prog 86 [.val .str] [.val .bool]
noncomputable def yJ:ak:=⟨[.val .str],[.val .bool],fun x=>CL x.1⟩
theorem H7:cm Tryz.prog 140:=cX (fn:=Tryz.f140) (by kernel_rfl) rfl (by decide)
theorem Iq:bQ Tryz.prog 140 yJ:=gz Tryz.prog 140 [.val .str] [.val .bool]
noncomputable def xV:ak:=⟨[.val tI,.val tI],[.val .str],fun x=>B7 x.1 x.2.1⟩
theorem GA:cm Tryz.prog 88:=cX (fn:=Tryz.f88) (by kernel_rfl) rfl (by decide)
theorem GJ:bQ Tryz.prog 88 xV:=gz Tryz.prog 88 [.val tI,.val tI] [.val .str]
noncomputable def yL:ak:=⟨[.val .str,.val .bool],[.val .bool],fun x=>xL x.1 x.2.1⟩
theorem H8:cm Tryz.prog 178:=cX (fn:=Tryz.f178) (by kernel_rfl) rfl (by decide)
theorem Ir:bQ Tryz.prog 178 yL:=gz Tryz.prog 178 [.val .str,.val .bool] [.val .bool]
noncomputable def yM:ak:=⟨[.val .str,.val tI],[.val tI],fun x=>D3 x.1 x.2.1⟩
theorem H9:cm Tryz.prog 179:=cX (fn:=Tryz.f179) (by kernel_rfl) rfl (by decide)
theorem Is:bQ Tryz.prog 179 yM:=gz Tryz.prog 179 [.val .str,.val tI] [.val tI]
noncomputable def AJ:ak:=⟨[.val .str],[.val (.int .u8)],fun x=>FK x.1⟩
theorem JX:cm Tryz.prog 181:=cX (fn:=Tryz.f181) (by kernel_rfl) rfl (by decide)
theorem Kf:bQ Tryz.prog 181 AJ:=gz Tryz.prog 181 [.val .str] [.val (.int .u8)]
noncomputable def Eg:ak:=⟨[.val .str],[.val .str],fun x=>Lc x.1⟩
theorem Ns:cm Tryz.prog 180:=cX (fn:=Tryz.f180) (by kernel_rfl) rfl (by decide)
theorem NR:bQ Tryz.prog 180 Eg:=gz Tryz.prog 180 [.val .str] [.val .str]
end Go.Proofs.SeatU
set_option maxRecDepth 100000
namespace Go.Proofs.SeatU
open Go.Dn Go.Md Go.Proofs Go.RowKit Go.Shelf Go.Lib
def xd:List (Nat×Ann):=[(2,⟨[(0,.val .str),(1,.val (.int .u8)),(2,.val (.int .u8)),(9,.val tI),(10,.val tI)],[],[],aW _⟩),
 (200002,⟨[],[],[],fun _=>0⟩)]
noncomputable def lE:ak:=⟨[.val .str,.val (.int .u8),.val (.int .u8)],[.val .bool],fun x=>zj x.1 x.2.1 x.2.2.1⟩
noncomputable def zX:Cx:=⟨Tryz.prog,[],[]⟩
theorem HH:∀ x,Gn zX xd none Tryz.f106 lE x=lE.m x:=by intro x;kernel_rfl
theorem JU:cm Tryz.prog 106:=cX (fn:=Tryz.f106) (by kernel_rfl) rfl (by decide)
theorem Kb:bQ Tryz.prog 106 lE:=Np (X:=zX) (.nil _) (by kernel_rfl) lE xd none (by kernel_rfl) (fun x y h=>(HH x).trans h)
def wk:List (Nat×Ann):=[]
noncomputable def eC:ak:=⟨[.val .str],[.val .bool],fun x=>gG x.1⟩
noncomputable def yt:Cx:=⟨Tryz.prog,[(106,lE)],[]⟩
theorem Gp:∀ x,Gn yt wk none Tryz.f61 eC x=eC.m x:=by intro x;kernel_rfl
theorem nB:cm Tryz.prog 61:=cX (fn:=Tryz.f61) (by kernel_rfl) rfl (by decide)
theorem jM:bQ Tryz.prog 61 eC:=Np (X:=yt) (.cons Kb JU (.nil _)) (by kernel_rfl) eC wk none (by kernel_rfl) (fun x y h=>(Gp x).trans h)
structure Kept (w w':World):Prop where
 size:w.heap.size<=w'.heap.size
 os:w'.os=w.os
 output:w'.output=w.output
 block:∀ b,b<w.heap.size->w'.heap[b]? =w.heap[b]?
theorem Kept.refl (w:World):Kept w w:=⟨Nat.le_refl _,rfl,rfl,fun _ _=>rfl⟩
theorem Kept.trans {a b c:World} (h:Kept a b) (k:Kept b c):Kept a c:=⟨Nat.le_trans h.size k.size,k.os.trans h.os,k.output.trans h.output,fun i hi=>(k.block i (Nat.lt_of_lt_of_le hi h.size)).trans (h.block i hi)⟩
theorem Kept.drawn {a b:World} (h:Kept a b) (n:Nat):Kept a (b.drewN n):=⟨h.size,h.os,h.output,h.block⟩
theorem TB (s:List UInt8) (most:Int) (w:World) (h1:most<(s.length:Int)): Calls Tryz.prog 31 #[.string (bs s),.int .i64 most] w fun e w'=>e= .returned (.tuple #[.int .i64 0,.bool false])/\w'=w:=by
 have e61:∀ args w,(callFunc 61 args).run Tryz.prog w= .ok (.enter 61 args) w:=enters_of Tryz.func61 (by kernel_rfl) rfl
 have e62:∀ args w,(callFunc 62 args).run Tryz.prog w= .ok (.enter 62 args) w:=enters_of Tryz.func62 (by kernel_rfl) rfl
 have mixed:Tryz.prog.follows .mixedOrders=true:=by kernel_rfl
 have t3:=Tryz.underlying3;have t4:=Tryz.underlying4;have t5:=Tryz.underlying5;have t9:=Tryz.underlying9
 have hsz:(bs s).size=s.length:=List.size_toArray
 go_enter Tryz.func31,Tryz.ntmps31
 go_wp2
 go_ret2
 exact⟨rfl,rfl⟩
theorem TC (s:List UInt8) (most:Int) (w:World) (h1:(s.length:Int)<=most) (hd:Calls Tryz.prog 61 #[.string (bs s)] w fun e w'=>e= .returned (.bool false)/\Kept w w'): Calls Tryz.prog 31 #[.string (bs s),.int .i64 most] w fun e w'=>e= .returned (.tuple #[.int .i64 0,.bool false])/\Kept w w':=by
 have e61:∀ args w,(callFunc 61 args).run Tryz.prog w= .ok (.enter 61 args) w:=enters_of Tryz.func61 (by kernel_rfl) rfl
 have e62:∀ args w,(callFunc 62 args).run Tryz.prog w= .ok (.enter 62 args) w:=enters_of Tryz.func62 (by kernel_rfl) rfl
 have mixed:Tryz.prog.follows .mixedOrders=true:=by kernel_rfl
 have t3:=Tryz.underlying3;have t4:=Tryz.underlying4;have t5:=Tryz.underlying5;have t9:=Tryz.underlying9
 have hsz:(bs s).size=s.length:=List.size_toArray
 go_enter Tryz.func31,Tryz.ntmps31
 go_wp2_with (go_at_fn 61;refine hd.mono ?_;rintro e w' ⟨rfl,hk⟩)
 go_ret2
 exact⟨rfl,hk⟩
theorem TD (s:List UInt8) (most:Int) (w:World) (h1:(s.length:Int)<=most) (h2:1<(s.length:Int)) (h3:(bs s)[0]? =some 48) (hd:Calls Tryz.prog 61 #[.string (bs s)] w fun e w'=>e= .returned (.bool true)/\Kept w w'): Calls Tryz.prog 31 #[.string (bs s),.int .i64 most] w fun e w'=>e= .returned (.tuple #[.int .i64 0,.bool false])/\Kept w w':=by
 have e61:∀ args w,(callFunc 61 args).run Tryz.prog w= .ok (.enter 61 args) w:=enters_of Tryz.func61 (by kernel_rfl) rfl
 have e62:∀ args w,(callFunc 62 args).run Tryz.prog w= .ok (.enter 62 args) w:=enters_of Tryz.func62 (by kernel_rfl) rfl
 have mixed:Tryz.prog.follows .mixedOrders=true:=by kernel_rfl
 have t3:=Tryz.underlying3;have t4:=Tryz.underlying4;have t5:=Tryz.underlying5;have t9:=Tryz.underlying9
 have hsz:(bs s).size=s.length:=List.size_toArray
 have h3':∀ h:0<(bs s).size,(bs s)[0]'h=48:=fun h=>by rw[getElem?_pos (bs s) 0 h] at h3;exact Option.some.inj h3
 go_enter Tryz.func31,Tryz.ntmps31
 go_wp2_with (go_at_fn 61;refine hd.mono ?_;rintro e w' ⟨rfl,hk⟩)
 all_goals first | (go_ret2;exact⟨rfl,hk⟩) | (exfalso;simp_all)
theorem TE (s:List UInt8) (most n:Int) (b:UInt8) (w:World) (h1:(s.length:Int)<=most) (h3:(bs s)[0]? =some b) (h2:¬(1<(s.length:Int))\/b≠48) (hd:Calls Tryz.prog 61 #[.string (bs s)] w fun e w'=>e= .returned (.bool true)/\Kept w w') (ha:∀ w,Calls Tryz.prog 62 #[.string (bs s)] w fun e w'=>e= .returned (.tuple #[.int .i64 n,.nilIface])/\Kept w w'): Calls Tryz.prog 31 #[.string (bs s),.int .i64 most] w fun e w'=>e= .returned (.tuple #[.int .i64 n,.bool true])/\Kept w w':=by
 have e61:∀ args w,(callFunc 61 args).run Tryz.prog w= .ok (.enter 61 args) w:=enters_of Tryz.func61 (by kernel_rfl) rfl
 have e62:∀ args w,(callFunc 62 args).run Tryz.prog w= .ok (.enter 62 args) w:=enters_of Tryz.func62 (by kernel_rfl) rfl
 have mixed:Tryz.prog.follows .mixedOrders=true:=by kernel_rfl
 have t3:=Tryz.underlying3;have t4:=Tryz.underlying4;have t5:=Tryz.underlying5;have t9:=Tryz.underlying9
 have hsz:(bs s).size=s.length:=List.size_toArray
 have t51:=Tryz.underlying51;have t52:=Tryz.underlying52
 have h3':∀ h:0<(bs s).size,(bs s)[0]'h=b:=fun h=>by rw[getElem?_pos (bs s) 0 h] at h3;exact Option.some.inj h3
 have hb48:b≠48->¬((b.toNat:Int)=48):=fun h e=>h (UInt8.toNat_inj.1 (show b.toNat=48 by omega))
 rcases Classical.em (1<(s.length:Int)) with h4 | h4
 ·have h5:¬((b.toNat:Int)=48):=hb48 (h2.resolve_left (fun h=>h h4))
  go_enter Tryz.func31,Tryz.ntmps31
  go_wp2_with (first | (go_at_fn 61;refine hd.mono ?_;rintro e w' ⟨rfl,hk⟩) | (go_at_fn 62;refine (ha _).mono ?_;rintro e w'' ⟨rfl,hk2⟩))
  all_goals first | (exfalso;omega) | skip
  all_goals first | (go_quiet (fail);go_wp2;go_ret2;exact⟨rfl,hk.trans (hk2.drawn _)⟩) | (exfalso;simp_all;done) | (exfalso;simp_all;omega)
 ·go_enter Tryz.func31,Tryz.ntmps31
  go_wp2_with (first | (go_at_fn 61;refine hd.mono ?_;rintro e w' ⟨rfl,hk⟩) | (go_at_fn 62;refine (ha _).mono ?_;rintro e w'' ⟨rfl,hk2⟩))
  all_goals first | (exfalso;omega) | skip
  all_goals first | (go_quiet (fail);go_wp2;go_ret2;exact⟨rfl,hk.trans (hk2.drawn _)⟩) | (exfalso;simp_all;done) | (exfalso;simp_all;omega)
theorem Kept.TF {w w':World} (h:RowKit.Below w.heap.size w w'):Kept w w':=⟨h.size,h.os,h.output,h.block⟩
theorem Na {G:Gh} {w:World} (s:List UInt8) (hG:Agr G w) (hT:cq Tryz.prog G) (D:Bool) (hm:gG s=some (D,())): Calls Tryz.prog 61 #[.string (bs s)] w fun e w'=>e= .returned (.bool D)/\Kept w w':=by
 have h:=jM G w (fun _=>none) [.string (bs s)] (s,()) (D,()) hG (fun _ _ h=>nomatch h) ⟨_,[],fun _=>rfl,fun h=>(Bool.noConfusion h),(by show ax G .str s [.string (bs s)];rfl),rfl⟩ hm hT
 refine h.mono ?_
 rintro e w' ⟨G',ow',vs,g⟩
 obtain⟨v,us,hv,hr,h2,_⟩:=g.out
 have e2:us=[]:=h2
 have e1:[v]=[Value.bool D]:=hr
 cases e1
 subst e2;subst hv
 exact⟨g.ret,g.size,g.os,g.output,fun b hb=>(g.old b hb rfl).1⟩
def Mc:ak:=⟨[.val .str,.val tI],[.val tI,.val .bool],fun x=>jK x.1 x.2.1⟩
theorem NN {G:Gh} {w:World} (s:List UInt8) (most n:Int) (b:Bool) (hG:Agr G w) (hT:cq Tryz.prog G) (hm:jK s most=some (n,b,())): Calls Tryz.prog 31 #[.string (bs s),.int .i64 most] w fun e w'=>e= .returned (.tuple #[.int .i64 n,.bool b])/\Kept w w':=by
 unfold jK at hm
 rcases Classical.em (most<(s.length:Int)) with h | h
 ·rw[decide_eq_true h,cond_true] at hm
  cases hm
  exact (TB s most w h).mono fun e w' hh=>⟨hh.1,hh.2 ▸ Kept.refl w⟩
 ·rw[decide_eq_false h,cond_false] at hm
  rcases Classical.em (s.length<=18) with h18 | h18
  rotate_left
  ·rw[decide_eq_false h18,cond_false] at hm;cases hm
  rw[decide_eq_true h18,cond_true] at hm
  have hD:=nD s (by omega)
  have hle:(s.length:Int)<=most:=by omega
  have hdd:(!(s==[])&&s.all Qy)=(decide (s≠[])&&s.all bO):=by cases s<;>rfl
  rw[hdd] at hm
  generalize hDD:(decide (s≠[])&&s.all bO)=D at hD hm
  have hd:=Na s hG hT D hD
  cases D with
  | false=>
   cases hm
   exact TC s most w hle hd
  | true=>
   cases s with
   | nil=>cases hDD
   | cons c r=>
    have h3:(bs (c::r))[0]? =some c:=by
     rw[getElem?_pos (bs (c::r)) 0 (by show 0<(c::r).toArray.size;simp)];rfl
    rcases Classical.em (1<(c::r).length/\c=48) with h2 | h2
    ·obtain⟨h2,rfl⟩:=h2
     have e:(!true||(decide (1<((48:UInt8)::r).length)&&((48:UInt8)::r).head? ==some 48))=true:=by rw[decide_eq_true h2];rfl
     rw[e,cond_true] at hm
     cases hm
     exact TD _ most w hle (by omega) h3 hd
    ·have e:(!true||(decide (1<(c::r).length)&&(c::r).head? ==some 48))=false:=by
      rw[Bool.not_true,Bool.false_or,Bool.and_eq_false_iff]
      rcases Classical.em (1<(c::r).length) with h4 | h4
      ·right
       have h5:c≠48:=fun h=>h2 ⟨h4,h⟩
       exact beq_eq_false_iff_ne.2 (fun h=>h5 (Option.some.inj h))
      ·left;exact decide_eq_false h4
     rw[e,cond_false] at hm
     cases ha:Lib.atoi (c::r) with
     | none=>rw[ha] at hm;cases hm
     | some m=>
      rw[ha] at hm
      cases hm
      refine TE _ most n c w hle h3 ?_ hd fun w=> ?_
      ·rcases Classical.em (1<(c::r).length) with h4 | h4
       ·right;exact fun h=>h2 ⟨h4,h⟩
       ·left;omega
      ·have:=Any.strconv_Atoi Tryz.Up (bs (c::r)) n (by show (c::r).toArray.size<=18;simpa using h18) (by simpa [bs] using ha) w
       change Calls Tryz.prog 62 _ _ _ at this
       refine this.mono ?_
       rintro e w' ⟨rfl,t,rfl⟩
       exact⟨rfl,Kept.TF (bytesWorld_below w _ t)⟩
theorem L1:bQ Tryz.prog 31 Mc:=by
 intro G w ow args x y hG how ha hm hT
 obtain⟨s,most,u⟩:=x
 obtain⟨n,b,u'⟩:=y
 obtain⟨v,us,h1,_,hv,v',us',h2,_,hv',h3⟩:=ha
 have e1:=h1 rfl
 have e2:=h2 rfl
 have e3:us'=[]:=h3
 have e4:[v]=[.string (bs s)]:=hv
 have e5:[v']=[.int .i64 most]:=hv'
 cases e4;cases e5
 subst e1;subst e2;subst e3
 refine (NN s most n b hG hT hm).mono ?_
 rintro e w' ⟨he,hk⟩
 refine⟨G,fun _=>none,[.int .i64 n,.bool b], ?_⟩
 exact {
  ret:=he
  le:=Gh.le_refl G
  agr:=fun i o hio=>by
   have hw:=hG i o hio
   rw[hk.block i (aG hw)];exact hw
  size:=hk.size
  os:=hk.os
  output:=hk.output
  old:=fun i hlt _=>⟨hk.block i hlt,rfl⟩
  own:=fun i j hij=>by cases hij
  out:=⟨_,_,rfl,rfl,_,_,rfl,rfl,rfl,trivial⟩
  hnd:=fun _=>rfl }
end Go.Proofs.SeatU
