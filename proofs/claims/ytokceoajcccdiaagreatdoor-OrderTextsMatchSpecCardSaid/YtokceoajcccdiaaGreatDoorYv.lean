/-
  Functions of the library and of kit, by contracts and by a walk. No condition.
-/
import Derived.Test.YtokceoajcccdiaaGreatDoorYo
import Derived.Test.YtokceoajcccdiaaGreatDoorYd
import Derived.Shelf.Strings.Split
import Derived.Shelf.LaysM
import Derived.Shelf.Vars
import Derived.Lib.LaidTab
import Derived.Sort.Grow
import Derived.Deep.Draws
import Derived.Test.YtokceoajcccdiaaGreatDoorYg
import Derived.Test.YtokceoajcccdiaaGreatDoorProg
import Derived.Shelf.Strings.SlTrimAscii
import Derived.Shelf.Strconv.Atoi
import Derived.Shelf.Strconv.Itoa3
import Derived.Shelf.Strings.Repeat
import Derived.Shelf.Strings.Search1
import Derived.WalkKit
import Derived.Deep.QuietTactic
import Derived.BigQuiet
import Derived.Lib.AtoiErrMem
import Derived.Test.YtokceoajcccdiaaGreatDoorYr
set_option linter.all false
namespace Go.Md
open Go.Dn Go.Lib
theorem yF (c b:UInt8) (r:List UInt8):index (b::r) [c]=if b=c then 0 else if index r [c]== -1 then -1 else index r [c]+1:=by
 rw[index]
 by_cases h:b=c
 ·subst h;simp
 ·have:(c==b)=false:=by simp[Ne.symm h]
  simp[h,List.isPrefixOf,this]
theorem count_cons (c b:UInt8) (r:List UInt8):count (b::r) [c]=(if b=c then 1 else 0)+count r [c]:=by
 rw[count_one,count_one,List.count_cons]
 by_cases h:b=c
 ·subst h;simp;omega
 ·simp[h]
theorem It (c b:UInt8) (h:b≠c):∀ (k:Nat) (r:List UInt8),splitK [c] 0 k (b::r)=(match splitK [c] 0 k r with | x::t=>(b::x)::t | []=>[[b]])
 | 0,r=>rfl
 | k+1,r=>by
  simp only[splitK,yF,if_neg h]
  have hge:=index_ge r [c]
  by_cases h1:index r [c]= -1
  ·simp[h1]
  ·have e1:(index r [c]== -1)=false:=by simp[h1]
   have e2:(index r [c]+1== -1)=false:=by simp;omega
   simp only[e1,e2,Bool.false_eq_true,if_false]
   have e3:(index r [c]+1).toNat=(index r [c]).toNat+1:=by omega
   rw[e3]
   simp[Nat.add_assoc]
theorem wA (c:UInt8):∀ (s:List UInt8),splitK [c] 0 (count s [c]) s=aA c s
 | []=>by
  have:count [] [c]=0:=by rw[count_one];rfl
  rw[this];rfl
 | b::r=>by
  have ih:=wA c r
  rw[count_cons]
  by_cases h:b=c
  ·subst h
   rw[if_pos rfl,Nat.add_comm]
   simp only[splitK,yF,aA]
   simp[ih]
  ·have hb:(b==c)=false:=by simp[h]
   rw[if_neg h,Nat.zero_add,It c b h,ih]
   simp only[aA,hb,cond_false]
   cases aA c r<;>rfl
end Go.Md
namespace Go.Dn
open Go.Md Go.Proofs Go.Shelf Go.RowKit Go.Lib
theorem CC {G:Gh}:∀ (l:List ByteArray),bF (an G .str) (l.map (·.data.toList)) (l.map Value.string)
 | []=>rfl
 | x::r=>⟨[.string x],r.map Value.string,rfl,by show [Value.string x]=[Value.string (bs x.data.toList)];simp[bs],CC r⟩
theorem Ou {P:Program} {ρ:Ren} (L:LaysM.n146 P ρ) {G:Gh} {w:World} {ow:Nat->Option Nat} (s:List UInt8) (b:UInt8) (hG:Agr G w) (hT:fR P G) (hlen:s.length<4294967281): Calls P (ρ.f 146) #[.string (bs s),.string (bs [b])] w fun e w'=>∃ G' ow' vs,zm G w ow ⟨[.val .str,.val .str],[.row (ρ.t 9) .str],fun x=>strings_Split x.1 x.2.1⟩ [.string (bs s),.string (bs [b])] (aA b s,()) e w' G' ow' vs:=by
 obtain⟨m,T,fz,hml⟩:=hT.maxLen _ L.m1
 have hcell:w.cell? ⟨ρ.g 1,0,none⟩=some (.int .i64 m):=by
  have:=hG _ _ hml
  simp[World.cell?,this]
 have hsz:(bs s).size=s.length:=List.size_toArray
 have h1b:1<=(bs [b]).size:=Nat.le_refl 1
 refine (Any.strings_Split { L with } L.i9 (bs s) (bs [b]) m w (by omega) hcell h1b).mono ?_
 rintro e w' ⟨rfl,rfl⟩
 have hsp:(splitB (bs [b]) 0 (countB (bs s) (bs [b])) (bs s)).map (·.data.toList)=aA b s:=by
  rw[splitB_data]
  exact wA b s
 have hl:=splitB_all (bs [b]) h1b 0 _ (bs s) rfl
 have hle:=countB_le (bs [b]) h1b (bs s).size (bs s) (Nat.le_refl _)
 generalize splitB (bs [b]) 0 (countB (bs s) (bs [b])) (bs s)=q at hsp hl
 generalize countB (bs s) (bs [b])=n at hl hle
 have hrl:(aA b s).length=n+1:=by rw[<- hsp,List.length_map,hl]
 have hnone:G w.heap.size=none:=by
  cases hg:G w.heap.size with
  | none=>rfl
  | some o=>have:=bJ (hG _ _ hg);omega
 have sr:n+1<=maxLen:=by
  have:maxLen=9223372036854775807:=rfl
  omega
 have hown:(w.alloc (.cells (q.map Value.string).toArray (ρ.t 9))).ownsRow 0 (ρ.t 9) 1 (.slice (some ⟨w.heap.size,0,none⟩) (n+1) (n+1)) (aA b s).length (q.map Value.string):=
  ⟨by rw[List.length_map,hl,hrl,Nat.mul_one],.inr ⟨w.heap.size,n+1,(q.map Value.string).toArray,by rw[hrl],Nat.zero_le _,heap_alloc_new w _,by rw[hrl];exact Nat.le_refl _,sr,by rw[List.size_toArray,List.length_map,hl,Nat.mul_one],
    by rw[hrl,Nat.mul_one];exact List.take_of_length_le (by show (q.map Value.string).length<=_;rw[List.length_map,hl];exact Nat.le_refl _)⟩⟩
 refine⟨G,fun i=>if i=w.heap.size then some (64*24) else none,[.slice (some ⟨w.heap.size,0,none⟩) (n+1) (n+1)], ?_⟩
 exact {
  ret:=rfl
  le:=Gh.le_refl G
  agr:=fun i o hi=>by
   have h1:=hG i o hi
   rw[heap_alloc_old w _ (bJ h1)];exact h1
  size:=by simp
  os:=rfl
  output:=rfl
  old:=fun i hi _=>⟨heap_alloc_old w _ hi,rfl⟩
  own:=fun i j hj=>by
   by_cases e:i=w.heap.size
   ·subst e;exact⟨hnone,by simp,.inl (Nat.le_refl _)⟩
   ·simp only[e,if_false] at hj;cases hj
  out:=by
   refine⟨_,[],rfl,⟨⟨q.map Value.string,hown,by rw[<- hsp];exact CC q⟩,fun k hk=> ?_⟩,rfl,trivial⟩
   have:some w.heap.size=some k:=hk
   cases this
   show (if w.heap.size=w.heap.size then some (64*24) else none)=_
   rw[if_pos rfl]
  hnd:=fun _=>rfl }
theorem GL {s c:List UInt8} {r:List (List UInt8)} (h:strings_Split s c=some (r,())):∃ b,c=[b]/\s.length<4294967281/\r=aA b s:=by
 unfold strings_Split at h
 split at h
 ·rename_i b
  cases hb:decide (s.length<4294967281) with
  | false=>rw[hb] at h;cases h
  | true=>
   rw[hb] at h
   exact⟨b,rfl,of_decide_eq_true hb,(Prod.mk.inj (Option.some.inj h)).1.symm⟩
 ·cases h
theorem Ra {P:Program} {ρ:Ren} (L:LaysM.n146 P ρ):eC P (ρ.f 146) ⟨[.val .str,.val .str],[.row (ρ.t 9) .str],fun x=>strings_Split x.1 x.2.1⟩:=by
 intro G w ow args x y hG how ha hm hT
 obtain⟨s,c,u⟩:=x
 obtain⟨r,u'⟩:=y
 obtain⟨v,us,h1,l1,hv,v',us',h2,l2,hv',h3⟩:=ha
 have e1:=h1 rfl
 have e2:=h2 rfl
 have e3:us'=[]:=h3
 have e4:v= .string (bs s):=by simpa [uS,bK,an] using hv
 have e5:v'= .string (bs c):=by simpa [uS,bK,an] using hv'
 subst e1;subst e2;subst e3;subst e4;subst e5
 obtain⟨b,rfl,hlen,rfl⟩:=GL hm
 exact Ou L s b hG hT hlen
end Go.Dn
namespace Go.Dn
open Go Go.Md Go.Proofs Go.Shelf Go.Lib
theorem GK {P:Program} {ρ:Ren} (L:LaysM.n146 P ρ) {G:Gh} {w:World} {ow:Nat->Option Nat} (s:List UInt8) (b:UInt8) (hG:Agr G w) (hT:fR P G) (hlen:s.length<4294967281): Calls P (ρ.f 146) #[.string (bs s),.string (bs [b])] w fun e w'=>∃ G' ow' vs,zm G w ow ⟨[.val .str,.val .str],[.val (.slice .str)],fun x=>strings_Split x.1 x.2.1⟩ [.string (bs s),.string (bs [b])] (aA b s,()) e w' G' ow' vs:=by
 obtain⟨m,T,fz,hml⟩:=hT.maxLen _ L.m1
 have hcell:w.cell? ⟨ρ.g 1,0,none⟩=some (.int .i64 m):=by
  have:=hG _ _ hml
  simp[World.cell?,this]
 have hsz:(bs s).size=s.length:=List.size_toArray
 have h1b:1<=(bs [b]).size:=Nat.le_refl 1
 refine (Any.strings_Split { L with } L.i9 (bs s) (bs [b]) m w (by omega) hcell h1b).mono ?_
 rintro e w' ⟨rfl,rfl⟩
 have hsp:(splitB (bs [b]) 0 (countB (bs s) (bs [b])) (bs s)).map (·.data.toList)=aA b s:=by
  rw[splitB_data]
  exact wA b s
 have hl:=splitB_all (bs [b]) h1b 0 _ (bs s) rfl
 have hle:=countB_le (bs [b]) h1b (bs s).size (bs s) (Nat.le_refl _)
 generalize splitB (bs [b]) 0 (countB (bs s) (bs [b])) (bs s)=q at hsp hl
 generalize countB (bs s) (bs [b])=n at hl hle
 have hrl:(aA b s).length=n+1:=by rw[<- hsp,List.length_map,hl]
 have hnone:G w.heap.size=none:=by
  cases hg:G w.heap.size with
  | none=>rfl
  | some o=>have:=bJ (hG _ _ hg);omega
 have sr:n+1<=maxLen:=by
  have:maxLen=9223372036854775807:=rfl
  omega
 have hown:(w.alloc (.cells (q.map Value.string).toArray (ρ.t 9))).ownsRow 0 (ρ.t 9) 1 (.slice (some ⟨w.heap.size,0,none⟩) (n+1) (n+1)) (aA b s).length (q.map Value.string):=
  ⟨by rw[List.length_map,hl,hrl,Nat.mul_one],.inr ⟨w.heap.size,n+1,(q.map Value.string).toArray,by rw[hrl],Nat.zero_le _,heap_alloc_new w _,by rw[hrl];exact Nat.le_refl _,sr,by rw[List.size_toArray,List.length_map,hl,Nat.mul_one],
    by rw[hrl,Nat.mul_one];exact List.take_of_length_le (by show (q.map Value.string).length<=_;rw[List.length_map,hl];exact Nat.le_refl _)⟩⟩
 have hcells:∃ T',(w.alloc (.cells (q.map Value.string).toArray (ρ.t 9))).heap[w.heap.size]? =some (.cells (q.map Value.string).toArray T' (0,0)):=⟨_,heap_alloc_new w _⟩
 obtain⟨T',hcells⟩:=hcells
 have hnew:∀ b o,G b=some o->b≠w.heap.size:=fun b o hb e=>by subst e;rw[hnone] at hb;cases hb
 refine⟨{ G with blk:=fun i=>if i=w.heap.size then some (.cells (q.map Value.string).toArray T' (0,0)) else G i },fun _=>none,[.slice (some ⟨w.heap.size,0,none⟩) (n+1) (n+1)], ?_⟩
 exact {
  ret:=rfl
  le:=⟨fun b o hb=>by show (if b=w.heap.size then _ else G b)=_;rw[if_neg (hnew b o hb)];exact hb,fun _ _ h=>h⟩
  agr:=fun i o hi=>by
   have hi:(if i=w.heap.size then some (Obj.cells (q.map Value.string).toArray T' (0,0)) else G i)=some o:=hi
   by_cases e:i=w.heap.size
   ·rw[if_pos e] at hi;cases hi;rw[e];exact hcells
   ·rw[if_neg e] at hi
    have h1:=hG i o hi
    rw[heap_alloc_old w _ (bJ h1)];exact h1
  size:=by simp
  os:=rfl
  output:=rfl
  old:=fun i hi _=>⟨heap_alloc_old w _ hi,by show (if i=w.heap.size then _ else G i)=G i;rw[if_neg (Nat.ne_of_lt hi)]⟩
  own:=fun i j hj=>by cases hj
  out:=by
   refine⟨_,[],rfl, ?_,rfl,trivial⟩
   show ∃ v,[Value.slice (some ⟨w.heap.size,0,none⟩) (n+1) (n+1)]=[v]/\cW _ _ _ (aA b s) v
   have hL:(q.map Value.string).length=n+1:=by rw[List.length_map,hl]
   refine⟨_,rfl,some ⟨w.heap.size,0,none⟩,n+1,by rw[hrl],by rw[hrl];exact Nat.le_refl _,sr,.inr ⟨w.heap.size,0,(q.map Value.string).toArray,T',(0,0),rfl,if_pos rfl, ?_, ?_⟩⟩
   ·rw[hrl,List.size_toArray,hL];show 0+(n+1)*1<=n+1;omega
   ·rw[hrl]
    have e1:((q.map Value.string).toArray.toList.drop 0).take ((n+1)*Ty.str.size)=q.map Value.string:=by
     show (q.map Value.string).take ((n+1)*1)=_
     exact List.take_of_length_le (by rw[hL];omega)
    rw[e1, <- hsp]
    exact CC q
  hnd:=fun _=>rfl }
theorem JT {P:Program} {ρ:Ren} (L:LaysM.n146 P ρ):eC P (ρ.f 146) ⟨[.val .str,.val .str],[.val (.slice .str)],fun x=>strings_Split x.1 x.2.1⟩:=by
 intro G w ow args x y hG how ha hm hT
 obtain⟨s,c,u⟩:=x
 obtain⟨r,u'⟩:=y
 obtain⟨v,us,h1,l1,hv,v',us',h2,l2,hv',h3⟩:=ha
 have e1:=h1 rfl
 have e2:=h2 rfl
 have e3:us'=[]:=h3
 have e4:v= .string (bs s):=by simpa [uS,bK,an] using hv
 have e5:v'= .string (bs c):=by simpa [uS,bK,an] using hv'
 subst e1;subst e2;subst e3;subst e4;subst e5
 obtain⟨b,rfl,hlen,rfl⟩:=GL hm
 exact GK L s b hG hT hlen
end Go.Dn
namespace Go.Dn
open Go.Lib
theorem LU (w:World) (k:Nat) (os:Array Obj):RowKit.Below w.heap.size w (Sort.grow (w.drewN k) os):=
 ⟨rfl,rfl,rfl,by show w.heap.size<=(w.heap++os).size;rw[Array.size_append];omega,fun b hb=>by
   show (w.heap++os)[b]? =w.heap[b]?
   rw[Array.getElem?_append_left hb]⟩
theorem Rb {P:Program} {G:Gh} {w:World} (hG:Agr G w) (hT:fR P G) {g:Nat} (hg:P.globalNamed "internal/strconv.uint64pow10" =some g):TabIs P w "internal/strconv.uint64pow10" .u64 vQ:=by
 obtain⟨T,fz,e⟩:=hT.pow g hg
 have h:=hG _ _ e
 unfold TabIs World.var?
 rw[hg,Option.bind_some,h]
theorem KX {P:Program} {f:FuncId} {a t:Ty} {m:eU [.val a]->Option (cJ [.val a] [.val t])} {g:Nat} (hg:P.globalNamed "internal/strconv.uint64pow10" =some g) (ha:isLit a=true) (h:∀ (s:a.den) (r:t.den) (w:World),TabIs P w "internal/strconv.uint64pow10" .u64 vQ->m (s,())=some (r,())->∃ v,(∀ G:Gh,bK G t r v)/\Calls P f #[zU a s] w fun e w'=>e= .returned v/\RowKit.Below w.heap.size w w'):eC P f ⟨[.val a],[.val t],m⟩:=by
 intro G w ow args x y hG how hargs hm hT
 obtain⟨s,u⟩:=x
 obtain⟨r,u'⟩:=y
 obtain⟨v,us,h1,_,hv,h3⟩:=hargs
 have e1:=h1 rfl
 have e3:us=[]:=h3
 have e4:v=zU a s:=H8 ha hv
 subst e1;subst e3;subst e4
 obtain⟨z,hz,hc⟩:=h s r w (Rb hG hT hg) hm
 refine hc.mono ?_
 rintro e w' ⟨he,hb⟩
 refine⟨G,fun _=>none,[z], ?_⟩
 exact {
  ret:=he
  le:=Gh.le_refl G
  agr:=fun b o hbo=>by
   have hw:=hG b o hbo
   have hlt:b<w.heap.size:=by
    rcases Nat.lt_or_ge b w.heap.size with h | h
    ·exact h
    ·rw[Array.getElem?_eq_none h] at hw;cases hw
   rw[hb.block b hlt];exact hw
  size:=hb.size
  os:=hb.os
  output:=hb.output
  old:=fun b hlt _=>⟨hb.block b hlt,rfl⟩
  own:=fun b i hbi=>by cases hbi
  out:=⟨_,_,rfl,hz G,rfl,trivial⟩
  hnd:=fun _=>rfl }
end Go.Dn
namespace Go.Proofs
open Go.Shelf
def Tryz.Mo:Go.Shelf.Ren:=⟨fun | 160=>90 | 232=>120 | 231=>119 | 227=>121 | 234=>123 | 233=>122 | 236=>125 | 235=>124 | 228=>154 | 271=>156 | 151=>155 | 197=>103 | 120=>168 | 152=>167 | 260=>137 | 137=>171 | 119=>172 | 224=>140 | 225=>139 | 217=>138 | 266=>162 | n=>n,fun | 9=>9 | 4=>4 | 3=>3 | 5=>5 | 117=>144 | 116=>143 | 0=>0 | 124=>147 | 21=>21 | 105=>131 | 46=>121 | 119=>173 | 139=>176 | 138=>175 | n=>n,fun | 3=>3 | 4=>4 | n=>n⟩
theorem Tryz.RD:Go.Proofs.Lays.n160 Tryz.prog Tryz.Mo:={
 mixed:=by kernel_rfl
 f119:=Tryz.func172.trans (congrArg some (by kernel_rfl))
 f120:=Tryz.func168.trans (congrArg some (by kernel_rfl))
 f137:=Tryz.func171.trans (congrArg some (by kernel_rfl))
 f151:=Tryz.func155.trans (congrArg some (by kernel_rfl))
 f152:=Tryz.func167.trans (congrArg some (by kernel_rfl))
 f160:=Tryz.func90.trans (congrArg some (by kernel_rfl))
 f197:=Tryz.func103.trans (congrArg some (by kernel_rfl))
 f217:=Tryz.func138.trans (congrArg some (by kernel_rfl))
 f224:=Tryz.func140.trans (congrArg some (by kernel_rfl))
 f225:=Tryz.func139.trans (congrArg some (by kernel_rfl))
 f227:=Tryz.func121.trans (congrArg some (by kernel_rfl))
 f228:=Tryz.func154.trans (congrArg some (by kernel_rfl))
 f231:=Tryz.func119.trans (congrArg some (by kernel_rfl))
 f232:=Tryz.func120.trans (congrArg some (by kernel_rfl))
 f233:=Tryz.func122.trans (congrArg some (by kernel_rfl))
 f234:=Tryz.func123.trans (congrArg some (by kernel_rfl))
 f235:=Tryz.func124.trans (congrArg some (by kernel_rfl))
 f236:=Tryz.func125.trans (congrArg some (by kernel_rfl))
 f260:=Tryz.func137.trans (congrArg some (by kernel_rfl))
 f266:=Tryz.func162.trans (congrArg some (by kernel_rfl))
 f271:=Tryz.func156.trans (congrArg some (by kernel_rfl))
 t0:=Tryz.underlying0
 a0:=Tryz.isAgg0
 z0:=Tryz.sizeOf0
 v0:=Tryz.zeroValue0
 t3:=Tryz.underlying3
 a3:=Tryz.isAgg3
 z3:=Tryz.sizeOf3
 v3:=Tryz.zeroValue3
 t4:=Tryz.underlying4
 a4:=Tryz.isAgg4
 z4:=Tryz.sizeOf4
 v4:=Tryz.zeroValue4
 t5:=Tryz.underlying5
 a5:=Tryz.isAgg5
 z5:=Tryz.sizeOf5
 v5:=Tryz.zeroValue5
 t9:=Tryz.underlying9
 a9:=Tryz.isAgg9
 z9:=Tryz.sizeOf9
 v9:=Tryz.zeroValue9
 t21:=Tryz.underlying21
 a21:=Tryz.isAgg21
 z21:=Tryz.sizeOf21
 v21:=Tryz.zeroValue21
 t46:=Tryz.underlying121
 a46:=Tryz.isAgg121
 z46:=Tryz.sizeOf121
 v46:=Tryz.zeroValue121
 t105:=Tryz.underlying131
 a105:=Tryz.isAgg131
 z105:=Tryz.sizeOf131
 v105:=Tryz.zeroValue131
 t116:=Tryz.underlying143
 a116:=Tryz.isAgg143
 z116:=Tryz.sizeOf143
 t117:=Tryz.underlying144
 a117:=Tryz.isAgg144
 z117:=Tryz.sizeOf144
 v117:=Tryz.zeroValue144
 t119:=Tryz.underlying173
 a119:=Tryz.isAgg173
 z119:=Tryz.sizeOf173
 t124:=Tryz.underlying147
 a124:=Tryz.isAgg147
 z124:=Tryz.sizeOf147
 v124:=Tryz.zeroValue147
 t138:=Tryz.underlying175
 a138:=Tryz.isAgg175
 z138:=Tryz.sizeOf175
 v138:=Tryz.zeroValue175
 t139:=Tryz.underlying176
 a139:=Tryz.isAgg176
 z139:=Tryz.sizeOf176
 v139:=Tryz.zeroValue176
 g3:=by kernel_rfl
 g4:=by kernel_rfl }
def Tryz.K8:Go.Shelf.Ren:=⟨fun | 146=>35 | 221=>56 | 268=>78 | 138=>79 | 143=>80 | 195=>102 | 197=>103 | 218=>104 | 219=>105 | 260=>137 | 217=>138 | 225=>139 | 224=>140 | 267=>141 | 266=>162 | 314=>163 | n=>n,fun | 9=>9 | 31=>48 | 3=>3 | 4=>4 | 0=>0 | 105=>131 | 21=>21 | 5=>5 | 46=>121 | 119=>173 | 139=>176 | 138=>175 | 146=>123 | 51=>120 | n=>n,fun | 1=>0 | 3=>3 | 4=>4 | n=>n⟩
theorem Tryz.K7:Go.Proofs.LaysM.n146 Tryz.prog Tryz.K8:={
 mixed:=by kernel_rfl
 f138:=Tryz.func79.trans (congrArg some (by kernel_rfl))
 f143:=Tryz.func80.trans (congrArg some (by kernel_rfl))
 f146:=Tryz.func35.trans (congrArg some (by kernel_rfl))
 f195:=Tryz.func102.trans (congrArg some (by kernel_rfl))
 f197:=Tryz.func103.trans (congrArg some (by kernel_rfl))
 f217:=Tryz.func138.trans (congrArg some (by kernel_rfl))
 f218:=Tryz.func104.trans (congrArg some (by kernel_rfl))
 f219:=Tryz.func105.trans (congrArg some (by kernel_rfl))
 f221:=Tryz.func56.trans (congrArg some (by kernel_rfl))
 f224:=Tryz.func140.trans (congrArg some (by kernel_rfl))
 f225:=Tryz.func139.trans (congrArg some (by kernel_rfl))
 f260:=Tryz.func137.trans (congrArg some (by kernel_rfl))
 f266:=Tryz.func162.trans (congrArg some (by kernel_rfl))
 f267:=Tryz.func141.trans (congrArg some (by kernel_rfl))
 f268:=Tryz.func78.trans (congrArg some (by kernel_rfl))
 f314:=Tryz.func163.trans (congrArg some (by kernel_rfl))
 t0:=Tryz.underlying0
 a0:=Tryz.isAgg0
 z0:=Tryz.sizeOf0
 v0:=Tryz.zeroValue0
 t3:=Tryz.underlying3
 a3:=Tryz.isAgg3
 z3:=Tryz.sizeOf3
 v3:=Tryz.zeroValue3
 t4:=Tryz.underlying4
 a4:=Tryz.isAgg4
 z4:=Tryz.sizeOf4
 v4:=Tryz.zeroValue4
 t5:=Tryz.underlying5
 a5:=Tryz.isAgg5
 z5:=Tryz.sizeOf5
 v5:=Tryz.zeroValue5
 t9:=Tryz.underlying9
 a9:=Tryz.isAgg9
 z9:=Tryz.sizeOf9
 v9:=Tryz.zeroValue9
 t21:=Tryz.underlying21
 a21:=Tryz.isAgg21
 z21:=Tryz.sizeOf21
 v21:=Tryz.zeroValue21
 t31:=Tryz.underlying48
 a31:=Tryz.isAgg48
 z31:=Tryz.sizeOf48
 v31:=Tryz.zeroValue48
 t46:=Tryz.underlying121
 a46:=Tryz.isAgg121
 z46:=Tryz.sizeOf121
 v46:=Tryz.zeroValue121
 t51:=Tryz.underlying120
 a51:=Tryz.isAgg120
 z51:=Tryz.sizeOf120
 v51:=Tryz.zeroValue120
 t105:=Tryz.underlying131
 a105:=Tryz.isAgg131
 z105:=Tryz.sizeOf131
 v105:=Tryz.zeroValue131
 t119:=Tryz.underlying173
 a119:=Tryz.isAgg173
 z119:=Tryz.sizeOf173
 t138:=Tryz.underlying175
 a138:=Tryz.isAgg175
 z138:=Tryz.sizeOf175
 v138:=Tryz.zeroValue175
 t139:=Tryz.underlying176
 a139:=Tryz.isAgg176
 z139:=Tryz.sizeOf176
 v139:=Tryz.zeroValue176
 t146:=Tryz.underlying123
 a146:=Tryz.isAgg123
 z146:=Tryz.sizeOf123
 v146:=Tryz.zeroValue123
 g1:=by kernel_rfl
 g3:=by kernel_rfl
 g4:=by kernel_rfl
 i0:=by kernel_rfl
 i3:=by kernel_rfl
 i4:=by kernel_rfl
 i5:=by kernel_rfl
 i9:=by kernel_rfl
 i21:=by kernel_rfl
 i31:=by kernel_rfl
 i46:=by kernel_rfl
 i51:=by kernel_rfl
 i105:=by kernel_rfl
 i138:=by kernel_rfl
 i139:=by kernel_rfl
 i146:=by kernel_rfl
 m1:=by kernel_rfl
 s1_3:=fun w h=>Go.Proofs.cell_of_shapedOpen_int (zero:= #[.int .i64 0]) (t:=3) h (of_decide_eq_true (by kernel_rfl)) (by kernel_rfl) rfl (by kernel_rfl) (by kernel_rfl) Tryz.underlying3
 m3:=by kernel_rfl
 m4:=by kernel_rfl }
def Tryz.Mq:Go.Shelf.Ren:=⟨fun | 172=>84 | 244=>109 | 245=>110 | 247=>145 | 279=>146 | 280=>147 | 281=>148 | 282=>149 | 287=>164 | 316=>165 | 171=>22 | 205=>166 | 321=>169 | 322=>170 | 243=>49 | 246=>65 | 283=>91 | 284=>92 | 285=>93 | 286=>94 | 129=>127 | 317=>126 | 318=>128 | 319=>129 | 320=>130 | 337=>157 | 338=>158 | n=>n,fun | 9=>9 | 3=>3 | 75=>41 | 76=>42 | 4=>4 | 5=>5 | 167=>159 | 37=>37 | 0=>0 | 85=>160 | 2=>2 | 168=>162 | 53=>114 | 175=>178 | 46=>121 | 210=>182 | 127=>64 | 145=>190 | 143=>188 | 21=>21 | 171=>113 | 173=>117 | 212=>149 | 51=>120 | 20=>20 | 213=>150 | 232=>185 | 233=>186 | 80=>46 | n=>n,fun | 15=>5 | 16=>6 | 17=>1 | 18=>7 | 19=>8 | n=>n⟩
theorem Tryz.RF:Go.Proofs.Lays.n172 Tryz.prog Tryz.Mq:={
 mixed:=by kernel_rfl
 f129:=Tryz.func127.trans (congrArg some (by kernel_rfl))
 f171:=Tryz.func22.trans (congrArg some (by kernel_rfl))
 f172:=Tryz.func84.trans (congrArg some (by kernel_rfl))
 f205:=Tryz.func166.trans (congrArg some (by kernel_rfl))
 f243:=Tryz.func49.trans (congrArg some (by kernel_rfl))
 f244:=Tryz.func109.trans (congrArg some (by kernel_rfl))
 f245:=Tryz.func110.trans (congrArg some (by kernel_rfl))
 f246:=Tryz.func65.trans (congrArg some (by kernel_rfl))
 f247:=Tryz.func145.trans (congrArg some (by kernel_rfl))
 f279:=Tryz.func146.trans (congrArg some (by kernel_rfl))
 f280:=Tryz.func147.trans (congrArg some (by kernel_rfl))
 f281:=Tryz.func148.trans (congrArg some (by kernel_rfl))
 f282:=Tryz.func149.trans (congrArg some (by kernel_rfl))
 f283:=Tryz.func91.trans (congrArg some (by kernel_rfl))
 f284:=Tryz.func92.trans (congrArg some (by kernel_rfl))
 f285:=Tryz.func93.trans (congrArg some (by kernel_rfl))
 f286:=Tryz.func94.trans (congrArg some (by kernel_rfl))
 f287:=Tryz.func164.trans (congrArg some (by kernel_rfl))
 f316:=Tryz.func165.trans (congrArg some (by kernel_rfl))
 f317:=Tryz.func126.trans (congrArg some (by kernel_rfl))
 f318:=Tryz.func128.trans (congrArg some (by kernel_rfl))
 f319:=Tryz.func129.trans (congrArg some (by kernel_rfl))
 f320:=Tryz.func130.trans (congrArg some (by kernel_rfl))
 f321:=Tryz.func169.trans (congrArg some (by kernel_rfl))
 f322:=Tryz.func170.trans (congrArg some (by kernel_rfl))
 f337:=Tryz.func157.trans (congrArg some (by kernel_rfl))
 f338:=Tryz.func158.trans (congrArg some (by kernel_rfl))
 t0:=Tryz.underlying0
 a0:=Tryz.isAgg0
 z0:=Tryz.sizeOf0
 v0:=Tryz.zeroValue0
 t2:=Tryz.underlying2
 a2:=Tryz.isAgg2
 z2:=Tryz.sizeOf2
 v2:=Tryz.zeroValue2
 t3:=Tryz.underlying3
 a3:=Tryz.isAgg3
 z3:=Tryz.sizeOf3
 v3:=Tryz.zeroValue3
 t4:=Tryz.underlying4
 a4:=Tryz.isAgg4
 z4:=Tryz.sizeOf4
 v4:=Tryz.zeroValue4
 t5:=Tryz.underlying5
 a5:=Tryz.isAgg5
 z5:=Tryz.sizeOf5
 v5:=Tryz.zeroValue5
 t9:=Tryz.underlying9
 a9:=Tryz.isAgg9
 z9:=Tryz.sizeOf9
 v9:=Tryz.zeroValue9
 t20:=Tryz.underlying20
 a20:=Tryz.isAgg20
 z20:=Tryz.sizeOf20
 v20:=Tryz.zeroValue20
 t21:=Tryz.underlying21
 a21:=Tryz.isAgg21
 z21:=Tryz.sizeOf21
 v21:=Tryz.zeroValue21
 t37:=Tryz.underlying37
 a37:=Tryz.isAgg37
 z37:=Tryz.sizeOf37
 v37:=Tryz.zeroValue37
 t46:=Tryz.underlying121
 a46:=Tryz.isAgg121
 z46:=Tryz.sizeOf121
 v46:=Tryz.zeroValue121
 t51:=Tryz.underlying120
 a51:=Tryz.isAgg120
 z51:=Tryz.sizeOf120
 v51:=Tryz.zeroValue120
 t53:=Tryz.underlying114
 a53:=Tryz.isAgg114
 z53:=Tryz.sizeOf114
 v53:=Tryz.zeroValue114
 t75:=Tryz.underlying41
 a75:=Tryz.isAgg41
 z75:=Tryz.sizeOf41
 v75:=Tryz.zeroValue41
 t76:=Tryz.underlying42
 a76:=Tryz.isAgg42
 z76:=Tryz.sizeOf42
 v76:=Tryz.zeroValue42
 t85:=Tryz.underlying160
 a85:=Tryz.isAgg160
 z85:=Tryz.sizeOf160
 v85:=Tryz.zeroValue160
 t127:=Tryz.underlying64
 a127:=Tryz.isAgg64
 z127:=Tryz.sizeOf64
 v127:=Tryz.zeroValue64
 t143:=Tryz.underlying188
 a143:=Tryz.isAgg188
 z143:=Tryz.sizeOf188
 v143:=Tryz.zeroValue188
 t145:=Tryz.underlying190
 a145:=Tryz.isAgg190
 z145:=Tryz.sizeOf190
 v145:=Tryz.zeroValue190
 t167:=Tryz.underlying159
 a167:=Tryz.isAgg159
 z167:=Tryz.sizeOf159
 v167:=Tryz.zeroValue159
 t168:=Tryz.underlying162
 a168:=Tryz.isAgg162
 z168:=Tryz.sizeOf162
 v168:=Tryz.zeroValue162
 t171:=Tryz.underlying113
 a171:=Tryz.isAgg113
 z171:=Tryz.sizeOf113
 v171:=Tryz.zeroValue113
 t173:=Tryz.underlying117
 a173:=Tryz.isAgg117
 z173:=Tryz.sizeOf117
 v173:=Tryz.zeroValue117
 t175:=Tryz.underlying178
 a175:=Tryz.isAgg178
 z175:=Tryz.sizeOf178
 v175:=Tryz.zeroValue178
 t210:=Tryz.underlying182
 a210:=Tryz.isAgg182
 z210:=Tryz.sizeOf182
 v210:=Tryz.zeroValue182
 t212:=Tryz.underlying149
 a212:=Tryz.isAgg149
 z212:=Tryz.sizeOf149
 v212:=Tryz.zeroValue149
 t213:=Tryz.underlying150
 a213:=Tryz.isAgg150
 z213:=Tryz.sizeOf150
 t232:=Tryz.underlying185
 a232:=Tryz.isAgg185
 z232:=Tryz.sizeOf185
 v232:=Tryz.zeroValue185
 t233:=Tryz.underlying186
 a233:=Tryz.isAgg186
 z233:=Tryz.sizeOf186
 v233:=Tryz.zeroValue186
 g15:=by kernel_rfl
 g16:=by kernel_rfl
 g17:=by kernel_rfl
 g18:=by kernel_rfl
 g19:=by kernel_rfl }
def Tryz.Ms:Go.Shelf.Ren:=⟨fun | 217=>138 | 266=>162 | n=>n,fun | 9=>9 | 5=>5 | 3=>3 | n=>n,fun | n=>n⟩
theorem Tryz.RG:Go.Proofs.Lays.n217 Tryz.prog Tryz.Ms:={
 mixed:=by kernel_rfl
 f217:=Tryz.func138.trans (congrArg some (by kernel_rfl))
 f266:=Tryz.func162.trans (congrArg some (by kernel_rfl))
 t3:=Tryz.underlying3
 a3:=Tryz.isAgg3
 z3:=Tryz.sizeOf3
 v3:=Tryz.zeroValue3
 t5:=Tryz.underlying5
 a5:=Tryz.isAgg5
 z5:=Tryz.sizeOf5
 v5:=Tryz.zeroValue5
 t9:=Tryz.underlying9
 a9:=Tryz.isAgg9
 z9:=Tryz.sizeOf9
 v9:=Tryz.zeroValue9 }
def Tryz.K9:Go.Shelf.Ren:=⟨fun | 171=>22 | 243=>49 | 246=>65 | 283=>91 | 284=>92 | 285=>93 | 286=>94 | 129=>127 | 317=>126 | 318=>128 | 319=>129 | 320=>130 | 337=>157 | 338=>158 | n=>n,fun | 3=>3 | 9=>9 | 2=>2 | 4=>4 | 171=>113 | 0=>0 | 53=>114 | 37=>37 | 5=>5 | 173=>117 | 212=>149 | 51=>120 | 20=>20 | 213=>150 | 46=>121 | 232=>185 | 233=>186 | n=>n,fun | 17=>1 | 18=>7 | 19=>8 | n=>n⟩
theorem Tryz.QI:Go.Proofs.LaysM.n171 Tryz.prog Tryz.K9:={
 mixed:=by kernel_rfl
 f129:=Tryz.func127.trans (congrArg some (by kernel_rfl))
 f171:=Tryz.func22.trans (congrArg some (by kernel_rfl))
 f243:=Tryz.func49.trans (congrArg some (by kernel_rfl))
 f246:=Tryz.func65.trans (congrArg some (by kernel_rfl))
 f283:=Tryz.func91.trans (congrArg some (by kernel_rfl))
 f284:=Tryz.func92.trans (congrArg some (by kernel_rfl))
 f285:=Tryz.func93.trans (congrArg some (by kernel_rfl))
 f286:=Tryz.func94.trans (congrArg some (by kernel_rfl))
 f317:=Tryz.func126.trans (congrArg some (by kernel_rfl))
 f318:=Tryz.func128.trans (congrArg some (by kernel_rfl))
 f319:=Tryz.func129.trans (congrArg some (by kernel_rfl))
 f320:=Tryz.func130.trans (congrArg some (by kernel_rfl))
 f337:=Tryz.func157.trans (congrArg some (by kernel_rfl))
 f338:=Tryz.func158.trans (congrArg some (by kernel_rfl))
 t0:=Tryz.underlying0
 a0:=Tryz.isAgg0
 z0:=Tryz.sizeOf0
 v0:=Tryz.zeroValue0
 t2:=Tryz.underlying2
 a2:=Tryz.isAgg2
 z2:=Tryz.sizeOf2
 v2:=Tryz.zeroValue2
 t3:=Tryz.underlying3
 a3:=Tryz.isAgg3
 z3:=Tryz.sizeOf3
 v3:=Tryz.zeroValue3
 t4:=Tryz.underlying4
 a4:=Tryz.isAgg4
 z4:=Tryz.sizeOf4
 v4:=Tryz.zeroValue4
 t5:=Tryz.underlying5
 a5:=Tryz.isAgg5
 z5:=Tryz.sizeOf5
 v5:=Tryz.zeroValue5
 t9:=Tryz.underlying9
 a9:=Tryz.isAgg9
 z9:=Tryz.sizeOf9
 v9:=Tryz.zeroValue9
 t20:=Tryz.underlying20
 a20:=Tryz.isAgg20
 z20:=Tryz.sizeOf20
 v20:=Tryz.zeroValue20
 t37:=Tryz.underlying37
 a37:=Tryz.isAgg37
 z37:=Tryz.sizeOf37
 v37:=Tryz.zeroValue37
 t46:=Tryz.underlying121
 a46:=Tryz.isAgg121
 z46:=Tryz.sizeOf121
 v46:=Tryz.zeroValue121
 t51:=Tryz.underlying120
 a51:=Tryz.isAgg120
 z51:=Tryz.sizeOf120
 v51:=Tryz.zeroValue120
 t53:=Tryz.underlying114
 a53:=Tryz.isAgg114
 z53:=Tryz.sizeOf114
 v53:=Tryz.zeroValue114
 t171:=Tryz.underlying113
 a171:=Tryz.isAgg113
 z171:=Tryz.sizeOf113
 v171:=Tryz.zeroValue113
 t173:=Tryz.underlying117
 a173:=Tryz.isAgg117
 z173:=Tryz.sizeOf117
 v173:=Tryz.zeroValue117
 t212:=Tryz.underlying149
 a212:=Tryz.isAgg149
 z212:=Tryz.sizeOf149
 v212:=Tryz.zeroValue149
 t213:=Tryz.underlying150
 a213:=Tryz.isAgg150
 z213:=Tryz.sizeOf150
 t232:=Tryz.underlying185
 a232:=Tryz.isAgg185
 z232:=Tryz.sizeOf185
 v232:=Tryz.zeroValue185
 t233:=Tryz.underlying186
 a233:=Tryz.isAgg186
 z233:=Tryz.sizeOf186
 v233:=Tryz.zeroValue186
 g17:=by kernel_rfl
 g18:=by kernel_rfl
 g19:=by kernel_rfl
 i0:=by kernel_rfl
 i2:=by kernel_rfl
 i3:=by kernel_rfl
 i4:=by kernel_rfl
 i5:=by kernel_rfl
 i9:=by kernel_rfl
 i20:=by kernel_rfl
 i37:=by kernel_rfl
 i46:=by kernel_rfl
 i51:=by kernel_rfl
 i53:=by kernel_rfl
 i171:=by kernel_rfl
 i173:=by kernel_rfl
 i212:=by kernel_rfl
 i232:=by kernel_rfl
 i233:=by kernel_rfl
 m17:=by kernel_rfl
 m18:=by kernel_rfl
 m19:=by kernel_rfl }
def Tryz.D9:Go.Shelf.Ren:=⟨fun | 105=>81 | 212=>106 | 99=>107 | 165=>34 | 166=>10 | 170=>12 | 169=>13 | 263=>142 | 264=>143 | 206=>144 | 240=>21 | 241=>55 | 276=>48 | 277=>77 | n=>n,fun | 9=>9 | 3=>3 | 4=>4 | 20=>20 | 0=>0 | 46=>121 | 109=>134 | 5=>5 | 72=>39 | 76=>42 | 51=>120 | 146=>123 | 53=>114 | 148=>157 | 70=>36 | 37=>37 | 75=>41 | 127=>64 | 164=>81 | 80=>46 | n=>n,fun | n=>n⟩
theorem Tryz.RC:Go.Proofs.Lays.n105 Tryz.prog Tryz.D9:={
 mixed:=by kernel_rfl
 f99:=Tryz.func107.trans (congrArg some (by kernel_rfl))
 f105:=Tryz.func81.trans (congrArg some (by kernel_rfl))
 f165:=Tryz.func34.trans (congrArg some (by kernel_rfl))
 f166:=Tryz.func10.trans (congrArg some (by kernel_rfl))
 f169:=Tryz.func13.trans (congrArg some (by kernel_rfl))
 f170:=Tryz.func12.trans (congrArg some (by kernel_rfl))
 f206:=Tryz.func144.trans (congrArg some (by kernel_rfl))
 f212:=Tryz.func106.trans (congrArg some (by kernel_rfl))
 f240:=Tryz.func21.trans (congrArg some (by kernel_rfl))
 f241:=Tryz.func55.trans (congrArg some (by kernel_rfl))
 f263:=Tryz.func142.trans (congrArg some (by kernel_rfl))
 f264:=Tryz.func143.trans (congrArg some (by kernel_rfl))
 f276:=Tryz.func48.trans (congrArg some (by kernel_rfl))
 f277:=Tryz.func77.trans (congrArg some (by kernel_rfl))
 t0:=Tryz.underlying0
 a0:=Tryz.isAgg0
 z0:=Tryz.sizeOf0
 v0:=Tryz.zeroValue0
 t3:=Tryz.underlying3
 a3:=Tryz.isAgg3
 z3:=Tryz.sizeOf3
 v3:=Tryz.zeroValue3
 t4:=Tryz.underlying4
 a4:=Tryz.isAgg4
 z4:=Tryz.sizeOf4
 v4:=Tryz.zeroValue4
 t5:=Tryz.underlying5
 a5:=Tryz.isAgg5
 z5:=Tryz.sizeOf5
 v5:=Tryz.zeroValue5
 t9:=Tryz.underlying9
 a9:=Tryz.isAgg9
 z9:=Tryz.sizeOf9
 v9:=Tryz.zeroValue9
 t20:=Tryz.underlying20
 a20:=Tryz.isAgg20
 z20:=Tryz.sizeOf20
 v20:=Tryz.zeroValue20
 t37:=Tryz.underlying37
 a37:=Tryz.isAgg37
 z37:=Tryz.sizeOf37
 v37:=Tryz.zeroValue37
 t46:=Tryz.underlying121
 a46:=Tryz.isAgg121
 z46:=Tryz.sizeOf121
 v46:=Tryz.zeroValue121
 t51:=Tryz.underlying120
 a51:=Tryz.isAgg120
 z51:=Tryz.sizeOf120
 v51:=Tryz.zeroValue120
 t53:=Tryz.underlying114
 a53:=Tryz.isAgg114
 z53:=Tryz.sizeOf114
 v53:=Tryz.zeroValue114
 t70:=Tryz.underlying36
 a70:=Tryz.isAgg36
 z70:=Tryz.sizeOf36
 v70:=Tryz.zeroValue36
 t72:=Tryz.underlying39
 a72:=Tryz.isAgg39
 z72:=Tryz.sizeOf39
 v72:=Tryz.zeroValue39
 t75:=Tryz.underlying41
 a75:=Tryz.isAgg41
 z75:=Tryz.sizeOf41
 v75:=Tryz.zeroValue41
 t76:=Tryz.underlying42
 a76:=Tryz.isAgg42
 z76:=Tryz.sizeOf42
 v76:=Tryz.zeroValue42
 t109:=Tryz.underlying134
 a109:=Tryz.isAgg134
 z109:=Tryz.sizeOf134
 v109:=Tryz.zeroValue134
 t127:=Tryz.underlying64
 a127:=Tryz.isAgg64
 z127:=Tryz.sizeOf64
 v127:=Tryz.zeroValue64
 t146:=Tryz.underlying123
 a146:=Tryz.isAgg123
 z146:=Tryz.sizeOf123
 v146:=Tryz.zeroValue123
 t148:=Tryz.underlying157
 a148:=Tryz.isAgg157
 z148:=Tryz.sizeOf157
 v148:=Tryz.zeroValue157
 t164:=Tryz.underlying81
 a164:=Tryz.isAgg81
 z164:=Tryz.sizeOf81
 v164:=Tryz.zeroValue81 }
def Tryz.s5:Go.Shelf.Ren:=⟨fun | 156=>15 | 165=>34 | 166=>10 | 169=>13 | 240=>21 | 241=>55 | 276=>48 | 277=>77 | n=>n,fun | 31=>48 | 9=>9 | 3=>3 | 4=>4 | 0=>0 | 20=>20 | 72=>39 | 76=>42 | 70=>36 | 37=>37 | 75=>41 | 127=>64 | 164=>81 | 5=>5 | 80=>46 | n=>n,fun | n=>n⟩
theorem Tryz.H6:Go.Proofs.Lays.n156 Tryz.prog Tryz.s5:={
 mixed:=by kernel_rfl
 f156:=Tryz.func15.trans (congrArg some (by kernel_rfl))
 f165:=Tryz.func34.trans (congrArg some (by kernel_rfl))
 f166:=Tryz.func10.trans (congrArg some (by kernel_rfl))
 f169:=Tryz.func13.trans (congrArg some (by kernel_rfl))
 f240:=Tryz.func21.trans (congrArg some (by kernel_rfl))
 f241:=Tryz.func55.trans (congrArg some (by kernel_rfl))
 f276:=Tryz.func48.trans (congrArg some (by kernel_rfl))
 f277:=Tryz.func77.trans (congrArg some (by kernel_rfl))
 t0:=Tryz.underlying0
 a0:=Tryz.isAgg0
 z0:=Tryz.sizeOf0
 v0:=Tryz.zeroValue0
 t3:=Tryz.underlying3
 a3:=Tryz.isAgg3
 z3:=Tryz.sizeOf3
 v3:=Tryz.zeroValue3
 t4:=Tryz.underlying4
 a4:=Tryz.isAgg4
 z4:=Tryz.sizeOf4
 v4:=Tryz.zeroValue4
 t9:=Tryz.underlying9
 a9:=Tryz.isAgg9
 z9:=Tryz.sizeOf9
 v9:=Tryz.zeroValue9
 t20:=Tryz.underlying20
 a20:=Tryz.isAgg20
 z20:=Tryz.sizeOf20
 v20:=Tryz.zeroValue20
 t31:=Tryz.underlying48
 a31:=Tryz.isAgg48
 z31:=Tryz.sizeOf48
 v31:=Tryz.zeroValue48
 t37:=Tryz.underlying37
 a37:=Tryz.isAgg37
 z37:=Tryz.sizeOf37
 v37:=Tryz.zeroValue37
 t70:=Tryz.underlying36
 a70:=Tryz.isAgg36
 z70:=Tryz.sizeOf36
 v70:=Tryz.zeroValue36
 t72:=Tryz.underlying39
 a72:=Tryz.isAgg39
 z72:=Tryz.sizeOf39
 v72:=Tryz.zeroValue39
 t75:=Tryz.underlying41
 a75:=Tryz.isAgg41
 z75:=Tryz.sizeOf41
 v75:=Tryz.zeroValue41
 t76:=Tryz.underlying42
 a76:=Tryz.isAgg42
 z76:=Tryz.sizeOf42
 v76:=Tryz.zeroValue42
 t127:=Tryz.underlying64
 a127:=Tryz.isAgg64
 z127:=Tryz.sizeOf64
 v127:=Tryz.zeroValue64
 t164:=Tryz.underlying81
 a164:=Tryz.isAgg81
 z164:=Tryz.sizeOf81
 v164:=Tryz.zeroValue81 }
def Tryz.Mp:Go.Shelf.Ren:=⟨fun | 170=>12 | n=>n,fun | 70=>36 | 3=>3 | 0=>0 | 72=>39 | 37=>37 | 5=>5 | n=>n,fun | n=>n⟩
theorem Tryz.RE:Go.Proofs.Lays.n170 Tryz.prog Tryz.Mp:={
 mixed:=by kernel_rfl
 f170:=Tryz.func12.trans (congrArg some (by kernel_rfl))
 t0:=Tryz.underlying0
 a0:=Tryz.isAgg0
 z0:=Tryz.sizeOf0
 v0:=Tryz.zeroValue0
 t3:=Tryz.underlying3
 a3:=Tryz.isAgg3
 z3:=Tryz.sizeOf3
 v3:=Tryz.zeroValue3
 t37:=Tryz.underlying37
 a37:=Tryz.isAgg37
 z37:=Tryz.sizeOf37
 v37:=Tryz.zeroValue37
 t70:=Tryz.underlying36
 a70:=Tryz.isAgg36
 z70:=Tryz.sizeOf36
 v70:=Tryz.zeroValue36
 t72:=Tryz.underlying39
 a72:=Tryz.isAgg39
 z72:=Tryz.sizeOf39
 v72:=Tryz.zeroValue39 }
end Go.Proofs
namespace Go.Proofs
theorem Tryz.Dw:Builder.Extra Tryz.prog Tryz.D9:={
 sizeBuilder:=by kernel_rfl
 liesBuilder:=by kernel_rfl
 t5:=Tryz.underlying5
 a5:=Tryz.isAgg5
 z5:=Tryz.sizeOf5
 v5:=Tryz.zeroValue5
 infoByte:=by kernel_rfl
 cellsByte:=by kernel_rfl
 sizeByte:=by kernel_rfl
 neB5:=by decide }
end Go.Proofs
namespace Go.Proofs
theorem Tryz.ot:Builder.Extra Tryz.prog Tryz.s5:={
 sizeBuilder:=by kernel_rfl
 liesBuilder:=by kernel_rfl
 t5:=Tryz.underlying5
 a5:=Tryz.isAgg5
 z5:=Tryz.sizeOf5
 v5:=Tryz.zeroValue5
 infoByte:=by kernel_rfl
 cellsByte:=by kernel_rfl
 sizeByte:=by kernel_rfl
 neB5:=by decide }
end Go.Proofs
namespace Go.Proofs.SeatU
open Go.Dn Go.Md Go.Proofs Go.RowKit Go.Shelf Go.Lib
def rH:aq:=⟨[.val .str,.val .str],[.val .str],fun x=>dJ x.1 x.2.1⟩
theorem F1:dW Tryz.prog 90:=iR (fn:=Tryz.f90) (by kernel_rfl) rfl (by decide)
theorem Ge:eC Tryz.prog 90 rH:=by
 intro G w ow args x y hG how ha hm
 refine Mm (P:=Tryz.prog) (f:=90) (m:=rH.m) ?_ G w ow args x y hG how ha hm
 intro s c r w hm
 replace hm:dJ s c=some (r,()):=hm
 unfold dJ at hm
 cases hb:(decide (s.length<=9223372036854775807)&&(decide (c.length<4294967281)&&c.all fun b=>decide (b.toNat<128))) with
 | false=>rw[hb] at hm;cases hm
 | true=>
  rw[hb] at hm
  simp only[cond_true,Option.some.injEq,Prod.mk.injEq,and_true] at hm
  subst hm
  simp only[Bool.and_eq_true,decide_eq_true_eq,List.all_eq_true] at hb
  have:=Any.strings_Trim_laid Tryz.RD (by kernel_rfl) (bs s) (bs c) w (by simpa [bs,ByteArray.size] using hb.1) (by simpa [bs,ByteArray.size] using hb.2.1) (fun j b hj=>hb.2.2 b (List.mem_of_getElem? (by simpa [bs] using hj)))
  change Calls Tryz.prog 90 _ _ _ at this
  simpa [bs] using this
def fy:aq:=⟨[.val .str,.val (.int .u8)],[.val tI],fun x=>cF x.1 x.2.1⟩
theorem oL:dW Tryz.prog 138:=iR (fn:=Tryz.f138) (by kernel_rfl) rfl (by decide)
theorem oM:eC Tryz.prog 138 fy:=by
 intro G w ow args x y hG how ha hm
 refine D8 (P:=Tryz.prog) (f:=138) (a:= .str) (a':= .int .u8) (t:=tI) (m:=fy.m) rfl rfl ?_ G w ow args x y hG how ha hm
 intro s c r w hm
 replace hm:cF s c=some (r,()):=hm
 unfold cF at hm
 obtain rfl:Lib.indexByte s c.toNat.toUInt8=r:=congrArg (fun o=>(Option.getD o (0,())).1) hm
 have:=Any.stringslite_IndexByte Tryz.RG (bs s) c w
 refine⟨.int .i64 (Lib.indexByte s c.toNat.toUInt8),fun G=>rfl,this.mono ?_⟩
 rintro e w' ⟨he,rfl⟩
 exact⟨he,RowKit.Below.refl _ _⟩
def qc:aq:=⟨[.val .str,.val .str],[.row 9 .str],fun x=>strings_Split x.1 x.2.1⟩
theorem pU:dW Tryz.prog 35:=iR (fn:=Tryz.f35) (by kernel_rfl) rfl (by decide)
theorem vP:eC Tryz.prog 35 qc:=Ra Tryz.K7
theorem Rq (n:Nat) (h:n<100):Lib.decDigits n=KG n:=by
 unfold KG
 rw[Lib.decDigits]
 by_cases h1:n<10
 ·simp[h1]
 ·rw[dif_neg h1,Lib.decDigits,dif_pos (by omega),if_neg h1];rfl
def jP:aq:=⟨[.val tI],[.val .str],fun x=>strconv_Itoa x.1⟩
theorem qN:dW Tryz.prog 22:=iR (fn:=Tryz.f22) (by kernel_rfl) rfl (by decide)
theorem qX:eC Tryz.prog 22 jP:=by
 intro G w ow args x y hG how ha hm
 refine KX (P:=Tryz.prog) (f:=22) (a:=tI) (t:= .str) (m:=jP.m) (g:=1) (by kernel_rfl) rfl ?_ G w ow args x y hG how ha hm
 intro (n:Int) (r:List UInt8) w htab hm
 replace hm:strconv_Itoa n=some (r,()):=hm
 unfold strconv_Itoa at hm
 have fin: -9223372036854775808<=n->n<=9223372036854775807->Lib.itoa n=r->∃ v,(∀ G:Gh,bK G .str r v)/\Calls Tryz.prog 22 #[zU tI n] w fun e w'=>e= .returned v/\RowKit.Below w.heap.size w w':=by
  intro h0 h1 e
  subst e
  have:=Any.strconv_Itoa Tryz.QI n h0 h1 w htab
  refine⟨.string (bs (Lib.itoa n)),fun G=>rfl,this.mono ?_⟩
  rintro e w' ⟨he,k,os,rfl⟩
  exact⟨he,LU w k os⟩
 cases hb:(decide (0<=n)&&decide (n<100)) with
 | true=>
  rw[hb] at hm
  simp only[cond_true,Option.some.injEq,Prod.mk.injEq,and_true] at hm
  simp only[Bool.and_eq_true,decide_eq_true_eq] at hb
  obtain⟨k,rfl⟩:∃ k:Nat,n=k:=⟨n.toNat,by omega⟩
  refine fin (by omega) (by omega) ?_
  rw[<- hm,Int.toNat_natCast, <- Rq k (by omega)]
  rfl
 | false=>
  rw[hb,cond_false] at hm
  cases hc:(decide (-9223372036854775808<=n)&&decide (n<=9223372036854775807)) with
  | false=>rw[hc] at hm;cases hm
  | true=>
   rw[hc] at hm
   simp only[cond_true,Option.some.injEq,Prod.mk.injEq,and_true] at hm
   simp only[Bool.and_eq_true,decide_eq_true_eq] at hc
   exact fin hc.1 hc.2 hm
def ko:aq:=⟨[.val .str,.val tI],[.val .str],fun x=>strings_Repeat x.1 x.2.1⟩
theorem uH:dW Tryz.prog 81:=iR (fn:=Tryz.f81) (by kernel_rfl) rfl (by decide)
theorem uJ:eC Tryz.prog 81 ko:=by
 intro G w ow args x y hG how ha hm
 refine D8 (P:=Tryz.prog) (f:=81) (a:= .str) (a':=tI) (t:= .str) (m:=ko.m) rfl rfl ?_ G w ow args x y hG how ha hm
 intro (s:List UInt8) (n:Int) (r:List UInt8) w hm
 replace hm:strings_Repeat s n=some (r,()):=hm
 unfold strings_Repeat at hm
 cases hb:(decide (0<=n)&&(decide (n<=9223372036854775807)&&decide (s.length*n.toNat<=140737488355328))) with
 | false=>rw[hb] at hm;cases hm
 | true=>
  rw[hb] at hm
  simp only[cond_true,Option.some.injEq,Prod.mk.injEq,and_true] at hm
  subst hm
  simp only[Bool.and_eq_true,decide_eq_true_eq] at hb
  obtain⟨k,rfl⟩:∃ k:Nat,n=k:=⟨n.toNat,by omega⟩
  have hsz:(bs s).size=s.length:=by simp[bs,ByteArray.size]
  have:=Any.strings_Repeat Tryz.RC Tryz.Dw (bs s) k w (by omega) (by rw[hsz];simpa using hb.2.2)
  refine⟨.string (bs (Lib.repeatL s k)),fun G=>rfl,this.mono ?_⟩
  rintro e w' ⟨he,hbel⟩
  exact⟨he,hbel⟩
def uh:aq:=⟨[.val .str,.val .str],[.val (.slice .str)],fun x=>rJ x.1 x.2.1⟩
theorem B3:dW Tryz.prog 35:=pU
theorem Cl:eC Tryz.prog 35 uh:=JT Tryz.K7
def rG:aq:=⟨[.val (.slice .str),.val .str],[.val .str],fun x=>strings_Join x.1 x.2.1⟩
theorem wT:dW Tryz.prog 15:=iR (fn:=Tryz.f15) (by kernel_rfl) rfl (by decide)
theorem w4:eC Tryz.prog 15 rG:=Ry Tryz.H6 Tryz.ot
end Go.Proofs.SeatU
set_option maxRecDepth 100000
namespace Go.Proofs.SeatU
open Go.Dn Go.Md Go.Proofs Go.RowKit Go.Shelf Go.Lib
def vr:List (Nat×Ann):=[(2,⟨[(0,.val .str),(1,.val (.int .u8)),(2,.val (.int .u8)),(9,.val tI),(10,.val tI)],[],[],bL _⟩),
 (200002,⟨[],[],[],fun _=>0⟩)]
noncomputable def kQ:aq:=⟨[.val .str,.val (.int .u8),.val (.int .u8)],[.val .bool],fun x=>xG x.1 x.2.1 x.2.2.1⟩
noncomputable def yq:Cx:=⟨Tryz.prog,[],[]⟩
theorem FL:∀ x,BN yq vr none Tryz.f108 kQ x=kQ.m x:=by intro x;kernel_rfl
theorem HV:dW Tryz.prog 108:=iR (fn:=Tryz.f108) (by kernel_rfl) rfl (by decide)
theorem Ib:eC Tryz.prog 108 kQ:=F0 (X:=yq) (.nil _) (by kernel_rfl) kQ vr none (by kernel_rfl) (fun x y h=>(FL x).trans h)
def uG:List (Nat×Ann):=[]
noncomputable def iq:aq:=⟨[.val .str],[.val .bool],fun x=>kG x.1⟩
noncomputable def wN:Cx:=⟨Tryz.prog,[(108,kQ)],[]⟩
theorem EH:∀ x,BN wN uG none Tryz.f83 iq x=iq.m x:=by intro x;kernel_rfl
theorem wS:dW Tryz.prog 83:=iR (fn:=Tryz.f83) (by kernel_rfl) rfl (by decide)
theorem qW:eC Tryz.prog 83 iq:=F0 (X:=wN) (.cons Ib HV (.nil _)) (by kernel_rfl) iq uG none (by kernel_rfl) (fun x y h=>(EH x).trans h)
structure Kept (w w':World):Prop where
 size:w.heap.size<=w'.heap.size
 os:w'.os=w.os
 output:w'.output=w.output
 block:∀ b,b<w.heap.size->w'.heap[b]? =w.heap[b]?
theorem Kept.refl (w:World):Kept w w:=⟨Nat.le_refl _,rfl,rfl,fun _ _=>rfl⟩
theorem Kept.trans {a b c:World} (h:Kept a b) (k:Kept b c):Kept a c:=⟨Nat.le_trans h.size k.size,k.os.trans h.os,k.output.trans h.output,fun i hi=>(k.block i (Nat.lt_of_lt_of_le hi h.size)).trans (h.block i hi)⟩
theorem Kept.drawn {a b:World} (h:Kept a b) (n:Nat):Kept a (b.drewN n):=⟨h.size,h.os,h.output,h.block⟩
theorem QN (s:List UInt8) (most:Int) (w:World) (h1:most<(s.length:Int)): Calls Tryz.prog 59 #[.string (bs s),.int .i64 most] w fun e w'=>e= .returned (.tuple #[.int .i64 0,.bool false])/\w'=w:=by
 have e83:∀ args w,(callFunc 83 args).run Tryz.prog w= .ok (.enter 83 args) w:=enters_of Tryz.func83 (by kernel_rfl) rfl
 have e84:∀ args w,(callFunc 84 args).run Tryz.prog w= .ok (.enter 84 args) w:=enters_of Tryz.func84 (by kernel_rfl) rfl
 have mixed:Tryz.prog.follows .mixedOrders=true:=by kernel_rfl
 have t3:=Tryz.underlying3;have t4:=Tryz.underlying4;have t5:=Tryz.underlying5;have t9:=Tryz.underlying9
 have hsz:(bs s).size=s.length:=List.size_toArray
 go_enter Tryz.func59,Tryz.ntmps59
 go_wp2
 go_ret2
 exact⟨rfl,rfl⟩
theorem QO (s:List UInt8) (most:Int) (w:World) (h1:(s.length:Int)<=most) (hd:Calls Tryz.prog 83 #[.string (bs s)] w fun e w'=>e= .returned (.bool false)/\Kept w w'): Calls Tryz.prog 59 #[.string (bs s),.int .i64 most] w fun e w'=>e= .returned (.tuple #[.int .i64 0,.bool false])/\Kept w w':=by
 have e83:∀ args w,(callFunc 83 args).run Tryz.prog w= .ok (.enter 83 args) w:=enters_of Tryz.func83 (by kernel_rfl) rfl
 have e84:∀ args w,(callFunc 84 args).run Tryz.prog w= .ok (.enter 84 args) w:=enters_of Tryz.func84 (by kernel_rfl) rfl
 have mixed:Tryz.prog.follows .mixedOrders=true:=by kernel_rfl
 have t3:=Tryz.underlying3;have t4:=Tryz.underlying4;have t5:=Tryz.underlying5;have t9:=Tryz.underlying9
 have hsz:(bs s).size=s.length:=List.size_toArray
 go_enter Tryz.func59,Tryz.ntmps59
 go_wp2_with (go_at_fn 83;refine hd.mono ?_;rintro e w' ⟨rfl,hk⟩)
 go_ret2
 exact⟨rfl,hk⟩
theorem QS (s:List UInt8) (most:Int) (w:World) (h1:(s.length:Int)<=most) (h2:1<(s.length:Int)) (h3:(bs s)[0]? =some 48) (hd:Calls Tryz.prog 83 #[.string (bs s)] w fun e w'=>e= .returned (.bool true)/\Kept w w'): Calls Tryz.prog 59 #[.string (bs s),.int .i64 most] w fun e w'=>e= .returned (.tuple #[.int .i64 0,.bool false])/\Kept w w':=by
 have e83:∀ args w,(callFunc 83 args).run Tryz.prog w= .ok (.enter 83 args) w:=enters_of Tryz.func83 (by kernel_rfl) rfl
 have e84:∀ args w,(callFunc 84 args).run Tryz.prog w= .ok (.enter 84 args) w:=enters_of Tryz.func84 (by kernel_rfl) rfl
 have mixed:Tryz.prog.follows .mixedOrders=true:=by kernel_rfl
 have t3:=Tryz.underlying3;have t4:=Tryz.underlying4;have t5:=Tryz.underlying5;have t9:=Tryz.underlying9
 have hsz:(bs s).size=s.length:=List.size_toArray
 have h3':∀ h:0<(bs s).size,(bs s)[0]'h=48:=fun h=>by rw[getElem?_pos (bs s) 0 h] at h3;exact Option.some.inj h3
 go_enter Tryz.func59,Tryz.ntmps59
 go_wp2_with (go_at_fn 83;refine hd.mono ?_;rintro e w' ⟨rfl,hk⟩)
 all_goals first | (go_ret2;exact⟨rfl,hk⟩) | (exfalso;simp_all)
theorem QT (s:List UInt8) (most n:Int) (b:UInt8) (w:World) (h1:(s.length:Int)<=most) (h3:(bs s)[0]? =some b) (h2:¬(1<(s.length:Int))\/b≠48) (hd:Calls Tryz.prog 83 #[.string (bs s)] w fun e w'=>e= .returned (.bool true)/\Kept w w') (ha:∀ w,Calls Tryz.prog 84 #[.string (bs s)] w fun e w'=>e= .returned (.tuple #[.int .i64 n,.nilIface])/\Kept w w'): Calls Tryz.prog 59 #[.string (bs s),.int .i64 most] w fun e w'=>e= .returned (.tuple #[.int .i64 n,.bool true])/\Kept w w':=by
 have e83:∀ args w,(callFunc 83 args).run Tryz.prog w= .ok (.enter 83 args) w:=enters_of Tryz.func83 (by kernel_rfl) rfl
 have e84:∀ args w,(callFunc 84 args).run Tryz.prog w= .ok (.enter 84 args) w:=enters_of Tryz.func84 (by kernel_rfl) rfl
 have mixed:Tryz.prog.follows .mixedOrders=true:=by kernel_rfl
 have t3:=Tryz.underlying3;have t4:=Tryz.underlying4;have t5:=Tryz.underlying5;have t9:=Tryz.underlying9
 have hsz:(bs s).size=s.length:=List.size_toArray
 have t41:=Tryz.underlying41;have t42:=Tryz.underlying42
 have h3':∀ h:0<(bs s).size,(bs s)[0]'h=b:=fun h=>by rw[getElem?_pos (bs s) 0 h] at h3;exact Option.some.inj h3
 have hb48:b≠48->¬((b.toNat:Int)=48):=fun h e=>h (UInt8.toNat_inj.1 (show b.toNat=48 by omega))
 rcases Classical.em (1<(s.length:Int)) with h4 | h4
 ·have h5:¬((b.toNat:Int)=48):=hb48 (h2.resolve_left (fun h=>h h4))
  go_enter Tryz.func59,Tryz.ntmps59
  go_wp2_with (first | (go_at_fn 83;refine hd.mono ?_;rintro e w' ⟨rfl,hk⟩) | (go_at_fn 84;refine (ha _).mono ?_;rintro e w'' ⟨rfl,hk2⟩))
  all_goals first | (exfalso;omega) | skip
  all_goals first | (go_quiet (fail);go_wp2;go_ret2;exact⟨rfl,hk.trans (hk2.drawn _)⟩) | (exfalso;simp_all;done) | (exfalso;simp_all;omega)
 ·go_enter Tryz.func59,Tryz.ntmps59
  go_wp2_with (first | (go_at_fn 83;refine hd.mono ?_;rintro e w' ⟨rfl,hk⟩) | (go_at_fn 84;refine (ha _).mono ?_;rintro e w'' ⟨rfl,hk2⟩))
  all_goals first | (exfalso;omega) | skip
  all_goals first | (go_quiet (fail);go_wp2;go_ret2;exact⟨rfl,hk.trans (hk2.drawn _)⟩) | (exfalso;simp_all;done) | (exfalso;simp_all;omega)
theorem Kept.QU {w w':World} (h:RowKit.Below w.heap.size w w'):Kept w w':=⟨h.size,h.os,h.output,h.block⟩
theorem KM {G:Gh} {w:World} (s:List UInt8) (hG:Agr G w) (hT:fR Tryz.prog G) (D:Bool) (hm:kG s=some (D,())): Calls Tryz.prog 83 #[.string (bs s)] w fun e w'=>e= .returned (.bool D)/\Kept w w':=by
 have h:=qW G w (fun _=>none) [.string (bs s)] (s,()) (D,()) hG (fun _ _ h=>nomatch h) ⟨_,[],fun _=>rfl,fun h=>(Bool.noConfusion h),(by show an G .str s [.string (bs s)];rfl),rfl⟩ hm hT
 refine h.mono ?_
 rintro e w' ⟨G',ow',vs,g⟩
 obtain⟨v,us,hv,hr,h2,_⟩:=g.out
 have e2:us=[]:=h2
 have e1:[v]=[Value.bool D]:=hr
 cases e1
 subst e2;subst hv
 exact⟨g.ret,g.size,g.os,g.output,fun b hb=>(g.old b hb rfl).1⟩
def AO:aq:=⟨[.val .str,.val tI],[.val tI,.val .bool],fun x=>nW x.1 x.2.1⟩
theorem JE:dW Tryz.prog 59:=iR (fn:=Tryz.f59) (by kernel_rfl) rfl (by decide)
theorem Lg {G:Gh} {w:World} (s:List UInt8) (most n:Int) (b:Bool) (hG:Agr G w) (hT:fR Tryz.prog G) (hm:nW s most=some (n,b,())): Calls Tryz.prog 59 #[.string (bs s),.int .i64 most] w fun e w'=>e= .returned (.tuple #[.int .i64 n,.bool b])/\Kept w w':=by
 unfold nW at hm
 rcases Classical.em (most<(s.length:Int)) with h | h
 ·rw[decide_eq_true h,cond_true] at hm
  cases hm
  exact (QN s most w h).mono fun e w' hh=>⟨hh.1,hh.2 ▸ Kept.refl w⟩
 ·rw[decide_eq_false h,cond_false] at hm
  rcases Classical.em (s.length<=18) with h18 | h18
  rotate_left
  ·rw[decide_eq_false h18,cond_false] at hm;cases hm
  rw[decide_eq_true h18,cond_true] at hm
  have hD:=qQ s (by omega)
  have hle:(s.length:Int)<=most:=by omega
  have hdd:(!(s==[])&&s.all NV)=(decide (s≠[])&&s.all bw):=by cases s<;>rfl
  rw[hdd] at hm
  generalize hDD:(decide (s≠[])&&s.all bw)=D at hD hm
  have hd:=KM s hG hT D hD
  cases D with
  | false=>
   cases hm
   exact QO s most w hle hd
  | true=>
   cases s with
   | nil=>cases hDD
   | cons c r=>
    have h3:(bs (c::r))[0]? =some c:=by
     rw[getElem?_pos (bs (c::r)) 0 (by show 0<(c::r).toArray.size;simp)];rfl
    rcases Classical.em (1<(c::r).length/\c=48) with h2 | h2
    ·obtain⟨h2,rfl⟩:=h2
     have e:(!true||(decide (1<((48:UInt8)::r).length)&&((48:UInt8)::r).head? ==some 48))=true:=by rw[decide_eq_true h2];rfl
     rw[e,cond_true] at hm
     cases hm
     exact QS _ most w hle (by omega) h3 hd
    ·have e:(!true||(decide (1<(c::r).length)&&(c::r).head? ==some 48))=false:=by
      rw[Bool.not_true,Bool.false_or,Bool.and_eq_false_iff]
      rcases Classical.em (1<(c::r).length) with h4 | h4
      ·right
       have h5:c≠48:=fun h=>h2 ⟨h4,h⟩
       exact beq_eq_false_iff_ne.2 (fun h=>h5 (Option.some.inj h))
      ·left;exact decide_eq_false h4
     rw[e,cond_false] at hm
     cases ha:Lib.atoi (c::r) with
     | none=>rw[ha] at hm;cases hm
     | some m=>
      rw[ha] at hm
      cases hm
      refine QT _ most n c w hle h3 ?_ hd fun w=> ?_
      ·rcases Classical.em (1<(c::r).length) with h4 | h4
       ·right;exact fun h=>h2 ⟨h4,h⟩
       ·left;omega
      ·have:=Any.strconv_Atoi Tryz.RF (bs (c::r)) n (by show (c::r).toArray.size<=18;simpa using h18) (by simpa [bs] using ha) w
       change Calls Tryz.prog 84 _ _ _ at this
       refine this.mono ?_
       rintro e w' ⟨rfl,t,rfl⟩
       exact⟨rfl,Kept.QU (bytesWorld_below w _ t)⟩
theorem JK:eC Tryz.prog 59 AO:=by
 intro G w ow args x y hG how ha hm hT
 obtain⟨s,most,u⟩:=x
 obtain⟨n,b,u'⟩:=y
 obtain⟨v,us,h1,_,hv,v',us',h2,_,hv',h3⟩:=ha
 have e1:=h1 rfl
 have e2:=h2 rfl
 have e3:us'=[]:=h3
 have e4:[v]=[.string (bs s)]:=hv
 have e5:[v']=[.int .i64 most]:=hv'
 cases e4;cases e5
 subst e1;subst e2;subst e3
 refine (Lg s most n b hG hT hm).mono ?_
 rintro e w' ⟨he,hk⟩
 refine⟨G,fun _=>none,[.int .i64 n,.bool b], ?_⟩
 exact {
  ret:=he
  le:=Gh.le_refl G
  agr:=fun i o hio=>by
   have hw:=hG i o hio
   rw[hk.block i (bJ hw)];exact hw
  size:=hk.size
  os:=hk.os
  output:=hk.output
  old:=fun i hlt _=>⟨hk.block i hlt,rfl⟩
  own:=fun i j hij=>by cases hij
  out:=⟨_,_,rfl,rfl,_,_,rfl,rfl,rfl,trivial⟩
  hnd:=fun _=>rfl }
end Go.Proofs.SeatU
