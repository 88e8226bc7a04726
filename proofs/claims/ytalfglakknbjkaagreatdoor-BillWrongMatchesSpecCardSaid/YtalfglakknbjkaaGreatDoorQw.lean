/-
  Plain facts: the sheet by the reference; the plain law. No condition.
-/
import Derived.Test.YtalfglakknbjkaaGreatDoorQu
import Derived.Test.YtalfglakknbjkaaGreatDoorQn
import Derived.Test.YtalfglakknbjkaaGreatDoorQs
set_option linter.all false
namespace Go.Md
open Go.Dn
theorem af6 {n:Int} (h1: -9223372036854775808<n) (h2:n≤9223372036854775807):I5 n=some ((n.natAbs:Int),()):=by
 unfold I5
 rw[az (by omega) (by omega)]
 by_cases h:0 - n>n
 ·rw[amQ h];congr 2;omega
 ·rw[amP h];congr 2;omega
structure Fk (g:Nat→Int) (m b:Nat):Prop where
 lt:b<m
 le:∀ j,j<m→g j≤g b
 first:∀ j,j<b→g j<g b
theorem Fk.uniq {g:Nat→Int} {m a b:Nat} (ha:Fk g m a) (hb:Fk g m b):a=b:=by
 rcases al7 a b with h | h | h
 ·have:=hb.first a h;have:=ha.le b hb.lt;omega
 ·exact h
 ·have:=ha.first b h;have:=hb.le a ha.lt;omega
def nZ (u:Nat) (ws:List Nat) (c i:Nat):Int:=if kR (rS u ws) ws.length i<c then -1 else (rS u ws i:Int)
def iJ (u:Nat) (pl:Int) (ws:List Nat) (c i:Nat):aj:=(((shQ u ws.sum (ws.getD i 0)+if kR (rS u ws) ws.length i<c then 1 else 0:Nat):Int),pl)
theorem adz {u:Nat} {ws o:List Nat} (ho:Aq (rS u ws) ws.length o) {c b:Nat} (hb:o[c]? =some b):Fk (nZ u ws c) ws.length b:=by
 have hrb:=ho.acB hb
 have eb:nZ u ws c b=(rS u ws b:Int):=by unfold nZ;rw[amP (by omega)]
 refine⟨ho.mem.1 (alr hb),fun j hj=> ?_,fun j hj=> ?_⟩
 ·rw[eb]
  unfold nZ
  split
  ·omega
  ·rename_i hr
   have hj2:=ho.Kr hj
   by_cases e:kR (rS u ws) ws.length j=c
   ·rw[e,hb] at hj2;cases hj2;omega
   ·have:=ho.KQ hb hj2 (by omega)
    unfold ahead at this;omega
 ·rw[eb]
  unfold nZ
  split
  ·omega
  ·rename_i hr
   have hbl:b<ws.length:=ho.mem.1 (alr hb)
   have hj2:=ho.Kr (show j<ws.length by omega)
   by_cases e:kR (rS u ws) ws.length j=c
   ·rw[e,hb] at hj2;cases hj2;omega
   ·have:=ho.KQ hb hj2 (by omega)
    unfold ahead at this;omega
theorem ag0 (L n pl:Int) (out:List aj) (N:Nat) (hN:0<N∧N≤1000) (g:Nat→Int) (b:Nat) (hb:Fk g N b) (f:Nat) (hf:N<f):
 iter f ((L,(0:Int),(N:Int),(0:Int),n,pl,out,(List.range N).map g,()):BE) Bk=some (Sum.inr (L,(b:Int),n,pl,out,(List.range N).map g,())):=by
 refine aZ (Inv:=fun i X=>∃ a:Nat,Fk g (max i 1) a∧X=(L,(a:Int),(N:Int),(i:Int),n,pl,out,(List.range N).map g,())) N (fun r=>r=some (Sum.inr (L,(b:Int),n,pl,out,(List.range N).map g,()))) ?_ ?_ f 0 _ ⟨0,⟨by omega,fun j hj=>(by rw[show j=0 by omega];exact Int.le_refl _),fun j hj=>absurd hj (by omega)⟩,rfl⟩ (by omega) (by omega)
 ·rintro i _ again hi ⟨a,ha,rfl⟩ ih
  unfold Bk
  dsimp only
  have hal:=ha.lt
  have e1:((List.range N).map g)[i]? =some (g i):=by rw[akT,akU hi];rfl
  have e2:((List.range N).map g)[a]? =some (g a):=by rw[akT,akU (by omega)];rfl
  have el:((List.range N).map g).length=N:=by simp
  rw[aD (by omega),el,aH (by simp only[ajK,amI];omega),akq,e1,amq,aH (by simp only[ajK,amI];omega),akq,e2,amq,az (by omega) (by omega)]
  by_cases h:g i>g a
  ·rw[aD h]
   refine ih _ ⟨i,⟨by omega,fun j hj=> ?_,fun j hj=> ?_⟩,rfl⟩
   ·by_cases e:j=i
    ·subst e;omega
    ·have:=ha.le j (by omega);omega
   ·have:=ha.le j (by omega);omega
  ·rw[aE h]
   refine ih _ ⟨a,⟨by omega,fun j hj=> ?_,ha.first⟩,rfl⟩
   by_cases e:j=i
   ·subst e;omega
   ·exact ha.le j (by omega)
 ·rintro _ again ⟨a,ha,rfl⟩
  unfold Bk
  dsimp only
  rw[aE (by omega)]
  rw[show max N 1=N by omega] at ha
  rw[ha.uniq hb]
theorem aa3 (n pl:Int) (hn:n.natAbs≤1000000000000000) (hpl:0≤pl∧pl≤9) (ws:List Nat) (h:Bg ws):
 Lh (n,pl) (wI ws)=some ((cu n ws).map fun x=>(x,pl),0,()):=by
 have hl:=h.len
 have hsum:=h.ab7
 have hpos:=h.pos
 generalize hu:n.natAbs=u at*
 have hQ:∀ j,shQ u ws.sum (ws.getD j 0)≤u:=fun j=>by
  unfold shQ
  have hw:ws.getD j 0≤ws.sum:=by
   rw[akK]
   cases hj:ws[j]? with
   | none=>simp
   | some w=>
    have h1:(ws.take (j+1)).sum≤ws.sum:=by
     conv=>rhs;rw[← alL (j+1) ws,alH]
     omega
    rw[vL hj] at h1
    simp;omega
  exact Nat.div_le_of_le_mul (by rw[amb ws.sum];exact amc u hw)
 unfold Lh
 rw[kf,amq]
 dsimp only
 rw[amQ (show aY (n,pl) from ⟨by omega,hpl.1,hpl.2⟩),zne,amD,CS,qL,aE (by omega),aE (by omega)]
 have loop1:∀ f,ws.length<f→iter f ((wI ws,(0:Int),wI ws,(ws.length:Int),(0:Int),n,pl,()):Dv) EB=some (Sum.inr (wI ws,(ws.sum:Int),n,pl,())):=by
  intro f hf
  refine aZ (Inv:=fun i X=>X=(wI ws,(((ws.take i).sum:Nat):Int),wI ws,(ws.length:Int),(i:Int),n,pl,())) ws.length (fun r=>r=some (Sum.inr (wI ws,(ws.sum:Int),n,pl,()))) ?_ ?_ f 0 _ (by simp) (by omega) (by omega)
  ·rintro i _ again hi rfl ih
   unfold EB
   dsimp only
   have hw:ws[i]? =some ws[i]:=aC hi
   have hwl:=h.le _ (ak1 hi)
   generalize ws[i]=w at hw hwl
   have h1:=h.V8 i
   rw[aD (by omega),bf,ND hw,amq,x2,amq]
   dsimp only
   rw[amH (by omega),ajW,amD,az (by omega) (by omega),az (by omega) (by omega)]
   refine ih _ ?_
   rw[vL hw]
   simp
  ·rintro _ again rfl
   unfold EB
   dsimp only
   rw[aE (by omega),alN (alZ _)]
 rw[loop1 _ (by omega),aF]
 dsimp only
 rw[show ((ws.sum:Int)==0)=false by simp;omega,amD,qL,aH (by simp only[ajK,amI];omega),aH (by simp only[ajK,amI];omega)]
 have hmax:(if (w64 (0 - n))>n then (w64 (0 - n)) else n)=(u:Int):=by
  rw[az (by omega) (by omega)]
  split<;>omega
 rw[hmax]
 have loop2:∀ f,ws.length<f→iter f (((ws.sum:Int),(u:Int),(u:Int),wI ws,(ws.length:Int),(0:Int),n,pl,List.replicate (Int.toNat (ws.length:Int)) ((0,0):aj),List.replicate (Int.toNat (ws.length:Int)) (0:Int),()):Bl) A7=
  some (Sum.inr (((u - (ws.map (shQ u ws.sum)).sum:Nat):Int),n,pl,(List.range ws.length).map (iJ u pl ws 0),(List.range ws.length).map (nZ u ws 0),())):=by
  intro f hf
  have hle:=(left_eq (u:=u) hpos).2
  have htk:∀ i,((ws.take i).map (shQ u ws.sum)).sum≤u:=fun i=>by
   have:=KY (shQ u ws.sum) ws i
   omega
  refine aZ (Inv:=fun i X=>X=((ws.sum:Int),(u:Int),((u - ((ws.take i).map (shQ u ws.sum)).sum:Nat):Int),wI ws,(ws.length:Int),(i:Int),n,pl,(List.range ws.length).map (fun j=>if j<i then iJ u pl ws 0 j else ((0,0):aj)),(List.range ws.length).map (fun j=>if j<i then nZ u ws 0 j else (0:Int)),())) ws.length (fun r=>r=some (Sum.inr (((u - (ws.map (shQ u ws.sum)).sum:Nat):Int),n,pl,(List.range ws.length).map (iJ u pl ws 0),(List.range ws.length).map (nZ u ws 0),()))) ?_ ?_ f 0 _ ?_ (by omega) (by omega)
  ·rintro i _ again hi rfl ih
   unfold A7
   dsimp only
   have hw:ws[i]? =some ws[i]:=aC hi
   have hwl:=h.le _ (ak1 hi)
   generalize ws[i]=w at hw hwl
   have hgd:ws.getD i 0=w:=by rw[akK,hw];rfl
   have hq:=hQ i
   rw[hgd] at hq
   have hr:shR u ws.sum w<ws.sum:=ama _ hpos
   have L:∀ m:Nat,m≤1000000000000000→Le 19 (m:Int):=fun m hm=>Le.int (by omega) (by omega)
   have D:∀ {k:Nat} {z:Int},Le k z→k≤500→(dg6 z.natAbs).length<90:=fun hk h5=>hk.n h5
   rw[aD (by omega),bf,ND hw,amq,iy _ (by omega) (by omega),amq,iy _ (by omega) (by omega),amq]
   dsimp only
   have d1:=D (L u (by omega)) (by omega)
   have d2:=D (L w (by omega)) (by omega)
   rw[gH _ _ (by omega) (by omega),amq,iy _ (by omega) (by omega),amq]
   dsimp only
   rw[← akg,RG (u*w) ws.sum hpos (by rw[akg];exact ((L u (by omega)).mul (L w (by omega))).mono (by omega)) ((L ws.sum (by omega)).mono (by omega)),amq]
   dsimp only
   rw[show u*w / ws.sum=shQ u ws.sum w from rfl,show u*w % ws.sum=shR u ws.sum w from rfl,Gq _ _ (by omega) (by omega) ((L _ (by omega)).mono (by omega)),amq,Gq _ _ (by omega) (by omega) ((L _ (by omega)).mono (by omega)),amq,amQ (by omega),amQ (by omega)]
   dsimp only
   have hl1:∀ {β:Type} (g:Nat→β),((List.range ws.length).map g).length=ws.length:=fun g=>by simp
   have hg1:∀ {β:Type} (g:Nat→β),((List.range ws.length).map g)[i]? =some (g i):=fun g=>by rw[akT,akU hi];rfl
   rw[hl1,aH (by simp only[ajK,amI];omega),akq,hg1,amq,hl1,aH (by simp only[ajK,amI];omega),hg1,amq]
   have h1:=htk (i+1)
   have e1:((ws.take (i+1)).map (shQ u ws.sum)).sum=((ws.take i).map (shQ u ws.sum)).sum+shQ u ws.sum w:=by
    rw[alK,hw,ald,alH];simp
   have h2:=htk i
   rw[az (by omega) (by omega),az (by omega) (by omega)]
   refine ih _ ?_
   rw[e1]
   have e2:((u - (((ws.take i).map (shQ u ws.sum)).sum+shQ u ws.sum w):Nat):Int)=((u - ((ws.take i).map (shQ u ws.sum)).sum:Nat):Int) - (shQ u ws.sum w:Int):=by omega
   rw[e2]
   have s1:((List.range ws.length).map (fun j=>if j<i then iJ u pl ws 0 j else ((0,0):aj))).set i ((shQ u ws.sum w:Int),pl)=(List.range ws.length).map (fun j=>if j<i+1 then iJ u pl ws 0 j else ((0,0):aj)):=by
    refine jv _ _ _ _ _ (fun j hj hji=> ?_) ?_
    ·by_cases h3:j<i
     ·rw[amQ h3,amQ (by omega)]
     ·rw[amP h3,amP (by omega)]
    ·rw[amQ (by omega)]
     unfold iJ
     rw[amP (by omega),hgd]
     rfl
   have s2:((List.range ws.length).map (fun j=>if j<i then nZ u ws 0 j else (0:Int))).set i (shR u ws.sum w:Int)=(List.range ws.length).map (fun j=>if j<i+1 then nZ u ws 0 j else (0:Int)):=by
    refine jv _ _ _ _ _ (fun j hj hji=> ?_) ?_
    ·by_cases h3:j<i
     ·rw[amQ h3,amQ (by omega)]
     ·rw[amP h3,amP (by omega)]
    ·rw[amQ (by omega)]
     unfold nZ rS
     rw[amP (by omega),hgd]
   rw[s1,s2]
   rfl
  ·rintro _ again rfl
   unfold A7
   dsimp only
   rw[aE (by omega),alN (alZ _)]
   have e1:(List.range ws.length).map (fun j=>if j<ws.length then iJ u pl ws 0 j else ((0,0):aj))=(List.range ws.length).map (iJ u pl ws 0):=ale fun j hj=>by rw[amQ (alv.1 hj)]
   have e2:(List.range ws.length).map (fun j=>if j<ws.length then nZ u ws 0 j else (0:Int))=(List.range ws.length).map (nZ u ws 0):=ale fun j hj=>by rw[amQ (alv.1 hj)]
   rw[e1,e2]
  ·have z:∀ {β:Type} (x:β) (g:Nat→β),List.replicate (Int.toNat (ws.length:Int)) x=(List.range ws.length).map (fun j=>if j<0 then g j else x):=fun x g=>by
    rw[akq]
    apply akH
    intro j
    by_cases hj:j<ws.length
    ·rw[akT,akU hj,akV,amQ hj];simp
    ·rw[akR (by simp;omega),akR (by simp;omega)]
   rw[z ((0,0):aj) (iJ u pl ws 0),z (0:Int) (nZ u ws 0)]
   simp
 rw[loop2 _ (by omega),aF]
 dsimp only
 obtain⟨o,ho⟩:=Aq.exists (rS u ws) ws.length
 have hol:=ho.len
 have hlfl:=afa (u:=u) hpos
 generalize hlf:u - (ws.map (shQ u ws.sum)).sum=left at hlfl
 have loop3:∀ f,left<f→iter f (((left:Int),n,pl,(List.range ws.length).map (iJ u pl ws 0),(List.range ws.length).map (nZ u ws 0),()):BI) BD=some (Sum.inr (n,pl,(List.range ws.length).map (iJ u pl ws left),())):=by
  intro f hf
  refine aZ (Inv:=fun c X=>X=(((left - c:Nat):Int),n,pl,(List.range ws.length).map (iJ u pl ws c),(List.range ws.length).map (nZ u ws c),())) left (fun r=>r=some (Sum.inr (n,pl,(List.range ws.length).map (iJ u pl ws left),()))) ?_ ?_ f 0 _ (by simp) (by omega) (by omega)
  ·rintro c _ again hc rfl ih
   unfold BD
   dsimp only
   have hoc:o[c]? =some (o[c]'(by omega)):=aC (by omega)
   generalize (o[c]'(by omega))=b at hoc
   have hin:b<ws.length:=ho.mem.1 (alr hoc)
   have hrk:=ho.acB hoc
   have hl1:∀ {β:Type} (g:Nat→β),((List.range ws.length).map g).length=ws.length:=fun g=>by simp
   have hg1:∀ {β:Type} (g:Nat→β),((List.range ws.length).map g)[b]? =some (g b):=fun g=>by rw[akT,akU hin];rfl
   have hqb:=hQ b
   have hne:∀ j,j<ws.length→j≠b→kR (rS u ws) ws.length j≠c:=fun j hj hjb e=>by
    have hjr:=ho.Kr hj
    rw[e,hoc] at hjr;cases hjr;exact hjb rfl
   rw[aD (by omega),hl1,ag0 _ _ _ _ _ ⟨by omega,by omega⟩ _ _ (adz ho hoc) _ (by omega),aF]
   dsimp only
   rw[hl1,hl1,aH (by simp only[ajK,amI];omega),akq,hg1,amq,aH (by simp only[ajK,amI];omega),amq,aH (by simp only[ajK,amI];omega),hg1,amq]
   have hrb:¬ kR (rS u ws) ws.length b<c:=by omega
   have eo:(iJ u pl ws c b).1=(shQ u ws.sum (ws.getD b 0):Int):=by unfold iJ;rw[amP hrb];rfl
   rw[az (n:=((left - c:Nat):Int) - 1) (by omega) (by omega),az (by rw[eo];omega) (by rw[eo];omega)]
   refine ih _ ?_
   have s1:((List.range ws.length).map (iJ u pl ws c)).set b ((iJ u pl ws c b).1+1,(iJ u pl ws c b).2)=(List.range ws.length).map (iJ u pl ws (c+1)):=by
    refine jv _ _ _ _ _ (fun j hj hjb=> ?_) ?_
    ·have:=hne j hj hjb
     unfold iJ
     by_cases h3:kR (rS u ws) ws.length j<c
     ·rw[amQ h3,amQ (by omega)]
     ·rw[amP h3,amP (by omega)]
    ·rw[eo];unfold iJ;rw[amQ (by omega)];simp
   have s2:((List.range ws.length).map (nZ u ws c)).set b (-1)=(List.range ws.length).map (nZ u ws (c+1)):=by
    refine jv _ _ _ _ _ (fun j hj hjb=> ?_) ?_
    ·have:=hne j hj hjb
     unfold nZ
     by_cases h3:kR (rS u ws) ws.length j<c
     ·rw[amQ h3,amQ (by omega)]
     ·rw[amP h3,amP (by omega)]
    ·unfold nZ;rw[amQ (by omega)]
   rw[s1,s2]
   have e3:((left - c:Nat):Int) - 1=((left - (c+1):Nat):Int):=by omega
   rw[e3]
  ·rintro _ again rfl
   unfold BD
   dsimp only
   rw[aE (by omega)]
 rw[loop3 _ (by omega),aF]
 dsimp only
 have hl1:∀ {β:Type} (g:Nat→β),((List.range ws.length).map g).length=ws.length:=fun g=>by simp
 rw[hl1]
 have hg:∀ i,(shG n ws i,pl)=(if n<0 then ((-(iJ u pl ws left i).1,pl):aj) else iJ u pl ws left i):=fun i=>by
  unfold shG iJ;dsimp only;rw[hu,hlf];split<;>rfl
 have loop4:∀ f,ws.length<f→iter f (((ws.length:Int),(0:Int),n,pl,(List.range ws.length).map (iJ u pl ws left),()):BB) BF=some (Sum.inr ((cu n ws).map fun x=>(x,pl),())):=by
  intro f hf
  refine aZ (Inv:=fun i X=>X=((ws.length:Int),(i:Int),n,pl,(List.range ws.length).map (fun j=>if j<i then (shG n ws j,pl) else iJ u pl ws left j),())) ws.length (fun r=>r=some (Sum.inr ((cu n ws).map fun x=>(x,pl),()))) ?_ ?_ f 0 _ ?_ (by omega) (by omega)
  ·rintro i _ again hi rfl ih
   unfold BF
   dsimp only
   have hset:∀ (z:aj),z=(shG n ws i,pl)→((List.range ws.length).map (fun j=>if j<i then (shG n ws j,pl) else iJ u pl ws left j)).set i z=(List.range ws.length).map (fun j=>if j<i+1 then (shG n ws j,pl) else iJ u pl ws left j):=fun z hz=>by
    refine jv _ _ _ _ _ (fun j hj hji=> ?_) (by rw[amQ (by omega),hz])
    by_cases h3:j<i
    ·rw[amQ h3,amQ (by omega)]
    ·rw[amP h3,amP (by omega)]
   have hgi:=hg i
   have hg1:((List.range ws.length).map (fun j=>if j<i then (shG n ws j,pl) else iJ u pl ws left j))[i]? =some (iJ u pl ws left i):=by rw[akT,akU hi];simp
   have hob:0≤(iJ u pl ws left i).1∧(iJ u pl ws left i).1≤1000000000000001:=by
    have:=hQ i
    unfold iJ
    dsimp only
    split<;>omega
   rw[aD (by omega),az (n:=(i:Int)+1) (by omega) (by omega)]
   by_cases hneg:n<0
   ·rw[amQ hneg] at hgi
    rw[aD hneg,hl1,aH (by simp only[ajK,amI];omega),akq,hg1,amq,aH (by simp only[ajK,amI];omega),amq,az (by omega) (by omega)]
    refine ih _ ?_
    rw[hset _ (by rw[hgi,Int.zero_sub];rfl)]
    rfl
   ·rw[amP hneg] at hgi
    rw[aE hneg]
    refine ih _ ?_
    rw[← hset (iJ u pl ws left i) hgi.symm]
    have e:((List.range ws.length).map (fun j=>if j<i then (shG n ws j,pl) else iJ u pl ws left j)).set i (iJ u pl ws left i)=(List.range ws.length).map (fun j=>if j<i then (shG n ws j,pl) else iJ u pl ws left j):=by
     apply akH
     intro j
     by_cases e:i=j
     ·subst e
      rw[akY (by rw[hl1];exact hi),hg1]
     ·rw[akX e]
    rw[e]
    rfl
  ·rintro _ again rfl
   unfold BF
   dsimp only
   rw[aE (by omega),Px,List.map_map]
   congr 3
   refine ale fun j hj=> ?_
   rw[amQ (alv.1 hj)]
   rfl
  ·simp
 rw[loop4 _ (by omega),aF]
end Go.Md
namespace Go.Md
open Go.Dn
def EX (n:Int) (lines:List Int):List Int:=if (lines.map Int.natAbs).sum=0 then (List.replicate lines.length 0).set 0 n else cu n (lines.map Int.natAbs)
theorem Kj:∀ (l:List Int),(l.map Int.natAbs).sum=0↔(l.all fun b=>b==0)=true
 | []=>by simp
 | x::l=>by
  have:=Kj l
  simp only[alf,alI,aks,ajK,amA] at this ⊢
  rw[← this]
  omega
theorem ZB (n:Int) (hn:n.natAbs≤1000000000000000) (lines:List Int) (hl:0<lines.length∧lines.length≤20) (ha:bh lines=true):
 Iv n lines=some (if (lines.any fun b=>decide (MW<b.natAbs))=true then ([],2,()) else (EX n lines,0,())):=by
 have ham:∀ b∈lines,b.natAbs≤1000000000000000:=fun b hb=>by
  have:=gp.1 (akt.1 ha b hb)
  have hMU:=nA
  omega
 have hMW:MW=1000000000:=rfl
 unfold Iv
 rw[aH (by simp only[ajK,amI];omega)]
 have hz:∀ z:List Int,z=List.replicate (Int.toNat (lines.length:Int)) 0→z.length=lines.length:=fun z hz=>by rw[hz];simp
 generalize hzz:(List.replicate (Int.toNat (lines.length:Int)) 0:List Int)=zs
 have hzl:=hz zs hzz.symm
 have loop1:∀ f,lines.length<f→iter f ((n,([]:List Int),(0:Int),lines,(lines.length:Int),(0:Int),zs,()):A6) BK=
  (if (lines.any fun b=>decide (MW<b.natAbs))=true then some (Sum.inl ([],2,())) else some (Sum.inr (n,wI (lines.map Int.natAbs),(((lines.map Int.natAbs).sum:Nat):Int),zs,()))):=by
  intro f hf
  refine aZ (Inv:=fun i X=>(∀ b∈lines.take i,b.natAbs≤MW)∧X=(n,wI ((lines.take i).map Int.natAbs),((((lines.take i).map Int.natAbs).sum:Nat):Int),lines,(lines.length:Int),(i:Int),zs,())) lines.length (fun r=>r=(if (lines.any fun b=>decide (MW<b.natAbs))=true then some (Sum.inl ([],2,())) else some (Sum.inr (n,wI (lines.map Int.natAbs),(((lines.map Int.natAbs).sum:Nat):Int),zs,())))) ?_ ?_ f 0 _ ⟨by simp,by simp[wI]⟩ (by omega) (by omega)
  ·rintro i _ again hi ⟨hle,rfl⟩ ih
   unfold BK
   dsimp only
   have hy:lines[i]? =some lines[i]:=aC hi
   have hm:=ham _ (ak1 hi)
   have hmem:lines[i]∈lines:=ak1 hi
   generalize lines[i]=y at hy hm hmem
   have habs:=af6 (n:=y) (by omega) (by omega)
   have hlen:(wI ((lines.take i).map Int.natAbs)).length≤20:=by rw[qL,ak5,alc];omega
   have hs:((lines.take i).map Int.natAbs).sum≤20000000000:=by
    have h1:=OQ (c:=1000000000) ((lines.take i).map Int.natAbs) (fun x hx=>by obtain⟨b,hb,rfl⟩:=alp.1 hx;have:=hle b hb;omega)
    have h2:((lines.take i).map Int.natAbs).length≤20:=by rw[ak5,alc];omega
    have h3:((lines.take i).map Int.natAbs).length*1000000000≤20*1000000000:=amd _ h2
    omega
   rw[aD (by omega),bf,hy,amq]
   rw[habs,amq]
   dsimp only
   rw[aH (cr (by omega) (by omega)),amq,amq]
   dsimp only
   by_cases hgt:MW<y.natAbs
   ·rw[aD (by omega),amQ (akv.2 ⟨y,hmem,amH hgt⟩)]
   ·rw[aE (by omega),az (n:=(i:Int)+1) (by omega) (by omega),az (by omega) (by omega)]
    refine ih _ ⟨fun b hb=> ?_, ?_⟩
    ·rw[alK,hy] at hb
     rcases alh.1 hb with hb | hb
     ·exact hle b hb
     ·rw[show b=y by simpa using hb];omega
    ·rw[alK,hy]
     simp[wI]
  ·rintro _ again ⟨hle,rfl⟩
   unfold BK
   dsimp only
   rw[alN (alZ _)] at hle ⊢
   rw[aE (by omega),amP (by
    rw[akv]
    rintro⟨b,hb,h⟩
    have:=hle b hb
    rw[amI] at h
    omega)]
 rw[loop1 _ (by omega)]
 by_cases hany:(lines.any fun b=>decide (MW<b.natAbs))=true
 ·rw[amQ hany,amQ hany,dR]
 ·rw[amP hany,amP hany,aF]
  dsimp only
  by_cases h0:(lines.map Int.natAbs).sum=0
  ·rw[h0,show (((0:Nat):Int)==0)=true from rfl,amE,aH (by simp only[ajK,amI];omega)]
   have:zs[0]? =some (zs[0]'(by omega)):=aC (by omega)
   rw[this,amq]
   unfold EX
   rw[amQ h0, ← hzz,akq]
  ·rw[show ((((lines.map Int.natAbs).sum:Nat):Int)==0)=false by simp;omega,amD]
   have hw:Bg (lines.map Int.natAbs):=by
    refine⟨by rw[ak5];exact hl,fun w hw=> ?_,by omega⟩
    obtain⟨b,hb,rfl⟩:=alp.1 hw
    have:¬ MW<b.natAbs:=fun h=>hany (akv.2 ⟨b,hb,amH h⟩)
    omega
   rw[aa3 n 0 hn ⟨by omega,by omega⟩ _ hw,amq]
   dsimp only
   have hsl:(cu n (lines.map Int.natAbs)).length=lines.length:=by rw[FW,ak5]
   unfold EX
   rw[amP h0]
   generalize cu n (lines.map Int.natAbs)=sh at hsl
   have loop2:∀ f,sh.length<f→iter f (((0:Int),sh.map (fun x=>((x,0):aj)),((sh.map (fun x=>((x,0):aj))).length:Int),(0:Int),zs,()):zf) zF=some (Sum.inr (0,sh,())):=by
    intro f hf
    have e0:(sh.map (fun x=>((x,0):aj))).length=sh.length:=by simp
    rw[e0]
    refine aZ (Inv:=fun i X=>X=((0:Int),sh.map (fun x=>((x,0):aj)),(sh.length:Int),(i:Int),sh.take i++zs.drop i,())) sh.length (fun r=>r=some (Sum.inr (0,sh,()))) ?_ ?_ f 0 _ (by simp) (by omega) (by omega)
    ·rintro i _ again hi rfl ih
     unfold zF
     dsimp only
     have hy:sh[i]? =some sh[i]:=aC hi
     have hll:(sh.take i++zs.drop i).length=sh.length:=by rw[ak2,alc,List.length_drop];omega
     have hgz:(sh.take i++zs.drop i)[i]? =some ((sh.take i++zs.drop i)[i]'(by omega)):=aC (by omega)
     rw[aD (by omega),bf,akT,hy,amx,amq,hll,aH (by simp only[ajK,amI];omega),akq,hgz,amq,az (by omega) (by omega)]
     refine ih _ ?_
     have e:(sh.take i++zs.drop i).set i sh[i]=sh.take (i+1)++zs.drop (i+1):=by
      rw[List.set_append_right _ _ (by rw[alc];omega),alc,show i - min i sh.length=0 by omega]
      have hd:zs.drop i=(zs[i]'(by omega))::zs.drop (i+1):=akC (by omega)
      have ht:sh.take (i+1)=sh.take i++[sh[i]]:=by rw[alK,hy];rfl
      rw[hd,List.set_cons_zero,ht,akw]
      rfl
     rw[e]
     rfl
    ·rintro _ again rfl
     unfold zF
     dsimp only
     rw[aE (by omega),alN (alZ _),List.drop_eq_nil_of_le (by omega),akx]
   rw[loop2 _ (by rw[ak5];omega),aF]
end Go.Md
namespace Go.Md
open Go.Dn
theorem adR {v:ah} (h:cK v=0):∀ r∈ai v,r.1≠[]:=by
 unfold cK at h
 split at h
 ·omega
 split at h
 ·omega
 split at h
 ·omega
 split at h
 ·omega
 split at h
 ·omega
 split at h
 ·omega
 split at h
 ·omega
 split at h
 ·omega
 split at h
 ·omega
 intro r hr e
 have h0:nC (ai v)=0:=by show nC v.2.2.2.2.2.2.1=0;omega
 unfold nC at h0
 split at h0
 ·omega
 split at h0
 ·omega
 obtain⟨i,hi⟩:=alo.1 hr
 have:=uV h0 i r hi
 unfold Ip at this
 rw[e,show iC []=false from rfl,amQ rfl] at this
 omega
theorem agL {v:ah} (h:cK v=0):cB (·.1) ([]:Bys) (ai v)=none:=by
 cases hi:cB (·.1) ([]:Bys) (ai v) with
 | none=>rfl
 | some k=>
  obtain⟨r,hr,he⟩:=jX hi
  exact absurd he (adR h r (alr hr))
def IM (v:ah) (x:ax) (l:List Int) (i:Nat):Int:=match cB (·.1) x.2.2 (ai v) with
 | some k=>if k<i then l.getD k 0 else 0
 | none=>(l.take i).sum
theorem ahX {v:ah} {x:ax} (T:Int×Int×Int×Int×Int) (nets lines:List Int) (B:List (List Int)) (am bases taxes:List Int) (has:List Bool) (h0:cK v=0) (hx:x.2.2=[]∨(cB (·.1) x.2.2 (ai v)).isSome=true) (hll:lines.length=(ai v).length) (hal:bh lines=true) (f:Nat) (hf:lines.length<f):
 iter f (((0:Int),ixI (cB (·.1) x.2.2 (ai v)),(lines.length:Int),(0:Int),v.1,v.2.1,v.2.2.1,v.2.2.2.1,v.2.2.2.2.1,v.2.2.2.2.2.1,v.2.2.2.2.2.2.1,v.2.2.2.2.2.2.2.1,v.2.2.2.2.2.2.2.2,x.1,x.2.1.1,x.2.1.2,x.2.2,T.1,T.2.1,T.2.2.1,T.2.2.2.1,T.2.2.2.2,nets,lines,B,am,bases,taxes,has,()):qZ) ry=some (Sum.inr (oR v lines x,ixI (cB (·.1) x.2.2 (ai v)),v.1,v.2.1,v.2.2.1,v.2.2.2.1,v.2.2.2.2.1,v.2.2.2.2.2.1,v.2.2.2.2.2.2.1,v.2.2.2.2.2.2.2.1,v.2.2.2.2.2.2.2.2,x.1,x.2.1.1,x.2.1.2,x.2.2,T.1,T.2.1,T.2.2.1,T.2.2.2.1,T.2.2.2.2,nets,lines,B,am,bases,taxes,has,())):=by
 have hn:(ai v).length≤20:=(gh h0).rn.2
 have ham:∀ b∈lines,b.natAbs≤1000000000000000:=fun b hb=>by
  have:=gp.1 (akt.1 hal b hb)
  have hMU:=nA
  omega
 have hsum:∀ i,(lines.take i).sum.natAbs≤i*1000000000000000:=fun i=>by
  induction i with
  | zero=>simp
  | succ i ih=>
   by_cases hi:i<lines.length
   ·rw[tG (aC hi)]
    have:=ham _ (ak1 hi)
    omega
   ·rw[alN (by omega)]
    rw[alN (by omega)] at ih
    exact al0 ih (amd _ (Nat.le_succ i))
 refine aZ (Inv:=fun i X=>i≤lines.length∧X=(IM v x lines i,ixI (cB (·.1) x.2.2 (ai v)),(lines.length:Int),(i:Int),v.1,v.2.1,v.2.2.1,v.2.2.2.1,v.2.2.2.2.1,v.2.2.2.2.2.1,v.2.2.2.2.2.2.1,v.2.2.2.2.2.2.2.1,v.2.2.2.2.2.2.2.2,x.1,x.2.1.1,x.2.1.2,x.2.2,T.1,T.2.1,T.2.2.1,T.2.2.2.1,T.2.2.2.2,nets,lines,B,am,bases,taxes,has,())) lines.length (fun r=>r=some (Sum.inr (oR v lines x,ixI (cB (·.1) x.2.2 (ai v)),v.1,v.2.1,v.2.2.1,v.2.2.2.1,v.2.2.2.2.1,v.2.2.2.2.2.1,v.2.2.2.2.2.2.1,v.2.2.2.2.2.2.2.1,v.2.2.2.2.2.2.2.2,x.1,x.2.1.1,x.2.1.2,x.2.2,T.1,T.2.1,T.2.2.1,T.2.2.2.1,T.2.2.2.2,nets,lines,B,am,bases,taxes,has,()))) ?_ ?_ f 0 _ ⟨by omega, ?_⟩ (by omega) (by omega)
 ·rintro i _ again hi ⟨_,rfl⟩ ih
  unfold ry
  dsimp only
  have hy:lines[i]? =some lines[i]:=aC hi
  have hm:=ham _ (ak1 hi)
  have hgd:lines.getD i 0=lines[i]:=by rw[akK,hy];rfl
  have hs:=hsum i
  have hs1:=tG hy
  generalize lines[i]=y at hy hm hgd hs1
  rw[aD (by omega),aH (by simp only[ajK,amI];omega),akq,hy,amq,az (n:=(i:Int)+1) (by omega) (by omega)]
  by_cases hr:x.2.2=[]
  ·have hnone:cB (·.1) x.2.2 (ai v)=none:=by rw[hr];exact agL h0
   have hb:∀ j,IM v x lines j=(lines.take j).sum:=fun j=>by unfold IM;rw[hnone]
   rw[JB (by simpa using hr),hb,az (by omega) (by omega)]
   refine ih _ ⟨by omega, ?_⟩
   rw[hb,hs1]
   rfl
  ·rw[Ki (by simpa using hr)]
   obtain⟨k,hk⟩:=amt.1 (hx.resolve_left hr)
   have hb:∀ j,IM v x lines j=if k<j then lines.getD k 0 else 0:=fun j=>by unfold IM;rw[hk]
   by_cases hik:i=k
   ·subst hik
    rw[JB (by rw[hk];simp[ixI]),hb,amP (by omega),az (by omega) (by omega)]
    refine ih _ ⟨by omega, ?_⟩
    rw[hb,amQ (by omega),hgd,Int.zero_add]
    rfl
   ·rw[Ki (by rw[hk];simp[ixI];omega)]
    refine ih _ ⟨by omega, ?_⟩
    rw[hb,hb]
    by_cases h3:k<i
    ·rw[amQ h3,amQ (by omega)];rfl
    ·rw[amP h3,amP (by omega)];rfl
 ·rintro _ again ⟨_,rfl⟩
  unfold ry
  dsimp only
  rw[aE (by omega)]
  have e:IM v x lines lines.length=oR v lines x:=by
   unfold IM oR
   cases hk:cB (·.1) x.2.2 (ai v) with
   | none=>dsimp only;rw[alN (alZ _)]
   | some k=>
    obtain⟨r,hr,_⟩:=jX hk
    have:=(akS.1 hr).1
    dsimp only
    rw[amQ (by omega)]
  rw[e]
 ·have e:IM v x lines 0=0:=by
   unfold IM
   cases cB (·.1) x.2.2 (ai v) with
   | none=>rfl
   | some k=>dsimp only;rw[amP (by omega)]
  rw[e]
  rfl
theorem aiQ (T:Int×Int×Int×Int×Int) (nets lines:List Int) (B:List (List Int)) (am taxes:List Int) {n:Nat} (hn:n≤20) (k d:Int) (b g:Nat→Int) (hs:Nat→Bool) (hb:∀ j,j<n→(b j).natAbs≤1000000000000000) (hg:∀ j,j<n→(g j).natAbs≤1000000000000000) (f:Nat) (hf:n<f):
 iter f ((k,d,(List.range n).map g,(List.range n).map g,(n:Int),(0:Int),T.1,T.2.1,T.2.2.1,T.2.2.2.1,T.2.2.2.2,nets,lines,B,am,(List.range n).map b,taxes,(List.range n).map hs,()):mN) mO=some (Sum.inr (d,(List.range n).map g,T.1,T.2.1,T.2.2.1,T.2.2.2.1,T.2.2.2.2,nets,lines,B,am,(List.range n).map (fun j=>b j+g j),taxes,(List.range n).map (fun j=>hs j||(g j != 0)||((j:Int)==k)),())):=by
 refine aZ (Inv:=fun i X=>X=(k,d,(List.range n).map g,(List.range n).map g,(n:Int),(i:Int),T.1,T.2.1,T.2.2.1,T.2.2.2.1,T.2.2.2.2,nets,lines,B,am,(List.range n).map (fun j=>if j<i then b j+g j else b j),taxes,(List.range n).map (fun j=>if j<i then (hs j||(g j != 0)||((j:Int)==k)) else hs j),())) n (fun r=>r=some (Sum.inr (d,(List.range n).map g,T.1,T.2.1,T.2.2.1,T.2.2.2.1,T.2.2.2.2,nets,lines,B,am,(List.range n).map (fun j=>b j+g j),taxes,(List.range n).map (fun j=>hs j||(g j != 0)||((j:Int)==k)),()))) ?_ ?_ f 0 _ ?_ (by omega) (by omega)
 ·rintro i _ again hi rfl ih
  unfold mO
  dsimp only
  have hl1:∀ {β:Type} (g:Nat→β),((List.range n).map g).length=n:=fun g=>by simp
  have hg1:∀ {β:Type} (g:Nat→β),((List.range n).map g)[i]? =some (g i):=fun g=>by rw[akT,akU hi];rfl
  have h1:=hb i hi
  have h2:=hg i hi
  have s1:((List.range n).map (fun j=>if j<i then b j+g j else b j)).set i (b i+g i)=(List.range n).map (fun j=>if j<i+1 then b j+g j else b j):=by
   refine jv _ _ _ _ _ (fun j hj hji=> ?_) (by rw[amQ (by omega)])
   by_cases h3:j<i
   ·rw[amQ h3,amQ (by omega)]
   ·rw[amP h3,amP (by omega)]
  have s2:∀ z:Bool,z=(hs i||(g i != 0)||((i:Int)==k))→((List.range n).map (fun j=>if j<i then (hs j||(g j != 0)||((j:Int)==k)) else hs j)).set i z=(List.range n).map (fun j=>if j<i+1 then (hs j||(g j != 0)||((j:Int)==k)) else hs j):=fun z hz=>by
   refine jv _ _ _ _ _ (fun j hj hji=> ?_) (by rw[amQ (by omega),hz])
   by_cases h3:j<i
   ·rw[amQ h3,amQ (by omega)]
   ·rw[amP h3,amP (by omega)]
  rw[aD (by omega),bf,hg1,amq]
  simp only[hl1]
  rw[aH (by simp only[ajK,amI];omega)]
  simp only[akq,hg1,amq,amP (Nat.lt_irrefl i)]
  rw[az (n:=(i:Int)+1) (by omega) (by omega),az (by omega) (by omega)]
  simp only[aH (b:=decide (0≤(i:Int))&&decide ((i:Int)<(n:Int))) (by simp only[ajK,amI];omega)]
  rw[s1]
  cases hh:hs i with
  | true=>
   rw[amE,s2 true (by rw[hh];rfl)]
   exact ih _ rfl
  | false=>
   rw[amD]
   by_cases h3:g i=0
   ·rw[Ki (by rw[h3];rfl),s2 _ (by rw[hh,h3];rfl)]
    exact ih _ rfl
   ·rw[JB (by simpa using h3),s2 true (by rw[hh,show (g i != 0)=true by simpa using h3];rfl)]
    exact ih _ rfl
 ·rintro _ again rfl
  unfold mO
  dsimp only
  rw[aE (by omega)]
  have e1:(List.range n).map (fun j=>if j<n then b j+g j else b j)=(List.range n).map (fun j=>b j+g j):=ale fun j hj=>by rw[amQ (alv.1 hj)]
  have e2:(List.range n).map (fun j=>if j<n then (hs j||(g j != 0)||((j:Int)==k)) else hs j)=(List.range n).map (fun j=>hs j||(g j != 0)||((j:Int)==k)):=ale fun j hj=>by rw[amQ (alv.1 hj)]
  rw[e1,e2]
 ·simp
theorem agx (T:Int×Int×Int×Int×Int) (nets lines:List Int) (B:List (List Int)) (am bases taxes:List Int) (has:List Bool) (d:Int) (m:List Int) (hl:bases.length≤1000) (f:Nat) (hf:bases.length<f):
 iter f ((d,m,(bases.length:Int),(0:Int),T.1,T.2.1,T.2.2.1,T.2.2.2.1,T.2.2.2.2,nets,lines,B,am,bases,taxes,has,()):mP) mQ=(if bh bases=true then some (Sum.inr (d,m,T.1,T.2.1,T.2.2.1,T.2.2.2.1,T.2.2.2.2,nets,lines,B,am,bases,taxes,has,())) else some (Sum.inl (1,(nets,lines,B,am,bases,taxes,has,(T.1,T.2.1,T.2.2.1,T.2.2.2.1,T.2.2.2.2),()),()))):=by
 refine aZ (Inv:=fun i X=>(∀ z∈bases.take i,ic z=true)∧X=(d,m,(bases.length:Int),(i:Int),T.1,T.2.1,T.2.2.1,T.2.2.2.1,T.2.2.2.2,nets,lines,B,am,bases,taxes,has,())) bases.length (fun r=>r=(if bh bases=true then some (Sum.inr (d,m,T.1,T.2.1,T.2.2.1,T.2.2.2.1,T.2.2.2.2,nets,lines,B,am,bases,taxes,has,())) else some (Sum.inl (1,(nets,lines,B,am,bases,taxes,has,(T.1,T.2.1,T.2.2.1,T.2.2.2.1,T.2.2.2.2),()),())))) ?_ ?_ f 0 _ ⟨by simp,rfl⟩ (by omega) (by omega)
 ·rintro i _ again hi ⟨hle,rfl⟩ ih
  unfold mQ
  dsimp only
  have hy:bases[i]? =some bases[i]:=aC hi
  have hmem:bases[i]∈bases:=ak1 hi
  generalize bases[i]=y at hy hmem
  rw[aD (by omega),aH (by simp only[ajK,amI];omega),akq,hy,amq,lS,amq]
  dsimp only
  cases hz:ic y with
  | true=>
   rw[show decide (y.natAbs≤MU)=true from hz,ajW,amD,az (by omega) (by omega)]
   refine ih _ ⟨fun z hz2=> ?_,rfl⟩
   rw[alK,hy] at hz2
   rcases alh.1 hz2 with hz2 | hz2
   ·exact hle z hz2
   ·rw[show z=y by simpa using hz2];exact hz
  | false=>
   rw[show decide (y.natAbs≤MU)=false from hz,ajV,amE,amP]
   intro h
   have:=akt.1 h y hmem
   rw[hz] at this
   cases this
 ·rintro _ again ⟨hle,rfl⟩
  unfold mQ
  dsimp only
  rw[alN (alZ _)] at hle
  rw[aE (by omega),amQ (show bh bases=true from akt.2 hle)]
end Go.Md
namespace Go.Md
open Go.Dn
def QJ (v8:(Int×Int×(List Int)×Int×Int×Int×Int×Int×(List Int)×(List Int)×(List (List Int))×(List Int)×(List Int)×(List Int)×(List Bool)×Unit)):Option (Int×((List Int)×(List Int)×(List (List Int))×(List Int)×(List Int)×(List Int)×(List Bool)×(Int×Int×Int×Int×Int)×Unit)×Unit):=
 aO (β:=(Int×((List Int)×(List Int)×(List (List Int))×(List Int)×(List Int)×(List Int)×(List Bool)×(Int×Int×Int×Int×Int)×Unit)×Unit)) (γ:=(Int×(List Int)×Int×Int×Int×Int×Int×(List Int)×(List Int)×(List (List Int))×(List Int)×(List Int)×(List Int)×(List Bool)×Unit)) (
  iter (X:=mN) (β:=qb) (v8.1.natAbs+(v8.2.1.natAbs+(v8.2.2.1.length+(v8.2.2.1.length+(Int.natAbs ((v8.2.2.1.length:Int))+(Int.natAbs (0:Int)+(v8.2.2.2.1.natAbs+(v8.2.2.2.2.1.natAbs+(v8.2.2.2.2.2.1.natAbs+(v8.2.2.2.2.2.2.1.natAbs+(v8.2.2.2.2.2.2.2.1.natAbs+(v8.2.2.2.2.2.2.2.2.1.length+(v8.2.2.2.2.2.2.2.2.2.1.length+(v8.2.2.2.2.2.2.2.2.2.2.1.length+(v8.2.2.2.2.2.2.2.2.2.2.2.1.length+(v8.2.2.2.2.2.2.2.2.2.2.2.2.1.length+(v8.2.2.2.2.2.2.2.2.2.2.2.2.2.1.length+(v8.2.2.2.2.2.2.2.2.2.2.2.2.2.2.1.length+2)))))))))))))))))) (v8.1,v8.2.1,v8.2.2.1,v8.2.2.1,(v8.2.2.1.length:Int),0,v8.2.2.2.1,v8.2.2.2.2.1,v8.2.2.2.2.2.1,v8.2.2.2.2.2.2.1,v8.2.2.2.2.2.2.2.1,v8.2.2.2.2.2.2.2.2.1,v8.2.2.2.2.2.2.2.2.2.1,v8.2.2.2.2.2.2.2.2.2.2.1,v8.2.2.2.2.2.2.2.2.2.2.2.1,v8.2.2.2.2.2.2.2.2.2.2.2.2.1,v8.2.2.2.2.2.2.2.2.2.2.2.2.2.1,v8.2.2.2.2.2.2.2.2.2.2.2.2.2.2.1,()) (mO)) fun v17=>
 aO (β:=(Int×((List Int)×(List Int)×(List (List Int))×(List Int)×(List Int)×(List Int)×(List Bool)×(Int×Int×Int×Int×Int)×Unit)×Unit)) (γ:=(Int×(List Int)×Int×Int×Int×Int×Int×(List Int)×(List Int)×(List (List Int))×(List Int)×(List Int)×(List Int)×(List Bool)×Unit)) (
  iter (X:=mP) (β:=p8) (v17.1.natAbs+(v17.2.1.length+(Int.natAbs ((v17.2.2.2.2.2.2.2.2.2.2.2.1.length:Int))+(Int.natAbs (0:Int)+(v17.2.2.1.natAbs+(v17.2.2.2.1.natAbs+(v17.2.2.2.2.1.natAbs+(v17.2.2.2.2.2.1.natAbs+(v17.2.2.2.2.2.2.1.natAbs+(v17.2.2.2.2.2.2.2.1.length+(v17.2.2.2.2.2.2.2.2.1.length+(v17.2.2.2.2.2.2.2.2.2.1.length+(v17.2.2.2.2.2.2.2.2.2.2.1.length+(v17.2.2.2.2.2.2.2.2.2.2.2.1.length+(v17.2.2.2.2.2.2.2.2.2.2.2.2.1.length+(v17.2.2.2.2.2.2.2.2.2.2.2.2.2.1.length+2)))))))))))))))) (v17.1,v17.2.1,(v17.2.2.2.2.2.2.2.2.2.2.2.1.length:Int),0,v17.2.2.1,v17.2.2.2.1,v17.2.2.2.2.1,v17.2.2.2.2.2.1,v17.2.2.2.2.2.2.1,v17.2.2.2.2.2.2.2.1,v17.2.2.2.2.2.2.2.2.1,v17.2.2.2.2.2.2.2.2.2.1,v17.2.2.2.2.2.2.2.2.2.2.1,v17.2.2.2.2.2.2.2.2.2.2.2.1,v17.2.2.2.2.2.2.2.2.2.2.2.2.1,v17.2.2.2.2.2.2.2.2.2.2.2.2.2.1,()) (mQ)) fun v21=>
 chk (decide (((v21.2.2.2.2.2.2.2.2.2.2.1.length)+1)*8≤140737488355328)&&decide ((v21.2.2.2.2.2.2.2.2.2.2.1.length)+1≤maxLen)) <|
 chk (decide (((v21.2.2.2.2.2.2.2.2.2.1.length)+1)*24≤140737488355328)&&decide ((v21.2.2.2.2.2.2.2.2.2.1.length)+1≤maxLen)) <|
 some (0,(v21.2.2.2.2.2.2.2.1,v21.2.2.2.2.2.2.2.2.1,v21.2.2.2.2.2.2.2.2.2.1++[v21.2.1],v21.2.2.2.2.2.2.2.2.2.2.1++[v21.1],v21.2.2.2.2.2.2.2.2.2.2.2.1,v21.2.2.2.2.2.2.2.2.2.2.2.2.1,v21.2.2.2.2.2.2.2.2.2.2.2.2.2.1,(v21.2.2.1,v21.2.2.2.1,v21.2.2.2.2.1,v21.2.2.2.2.2.1,v21.2.2.2.2.2.2.1),()),())
theorem age (T:Int×Int×Int×Int×Int) (nets lines:List Int) (B:List (List Int)) (hB:B.length≤1000) (am taxes:List Int) (ham:am.length≤1000) {n:Nat} (hn:n≤20) (k d:Int) (b g:Nat→Int) (hs:Nat→Bool) (hb:∀ j,j<n→(b j).natAbs≤1000000000000000) (hg:∀ j,j<n→(g j).natAbs≤1000000000000000):
 QJ (k,d,(List.range n).map g,T.1,T.2.1,T.2.2.1,T.2.2.2.1,T.2.2.2.2,nets,lines,B,am,(List.range n).map b,taxes,(List.range n).map hs,())=
  if bh ((List.range n).map (fun j=>b j+g j))=true then some (0,(nets,lines,B++[(List.range n).map g],am++[d],(List.range n).map (fun j=>b j+g j),taxes,(List.range n).map (fun j=>hs j||(g j != 0)||((j:Int)==k)),T,()),()) else some (1,(nets,lines,B,am,(List.range n).map (fun j=>b j+g j),taxes,(List.range n).map (fun j=>hs j||(g j != 0)||((j:Int)==k)),T,()),()):=by
 unfold QJ
 dsimp only
 have hl1:∀ {β:Type} (g:Nat→β),((List.range n).map g).length=n:=fun g=>by simp
 rw[hl1 g,aiQ T nets lines B am taxes hn k d b g hs hb hg _ (by repeat (with_reducible first | exact amn | apply ud | apply oC)),aF]
 dsimp only
 rw[agx T nets lines B am _ taxes _ d _ (by rw[hl1];omega) _ (by repeat (with_reducible first | exact amn | apply ud | apply oC))]
 by_cases h:bh ((List.range n).map (fun j=>b j+g j))=true
 ·rw[amQ h,amQ h,aF]
  dsimp only
  rw[aH (cr (by omega) (by omega)),aH (cr (by omega) (by omega))]
 ·rw[amP h,amP h,dR]
theorem aiY (way:Int) (pc:aj):∀ (l:List Int) (i k:Nat),iR way pc (i+k) (dG i l)=jg way (l.getD k 0) pc:=by
 have hz:jg way 0 pc=0:=by
  unfold jg
  rw[akr,adj (by have:=ami (n:=pc.2.toNat) (show 0<10 by omega);omega)]
 have lo:∀ (l:List Int) (j i:Nat),i<j→iR way pc i (dG j l)=0:=by
  intro l
  induction l with
  | nil=>intro j i h;rfl
  | cons y l ih=>
   intro j i h
   simp only[dG]
   split
   ·exact ih _ _ (by omega)
   ·simp only[iR,ih (j+1) i (by omega)];simp;omega
 intro l
 induction l with
 | nil=>intro i k;simp[dG,iR,hz]
 | cons x l ih=>
  intro i k
  simp only[dG]
  cases k with
  | zero=>
   split
   ·rename_i hx;rw[alR,lo _ _ _ (by omega)];simp[hx,hz]
   ·simp only[iR,alR,lo l (i+1) i (by omega)];simp
  | succ k=>
   have ih:=ih (i+1) k
   rw[show i+1+k=i+(k+1) by omega] at ih
   split
   ·rw[ih];simp
   ·simp only[iR,ih];simp
theorem ag9:∀ (l:List Int) (i k:Nat),((dG i l).map (·.1)).contains (i+k)=(l.getD k 0 != 0)
 | [],i,k=>by simp[dG]
 | x::l,i,k=>by
  have lo:∀ (l:List Int) (j i:Nat),i<j→((dG j l).map (·.1)).contains i=false:=by
   intro l j i h
   cases hc:((dG j l).map (·.1)).contains i with
   | false=>rfl
   | true=>
    obtain⟨p,hp,rfl⟩:=alp.1 (List.contains_iff_mem.1 hc)
    have:=(OJ l j p hp).1
    omega
  simp only[dG]
  cases k with
  | zero=>
   by_cases hx:x=0
   ·rw[amQ hx,alR,lo _ _ _ (by omega)];simp[hx]
   ·rw[amP hx];simp[hx]
  | succ k=>
   have ih:=ag9 l (i+1) k
   rw[show i+1+k=i+(k+1) by omega] at ih
   by_cases hx:x=0
   ·rw[amQ hx,ih];simp
   ·rw[amP hx,alf,List.contains_cons,ih];simp
end Go.Md
namespace Go.Md
open Go.Dn
abbrev RSh:Type:=(List Int)×(List Int)×(List (List Int))×(List Int)×(List Int)×(List Int)×(List Bool)×(Int×Int×Int×Int×Int)×Unit
structure QOk (n:Nat) (q:Br):Prop where
 le:∀ i,i<n→(atB q i).natAbs≤1000000000000000
 tax:∀ way pc k,iR way pc k q=jg way (atB q k) pc
def NR (v:ah) (nets lines:List Int) (B:List (List Int)) (am taxes:List Int) (T:Int×Int×Int×Int×Int) (br:Br) (fl:List Nat) (x:ax) (R:Option (Int×RSh×Unit)):Prop:=
 (∃ f y,f≠0∧cz v lines [x] (br,fl,am)= .inl f∧R=some (f,y,()))∨
 (∃ d q qf,QOk (ai v).length q∧bh (aG (ai v).length (br++q))=true∧cz v lines [x] (br,fl,am)= .inr (br++q,fl++qf,am++[d])∧
   R=some (0,(nets,lines,B++[aG (ai v).length q],am++[d],aG (ai v).length (br++q),taxes,bU (ai v).length (fl++qf),T,()),()))
theorem aix {n:Nat} {br:Br} (h:bh (aG n br)=true) {i:Nat} (hi:i<n):(atB br i).natAbs≤1000000000000000:=by
 have:=gp.1 (akt.1 h _ (alr (fy br hi)))
 have hMU:=nA
 omega
theorem Ry {v:ah} (nets lines:List Int) (B:List (List Int)) (hB:B.length≤1000) (am taxes:List Int) (ham:am.length≤1000) (hn:(ai v).length≤20) (T:Int×Int×Int×Int×Int) {br:Br} (hbr:bh (aG (ai v).length br)=true) (fl:List Nat) {x:ax} {d K:Int} {q:Br} {qf:List Nat}
 (hq:yp v lines x= .inr (d,q,qf)) (hok:QOk (ai v).length q) (hh:∀ i,i<(ai v).length→qf.contains i=((atB q i != 0)||((i:Int)==K))):
 NR v nets lines B am taxes T br fl x (QJ (K,d,aG (ai v).length q,T.1,T.2.1,T.2.2.1,T.2.2.2.1,T.2.2.2.2,nets,lines,B,am,aG (ai v).length br,taxes,bU (ai v).length fl,())):=by
 have e:=age T nets lines B hB am taxes ham hn K d (atB br) (atB q) (fun j=>fl.contains j) (fun j hj=>aix hbr hj) hok.le
 have eb:(List.range (ai v).length).map (fun j=>atB br j+atB q j)=aG (ai v).length (br++q):=by
  unfold aG
  exact ale fun j _=>(IB br q j).symm
 have eh:(List.range (ai v).length).map (fun j=>fl.contains j||(atB q j != 0)||((j:Int)==K))=bU (ai v).length (fl++qf):=by
  unfold bU
  refine ale fun j hj=> ?_
  have h1:=hh j (alv.1 hj)
  rw[show (fl++qf).contains j=(fl.contains j||qf.contains j) by simp,h1,Bool.or_assoc]
 rw[eb,eh] at e
 unfold NR
 rw[show aG (ai v).length q=(List.range (ai v).length).map (atB q) from rfl,show aG (ai v).length br=(List.range (ai v).length).map (atB br) from rfl,show bU (ai v).length fl=(List.range (ai v).length).map (fun j=>fl.contains j) from rfl,e]
 cases ha:bh (aG (ai v).length (br++q)) with
 | true=>
  rw[amQ rfl]
  refine .inr ⟨d,q,qf,hok,ha, ?_,rfl⟩
  simp only[cz,hq,ha,amE]
 | false=>
  rw[amP ajQ]
  refine .inl ⟨1,_,by omega, ?_,rfl⟩
  simp only[cz,hq,ha,amD]
theorem QOk.one {n:Nat} {k:Nat} {d:Int} (hd:d.natAbs≤1000000000000000):QOk n [(k,d)]:=by
 refine⟨fun i _=> ?_,fun way pc j=> ?_⟩
 ·simp only[atB];split<;>omega
 ·simp only[atB,iR]
  by_cases h:k=j
  ·rw[amQ h,amQ h];simp
  ·rw[amP h,amP h]
   unfold jg
   rw[Int.zero_add,akr,adj (by have:=ami (n:=pc.2.toNat) (show 0<10 by omega);omega)]
theorem YX {n k:Nat} {d:Int} (hk:k<n):(List.replicate n (0:Int)).set k d=aG n [(k,d)]:=by
 apply akH
 intro i
 by_cases hi:i<n
 ·rw[fy _ hi]
  by_cases e:k=i
  ·subst e
   rw[akY (by simpa using hk)];simp[atB]
  ·rw[akX e,akV,amQ hi];simp[atB,e]
 ·rw[akR (by simp;omega),akR (by rw[cx];omega)]
theorem ah8 (l:List Int):aG l.length (dG 0 l)=l:=by
 apply akH
 intro i
 by_cases hi:i<l.length
 ·rw[fy _ hi]
  have:=J7 l 0 i
  rw[amk] at this
  rw[this,akK,akQ hi];rfl
 ·rw[akR (by rw[cx];omega),akR (by omega)]
theorem abR {v:ah} (h0:cK v=0) (T:Int×Int×Int×Int×Int) (nets lines:List Int) (hll:lines.length=(ai v).length) (hal:bh lines=true) (B:List (List Int)) (hB:B.length≤1000) (am taxes:List Int) (ham:am.length≤1000)
 {br:Br} (hbr:bh (aG (ai v).length br)=true) (fl:List Nat) {x:ax} (hx:x∈bF v):
 NR v nets lines B am taxes T br fl x (xb (nets,lines,B,am,aG (ai v).length br,taxes,bU (ai v).length fl,T,()) v x):=by
 have hv:=gh h0
 have hn1:0<(ai v).length:=hv.rn.1
 have hn2:(ai v).length≤20:=hv.rn.2
 have hpl:=hv.pl
 have hMU:=nA
 obtain⟨hx1,_,hx3⟩:=(iO hv.ext).2 x hx
 unfold xb
 rw[BL v x.2.2 (by show (ai v).length<_;omega),amq]
 dsimp only
 rw[ahX T nets lines B am (aG (ai v).length br) taxes (bU (ai v).length fl) h0 hx3 hll hal _ (by repeat (with_reducible first | exact amn | apply ud | apply oC)),aF]
 dsimp only
 have hbase:(oR v lines x).natAbs≤9000000000000000000:=by
  have ham2:∀ b∈lines,b.natAbs≤1000000000000000:=fun b hb=>by
   have:=gp.1 (akt.1 hal b hb)
   omega
  unfold oR
  cases cB (·.1) x.2.2 (ai v) with
  | some k=>
   dsimp only
   rw[akK]
   cases hk:lines[k]? with
   | none=>simp
   | some z=>have:=ham2 z (alr hk);simp;omega
  | none=>
   dsimp only
   have key:∀ l:List Int,(∀ b∈l,b.natAbs≤1000000000000000)→l.sum.natAbs≤l.length*1000000000000000:=by
    intro l
    induction l with
    | nil=>intro _;simp
    | cons y l ih=>
     intro h
     have h1:=ih fun b hb=>h b (alj _ hb)
     have h2:=h y alk
     simp only[alI,ak3,alQ,amf];omega
   have h1:=key lines ham2
   have h2:lines.length*1000000000000000≤20*1000000000000000:=amd _ (by omega)
   omega
 rw[FK v,show (x.1,(x.2.1.1,x.2.1.2),x.2.2)=x from rfl,Pn v x _ hpl hx1 hbase,amq]
 have hbF:yp v lines x=qW (cB (·.1) x.2.2 (ai v)) (gA v.2.2.2.2.1 v.2.2.2.1 (oR v lines x) x) lines:=rfl
 generalize gA v.2.2.2.2.1 v.2.2.2.1 (oR v lines x) x=d at hbF ⊢
 by_cases hd:(d.natAbs:Int)≤MU
 ·rw[amQ hd]
  dsimp only
  have hda:ic d=true:=gp.2 hd
  have hd2:d.natAbs≤1000000000000000:=by omega
  rw[ajW,amD,aH (by simp only[ajK,amI];omega)]
  by_cases hr:x.2.2=[]
  ·have hnone:cB (·.1) x.2.2 (ai v)=none:=by rw[hr];exact agL h0
   rw[hnone] at hbF ⊢
   rw[JB (by simpa using hr),ZB d hd2 lines ⟨by omega,by omega⟩ hal,amq]
   unfold qW at hbF
   rw[hda,amE] at hbF
   dsimp only at hbF
   by_cases hany:(lines.any fun b=>decide (MW<b.natAbs))=true
   ·rw[amQ hany]
    dsimp only
    rw[show ((2:Int) != 0)=true from rfl,amE,dR]
    refine .inl ⟨2,_,by omega, ?_,rfl⟩
    have hz:(lines.all fun b=>b==0)=false:=by
     obtain⟨b,hb,hgt⟩:=akv.1 hany
     cases hc:lines.all fun b=>b==0 with
     | false=>rfl
     | true=>
      have:=akt.1 hc b hb
      rw[amA] at this
      rw[amI,this] at hgt
      omega
    rw[hz,amD,hany,amE] at hbF
    simp only[cz,hbF]
   ·rw[amP hany]
    dsimp only
    rw[zne,amD,aF]
    have hany2:(lines.any fun b=>decide (MW<b.natAbs))=false:=by simpa using hany
    cases hz:lines.all fun b=>b==0 with
    | true=>
     rw[hz,amE] at hbF
     have e:EX d lines=aG (ai v).length [(0,d)]:=by
      unfold EX
      rw[amQ ((Kj lines).2 hz),hll]
      exact YX hn1
     rw[e]
     refine Ry nets lines B hB am taxes ham hn2 T hbr fl hbF (QOk.one hd2) (fun i hi=> ?_)
     simp only[atB,ixI]
     by_cases hd0:d=0
     ·subst hd0
      rw[show (bif (0:Int)==0 then ([]:List Nat) else [0])=[] from rfl]
      have:((i:Int)== -1)=false:=amz.2 (by omega)
      simp[this]
     ·rw[Ki (show (d==0)=false by simpa using hd0)]
      have:((i:Int)== -1)=false:=amz.2 (by omega)
      rw[this,ajZ]
      by_cases h3:i=0
      ·subst h3;simp[hd0]
      ·simp[h3,Ne.symm h3]
    | false=>
     rw[hz,amD,hany2,amD] at hbF
     have hne:¬ (lines.map Int.natAbs).sum=0:=fun h=>by rw[(Kj lines).1 h] at hz;cases hz
     have hlen:(cu d (lines.map Int.natAbs)).length=(ai v).length:=by rw[FW,ak5,hll]
     have hle:∀ y∈cu d (lines.map Int.natAbs),y.natAbs≤d.natAbs:=fun y hy=>O5 (by omega) hy
     have e:EX d lines=aG (ai v).length (dG 0 (cu d (lines.map Int.natAbs))):=by
      unfold EX
      rw[amP hne, ← hlen,ah8]
     rw[e]
     refine Ry nets lines B hB am taxes ham hn2 T hbr fl hbF ⟨fun i hi=> ?_,fun way pc k=> ?_⟩ (fun i hi=> ?_)
     ·have:=J7 (cu d (lines.map Int.natAbs)) 0 i
      rw[amk] at this
      rw[this,akK]
      cases hy:(cu d (lines.map Int.natAbs))[i]? with
      | none=>simp
      | some y=>have:=hle y (alr hy);simp;omega
     ·have h1:=aiY way pc (cu d (lines.map Int.natAbs)) 0 k
      have h2:=J7 (cu d (lines.map Int.natAbs)) 0 k
      rw[amk] at h1 h2
      rw[h1,h2]
     ·have h1:=ag9 (cu d (lines.map Int.natAbs)) 0 i
      have h2:=J7 (cu d (lines.map Int.natAbs)) 0 i
      rw[amk] at h1 h2
      have:((i:Int)==ixI none)=false:=amz.2 (by simp only[ixI];omega)
      rw[h1,h2,this,ajZ]
  ·obtain⟨k,hk⟩:=amt.1 (hx3.resolve_left hr)
   obtain⟨r,hkr,_⟩:=jX hk
   have hkn:k<(ai v).length:=(akS.1 hkr).1
   have hk':cB (·.1) x.2.2 (ai v)=some k:=hk
   rw[hk'] at hbF ⊢
   rw[Ki (by simpa using hr)]
   have hl2:(List.replicate (Int.toNat (lines.length:Int)) (0:Int)).length=(ai v).length:=by simp[hll]
   have hg:(List.replicate (Int.toNat (lines.length:Int)) (0:Int))[k]? =some 0:=by rw[akV,amQ (by rw[akq];omega)]
   simp only[ixI]
   rw[aH (by rw[hl2];exact Bool.and_eq_true_iff.2 ⟨amH (by omega),amH (by omega)⟩),akq (n:=k),hg,amq,aF]
   have e:(List.replicate (Int.toNat (lines.length:Int)) (0:Int)).set k d=aG (ai v).length [(k,d)]:=by
    rw[akq,hll]
    exact YX hkn
   rw[e]
   unfold qW at hbF
   rw[hda,amE] at hbF
   refine Ry nets lines B hB am taxes ham hn2 T hbr fl hbF (QOk.one hd2) (fun i hi=> ?_)
   simp only[atB]
   by_cases h3:i=k
   ·subst h3;simp
   ·have h4:((i:Int)==(k:Int))=false:=amz.2 (by omega)
    rw[h4]
    simp[h3,Ne.symm h3]
 ·rw[amP hd]
  dsimp only
  rw[ajV,amE]
  refine .inl ⟨1,_,by omega, ?_,rfl⟩
  have hda:ic d=false:=by
   cases h:ic d with
   | false=>rfl
   | true=>exact absurd (gp.1 h) hd
  unfold qW at hbF
  rw[hda,amD] at hbF
  simp only[cz,hbF]
end Go.Md
namespace Go.Md
open Go.Dn
theorem afO {way:Int} {neg:Bool} {q b:Nat} (hb:0<b):Gm way neg q 0 b=false:=by
 unfold Gm
 split
 ·exact amG (by omega)
 split
 ·exact amG (by omega)
 split
 ·exact amG (by omega)
 split
 ·rw[amG (by omega),ajL]
 split
 ·rw[amG (by omega),ajL]
 rfl
theorem agv {way a:Int} {b m:Nat} (hb:0<b) (h:a.natAbs≤m*b):(rnd way a b).natAbs≤m:=by
 unfold rnd
 dsimp only
 have h1:=Nat.div_add_mod a.natAbs b
 have hr:=ama a.natAbs hb
 have hq:a.natAbs / b≤m:=Nat.div_le_of_le_mul (by rw[amb];exact h)
 by_cases h0:a.natAbs % b=0
 ·rw[h0,afO hb]
  rw[amP ajQ]
  clear h1 hr h0
  generalize a.natAbs / b=q at hq ⊢
  split<;>omega
 ·have hlt:a.natAbs / b<m:=by
   rw[Nat.div_lt_iff_lt_mul hb]
   refine Nat.lt_of_le_of_ne h fun e=>h0 ?_
   rw[e]
   exact Nat.mul_mod_left m b
  generalize Gm way (decide (a<0)) (a.natAbs / b) (a.natAbs % b) b=up
  clear h1 hr h0 hq h
  generalize a.natAbs / b=q at hlt ⊢
  split<;>split<;>omega
theorem zy {way n:Int} {d:aj} (h:inR d 0 100 9=true):(jg way n d).natAbs≤n.natAbs:=by
 unfold inR at h
 rw[amI] at h
 obtain⟨_,_,h1,h2⟩:=h
 unfold jg
 have hp:0<10 ^ d.2.toNat:=ami (by omega)
 refine agv (by omega) ?_
 rw[akd]
 refine amc _ ?_
 have e:(100:Int)*10 ^ d.2.toNat=((100*10 ^ d.2.toNat:Nat):Int):=by push_cast;rfl
 rw[e] at h2
 rw[akr] at h1
 omega
theorem Am (v:ah) {n:Int} {d:aj} (h:inR d 0 100 9=true) (hn:n.natAbs≤1000000000000000):o6 v n d=some (jg v.2.2.2.2.1 n d,true,()):=by
 have hd:aY d:=by
  unfold inR at h
  rw[amI] at h
  exact h.1
 have hs:=zy (way:=v.2.2.2.2.1) (n:=n) h
 have hMU:=nA
 rw[MN v n d hd (by omega),amQ (by omega)]
end Go.Md
namespace Go.Md
open Go.Dn
theorem ace {v:ah} (hv:jW v) {k:Nat} (hk:k<(ai v).length):∃ r:aB,(ai v)[k]? =some r∧r.2=nF v k∧inR r.2 0 100 9=true:=by
 have hr:(ai v)[k]? =some (ai v)[k]:=aC hk
 exact⟨_,hr,(Vm hr).symm,hv.rates _ (ak1 hk)⟩
theorem Og {way:Int} {pc:aj} (hp:inR pc 0 100 9=true) (k:Nat):∀ {b:Br},(∀ p∈b,p.2.natAbs≤1000000000000000)→(iR way pc k b).natAbs≤b.length*1000000000000000
 | [],_=>by simp[iR]
 | p::b,h=>by
  have h1:=Og (way:=way) hp k (b:=b) fun q hq=>h q (alj _ hq)
  have h2:=h p alk
  have h3:=zy (way:=way) (n:=p.2) hp
  simp only[iR,ak3,alQ,amf]
  split<;>omega
theorem ahY {v:ah} (h0:cK v=0) (T:Int×Int×Int×Int×Int) (lines:List Int) {lb:Br} (hlb:cI v (aU v)=some lb) (qs:List Br) (am bases taxes:List Int) (has:List Bool) {k:Nat} (hk:k<(ai v).length) (f:Nat) (hf:(aU v).length<f):
 iter f (((k:Int),(0:Int),aU v,((aU v).length:Int),(0:Int),v.1,v.2.1,v.2.2.1,v.2.2.2.1,v.2.2.2.2.1,v.2.2.2.2.2.1,v.2.2.2.2.2.2.1,v.2.2.2.2.2.2.2.1,v.2.2.2.2.2.2.2.2,T.1,T.2.1,T.2.2.1,T.2.2.2.1,T.2.2.2.2,lb.map (·.2),lines,qs.map (aG (ai v).length),am,bases,taxes,has,()):vh) u9=some (Sum.inr ((k:Int),iR (dQ v) (nF v k) k lb,v.1,v.2.1,v.2.2.1,v.2.2.2.1,v.2.2.2.2.1,v.2.2.2.2.2.1,v.2.2.2.2.2.2.1,v.2.2.2.2.2.2.2.1,v.2.2.2.2.2.2.2.2,T.1,T.2.1,T.2.2.1,T.2.2.2.1,T.2.2.2.2,lb.map (·.2),lines,qs.map (aG (ai v).length),am,bases,taxes,has,())):=by
 have hv:=gh h0
 have hln:(aU v).length≤500:=hv.ln.2
 have hMU:=nA
 obtain⟨b1,b2,b3⟩:=CO hv (fun x hx=>hx) hlb
 obtain⟨r,hr,hr2,hr3⟩:=ace hv hk
 have ham:∀ p∈lb,p.2.natAbs≤1000000000000000:=fun p hp=>by have:=b1.am p hp;omega
 refine aZ (Inv:=fun i X=>X=((k:Int),iR (dQ v) (nF v k) k (lb.take i),aU v,((aU v).length:Int),(i:Int),v.1,v.2.1,v.2.2.1,v.2.2.2.1,v.2.2.2.2.1,v.2.2.2.2.2.1,v.2.2.2.2.2.2.1,v.2.2.2.2.2.2.2.1,v.2.2.2.2.2.2.2.2,T.1,T.2.1,T.2.2.1,T.2.2.2.1,T.2.2.2.2,lb.map (·.2),lines,qs.map (aG (ai v).length),am,bases,taxes,has,())) (aU v).length (fun r=>r=some (Sum.inr ((k:Int),iR (dQ v) (nF v k) k lb,v.1,v.2.1,v.2.2.1,v.2.2.2.1,v.2.2.2.2.1,v.2.2.2.2.2.1,v.2.2.2.2.2.2.1,v.2.2.2.2.2.2.2.1,v.2.2.2.2.2.2.2.2,T.1,T.2.1,T.2.2.1,T.2.2.2.1,T.2.2.2.2,lb.map (·.2),lines,qs.map (aG (ai v).length),am,bases,taxes,has,()))) ?_ ?_ f 0 _ rfl (by omega) (by omega)
 ·rintro i _ again hi rfl ih
  unfold u9
  dsimp only
  have hy:(aU v)[i]? =some (aU v)[i]:=aC hi
  have hx:=hv.lines _ (ak1 hi)
  have hp:lb[i]? =some (lb[i]'(by omega)):=aC (by omega)
  have hpm:(lb[i]'(by omega))∈lb:=ak1 _
  generalize (lb[i]'(by omega))=p at hp hpm
  have h3:=b3 i _ p hy hp
  have hx':tN v.2.2.2.1 v.2.2.2.2.2.2.1 (aU v)[i]:=hx
  generalize (aU v)[i]=y at hy hx' h3
  have hpam:=ham p hpm
  have hrr:v.2.2.2.2.2.2.1[k]? =some r:=hr
  have htk:lb.take (i+1)=lb.take i++[p]:=by rw[alK,hp];rfl
  have hb:=Og (way:=dQ v) hr3 k (b:=lb.take i) (fun q hq=>ham q (als hq))
  have hbl:(lb.take i).length*1000000000000000≤500*1000000000000000:=amd _ (by rw[alc];omega)
  have hps:=zy (way:=dQ v) (n:=p.2) hr3
  rw[hr2] at hb hps
  rw[aD (by omega),bf,hy,amq,bf,hrr,amq,az (n:=(i:Int)+1) (by omega) (by omega)]
  obtain⟨j,hj⟩:=amt.1 hx'.rate
  have hpj:p.1=j:=by
   rw[h3.2]
   unfold OY
   rw[show cB (·.1) y.2.2.2.2.2.2.2.2 (ai v)=some j from hj]
   rfl
  by_cases he:y.2.2.2.2.2.2.2.2=r.1
  ·have hjk:j=k:=by
    have:=ae5 hv.asc hrr he.symm
    rw[hj] at this
    exact Option.some.inj this
   rw[JB (by simpa using he)]
   have hnl:(lb.map (·.2)).length=lb.length:=by simp
   have hnp:(lb.map (·.2))[i]? =some p.2:=by rw[akT,hp];rfl
   rw[hnl,aH (by simp only[ajK,amI];omega),akq,hnp,amq,amq]
   rw[FK v,Am v hr3 hpam,amq,hr2,show jg v.2.2.2.2.1 p.2 (nF v k)=jg (dQ v) p.2 (nF v k) from rfl]
   dsimp only
   rw[az (by omega) (by omega)]
   refine ih _ ?_
   rw[htk,nt]
   simp only[iR]
   rw[amQ (by omega),aj4]
   rfl
  ·have hjk:j≠k:=fun e=>he (by
    obtain⟨r',h1,h2⟩:=jX hj
    rw[e,hrr] at h1
    cases h1
    exact h2.symm)
   rw[Ki (by simpa using he)]
   refine ih _ ?_
   rw[htk,nt]
   simp only[iR]
   rw[amP (by omega),aj4,aj4]
   rfl
 ·rintro _ again rfl
  unfold u9
  dsimp only
  rw[aE (by omega),alN (by omega)]
theorem aic {v:ah} (h0:cK v=0) (T:Int×Int×Int×Int×Int) (lines:List Int) {lb:Br} (hlb:cI v (aU v)=some lb) (qs:List Br) (am bases taxes:List Int) (has:List Bool) {k:Nat} (hk:k<(ai v).length) (hqs:∀ q∈qs,QOk (ai v).length q) (hql:qs.length≤1000) (f:Nat) (hf:qs.length<f):
 iter f (((k:Int),iR (dQ v) (nF v k) k lb,(qs.length:Int),(0:Int),v.1,v.2.1,v.2.2.1,v.2.2.2.1,v.2.2.2.2.1,v.2.2.2.2.2.1,v.2.2.2.2.2.2.1,v.2.2.2.2.2.2.2.1,v.2.2.2.2.2.2.2.2,T.1,T.2.1,T.2.2.1,T.2.2.2.1,T.2.2.2.2,lb.map (·.2),lines,qs.map (aG (ai v).length),am,bases,taxes,has,()):sD) sW=some (Sum.inr (iR (dQ v) (nF v k) k (lb++qs.flatten),T.1,T.2.1,T.2.2.1,T.2.2.2.1,T.2.2.2.2,lb.map (·.2),lines,qs.map (aG (ai v).length),am,bases,taxes,has,())):=by
 have hv:=gh h0
 have hln:(aU v).length≤500:=hv.ln.2
 have hMU:=nA
 obtain⟨b1,b2,b3⟩:=CO hv (fun x hx=>hx) hlb
 obtain⟨r,hr,hr2,hr3⟩:=ace hv hk
 have ham:∀ p∈lb,p.2.natAbs≤1000000000000000:=fun p hp=>by have:=b1.am p hp;omega
 have hb0:=Og (way:=dQ v) hr3 k (b:=lb) ham
 have hbl0:lb.length*1000000000000000≤500*1000000000000000:=amd _ (by omega)
 have hsum:∀ l:List Br,(∀ q∈l,QOk (ai v).length q)→(iR (dQ v) r.2 k l.flatten).natAbs≤l.length*1000000000000000:=by
  intro l
  induction l with
  | nil=>intro _;simp[iR]
  | cons q l ih=>
   intro h
   have h1:=ih fun x hx=>h x (alj _ hx)
   have hq:=h q alk
   have h2:=hq.le k hk
   have h3:=zy (way:=dQ v) (n:=atB q k) hr3
   rw[List.flatten_cons,nt,hq.tax]
   simp only[ak3,alQ,amf]
   omega
 refine aZ (Inv:=fun i X=>X=((k:Int),iR (dQ v) (nF v k) k (lb++(qs.take i).flatten),(qs.length:Int),(i:Int),v.1,v.2.1,v.2.2.1,v.2.2.2.1,v.2.2.2.2.1,v.2.2.2.2.2.1,v.2.2.2.2.2.2.1,v.2.2.2.2.2.2.2.1,v.2.2.2.2.2.2.2.2,T.1,T.2.1,T.2.2.1,T.2.2.2.1,T.2.2.2.2,lb.map (·.2),lines,qs.map (aG (ai v).length),am,bases,taxes,has,())) qs.length (fun r=>r=some (Sum.inr (iR (dQ v) (nF v k) k (lb++qs.flatten),T.1,T.2.1,T.2.2.1,T.2.2.2.1,T.2.2.2.2,lb.map (·.2),lines,qs.map (aG (ai v).length),am,bases,taxes,has,()))) ?_ ?_ f 0 _ (by simp) (by omega) (by omega)
 ·rintro i _ again hi rfl ih
  unfold sW
  dsimp only
  have hq:qs[i]? =some qs[i]:=aC hi
  have hqm:qs[i]∈qs:=ak1 hi
  generalize qs[i]=q at hq hqm
  have hok:=hqs q hqm
  have hrr:v.2.2.2.2.2.2.1[k]? =some r:=hr
  have hml:(qs.map (aG (ai v).length)).length=qs.length:=by simp
  have hmq:(qs.map (aG (ai v).length))[i]? =some (aG (ai v).length q):=by rw[akT,hq];rfl
  have h2:=hok.le k hk
  have h3:=zy (way:=dQ v) (n:=atB q k) hr3
  have h4:=hsum (qs.take i) (fun x hx=>hqs x (als hx))
  have h5:(qs.take i).length*1000000000000000≤1000*1000000000000000:=amd _ (by rw[alc];omega)
  rw[aD (by omega),hml,aH (by simp only[ajK,amI];omega),akq,hmq,amq,bf,fy _ hk,amq,bf,hrr,amq]
  rw[FK v,Am v hr3 h2,amq,show jg v.2.2.2.2.1 (atB q k) r.2=jg (dQ v) (atB q k) r.2 from rfl]
  dsimp only
  rw[hr2] at h3 h4 hb0 ⊢
  rw[nt,az (n:=(i:Int)+1) (by omega) (by omega),az (by omega) (by omega)]
  refine ih _ ?_
  have htk:(qs.take (i+1)).flatten=(qs.take i).flatten++q:=by rw[alK,hq,List.flatten_append];simp
  rw[htk,nt,nt,hok.tax, ← Int.add_assoc]
  rfl
 ·rintro _ again rfl
  unfold sW
  dsimp only
  rw[aE (by omega),alN (alZ _)]
end Go.Md
namespace Go.Md
open Go.Dn
theorem afI {v:ah} (h0:cK v=0) (T:Int×Int×Int×Int×Int) (lines:List Int) {lb:Br} (hlb:cI v (aU v)=some lb) (qs:List Br) (am taxes:List Int) (has:List Bool) {k:Nat} (hk:k<(ai v).length)
 (hqs:∀ q∈qs,QOk (ai v).length q) (hql:qs.length≤1000) (hbr:bh (aG (ai v).length (lb++qs.flatten))=true):
 Bh (lb.map (·.2),lines,qs.map (aG (ai v).length),am,aG (ai v).length (lb++qs.flatten),taxes,has,T,()) v (k:Int)=
  some (rL v (lb++qs.flatten) k,ic (rL v (lb++qs.flatten) k),(lb.map (·.2),lines,qs.map (aG (ai v).length),am,aG (ai v).length (lb++qs.flatten),taxes,has,T,()),()):=by
 have hv:=gh h0
 have hMU:=nA
 obtain⟨r,hr,hr2,hr3⟩:=ace hv hk
 have hrr:v.2.2.2.2.2.2.1[k]? =some r:=hr
 have hbk:=aix hbr hk
 unfold Bh rL
 dsimp only
 cases hp:v.2.2.2.2.2.1 with
 | false=>
  have hn:¬ lM v=true:=by show ¬ v.2.2.2.2.2.1=true;rw[hp];exact ajQ
  rw[ajV,amE,cx,aH (by simp only[ajK,amI];omega),akq,fy _ hk,amq,bf,hrr,amq,Am v hr3 hbk,amq,amP hn,hr2]
  have h3:=zy (way:=dQ v) (n:=atB (lb++qs.flatten) k) hr3
  rw[hr2] at h3
  have ha:ic (jg (dQ v) (atB (lb++qs.flatten) k) (nF v k))=true:=gp.2 (by omega)
  rw[ha]
 | true=>
  have hn:lM v=true:=hp
  rw[ajW,amD,amQ hn]
  have e1:=ahY h0 T lines hlb qs am (aG (ai v).length (lb++qs.flatten)) taxes has hk
  have e2:=aic h0 T lines hlb qs am (aG (ai v).length (lb++qs.flatten)) taxes has hk hqs hql
  have hp':v.2.2.2.2.2.1=true:=hp
  rw[hp'] at e1 e2
  rw[e1 _ (by repeat (with_reducible first | exact amn | apply ud | apply oC)),aF]
  dsimp only
  rw[ak5]
  rw[e2 _ (by repeat (with_reducible first | exact amn | apply ud | apply oC)),aF]
  dsimp only
  rw[lS,amq]
  rfl
end Go.Md
namespace Go.Md
open Go.Dn
theorem ahD {v:ah} (h0:cK v=0) (R:(List Int)×(List Int)×(List (List Int))×(List Int)×(List Int)×(List Int)×(List Bool)×Int×Int×Int×Int×Int) (t0 t1 t2 t4:Int) (lines:List Int) {lb:Br} (hlb:cI v (aU v)=some lb) (qs:List Br) (am:List Int) (has:List Bool)
 (hqs:∀ q∈qs,QOk (ai v).length q) (hql:qs.length≤1000) (hbr:bh (aG (ai v).length (lb++qs.flatten))=true) (f:Nat) (hf:(ai v).length<f) (r:Option Eg)
 (hr:r=iter f ((((ai v).length:Int),(0:Int),v.1,v.2.1,v.2.2.1,v.2.2.2.1,v.2.2.2.2.1,v.2.2.2.2.2.1,v.2.2.2.2.2.2.1,v.2.2.2.2.2.2.2.1,v.2.2.2.2.2.2.2.2,R.1,R.2.1,R.2.2.1,R.2.2.2.1,R.2.2.2.2.1,R.2.2.2.2.2.1,R.2.2.2.2.2.2.1,R.2.2.2.2.2.2.2.1,R.2.2.2.2.2.2.2.2.1,R.2.2.2.2.2.2.2.2.2.1,R.2.2.2.2.2.2.2.2.2.2.1,R.2.2.2.2.2.2.2.2.2.2.2,lb.map (·.2),lines,qs.map (aG (ai v).length),am,aG (ai v).length (lb++qs.flatten),([]:List Int),has,t0,t1,t2,(0:Int),t4,()):DA) Et):(if bh (cX v (lb++qs.flatten))=true then r=some (Sum.inr (R.1,R.2.1,R.2.2.1,R.2.2.2.1,R.2.2.2.2.1,R.2.2.2.2.2.1,R.2.2.2.2.2.2.1,R.2.2.2.2.2.2.2.1,R.2.2.2.2.2.2.2.2.1,R.2.2.2.2.2.2.2.2.2.1,R.2.2.2.2.2.2.2.2.2.2.1,R.2.2.2.2.2.2.2.2.2.2.2,lb.map (·.2),lines,qs.map (aG (ai v).length),am,aG (ai v).length (lb++qs.flatten),cX v (lb++qs.flatten),has,t0,t1,t2,(cX v (lb++qs.flatten)).sum,t4,())) else ∃ y,r=some (Sum.inl (y,1,()))):=by
 have hv:=gh h0
 have hn2:(ai v).length≤20:=hv.rn.2
 have hMU:=nA
 rw[hr]
 refine aZ (Inv:=fun i X=>(∀ j,j<i→ic (rL v (lb++qs.flatten) j)=true)∧X=(((ai v).length:Int),(i:Int),v.1,v.2.1,v.2.2.1,v.2.2.2.1,v.2.2.2.2.1,v.2.2.2.2.2.1,v.2.2.2.2.2.2.1,v.2.2.2.2.2.2.2.1,v.2.2.2.2.2.2.2.2,R.1,R.2.1,R.2.2.1,R.2.2.2.1,R.2.2.2.2.1,R.2.2.2.2.2.1,R.2.2.2.2.2.2.1,R.2.2.2.2.2.2.2.1,R.2.2.2.2.2.2.2.2.1,R.2.2.2.2.2.2.2.2.2.1,R.2.2.2.2.2.2.2.2.2.2.1,R.2.2.2.2.2.2.2.2.2.2.2,lb.map (·.2),lines,qs.map (aG (ai v).length),am,aG (ai v).length (lb++qs.flatten),(List.range i).map (rL v (lb++qs.flatten)),has,t0,t1,t2,((List.range i).map (rL v (lb++qs.flatten))).sum,t4,())) (ai v).length (fun r=>(if bh (cX v (lb++qs.flatten))=true then r=some (Sum.inr (R.1,R.2.1,R.2.2.1,R.2.2.2.1,R.2.2.2.2.1,R.2.2.2.2.2.1,R.2.2.2.2.2.2.1,R.2.2.2.2.2.2.2.1,R.2.2.2.2.2.2.2.2.1,R.2.2.2.2.2.2.2.2.2.1,R.2.2.2.2.2.2.2.2.2.2.1,R.2.2.2.2.2.2.2.2.2.2.2,lb.map (·.2),lines,qs.map (aG (ai v).length),am,aG (ai v).length (lb++qs.flatten),cX v (lb++qs.flatten),has,t0,t1,t2,(cX v (lb++qs.flatten)).sum,t4,())) else ∃ y,r=some (Sum.inl (y,1,())))) ?_ ?_ f 0 _ ⟨fun j hj=>absurd hj (by omega),rfl⟩ (by omega) (by omega)
 ·rintro i _ again hi ⟨hle,rfl⟩ ih
  unfold Et
  dsimp only
  have hs:((List.range i).map (rL v (lb++qs.flatten))).sum.natAbs≤i*1000000000000000:=by
   clear ih hr
   clear hi
   induction i with
   | zero=>simp
   | succ i ihh=>
    have h1:=ihh fun j hj=>hle j (by omega)
    have h2:=gp.1 (hle i (by omega))
    rw[alD,ald,alH,alQ,amf]
    simp only[alf,alg,alI,List.sum_nil]
    omega
  have hi20:i*1000000000000000≤20*1000000000000000:=amd _ (by omega)
  have e:=afI h0 (t0,t1,t2,((List.range i).map (rL v (lb++qs.flatten))).sum,t4) lines hlb qs am ((List.range i).map (rL v (lb++qs.flatten))) has hi hqs hql hbr
  rw[aD (by omega),FK v,e,amq]
  dsimp only
  cases ha:ic (rL v (lb++qs.flatten) i) with
  | true=>
   have h2:=gp.1 ha
   have hl:((List.range i).map (rL v (lb++qs.flatten))).length=i:=by simp
   rw[ajW,amD,hl,aH (cr (by omega) (by omega)),az (n:=(i:Int)+1) (by omega) (by omega),az (by omega) (by omega)]
   refine ih _ ⟨fun j hj=> ?_, ?_⟩
   ·by_cases hji:j=i
    ·rw[hji];exact ha
    ·exact hle j (by omega)
   ·rw[alD,ald,alH]
    simp only[alf,alg,alI,List.sum_nil,aj4]
    rfl
  | false=>
   rw[ajV,amE,amP]
   ·exact⟨_,rfl⟩
   ·intro h
    have:=akt.1 h (rL v (lb++qs.flatten) i) (by unfold cX;exact alq (alv.2 hi))
    rw[ha] at this
    cases this
 ·rintro _ again ⟨hle,rfl⟩
  unfold Et
  dsimp only
  rw[aE (by omega),amQ]
  ·rfl
  ·unfold bh cX
   rw[akt]
   intro z hz
   obtain⟨j,hj,rfl⟩:=alp.1 hz
   exact hle j (alv.1 hj)
end Go.Md
namespace Go.Md
open Go.Dn
theorem afY {v:ah} (h0:cK v=0) (R:(List Int)×(List Int)×(List (List Int))×(List Int)×(List Int)×(List Int)×(List Bool)×Int×Int×Int×Int×Int) (T:Int×Int×Int×Int×Int) (nets lines taxes:List Int) (hll:lines.length=(ai v).length) (hal:bh lines=true) {lb:Br} (hlb:bh (aG (ai v).length lb)=true) (fl0:List Nat) (f:Nat) (hf:(bF v).length<f) (r:Option D5)
 (hr:r=iter f ((bF v,((bF v).length:Int),(0:Int),v.1,v.2.1,v.2.2.1,v.2.2.2.1,v.2.2.2.2.1,v.2.2.2.2.2.1,v.2.2.2.2.2.2.1,v.2.2.2.2.2.2.2.1,v.2.2.2.2.2.2.2.2,R.1,R.2.1,R.2.2.1,R.2.2.2.1,R.2.2.2.2.1,R.2.2.2.2.2.1,R.2.2.2.2.2.2.1,R.2.2.2.2.2.2.2.1,R.2.2.2.2.2.2.2.2.1,R.2.2.2.2.2.2.2.2.2.1,R.2.2.2.2.2.2.2.2.2.2.1,R.2.2.2.2.2.2.2.2.2.2.2,nets,lines,([]:List (List Int)),([]:List Int),aG (ai v).length lb,taxes,bU (ai v).length fl0,T.1,T.2.1,T.2.2.1,T.2.2.2.1,T.2.2.2.2,()):Eo) Dr):((∃ f y,f≠0∧cz v lines (bF v) (lb,fl0,[])= .inl f∧r=some (Sum.inl (y,f,())))∨(∃ (s:ESt) (qs:List Br),cz v lines (bF v) (lb,fl0,[])= .inr s∧s.1=lb++qs.flatten∧(∀ q∈qs,QOk (ai v).length q)∧qs.length≤20∧bh (aG (ai v).length s.1)=true∧r=some (Sum.inr (v.1,v.2.1,v.2.2.1,v.2.2.2.1,v.2.2.2.2.1,v.2.2.2.2.2.1,v.2.2.2.2.2.2.1,v.2.2.2.2.2.2.2.1,v.2.2.2.2.2.2.2.2,R.1,R.2.1,R.2.2.1,R.2.2.2.1,R.2.2.2.2.1,R.2.2.2.2.2.1,R.2.2.2.2.2.2.1,R.2.2.2.2.2.2.2.1,R.2.2.2.2.2.2.2.2.1,R.2.2.2.2.2.2.2.2.2.1,R.2.2.2.2.2.2.2.2.2.2.1,R.2.2.2.2.2.2.2.2.2.2.2,nets,lines,qs.map (aG (ai v).length),s.2.2,aG (ai v).length s.1,taxes,bU (ai v).length s.2.1,T.1,T.2.1,T.2.2.1,T.2.2.2.1,T.2.2.2.2,())))):=by
 have hv:=gh h0
 have hxl:(bF v).length≤20:=(iO hv.ext).1
 rw[hr]
 refine aZ (Inv:=fun i X=>∃ (s:ESt) (qs:List Br),cz v lines ((bF v).take i) (lb,fl0,[])= .inr s∧s.1=lb++qs.flatten∧(∀ q∈qs,QOk (ai v).length q)∧qs.length=i∧s.2.2.length=i∧bh (aG (ai v).length s.1)=true∧X=(bF v,((bF v).length:Int),(i:Int),v.1,v.2.1,v.2.2.1,v.2.2.2.1,v.2.2.2.2.1,v.2.2.2.2.2.1,v.2.2.2.2.2.2.1,v.2.2.2.2.2.2.2.1,v.2.2.2.2.2.2.2.2,R.1,R.2.1,R.2.2.1,R.2.2.2.1,R.2.2.2.2.1,R.2.2.2.2.2.1,R.2.2.2.2.2.2.1,R.2.2.2.2.2.2.2.1,R.2.2.2.2.2.2.2.2.1,R.2.2.2.2.2.2.2.2.2.1,R.2.2.2.2.2.2.2.2.2.2.1,R.2.2.2.2.2.2.2.2.2.2.2,nets,lines,qs.map (aG (ai v).length),s.2.2,aG (ai v).length s.1,taxes,bU (ai v).length s.2.1,T.1,T.2.1,T.2.2.1,T.2.2.2.1,T.2.2.2.2,())) (bF v).length (fun r=>((∃ f y,f≠0∧cz v lines (bF v) (lb,fl0,[])= .inl f∧r=some (Sum.inl (y,f,())))∨(∃ (s:ESt) (qs:List Br),cz v lines (bF v) (lb,fl0,[])= .inr s∧s.1=lb++qs.flatten∧(∀ q∈qs,QOk (ai v).length q)∧qs.length≤20∧bh (aG (ai v).length s.1)=true∧r=some (Sum.inr (v.1,v.2.1,v.2.2.1,v.2.2.2.1,v.2.2.2.2.1,v.2.2.2.2.2.1,v.2.2.2.2.2.2.1,v.2.2.2.2.2.2.2.1,v.2.2.2.2.2.2.2.2,R.1,R.2.1,R.2.2.1,R.2.2.2.1,R.2.2.2.2.1,R.2.2.2.2.2.1,R.2.2.2.2.2.2.1,R.2.2.2.2.2.2.2.1,R.2.2.2.2.2.2.2.2.1,R.2.2.2.2.2.2.2.2.2.1,R.2.2.2.2.2.2.2.2.2.2.1,R.2.2.2.2.2.2.2.2.2.2.2,nets,lines,qs.map (aG (ai v).length),s.2.2,aG (ai v).length s.1,taxes,bU (ai v).length s.2.1,T.1,T.2.1,T.2.2.1,T.2.2.2.1,T.2.2.2.2,()))))) ?_ ?_ f 0 _ ⟨(lb,fl0,[]),[],rfl,by simp,by simp,rfl,rfl,hlb,rfl⟩ (by omega) (by omega)
 ·rintro i _ again hi ⟨s,qs,g1,g2,g3,g4,g5,g6,rfl⟩ ih
  unfold Dr
  dsimp only
  have hy:(bF v)[i]? =some (bF v)[i]:=aC hi
  have hm:(bF v)[i]∈bF v:=ak1 hi
  generalize (bF v)[i]=x at hy hm
  have hap:cz v lines ((bF v).take (i+1)) (lb,fl0,[])=cz v lines [x] s:=by
   rw[alK,hy,zq,g1]
   rfl
  rw[aD (by omega),bf,hy,amq]
  rw[FK v,show (T.1,T.2.1,T.2.2.1,T.2.2.2.1,T.2.2.2.2)=T from rfl]
  have hb:=abR h0 T nets lines hll hal (qs.map (aG (ai v).length)) (by rw[ak5];omega) s.2.2 taxes (by omega) g6 s.2.1 hm
  unfold NR at hb
  rcases hb with ⟨fa,y,b1,b2,b3⟩ | ⟨d,q,qf,b1,b2,b3,b4⟩
  ·rw[b3,amq]
   dsimp only
   rw[JB (show (fa != 0)=true by simpa using b1)]
   refine .inl ⟨fa,_,b1, ?_,rfl⟩
   rw[show ((s.1,s.2.1,s.2.2):ESt)=s from rfl] at b2
   rw[b2] at hap
   exact Kw hap
  ·rw[b4,amq]
   dsimp only
   rw[zne,amD,az (by omega) (by omega)]
   rw[show ((s.1,s.2.1,s.2.2):ESt)=s from rfl] at b3
   refine ih _ ⟨(s.1++q,s.2.1++qf,s.2.2++[d]),qs++[q],by rw[hap,b3], ?_, ?_, ?_, ?_,b2, ?_⟩
   ·show s.1++q=_
    rw[g2,List.flatten_append,akw]
    simp
   ·intro z hz
    rcases alh.1 hz with hz | hz
    ·exact g3 z hz
    ·rw[show z=q by simpa using hz];exact b1
   ·rw[ak2,g4];rfl
   ·show (s.2.2++[d]).length=_
    rw[ak2,g5];rfl
   ·rw[ald]
    rfl
 ·rintro _ again ⟨s,qs,g1,g2,g3,g4,g5,g6,rfl⟩
  unfold Dr
  dsimp only
  rw[aE (by omega)]
  rw[alN (alZ _)] at g1
  exact .inr ⟨s,qs,g1,g2,g3,by omega,g6,rfl⟩
end Go.Md
namespace Go.Md
open Go.Dn
theorem XM {β:Type} {a b:Prop} {ia:Decidable a} {ib:Decidable b} (ha:a) (hb:b) (x:Option β):chk (@decide a ia&& @decide b ib) x=x:=by
 rw[amH ha,amH hb];rfl
theorem ah6 {v:ah} (h0:cK v=0) (R:(List Int)×(List Int)×(List (List Int))×(List Int)×(List Int)×(List Int)×(List Bool)×Int×Int×Int×Int×Int) (B:List (List Int)) (am bs tx:List Int) (t1 t2 t3 t4:Int) (f:Nat) (hf:(aU v).length<f) (r:Option Gk)
 (hr:r=iter f ((aU v,((aU v).length:Int),(0:Int),v.1,v.2.1,v.2.2.1,v.2.2.2.1,v.2.2.2.2.1,v.2.2.2.2.2.1,v.2.2.2.2.2.2.1,v.2.2.2.2.2.2.2.1,v.2.2.2.2.2.2.2.2,R.1,R.2.1,R.2.2.1,R.2.2.2.1,R.2.2.2.2.1,R.2.2.2.2.2.1,R.2.2.2.2.2.2.1,R.2.2.2.2.2.2.2.1,R.2.2.2.2.2.2.2.2.1,R.2.2.2.2.2.2.2.2.2.1,R.2.2.2.2.2.2.2.2.2.2.1,R.2.2.2.2.2.2.2.2.2.2.2,([]:List Int),B,am,bs,tx,(0:Int),t1,t2,t3,t4,aG (ai v).length [],bU (ai v).length [],()):Gc) vZ):((cI v (aU v)=none∧∃ y,r=some (Sum.inl (y,1,())))∨(∃ lb:Br,cI v (aU v)=some lb∧r=some (Sum.inr (v.1,v.2.1,v.2.2.1,v.2.2.2.1,v.2.2.2.2.1,v.2.2.2.2.2.1,v.2.2.2.2.2.2.1,v.2.2.2.2.2.2.2.1,v.2.2.2.2.2.2.2.2,R.1,R.2.1,R.2.2.1,R.2.2.2.1,R.2.2.2.2.1,R.2.2.2.2.2.1,R.2.2.2.2.2.2.1,R.2.2.2.2.2.2.2.1,R.2.2.2.2.2.2.2.2.1,R.2.2.2.2.2.2.2.2.2.1,R.2.2.2.2.2.2.2.2.2.2.1,R.2.2.2.2.2.2.2.2.2.2.2,lb.map (·.2),B,am,bs,tx,(lb.map (·.2)).sum,t1,t2,t3,t4,aG (ai v).length lb,bU (ai v).length (lb.map (·.1)),())))):=by
 have hv:=gh h0
 have hln:(aU v).length≤500:=hv.ln.2
 have hrn:(ai v).length≤20:=hv.rn.2
 have hMU:=nA
 rw[hr]
 refine aZ (Inv:=fun i X=>∃ b:Br,cI v ((aU v).take i)=some b∧X=(aU v,((aU v).length:Int),(i:Int),v.1,v.2.1,v.2.2.1,v.2.2.2.1,v.2.2.2.2.1,v.2.2.2.2.2.1,v.2.2.2.2.2.2.1,v.2.2.2.2.2.2.2.1,v.2.2.2.2.2.2.2.2,R.1,R.2.1,R.2.2.1,R.2.2.2.1,R.2.2.2.2.1,R.2.2.2.2.2.1,R.2.2.2.2.2.2.1,R.2.2.2.2.2.2.2.1,R.2.2.2.2.2.2.2.2.1,R.2.2.2.2.2.2.2.2.2.1,R.2.2.2.2.2.2.2.2.2.2.1,R.2.2.2.2.2.2.2.2.2.2.2,b.map (·.2),B,am,bs,tx,(b.map (·.2)).sum,t1,t2,t3,t4,aG (ai v).length b,bU (ai v).length (b.map (·.1)),())) (aU v).length (fun r=>((cI v (aU v)=none∧∃ y,r=some (Sum.inl (y,1,())))∨(∃ lb:Br,cI v (aU v)=some lb∧r=some (Sum.inr (v.1,v.2.1,v.2.2.1,v.2.2.2.1,v.2.2.2.2.1,v.2.2.2.2.2.1,v.2.2.2.2.2.2.1,v.2.2.2.2.2.2.2.1,v.2.2.2.2.2.2.2.2,R.1,R.2.1,R.2.2.1,R.2.2.2.1,R.2.2.2.2.1,R.2.2.2.2.2.1,R.2.2.2.2.2.2.1,R.2.2.2.2.2.2.2.1,R.2.2.2.2.2.2.2.2.1,R.2.2.2.2.2.2.2.2.2.1,R.2.2.2.2.2.2.2.2.2.2.1,R.2.2.2.2.2.2.2.2.2.2.2,lb.map (·.2),B,am,bs,tx,(lb.map (·.2)).sum,t1,t2,t3,t4,aG (ai v).length lb,bU (ai v).length (lb.map (·.1)),()))))) ?_ ?_ f 0 _ ⟨[],rfl,rfl⟩ (by omega) (by omega)
 ·rintro i _ again hi ⟨b,g1,rfl⟩ ih
  have hy:(aU v)[i]? =some (aU v)[i]:=aC hi
  have hx:tN v.2.2.2.1 v.2.2.2.2.2.2.1 (aU v)[i]:=hv.lines _ (ak1 hi)
  generalize (aU v)[i]=y at hy hx
  have hst:=Ue hy g1
  obtain⟨b1,b2,_⟩:=CO hv (l:=(aU v).take i) (fun x hx=>als hx) g1
  have hbl:b.length≤500:=by rw[b2,alc];omega
  have hsum:∀ l:List (Nat×Int),(∀ p∈l,(p.2.natAbs:Int)≤MU)→(List.map (fun p:Nat×Int=>p.2) l).sum.natAbs≤l.length*1000000000000000:=by
   intro l
   induction l with
   | nil=>intro _;simp
   | cons p l ihl=>
    intro h
    have h1:=ihl fun q hq=>h q (alj _ hq)
    have h2:=h p alk
    simp only[alf,alI,ak3,alQ,amf]
    omega
  have hs1:=hsum b (fun p hp=>by have:=b1.am p hp;omega)
  have hs2:b.length*1000000000000000≤500*1000000000000000:=amd _ hbl
  have hvv:((v.1,v.2.1,v.2.2.1,v.2.2.2.1,v.2.2.2.2.1,v.2.2.2.2.2.1,v.2.2.2.2.2.2.1,v.2.2.2.2.2.2.2.1,v.2.2.2.2.2.2.2.2):ah)=v:=rfl
  cases hn:CA v y with
  | none=>
   rw[hn] at hst
   refine .inl ⟨Uc hst,(b.map (·.2),aG (ai v).length b,B,am,bs,tx,bU (ai v).length (b.map (·.1)),(b.map (·.2)).sum,t1,t2,t3,t4), ?_⟩
   unfold vZ
   dsimp only
   rw[aD (by omega),bf,hy,amq,hvv,WZ hv hx,amq,hn]
   dsimp only[ahR]
   rw[ajV,amE]
  | some z=>
   rw[hn] at hst
   have hz:=(Sa hn).2
   obtain⟨j,hj⟩:=amt.1 hx.rate
   obtain⟨r',hr',_⟩:=jX hj
   have hjn:j<(ai v).length:=(akS.1 hr').1
   have hrt:OY v y=j:=by
    unfold OY
    rw[show cB (·.1) y.2.2.2.2.2.2.2.2 (ai v)=some j from hj]
    rfl
   have hat:=ahe b1 j
   have hrf:fS v y.2.2.2.2.2.2.2.2=some ((j:Int),()):=by
    rw[BL v _ (by show (ai v).length<_;omega),hj]
    rfl
   have hbl1:(b.map (·.2)).length=b.length:=by simp
   have hhl:(bU (ai v).length (b.map (·.1))).length=(ai v).length:=by simp[bU]
   have hhg:∃ q,(bU (ai v).length (b.map (·.1)))[j]? =some q:=⟨_,aC (by rw[hhl];exact hjn)⟩
   obtain⟨q,hq⟩:=hhg
   have hc1:(decide (0≤(j:Int))&&decide ((j:Int)<((ai v).length:Int)))=true:=by rw[amH (by omega),amH (by omega)];rfl
   have e:vZ (aU v,((aU v).length:Int),(i:Int),v.1,v.2.1,v.2.2.1,v.2.2.2.1,v.2.2.2.2.1,v.2.2.2.2.2.1,v.2.2.2.2.2.2.1,v.2.2.2.2.2.2.2.1,v.2.2.2.2.2.2.2.2,R.1,R.2.1,R.2.2.1,R.2.2.2.1,R.2.2.2.2.1,R.2.2.2.2.2.1,R.2.2.2.2.2.2.1,R.2.2.2.2.2.2.2.1,R.2.2.2.2.2.2.2.2.1,R.2.2.2.2.2.2.2.2.2.1,R.2.2.2.2.2.2.2.2.2.2.1,R.2.2.2.2.2.2.2.2.2.2.2,b.map (·.2),B,am,bs,tx,(b.map (·.2)).sum,t1,t2,t3,t4,aG (ai v).length b,bU (ai v).length (b.map (·.1)),()) again=again (aU v,((aU v).length:Int),((i:Int)+1),v.1,v.2.1,v.2.2.1,v.2.2.2.1,v.2.2.2.2.1,v.2.2.2.2.2.1,v.2.2.2.2.2.2.1,v.2.2.2.2.2.2.2.1,v.2.2.2.2.2.2.2.2,R.1,R.2.1,R.2.2.1,R.2.2.2.1,R.2.2.2.2.1,R.2.2.2.2.2.1,R.2.2.2.2.2.2.1,R.2.2.2.2.2.2.2.1,R.2.2.2.2.2.2.2.2.1,R.2.2.2.2.2.2.2.2.2.1,R.2.2.2.2.2.2.2.2.2.2.1,R.2.2.2.2.2.2.2.2.2.2.2,(b++[(j,z)]).map (·.2),B,am,bs,tx,((b++[(j,z)]).map (·.2)).sum,t1,t2,t3,t4,aG (ai v).length (b++[(j,z)]),bU (ai v).length ((b++[(j,z)]).map (·.1)),()):=by
    unfold vZ
    dsimp only
    rw[aD (by omega),bf,hy,amq,hvv,WZ hv hx,amq,hn]
    dsimp only[ahR]
    rw[ajW,amD,hrf,amq]
    dsimp only
    rw[hbl1,hhl,cx,aH (cr (by omega) (by omega)),XM (akh j) (Int.ofNat_lt.2 hjn),akq,fy _ hjn,amq,XM (akh j) (Int.ofNat_lt.2 hjn),amq,XM (akh j) (Int.ofNat_lt.2 hjn),hq,amq]
    rw[az (n:=(i:Int)+1) (by omega) (by omega),az (n:=(List.map (fun p:Nat×Int=>p.2) b).sum+z) (by omega) (by omega),az (n:=atB b j+z) (by omega) (by omega),L9,FG]
    simp only[ald,alf,alg,alH,alI,List.sum_nil,aj4]
   rw[e]
   refine ih _ ⟨b++[(j,z)],by rw[hst,hrt];rfl,rfl⟩
 ·rintro _ again ⟨b,g1,rfl⟩
  unfold vZ
  dsimp only
  rw[aE (by omega)]
  rw[alN (alZ _)] at g1
  exact .inr ⟨b,g1,rfl⟩
end Go.Md
namespace Go.Md
open Go.Dn
theorem VK (v:ah) (R:(List Int)×(List Int)×(List (List Int))×(List Int)×(List Int)×(List Int)×(List Bool)×Int×Int×Int×Int×Int) (nets lines:List Int) (B:List (List Int)) (am bs tx:List Int) (has:List Bool) (t0 t1 t2 t3 t4:Int) (hl:lines.length≤1000) (f:Nat) (hf:lines.length<f) (r:Option Ev)
 (hr:r=iter f (((lines.length:Int),(0:Int),v.1,v.2.1,v.2.2.1,v.2.2.2.1,v.2.2.2.2.1,v.2.2.2.2.2.1,v.2.2.2.2.2.2.1,v.2.2.2.2.2.2.2.1,v.2.2.2.2.2.2.2.2,R.1,R.2.1,R.2.2.1,R.2.2.2.1,R.2.2.2.2.1,R.2.2.2.2.2.1,R.2.2.2.2.2.2.1,R.2.2.2.2.2.2.2.1,R.2.2.2.2.2.2.2.2.1,R.2.2.2.2.2.2.2.2.2.1,R.2.2.2.2.2.2.2.2.2.2.1,R.2.2.2.2.2.2.2.2.2.2.2,nets,B,am,bs,tx,t0,t1,t2,t3,t4,lines,has,()):DE) sY):(if bh lines=true then r=some (Sum.inr (v.1,v.2.1,v.2.2.1,v.2.2.2.1,v.2.2.2.2.1,v.2.2.2.2.2.1,v.2.2.2.2.2.2.1,v.2.2.2.2.2.2.2.1,v.2.2.2.2.2.2.2.2,R.1,R.2.1,R.2.2.1,R.2.2.2.1,R.2.2.2.2.1,R.2.2.2.2.2.1,R.2.2.2.2.2.2.1,R.2.2.2.2.2.2.2.1,R.2.2.2.2.2.2.2.2.1,R.2.2.2.2.2.2.2.2.2.1,R.2.2.2.2.2.2.2.2.2.2.1,R.2.2.2.2.2.2.2.2.2.2.2,nets,B,am,bs,tx,t0,t1,t2,t3,t4,lines,has,())) else ∃ y,r=some (Sum.inl (y,1,()))):=by
 rw[hr]
 refine aZ (Inv:=fun i X=>(∀ z∈lines.take i,ic z=true)∧X=((lines.length:Int),(i:Int),v.1,v.2.1,v.2.2.1,v.2.2.2.1,v.2.2.2.2.1,v.2.2.2.2.2.1,v.2.2.2.2.2.2.1,v.2.2.2.2.2.2.2.1,v.2.2.2.2.2.2.2.2,R.1,R.2.1,R.2.2.1,R.2.2.2.1,R.2.2.2.2.1,R.2.2.2.2.2.1,R.2.2.2.2.2.2.1,R.2.2.2.2.2.2.2.1,R.2.2.2.2.2.2.2.2.1,R.2.2.2.2.2.2.2.2.2.1,R.2.2.2.2.2.2.2.2.2.2.1,R.2.2.2.2.2.2.2.2.2.2.2,nets,B,am,bs,tx,t0,t1,t2,t3,t4,lines,has,())) lines.length (fun r=>(if bh lines=true then r=some (Sum.inr (v.1,v.2.1,v.2.2.1,v.2.2.2.1,v.2.2.2.2.1,v.2.2.2.2.2.1,v.2.2.2.2.2.2.1,v.2.2.2.2.2.2.2.1,v.2.2.2.2.2.2.2.2,R.1,R.2.1,R.2.2.1,R.2.2.2.1,R.2.2.2.2.1,R.2.2.2.2.2.1,R.2.2.2.2.2.2.1,R.2.2.2.2.2.2.2.1,R.2.2.2.2.2.2.2.2.1,R.2.2.2.2.2.2.2.2.2.1,R.2.2.2.2.2.2.2.2.2.2.1,R.2.2.2.2.2.2.2.2.2.2.2,nets,B,am,bs,tx,t0,t1,t2,t3,t4,lines,has,())) else ∃ y,r=some (Sum.inl (y,1,())))) ?_ ?_ f 0 _ ⟨by simp,rfl⟩ (by omega) (by omega)
 ·rintro i _ again hi ⟨hle,rfl⟩ ih
  have hy:lines[i]? =some lines[i]:=aC hi
  have hmem:lines[i]∈lines:=ak1 hi
  generalize lines[i]=y at hy hmem
  cases hz:ic y with
  | true=>
   have e:sY ((lines.length:Int),(i:Int),v.1,v.2.1,v.2.2.1,v.2.2.2.1,v.2.2.2.2.1,v.2.2.2.2.2.1,v.2.2.2.2.2.2.1,v.2.2.2.2.2.2.2.1,v.2.2.2.2.2.2.2.2,R.1,R.2.1,R.2.2.1,R.2.2.2.1,R.2.2.2.2.1,R.2.2.2.2.2.1,R.2.2.2.2.2.2.1,R.2.2.2.2.2.2.2.1,R.2.2.2.2.2.2.2.2.1,R.2.2.2.2.2.2.2.2.2.1,R.2.2.2.2.2.2.2.2.2.2.1,R.2.2.2.2.2.2.2.2.2.2.2,nets,B,am,bs,tx,t0,t1,t2,t3,t4,lines,has,()) again=again ((lines.length:Int),((i:Int)+1),v.1,v.2.1,v.2.2.1,v.2.2.2.1,v.2.2.2.2.1,v.2.2.2.2.2.1,v.2.2.2.2.2.2.1,v.2.2.2.2.2.2.2.1,v.2.2.2.2.2.2.2.2,R.1,R.2.1,R.2.2.1,R.2.2.2.1,R.2.2.2.2.1,R.2.2.2.2.2.1,R.2.2.2.2.2.2.1,R.2.2.2.2.2.2.2.1,R.2.2.2.2.2.2.2.2.1,R.2.2.2.2.2.2.2.2.2.1,R.2.2.2.2.2.2.2.2.2.2.1,R.2.2.2.2.2.2.2.2.2.2.2,nets,B,am,bs,tx,t0,t1,t2,t3,t4,lines,has,()):=by
    unfold sY
    dsimp only
    rw[aD (by omega),aH (by simp only[ajK,amI];omega),akq,hy,amq,lS,amq]
    dsimp only
    rw[show decide (y.natAbs≤MU)=true from hz,ajW,amD,az (by omega) (by omega)]
   rw[e]
   refine ih _ ⟨fun z hz2=> ?_,rfl⟩
   rw[alK,hy] at hz2
   rcases alh.1 hz2 with hz2 | hz2
   ·exact hle z hz2
   ·rw[show z=y by simpa using hz2];exact hz
  | false=>
   rw[amP]
   ·refine⟨(nets,lines,B,am,bs,tx,has,t0,t1,t2,t3,t4), ?_⟩
    unfold sY
    dsimp only
    rw[aD (by omega),aH (by simp only[ajK,amI];omega),akq,hy,amq,lS,amq]
    dsimp only
    rw[show decide (y.natAbs≤MU)=false from hz,ajV,amE]
   ·intro h
    have:=akt.1 h y hmem
    rw[hz] at this
    cases this
 ·rintro _ again ⟨hle,rfl⟩
  rw[alN (alZ _)] at hle
  rw[amQ (show bh lines=true from akt.2 hle)]
  unfold sY
  dsimp only
  rw[aE (by omega)]
theorem Np:∀ {l:List Int},bh l=true→l.sum.natAbs≤l.length*1000000000000000
 | [],_=>by simp
 | x::l,h=>by
  unfold bh at h
  rw[aks,ajK] at h
  have h1:=Np (l:=l) h.2
  have h2:=gp.1 h.1
  have hMU:=nA
  rw[alI,ak3,alQ,amf]
  omega
theorem XC (R:(List Int)×(List Int)×(List (List Int))×(List Int)×(List Int)×(List Int)×(List Bool)×Int×Int×Int×Int×Int) (nets lines:List Int) (B:List (List Int)) (am bs tx:List Int) (has:List Bool) (t0 t2 t3 t4:Int) (hl:am.length≤20) (ham:bh am=true) (f:Nat) (hf:am.length<f) (r:Option DV)
 (hr:r=iter f ((am,(am.length:Int),(0:Int),R.1,R.2.1,R.2.2.1,R.2.2.2.1,R.2.2.2.2.1,R.2.2.2.2.2.1,R.2.2.2.2.2.2.1,R.2.2.2.2.2.2.2.1,R.2.2.2.2.2.2.2.2.1,R.2.2.2.2.2.2.2.2.2.1,R.2.2.2.2.2.2.2.2.2.2.1,R.2.2.2.2.2.2.2.2.2.2.2,nets,lines,B,am,bs,tx,has,t0,(0:Int),t2,t3,t4,()):DQ) yA):r=some (Sum.inr (R.1,R.2.1,R.2.2.1,R.2.2.2.1,R.2.2.2.2.1,R.2.2.2.2.2.1,R.2.2.2.2.2.2.1,R.2.2.2.2.2.2.2.1,R.2.2.2.2.2.2.2.2.1,R.2.2.2.2.2.2.2.2.2.1,R.2.2.2.2.2.2.2.2.2.2.1,R.2.2.2.2.2.2.2.2.2.2.2,nets,lines,B,am,bs,tx,has,t0,am.sum,t2,t3,t4,())):=by
 rw[hr]
 refine aZ (Inv:=fun i X=>X=(am,(am.length:Int),(i:Int),R.1,R.2.1,R.2.2.1,R.2.2.2.1,R.2.2.2.2.1,R.2.2.2.2.2.1,R.2.2.2.2.2.2.1,R.2.2.2.2.2.2.2.1,R.2.2.2.2.2.2.2.2.1,R.2.2.2.2.2.2.2.2.2.1,R.2.2.2.2.2.2.2.2.2.2.1,R.2.2.2.2.2.2.2.2.2.2.2,nets,lines,B,am,bs,tx,has,t0,(am.take i).sum,t2,t3,t4,())) am.length (fun r=>r=some (Sum.inr (R.1,R.2.1,R.2.2.1,R.2.2.2.1,R.2.2.2.2.1,R.2.2.2.2.2.1,R.2.2.2.2.2.2.1,R.2.2.2.2.2.2.2.1,R.2.2.2.2.2.2.2.2.1,R.2.2.2.2.2.2.2.2.2.1,R.2.2.2.2.2.2.2.2.2.2.1,R.2.2.2.2.2.2.2.2.2.2.2,nets,lines,B,am,bs,tx,has,t0,am.sum,t2,t3,t4,()))) ?_ ?_ f 0 _ rfl (by omega) (by omega)
 ·rintro i _ again hi rfl ih
  have hy:am[i]? =some am[i]:=aC hi
  have hmem:ic am[i]=true:=akt.1 ham _ (ak1 hi)
  generalize am[i]=y at hy hmem
  have e:yA (am,(am.length:Int),(i:Int),R.1,R.2.1,R.2.2.1,R.2.2.2.1,R.2.2.2.2.1,R.2.2.2.2.2.1,R.2.2.2.2.2.2.1,R.2.2.2.2.2.2.2.1,R.2.2.2.2.2.2.2.2.1,R.2.2.2.2.2.2.2.2.2.1,R.2.2.2.2.2.2.2.2.2.2.1,R.2.2.2.2.2.2.2.2.2.2.2,nets,lines,B,am,bs,tx,has,t0,(am.take i).sum,t2,t3,t4,()) again=again (am,(am.length:Int),((i:Int)+1),R.1,R.2.1,R.2.2.1,R.2.2.2.1,R.2.2.2.2.1,R.2.2.2.2.2.1,R.2.2.2.2.2.2.1,R.2.2.2.2.2.2.2.1,R.2.2.2.2.2.2.2.2.1,R.2.2.2.2.2.2.2.2.2.1,R.2.2.2.2.2.2.2.2.2.2.1,R.2.2.2.2.2.2.2.2.2.2.2,nets,lines,B,am,bs,tx,has,t0,(am.take (i+1)).sum,t2,t3,t4,()):=by
   have h1:=Np (OD ham i)
   rw[alc] at h1
   have h4:min i am.length*1000000000000000≤20*1000000000000000:=amd _ (by omega)
   have h2:=gp.1 hmem
   have hMU:=nA
   unfold yA
   dsimp only
   rw[aD (by omega),bf,hy,amq,az (n:=(i:Int)+1) (by omega) (by omega),az (n:=(am.take i).sum+y) (by omega) (by omega), ← tG hy]
  rw[e]
  exact ih _ rfl
 ·rintro _ again rfl
  unfold yA
  dsimp only
  rw[aE (by omega),alN (alZ _)]
theorem ahT (R:(List Int)×(List Int)×(List (List Int))×(List Int)×(List Int)×(List Int)×(List Bool)×Int×Int×Int×Int×Int) (nets lines:List Int) (B:List (List Int)) (am bs tx:List Int) (has:List Bool) (t0 t1 t2 t3 t4:Int) (f:Nat) (hf:5<f) (r:Option Ey)
 (hr:r=iter f (((t0,t1,t2,t3,t4),(0:Int),R.1,R.2.1,R.2.2.1,R.2.2.2.1,R.2.2.2.2.1,R.2.2.2.2.2.1,R.2.2.2.2.2.2.1,R.2.2.2.2.2.2.2.1,R.2.2.2.2.2.2.2.2.1,R.2.2.2.2.2.2.2.2.2.1,R.2.2.2.2.2.2.2.2.2.2.1,R.2.2.2.2.2.2.2.2.2.2.2,nets,lines,B,am,bs,tx,has,t0,t1,t2,t3,t4,()):ED) tH):(if bh [t0,t1,t2,t3,t4]=true then r=some (Sum.inr (R.1,R.2.1,R.2.2.1,R.2.2.2.1,R.2.2.2.2.1,R.2.2.2.2.2.1,R.2.2.2.2.2.2.1,R.2.2.2.2.2.2.2.1,R.2.2.2.2.2.2.2.2.1,R.2.2.2.2.2.2.2.2.2.1,R.2.2.2.2.2.2.2.2.2.2.1,R.2.2.2.2.2.2.2.2.2.2.2,nets,lines,B,am,bs,tx,has,t0,t1,t2,t3,t4,())) else r=some (Sum.inl ((nets,lines,B,am,bs,tx,has,t0,t1,t2,t3,t4),1,()))):=by
 rw[hr]
 refine aZ (Inv:=fun i X=>(∀ z∈[t0,t1,t2,t3,t4].take i,ic z=true)∧X=((t0,t1,t2,t3,t4),(i:Int),R.1,R.2.1,R.2.2.1,R.2.2.2.1,R.2.2.2.2.1,R.2.2.2.2.2.1,R.2.2.2.2.2.2.1,R.2.2.2.2.2.2.2.1,R.2.2.2.2.2.2.2.2.1,R.2.2.2.2.2.2.2.2.2.1,R.2.2.2.2.2.2.2.2.2.2.1,R.2.2.2.2.2.2.2.2.2.2.2,nets,lines,B,am,bs,tx,has,t0,t1,t2,t3,t4,())) 5 (fun r=>(if bh [t0,t1,t2,t3,t4]=true then r=some (Sum.inr (R.1,R.2.1,R.2.2.1,R.2.2.2.1,R.2.2.2.2.1,R.2.2.2.2.2.1,R.2.2.2.2.2.2.1,R.2.2.2.2.2.2.2.1,R.2.2.2.2.2.2.2.2.1,R.2.2.2.2.2.2.2.2.2.1,R.2.2.2.2.2.2.2.2.2.2.1,R.2.2.2.2.2.2.2.2.2.2.2,nets,lines,B,am,bs,tx,has,t0,t1,t2,t3,t4,())) else r=some (Sum.inl ((nets,lines,B,am,bs,tx,has,t0,t1,t2,t3,t4),1,())))) ?_ ?_ f 0 _ ⟨by simp,rfl⟩ (by omega) (by omega)
 ·rintro i _ again hi ⟨hle,rfl⟩ ih
  have hy:[t0,t1,t2,t3,t4][i]? =some [t0,t1,t2,t3,t4][i]:=aC hi
  have hmem:[t0,t1,t2,t3,t4][i]∈[t0,t1,t2,t3,t4]:=ak1 hi
  generalize [t0,t1,t2,t3,t4][i]=y at hy hmem
  cases hz:ic y with
  | true=>
   have e:tH ((t0,t1,t2,t3,t4),(i:Int),R.1,R.2.1,R.2.2.1,R.2.2.2.1,R.2.2.2.2.1,R.2.2.2.2.2.1,R.2.2.2.2.2.2.1,R.2.2.2.2.2.2.2.1,R.2.2.2.2.2.2.2.2.1,R.2.2.2.2.2.2.2.2.2.1,R.2.2.2.2.2.2.2.2.2.2.1,R.2.2.2.2.2.2.2.2.2.2.2,nets,lines,B,am,bs,tx,has,t0,t1,t2,t3,t4,()) again=again ((t0,t1,t2,t3,t4),((i:Int)+1),R.1,R.2.1,R.2.2.1,R.2.2.2.1,R.2.2.2.2.1,R.2.2.2.2.2.1,R.2.2.2.2.2.2.1,R.2.2.2.2.2.2.2.1,R.2.2.2.2.2.2.2.2.1,R.2.2.2.2.2.2.2.2.2.1,R.2.2.2.2.2.2.2.2.2.2.1,R.2.2.2.2.2.2.2.2.2.2.2,nets,lines,B,am,bs,tx,has,t0,t1,t2,t3,t4,()):=by
    unfold tH
    dsimp only
    rw[aD (by omega),bf,hy,amq,lS,amq]
    dsimp only
    rw[show decide (y.natAbs≤MU)=true from hz,ajW,amD,az (by omega) (by omega)]
   rw[e]
   refine ih _ ⟨fun z hz2=> ?_,rfl⟩
   rw[alK,hy] at hz2
   rcases alh.1 hz2 with hz2 | hz2
   ·exact hle z hz2
   ·rw[show z=y by simpa using hz2];exact hz
  | false=>
   rw[amP]
   ·unfold tH
    dsimp only
    rw[aD (by omega),bf,hy,amq,lS,amq]
    dsimp only
    rw[show decide (y.natAbs≤MU)=false from hz,ajV,amE]
   ·intro h
    have:=akt.1 h y hmem
    rw[hz] at this
    cases this
 ·rintro _ again ⟨hle,rfl⟩
  rw[alN (by simp)] at hle
  rw[amQ (show bh [t0,t1,t2,t3,t4]=true from akt.2 hle)]
  unfold tH
  dsimp only
  rw[aE (by omega)]
end Go.Md
namespace Go.Md
open Go.Dn
theorem VR (n:Nat):List.replicate n (0:Int)=aG n []:=by
 unfold aG
 induction n with
 | zero=>rfl
 | succ n ih=>rw[List.replicate_succ',ih,alD,ald];rfl
theorem ag6 {l:List Int} (h:l≠[]) (hl:l.length≤1000):uZ l=some (l,()):=by
 unfold uZ
 rw[show l.isEmpty=false by cases l with | nil=>exact absurd rfl h | cons _ _=>rfl,amD,aH (cr (by omega) (by omega))]
theorem adq {β:Type} {k:Int} {n:Nat} (hn:n≤1000) (hk:0≤k∧k≤1000) (x:Option β):chk (decide ((0:Int)≤(n:Int))&&decide ((n:Int)≤(n:Int))&&decide (k*(n:Int)≤281474976710656)&&decide ((n:Int)≤9223372036854775807)) x=x:=by
 have h:k*(n:Int)≤1000*1000:=Int.mul_le_mul hk.2 (by omega) (by omega) (by omega)
 rw[amH (by omega),amH (by omega),amH (by omega),amH (by omega)]
 rfl
theorem WJ {n a r:Nat} (ha:0<a) (h:n<r):n+1<a+r:=by omega
theorem nL {X β γ:Type} {Q:Option β→Prop} {F:Nat} {x:X} {b:X→(X→Option (β ⊕ γ))→Option (β ⊕ γ)} {k:γ→Option β} (h:∀ F',F'=F→∀ r,r=iter F' x b→Q (aO r k)):Q (aO (iter F x b) k):=h F rfl _ rfl
def Fp (v:ah) (o:Option (ck×Int×Unit)):Prop:=
 (∃ f y,f≠0∧fH v= .inl f∧o=some (y,f,()))∨
 (∃ s lines B,oL v= .inr s∧fH v= .inr s∧o=some ((s.nets,lines,B,s.am,aG (ai v).length s.br,s.taxes,bU (ai v).length s.fl,s.nets.sum,s.am.sum,s.nets.sum+s.am.sum,s.taxes.sum,s.nets.sum+s.am.sum+s.taxes.sum),0,()))
theorem acP {v:ah} (h:cI v (aU v)=none):fH v= .inl 1:=by
 unfold fH oL;rw[h]
theorem acu {v:ah} {lb:Br} (h:cI v (aU v)=some lb) (ha:bh (aG (ai v).length lb)=false):fH v= .inl 1:=by
 unfold fH oL;rw[h];dsimp only;rw[ha,amD]
theorem ZH {v:ah} {lb:Br} (h:cI v (aU v)=some lb) (ha:bh (aG (ai v).length lb)=true) {f:Int} (he:cz v (aG (ai v).length lb) (bF v) (lb,lb.map (·.1),[])= .inl f):fH v= .inl f:=by
 unfold fH oL;rw[h];dsimp only;rw[ha,amE,he]
theorem abT {v:ah} {lb:Br} (h:cI v (aU v)=some lb) (ha:bh (aG (ai v).length lb)=true) {s:ESt} (he:cz v (aG (ai v).length lb) (bF v) (lb,lb.map (·.1),[])= .inr s) (ht:bh (cX v s.1)=false):fH v= .inl 1:=by
 unfold fH oL;rw[h];dsimp only;rw[ha,amE,he];dsimp only;rw[ht,amD]
theorem adw {v:ah} {lb:Br} (h:cI v (aU v)=some lb) (ha:bh (aG (ai v).length lb)=true) {s:ESt} (he:cz v (aG (ai v).length lb) (bF v) (lb,lb.map (·.1),[])= .inr s) (ht:bh (cX v s.1)=true):oL v= .inr ⟨lb.map (·.2),s.1,s.2.1,s.2.2,cX v s.1⟩:=by
 unfold oL;rw[h];dsimp only;rw[ha,amE,he];dsimp only;rw[ht,amE]
abbrev R0:(List Int)×(List Int)×(List (List Int))×(List Int)×(List Int)×(List Int)×(List Bool)×Int×Int×Int×Int×Int:=([],[],[],[],[],[],[],0,0,0,0,0)
theorem QI {v:ah} (h0:cK v=0):Fp v (J6 v):=by
 have hv:=gh h0
 have hln:0<(aU v).length∧(aU v).length≤500:=hv.ln
 have hrn:0<(ai v).length∧(ai v).length≤20:=hv.rn
 have hxl:(bF v).length≤20:=(iO hv.ext).1
 have hMU:=nA
 unfold J6
 rw[adq (k:=8) (n:=(ai v).length) (by omega) (by omega),adq (k:=1) (n:=(ai v).length) (by omega) (by omega)]
 rw[akq,show List.replicate (v.2.2.2.2.2.2.1.length) (0:Int)=aG (ai v).length [] from VR _,show List.replicate (v.2.2.2.2.2.2.1.length) false=bU (ai v).length [] from (ac0 _).symm]
 refine nL (Q:=Fp v) fun F hF r hr=> ?_
 rcases ah6 h0 R0 [] [] [] [] 0 0 0 0 _ (by rw[hF];with_reducible apply ud;repeat (with_reducible first | exact amn | apply oC)) r hr with ⟨h1,y,h2⟩ | ⟨lb,h1,h2⟩
 ·rw[h2,dR]
  exact .inl ⟨1,y,by omega,acP h1,rfl⟩
 clear hr hF F
 rw[h2,aF]
 clear h2 r
 dsimp only
 obtain⟨b1,b2,b3⟩:=CO hv (fun x hx=>hx) h1
 refine nL (Q:=Fp v) fun F hF r hr=> ?_
 have hq:=VK v R0 (lb.map (·.2)) (aG (ai v).length lb) [] [] [] [] (bU (ai v).length (lb.map (·.1))) (lb.map (·.2)).sum 0 0 0 0 (by rw[cx];omega) _ (by rw[hF,ake];with_reducible apply ud;repeat (with_reducible first | exact amn | apply oC)) r hr
 clear hr hF F
 cases ha:bh (aG (ai v).length lb) with
 | false=>
  rw[ha,amP (by simp)] at hq
  obtain⟨y,h2⟩:=hq
  rw[h2,dR]
  exact .inl ⟨1,y,by omega,acu h1 ha,rfl⟩
 | true=>
  rw[ha,amQ rfl] at hq
  rw[hq,aF]
  clear hq r
  dsimp only
  rw[ag6 (by intro h;have:=cx (ai v).length lb;rw[h] at this;simp at this;omega) (by rw[cx];omega),amq]
  dsimp only
  refine nL (Q:=Fp v) fun F hF r hr=> ?_
  rcases afY h0 R0 ((lb.map (·.2)).sum,0,0,0,0) (lb.map (·.2)) (aG (ai v).length lb) [] (cx _ _) ha ha (lb.map (·.1)) _ (by rw[hF];with_reducible apply ud;repeat (with_reducible first | exact amn | apply oC)) r hr with ⟨f,y,hf,he,h2⟩ | ⟨⟨br,fl,am⟩,qs,he,e1,hqs,hql,hbr,h2⟩
  ·rw[h2,dR]
   exact .inl ⟨f,y,hf,ZH h1 ha he,rfl⟩
  clear hr hF F
  rw[h2,aF]
  clear h2 r
  dsimp only at e1 hbr ⊢
  subst e1
  refine nL (Q:=Fp v) fun F hF r hr=> ?_
  have hq:=ahD h0 R0 (lb.map (·.2)).sum 0 0 0 (aG (ai v).length lb) h1 qs am (bU (ai v).length fl) hqs (by omega) hbr _ (by rw[hF,ake];with_reducible apply ud;repeat (with_reducible first | exact amn | apply oC)) r hr
  clear hr hF F
  cases ht:bh (cX v (lb++qs.flatten)) with
  | false=>
   rw[ht,amP (by simp)] at hq
   obtain⟨y,h2⟩:=hq
   rw[h2,dR]
   exact .inl ⟨1,y,by omega,abT h1 ha he ht,rfl⟩
  | true=>
   rw[ht,amQ rfl] at hq
   rw[hq,aF]
   clear hq r
   dsimp only
   have hsh:=adw h1 ha he ht
   have hs:=yH hv hsh
   have ham:bh am=true:=hs.am
   have haml:am.length≤20:=hs.aml
   refine nL (Q:=Fp v) fun F hF r hr=> ?_
   have hq:=XC R0 (lb.map (·.2)) (aG (ai v).length lb) (qs.map (aG (ai v).length)) am (aG (ai v).length (lb++qs.flatten)) (cX v (lb++qs.flatten)) (bU (ai v).length fl) (lb.map (·.2)).sum 0 (cX v (lb++qs.flatten)).sum 0 haml ham _ (by rw[hF];with_reducible apply ud;repeat (with_reducible first | exact amn | apply oC)) r hr
   rw[hq,aF]
   clear hq hr r hF F
   dsimp only
   have q1:=Np (l:=lb.map (·.2)) hs.nets
   have q2:=Np ham
   have q3:=Np ht
   have q4:(lb.map (·.2)).length=lb.length:=by simp
   have q5:(cX v (lb++qs.flatten)).length=(ai v).length:=by simp[cX]
   rw[q4] at q1
   rw[q5] at q3
   have q6:lb.length*1000000000000000≤500*1000000000000000:=amd _ (by omega)
   have q7:am.length*1000000000000000≤20*1000000000000000:=amd _ haml
   have q8:(ai v).length*1000000000000000≤20*1000000000000000:=amd _ hrn.2
   rw[az (n:=(lb.map (·.2)).sum+am.sum) (by omega) (by omega),az (n:=(lb.map (·.2)).sum+am.sum+(cX v (lb++qs.flatten)).sum) (by omega) (by omega)]
   refine nL (Q:=Fp v) fun F hF r hr=> ?_
   have h5f:5<F:=by
    have p1:0<(lb.map (·.2)).length:=by omega
    have p2:0<(aG (ai v).length lb).length:=by rw[cx];omega
    have p3:0<(aG (ai v).length (lb++qs.flatten)).length:=by rw[cx];omega
    have p4:0<(cX v (lb++qs.flatten)).length:=by omega
    rw[hF]
    repeat (with_reducible first | exact Nat.one_lt_two | apply WJ p1 | apply WJ p2 | apply WJ p3 | apply WJ p4 | apply oC)
   have hq:=ahT R0 (lb.map (·.2)) (aG (ai v).length lb) (qs.map (aG (ai v).length)) am (aG (ai v).length (lb++qs.flatten)) (cX v (lb++qs.flatten)) (bU (ai v).length fl) (lb.map (·.2)).sum am.sum ((lb.map (·.2)).sum+am.sum) (cX v (lb++qs.flatten)).sum ((lb.map (·.2)).sum+am.sum+(cX v (lb++qs.flatten)).sum) _ h5f r hr
   ·cases h5:bh [(lb.map (·.2)).sum,am.sum,(lb.map (·.2)).sum+am.sum,(cX v (lb++qs.flatten)).sum,(lb.map (·.2)).sum+am.sum+(cX v (lb++qs.flatten)).sum] with
    | false=>
     rw[h5,amP (by simp)] at hq
     rw[hq,dR]
     refine .inl ⟨1,_,by omega, ?_,rfl⟩
     unfold fH;rw[hsh];dsimp only[qX];rw[h5,amD]
    | true=>
     rw[h5,amQ rfl] at hq
     rw[hq,aF]
     refine .inr ⟨_,_,_,hsh, ?_,rfl⟩
     unfold fH;rw[hsh];dsimp only[qX];rw[h5,amE]
end Go.Md
namespace Go.Md
open Go.Dn
theorem T7 (v:ah) (n:Int):se v n=some (BA v n,()):=rfl
theorem Xw {v:ah} (hv:jW v) {s:ShZ} (hs:SOk v s) (nets lines:List Int) (B:List (List Int)) (am:List Int) (T:Int×Int×Int×Int×Int):
 sQ (nets,lines,B,am,aG (ai v).length s.br,s.taxes,bU (ai v).length s.fl,T) v=some (ew v s,()):=by
 have hrn:0<(ai v).length∧(ai v).length≤20:=hv.rn
 unfold sQ
 generalize hD:((nets,lines,B,am,aG (ai v).length s.br,s.taxes,bU (ai v).length s.fl,T):ck)=D
 have loop:∀ f,(ai v).length<f→iter f ((D,([]:List ak),ai v,((ai v).length:Int),(0:Int),v.1,v.2.1,v.2.2.1,v.2.2.2.1,v.2.2.2.2.1,v.2.2.2.2.2.1,v.2.2.2.2.2.2.1,v.2.2.2.2.2.2.2.1,v.2.2.2.2.2.2.2.2,()):oS) o4=some (Sum.inr (ew v s,())):=by
  intro f hf
  refine aZ (Inv:=fun i X=>X=(D,((List.range i).filter fun k=>s.fl.contains k).map (wK v s),ai v,((ai v).length:Int),(i:Int),v.1,v.2.1,v.2.2.1,v.2.2.2.1,v.2.2.2.2.1,v.2.2.2.2.2.1,v.2.2.2.2.2.2.1,v.2.2.2.2.2.2.2.1,v.2.2.2.2.2.2.2.2,())) (ai v).length (fun r=>r=some (Sum.inr (ew v s,()))) ?_ ?_ f 0 _ rfl (by omega) (by omega)
  ·rintro i _ again hi rfl ih
   have hr:(ai v)[i]? =some (ai v)[i]:=aC hi
   generalize (ai v)[i]=r at hr
   have hrd:(ai v).getD i ([],(0,0))=r:=by rw[akK,hr];rfl
   have htz:(s.taxes)[i]? =some (rL v s.br i):=by
    rw[hs.txe];unfold cX;rw[akT,akU hi];rfl
   have e1:idx D.2.2.2.2.2.2.1 (i:Int)=some (s.fl.contains i):=by
    rw[← hD];show idx (bU (ai v).length s.fl) (i:Int)=_;rw[bf,BY _ hi]
   have e2:idx D.2.2.2.2.1 (i:Int)=some (atB s.br i):=by
    rw[← hD];show idx (aG (ai v).length s.br) (i:Int)=_;rw[bf,fy _ hi]
   have e3:idx D.2.2.2.2.2.1 (i:Int)=some (rL v s.br i):=by
    rw[← hD];show idx s.taxes (i:Int)=_;rw[bf,htz]
   have hfl:(((List.range i).filter fun k=>s.fl.contains k).map (wK v s)).length≤20:=by
    rw[ak5]
    have:=ak4 (fun k=>s.fl.contains k) (List.range i)
    rw[ak9] at this
    omega
   have hstep:((List.range (i+1)).filter fun k=>s.fl.contains k).map (wK v s)=((List.range i).filter fun k=>s.fl.contains k).map (wK v s)++(if s.fl.contains i=true then [wK v s i] else []):=by
    rw[alD,akI,ald]
    cases hc:s.fl.contains i with
    | true=>rw[List.filter_cons_of_pos (by rw[hc]),List.filter_nil,amQ rfl];rfl
    | false=>rw[List.filter_cons_of_neg (by rw[hc];exact ajQ),List.filter_nil,amP ajQ];rfl
   unfold o4
   dsimp only
   rw[aD (by omega),bf,hr]
   simp only[amq,e1]
   cases hc:s.fl.contains i with
   | true=>
    rw[hc,amQ rfl] at hstep
    simp only[amE,e2,e3,amq,T7]
    rw[aH (cr (by omega) (by omega)),az (by omega) (by omega)]
    refine ih _ ?_
    rw[hstep]
    unfold wK
    rw[hrd]
    rfl
   | false=>
    rw[hc,amP (by simp),akx] at hstep
    rw[amD,az (by omega) (by omega)]
    refine ih _ ?_
    rw[hstep]
    rfl
  ·rintro _ again rfl
   unfold o4
   dsimp only
   rw[aE (by omega)]
   rfl
 rw[loop _ (by repeat (with_reducible first | exact amn | apply ud | apply oC)),aF]
theorem ac5 (v:ah):CZ v=some (ab3 v):=by
 unfold CZ ab3
 rw[qj,amq]
 dsimp only
 by_cases h0:cK v=0
 ·rw[amP (by simpa using h0),show (cK v != 0)=false by simpa using h0,amD]
  have hv:=gh h0
  rcases QI h0 with ⟨f,y,hf,ht,e⟩ | ⟨s,lines,B,hs,ht,e⟩
  ·rw[e,ht,amq]
   dsimp only
   rw[show (f != 0)=true by simpa using hf,amE]
  ·rw[e,ht,amq]
   dsimp only
   rw[zne,amD,Xw hv (yH hv hs),amq]
 ·rw[amQ h0,show (cK v != 0)=true by simpa using h0,amE]
theorem ZY (v:ah):It v=some (C7 v):=by
 unfold It C7
 rw[qj,amq]
 dsimp only
 by_cases h0:cK v=0
 ·rw[amP (by simpa using h0),show (cK v != 0)=false by simpa using h0,amD]
  rcases QI h0 with ⟨f,y,hf,ht,e⟩ | ⟨s,lines,B,hs,ht,e⟩
  ·rw[e,ht,amq]
   dsimp only
   rw[show (f != 0)=true by simpa using hf,amE]
   rfl
  ·rw[e,ht,amq]
   dsimp only
   rw[zne,amD]
   rfl
 ·rw[amQ h0,show (cK v != 0)=true by simpa using h0,amE]
  rfl
end Go.Md
namespace Go.Md
open Go.Dn
theorem Yj (v:ah) (t u:bP) (l:List ak) (f:Nat) (hf:5<f) (r:Option Es) (hr:r=iter f ((l,bV t,5,(0:Int),v.1,v.2.1,v.2.2.1,v.2.2.2.1,v.2.2.2.2.1,v.2.2.2.2.2.1,v.2.2.2.2.2.2.1,v.2.2.2.2.2.2.2.1,v.2.2.2.2.2.2.2.2,t.1.1,t.1.2,t.2.1.1,t.2.1.2,t.2.2.1.1,t.2.2.1.2,t.2.2.2.1.1,t.2.2.2.1.2,t.2.2.2.2.1,t.2.2.2.2.2,u.1.1,u.1.2,u.2.1.1,u.2.1.2,u.2.2.1.1,u.2.2.1.2,u.2.2.2.1.1,u.2.2.2.1.2,u.2.2.2.2.1,u.2.2.2.2.2,()):yq) s4):
 r=if ∀ d∈bV t,aY d then some (Sum.inr (l,v.1,v.2.1,v.2.2.1,v.2.2.2.1,v.2.2.2.2.1,v.2.2.2.2.2.1,v.2.2.2.2.2.2.1,v.2.2.2.2.2.2.2.1,v.2.2.2.2.2.2.2.2,t.1.1,t.1.2,t.2.1.1,t.2.1.2,t.2.2.1.1,t.2.2.1.2,t.2.2.2.1.1,t.2.2.2.1.2,t.2.2.2.2.1,t.2.2.2.2.2,u.1.1,u.1.2,u.2.1.1,u.2.1.2,u.2.2.1.1,u.2.2.1.2,u.2.2.2.1.1,u.2.2.2.1.2,u.2.2.2.2.1,u.2.2.2.2.2,())) else some (Sum.inl ([],1,())):=by
 rw[hr]
 refine aZ (Inv:=fun i X=>(∀ d∈(bV t).take i,aY d)∧X=((l,bV t,5,(i:Int),v.1,v.2.1,v.2.2.1,v.2.2.2.1,v.2.2.2.2.1,v.2.2.2.2.2.1,v.2.2.2.2.2.2.1,v.2.2.2.2.2.2.2.1,v.2.2.2.2.2.2.2.2,t.1.1,t.1.2,t.2.1.1,t.2.1.2,t.2.2.1.1,t.2.2.1.2,t.2.2.2.1.1,t.2.2.2.1.2,t.2.2.2.2.1,t.2.2.2.2.2,u.1.1,u.1.2,u.2.1.1,u.2.1.2,u.2.2.1.1,u.2.2.1.2,u.2.2.2.1.1,u.2.2.2.1.2,u.2.2.2.2.1,u.2.2.2.2.2,()):yq)) 5 (fun r=>r=if ∀ d∈bV t,aY d then some (Sum.inr (l,v.1,v.2.1,v.2.2.1,v.2.2.2.1,v.2.2.2.2.1,v.2.2.2.2.2.1,v.2.2.2.2.2.2.1,v.2.2.2.2.2.2.2.1,v.2.2.2.2.2.2.2.2,t.1.1,t.1.2,t.2.1.1,t.2.1.2,t.2.2.1.1,t.2.2.1.2,t.2.2.2.1.1,t.2.2.2.1.2,t.2.2.2.2.1,t.2.2.2.2.2,u.1.1,u.1.2,u.2.1.1,u.2.1.2,u.2.2.1.1,u.2.2.1.2,u.2.2.2.1.1,u.2.2.2.1.2,u.2.2.2.2.1,u.2.2.2.2.2,())) else some (Sum.inl ([],1,()))) ?_ ?_ f 0 _ ⟨by simp,rfl⟩ (by omega) (by omega)
 ·rintro i _ again hi ⟨hle,rfl⟩ ih
  have hlen:(bV t).length=5:=rfl
  have hy:(bV t)[i]? =some (bV t)[i]:=aC (by omega)
  have hm:(bV t)[i]∈bV t:=ak1 _
  generalize (bV t)[i]=y at hy hm
  by_cases hd:aY y
  ·have e:s4 (l,bV t,5,(i:Int),v.1,v.2.1,v.2.2.1,v.2.2.2.1,v.2.2.2.2.1,v.2.2.2.2.2.1,v.2.2.2.2.2.2.1,v.2.2.2.2.2.2.2.1,v.2.2.2.2.2.2.2.2,t.1.1,t.1.2,t.2.1.1,t.2.1.2,t.2.2.1.1,t.2.2.1.2,t.2.2.2.1.1,t.2.2.2.1.2,t.2.2.2.2.1,t.2.2.2.2.2,u.1.1,u.1.2,u.2.1.1,u.2.1.2,u.2.2.1.1,u.2.2.1.2,u.2.2.2.1.1,u.2.2.2.1.2,u.2.2.2.2.1,u.2.2.2.2.2,()) again=again (l,bV t,5,((i+1:Nat):Int),v.1,v.2.1,v.2.2.1,v.2.2.2.1,v.2.2.2.2.1,v.2.2.2.2.2.1,v.2.2.2.2.2.2.1,v.2.2.2.2.2.2.2.1,v.2.2.2.2.2.2.2.2,t.1.1,t.1.2,t.2.1.1,t.2.1.2,t.2.2.1.1,t.2.2.1.2,t.2.2.2.1.1,t.2.2.2.1.2,t.2.2.2.2.1,t.2.2.2.2.2,u.1.1,u.1.2,u.2.1.1,u.2.1.2,u.2.2.1.1,u.2.2.1.2,u.2.2.2.1.1,u.2.2.2.1.2,u.2.2.2.2.1,u.2.2.2.2.2,()):=by
    unfold s4
    dsimp only
    rw[aD (by omega),bf,hy,amq,kf,amq]
    dsimp only
    rw[amQ hd,zne,amD,az (by omega) (by omega)]
    rfl
   rw[e]
   refine ih _ ⟨fun d hd2=> ?_,rfl⟩
   rw[alK,hy] at hd2
   rcases alh.1 hd2 with hd2 | hd2
   ·exact hle d hd2
   ·rw[show d=y by simpa using hd2];exact hd
  ·rw[amP (fun h=>hd (h y hm))]
   unfold s4
   dsimp only
   rw[aD (by omega),bf,hy,amq,kf,amq]
   dsimp only
   rw[amP hd,show ((1:Int) != 0)=true from rfl,amE]
 ·rintro _ again ⟨hle,rfl⟩
  rw[alN (by simp[bV])] at hle
  rw[amQ hle]
  unfold s4
  dsimp only
  rw[aE (by omega)]
theorem XR (v:ah) (t u:bP) (l:List ak) (hl:l.length≤20) (f:Nat) (hf:l.length<f) (r:Option BX) (hr:r=iter f ((l,l,(l.length:Int),(0:Int),v.1,v.2.1,v.2.2.1,v.2.2.2.1,v.2.2.2.2.1,v.2.2.2.2.2.1,v.2.2.2.2.2.2.1,v.2.2.2.2.2.2.2.1,v.2.2.2.2.2.2.2.2,t.1.1,t.1.2,t.2.1.1,t.2.1.2,t.2.2.1.1,t.2.2.1.2,t.2.2.2.1.1,t.2.2.2.1.2,t.2.2.2.2.1,t.2.2.2.2.2,u.1.1,u.1.2,u.2.1.1,u.2.1.2,u.2.2.1.1,u.2.2.1.2,u.2.2.2.1.1,u.2.2.2.1.2,u.2.2.2.2.1,u.2.2.2.2.2,()):vr) qy):
 r=if cT (tT l) 0 l=0 then some (Sum.inr (l,v.1,v.2.1,v.2.2.1,v.2.2.2.1,v.2.2.2.2.1,v.2.2.2.2.2.1,v.2.2.2.2.2.2.1,v.2.2.2.2.2.2.2.1,v.2.2.2.2.2.2.2.2,t.1.1,t.1.2,t.2.1.1,t.2.1.2,t.2.2.1.1,t.2.2.1.2,t.2.2.2.1.1,t.2.2.2.1.2,t.2.2.2.2.1,t.2.2.2.2.2,u.1.1,u.1.2,u.2.1.1,u.2.1.2,u.2.2.1.1,u.2.2.1.2,u.2.2.2.1.1,u.2.2.2.1.2,u.2.2.2.2.1,u.2.2.2.2.2,())) else some (Sum.inl ([],cT (tT l) 0 l,())):=by
 have key:∀ (k:List ak) (i n:Nat),l.drop i=k→i≤l.length→k.length<n→iter n ((l,l,(l.length:Int),(i:Int),v.1,v.2.1,v.2.2.1,v.2.2.2.1,v.2.2.2.2.1,v.2.2.2.2.2.1,v.2.2.2.2.2.2.1,v.2.2.2.2.2.2.2.1,v.2.2.2.2.2.2.2.2,t.1.1,t.1.2,t.2.1.1,t.2.1.2,t.2.2.1.1,t.2.2.1.2,t.2.2.2.1.1,t.2.2.2.1.2,t.2.2.2.2.1,t.2.2.2.2.2,u.1.1,u.1.2,u.2.1.1,u.2.1.2,u.2.2.1.1,u.2.2.1.2,u.2.2.2.1.1,u.2.2.2.1.2,u.2.2.2.2.1,u.2.2.2.2.2,()):vr) qy=if cT (tT l) i k=0 then some (Sum.inr (l,v.1,v.2.1,v.2.2.1,v.2.2.2.1,v.2.2.2.2.1,v.2.2.2.2.2.1,v.2.2.2.2.2.2.1,v.2.2.2.2.2.2.2.1,v.2.2.2.2.2.2.2.2,t.1.1,t.1.2,t.2.1.1,t.2.1.2,t.2.2.1.1,t.2.2.1.2,t.2.2.2.1.1,t.2.2.2.1.2,t.2.2.2.2.1,t.2.2.2.2.2,u.1.1,u.1.2,u.2.1.1,u.2.1.2,u.2.2.1.1,u.2.2.1.2,u.2.2.2.1.1,u.2.2.2.1.2,u.2.2.2.2.1,u.2.2.2.2.2,())) else some (Sum.inl ([],cT (tT l) i k,())):=by
  intro k
  induction k with
  | nil=>
   intro i n hd hi hn
   obtain⟨n,rfl⟩:∃ m,n=m+1:=⟨n - 1,by simp at hn;omega⟩
   have:i=l.length:=by
    have:=congrArg List.length hd
    simp at this;omega
   subst this
   rw[dx]
   unfold qy
   dsimp only
   rw[aE (by omega)]
   rfl
  | cons y k ih=>
   intro i n hd hi hn
   obtain⟨n,rfl⟩:∃ m,n=m+1:=⟨n - 1,by simp at hn;omega⟩
   have hy:l[i]? =some y:=by
    have:=congrArg (·[0]?) hd
    simpa [akP] using this
   have hk:l.drop (i+1)=k:=by
    have:=congrArg List.tail hd
    simpa [alJ] using this
   have hil:i<l.length:=(akS.1 hy).1
   have ih':=ih (i+1) n hk hil (by simp at hn;omega)
   rw[dx]
   generalize hag:(fun y=>iter n y qy)=again
   have ih2:again (l,l,(l.length:Int),((i+1:Nat):Int),v.1,v.2.1,v.2.2.1,v.2.2.2.1,v.2.2.2.2.1,v.2.2.2.2.2.1,v.2.2.2.2.2.2.1,v.2.2.2.2.2.2.2.1,v.2.2.2.2.2.2.2.2,t.1.1,t.1.2,t.2.1.1,t.2.1.2,t.2.2.1.1,t.2.2.1.2,t.2.2.2.1.1,t.2.2.2.1.2,t.2.2.2.2.1,t.2.2.2.2.2,u.1.1,u.1.2,u.2.1.1,u.2.1.2,u.2.2.1.1,u.2.2.1.2,u.2.2.2.1.1,u.2.2.2.1.2,u.2.2.2.2.1,u.2.2.2.2.2,())=_:=(congrFun hag.symm _).trans ih'
   unfold qy
   dsimp only
   rw[aD (by omega),bf,hy,amq,yQ,amq]
   dsimp only
   have hs:cT (tT l) i (y::k)=if tT l i y=0 then cT (tT l) (i+1) k else tT l i y:=rfl
   rw[hs]
   rw[show tT l i y=if iC y.1=false then 5 else if GC l i y=true then 8 else if aY y.2.1∧aY y.2.2 then 0 else 1 from rfl]
   cases hn2:iC y.1 with
   | false=>simp
   | true=>
    rw[ajW,amD,amP (show ¬(true=false) by simp)]
    have fin:(Option.bind (di y.2.1) fun r5=>bif r5.1 != 0 then some (Sum.inl ([],1,())) else Option.bind (di y.2.2) fun r6=>bif r6.1 != 0 then some (Sum.inl ([],1,())) else again (l,l,(l.length:Int),w64 ((i:Int)+1),v.1,v.2.1,v.2.2.1,v.2.2.2.1,v.2.2.2.2.1,v.2.2.2.2.2.1,v.2.2.2.2.2.2.1,v.2.2.2.2.2.2.2.1,v.2.2.2.2.2.2.2.2,t.1.1,t.1.2,t.2.1.1,t.2.1.2,t.2.2.1.1,t.2.2.1.2,t.2.2.2.1.1,t.2.2.2.1.2,t.2.2.2.2.1,t.2.2.2.2.2,u.1.1,u.1.2,u.2.1.1,u.2.1.2,u.2.2.1.1,u.2.2.1.2,u.2.2.2.1.1,u.2.2.2.1.2,u.2.2.2.2.1,u.2.2.2.2.2,()))=
     (if (if aY y.2.1∧aY y.2.2 then (0:Int) else 1)=0 then (if cT (tT l) (i+1) k=0 then some (Sum.inr (l,v.1,v.2.1,v.2.2.1,v.2.2.2.1,v.2.2.2.2.1,v.2.2.2.2.2.1,v.2.2.2.2.2.2.1,v.2.2.2.2.2.2.2.1,v.2.2.2.2.2.2.2.2,t.1.1,t.1.2,t.2.1.1,t.2.1.2,t.2.2.1.1,t.2.2.1.2,t.2.2.2.1.1,t.2.2.2.1.2,t.2.2.2.2.1,t.2.2.2.2.2,u.1.1,u.1.2,u.2.1.1,u.2.1.2,u.2.2.1.1,u.2.2.1.2,u.2.2.2.1.1,u.2.2.2.1.2,u.2.2.2.2.1,u.2.2.2.2.2,())) else some (Sum.inl ([],cT (tT l) (i+1) k,()))) else some (Sum.inl ([],(if aY y.2.1∧aY y.2.2 then (0:Int) else 1),()))):=by
     rw[kf,amq,kf,amq,az (by omega) (by omega)]
     dsimp only
     by_cases h1:aY y.2.1
     ·rw[amQ h1,zne,amD]
      by_cases h2:aY y.2.2
      ·rw[amQ h2,zne,amD,amQ (show aY y.2.1∧aY y.2.2 from ⟨h1,h2⟩),amQ rfl]
       exact ih2
      ·rw[amP h2,show ((1:Int) != 0)=true from rfl,amE,amP (show ¬(aY y.2.1∧aY y.2.2) from fun h=>h2 h.2),amP (by decide)]
     ·rw[amP h1,show ((1:Int) != 0)=true from rfl,amE,amP (show ¬(aY y.2.1∧aY y.2.2) from fun h=>h1 h.1),amP (by decide)]
    cases i with
    | zero=>
     rw[aE (by omega),fin,show GC l 0 y=false from rfl,amP (show ¬(false=true) by simp)]
     by_cases hd:aY y.2.1∧aY y.2.2
     ·rw[amQ hd,amQ rfl];rfl
     ·rw[amP hd,amP (by decide)];rfl
    | succ j=>
     have hp:l[j]? =some l[j]:=aC (by omega)
     have hpl:GC l (j+1) y=(Op.bytesLess y.1 (l[j]).1||y.1==(l[j]).1):=by
      show (match l[j]? with | some p=>Op.bytesLess y.1 p.1||y.1==p.1 | none=>false)=_
      rw[hp]
     rw[aD (by omega),az (n:=((j+1:Nat):Int) - 1) (by omega) (by omega),show ((j+1:Nat):Int) - 1=(j:Int) by omega,bf,hp,amq,hpl]
     cases hb:(Op.bytesLess y.1 (l[j]).1||y.1==(l[j]).1) with
     | true=>rw[amE,amQ rfl];rfl
     | false=>
      rw[amD,amP (show ¬(false=true) by simp),fin]
      by_cases hd:aY y.2.1∧aY y.2.2
      ·rw[amQ hd,amQ rfl];rfl
      ·rw[amP hd,amP (by decide)];rfl
 rw[hr]
 exact key l 0 f rfl (amm _) hf
theorem ado {a b:aj} (ha:aY a) (hb:aY b):∃ c,yZ a b=some (c,())∧((c != 0)= !decide (eg a=eg b)):=by
 refine⟨_,OM ha hb, ?_⟩
 by_cases h:eg a=eg b
 ·rw[h,Int.sub_self];simp
 ·have:(eg a - eg b).sign≠0:=fun h0=>h (by have:=akm.1 h0;omega)
  rw[amG h,ajV]
  simpa using this
def vp (t u:bP) (i:Nat):List bz:=(List.range i).foldl (fun out (k:Nat)=>bX out ((k:Int)+1) ((bV t).getD k (0,0)) ((bV u).getD k (0,0))) []
theorem abC (t u:bP) (i:Nat):(vp t u i).length≤i:=by
 induction i with
 | zero=>simp[vp]
 | succ i ih=>
  unfold vp at*
  rw[alD,akJ]
  have:=iG ((List.range i).foldl (fun out (k:Nat)=>bX out ((k:Int)+1) ((bV t).getD k (0,0)) ((bV u).getD k (0,0))) []) ((i:Int)+1) ((bV t).getD i (0,0)) ((bV u).getD i (0,0))
  simp only[List.foldl_cons,List.foldl_nil]
  omega
theorem YD (v:ah) (t u:bP) (ht:∀ d∈bV t,aY d) (hu:∀ d∈bV u,aY d) (l:List ak) (f:Nat) (hf:5<f) (r:Option Bm) (hr:r=iter f ((l,([]:List bz),bV t,5,(0:Int),v.1,v.2.1,v.2.2.1,v.2.2.2.1,v.2.2.2.2.1,v.2.2.2.2.2.1,v.2.2.2.2.2.2.1,v.2.2.2.2.2.2.2.1,v.2.2.2.2.2.2.2.2,u.1.1,u.1.2,u.2.1.1,u.2.1.2,u.2.2.1.1,u.2.2.1.2,u.2.2.2.1.1,u.2.2.2.1.2,u.2.2.2.2.1,u.2.2.2.2.2,()):vG) vF):
 r=some (Sum.inr (l,oN t u,v.1,v.2.1,v.2.2.1,v.2.2.2.1,v.2.2.2.2.1,v.2.2.2.2.2.1,v.2.2.2.2.2.2.1,v.2.2.2.2.2.2.2.1,v.2.2.2.2.2.2.2.2,())):=by
 rw[hr]
 refine aZ (Inv:=fun i X=>X=((l,vp t u i,bV t,5,(i:Int),v.1,v.2.1,v.2.2.1,v.2.2.2.1,v.2.2.2.2.1,v.2.2.2.2.2.1,v.2.2.2.2.2.2.1,v.2.2.2.2.2.2.2.1,v.2.2.2.2.2.2.2.2,u.1.1,u.1.2,u.2.1.1,u.2.1.2,u.2.2.1.1,u.2.2.1.2,u.2.2.2.1.1,u.2.2.2.1.2,u.2.2.2.2.1,u.2.2.2.2.2,()):vG)) 5 (fun r=>r=some (Sum.inr (l,oN t u,v.1,v.2.1,v.2.2.1,v.2.2.2.1,v.2.2.2.2.1,v.2.2.2.2.2.1,v.2.2.2.2.2.2.1,v.2.2.2.2.2.2.2.1,v.2.2.2.2.2.2.2.2,()))) ?_ ?_ f 0 _ rfl (by omega) (by omega)
 ·rintro i _ again hi rfl ih
  have hy:(bV t)[i]? =some (bV t)[i]:=aC hi
  have hz:(bV u)[i]? =some (bV u)[i]:=aC hi
  have hym:=ht _ (ak1 (l:=bV t) hi)
  have hzm:=hu _ (ak1 (l:=bV u) hi)
  have hyd:(bV t).getD i (0,0)=(bV t)[i]:=by rw[akK,hy];rfl
  have hzd:(bV u).getD i (0,0)=(bV u)[i]:=by rw[akK,hz];rfl
  have hstep:vp t u (i+1)=bX (vp t u i) ((i:Int)+1) ((bV t).getD i (0,0)) ((bV u).getD i (0,0)):=by
   unfold vp;rw[alD,akJ];rfl
  rw[hyd,hzd] at hstep
  have hlen:=abC t u i
  generalize (bV t)[i]=y at hy hym hstep
  generalize (bV u)[i]=z at hz hzm hstep
  obtain⟨c,hc,hcb⟩:=ado hym hzm
  have e:vF (l,vp t u i,bV t,5,(i:Int),v.1,v.2.1,v.2.2.1,v.2.2.2.1,v.2.2.2.2.1,v.2.2.2.2.2.1,v.2.2.2.2.2.2.1,v.2.2.2.2.2.2.2.1,v.2.2.2.2.2.2.2.2,u.1.1,u.1.2,u.2.1.1,u.2.1.2,u.2.2.1.1,u.2.2.1.2,u.2.2.2.1.1,u.2.2.2.1.2,u.2.2.2.2.1,u.2.2.2.2.2,()) again=again (l,vp t u (i+1),bV t,5,((i+1:Nat):Int),v.1,v.2.1,v.2.2.1,v.2.2.2.1,v.2.2.2.2.1,v.2.2.2.2.2.1,v.2.2.2.2.2.2.1,v.2.2.2.2.2.2.2.1,v.2.2.2.2.2.2.2.2,u.1.1,u.1.2,u.2.1.1,u.2.1.2,u.2.2.1.1,u.2.2.1.2,u.2.2.2.1.1,u.2.2.2.1.2,u.2.2.2.2.1,u.2.2.2.2.2,()):=by
   unfold vF Fu
   dsimp only
   rw[aD (by omega),bf,hy,amq,amq]
   dsimp only
   rw[show ([u.1,u.2.1,u.2.2.1,u.2.2.2.1,u.2.2.2.2]:List aj)=bV u from rfl,bf,hz,amq,hc,amq,hcb,az (n:=(i:Int)+1) (by omega) (by omega),az (n:=1+(i:Int)) (by omega) (by omega),hstep]
   unfold bX
   by_cases h:eg y=eg z
   ·rw[amH h,ajW,amD,amQ h];rfl
   ·rw[amG h,ajV,amE,amP h,aH (cr (by omega) (by omega)),show (1:Int)+(i:Int)=(i:Int)+1 by omega];rfl
  rw[e]
  exact ih _ rfl
 ·rintro _ again rfl
  unfold vF
  dsimp only
  rw[aE (by omega)]
  rfl
theorem agJ (l m:List ak) (hl:l.length≤20) (hm:m.length≤20):lY [l,m]=some (l++m,()):=by
 unfold lY
 have e1:∀ f,2<f→iter f (([l,m],(0:Int),[l,m],(([l,m]:List (List ak)).length:Int),(0:Int),()):ir) ij=some (Sum.inr ([l,m],(l.length:Int)+m.length,())):=by
  intro f hf
  refine aZ (Inv:=fun i X=>X=(([l,m],(if i=0 then (0:Int) else if i=1 then (l.length:Int) else (l.length:Int)+m.length),[l,m],2,(i:Int),()):ir)) 2 (fun r=>r=some (Sum.inr ([l,m],(l.length:Int)+m.length,()))) ?_ ?_ f 0 _ rfl (by omega) (by omega)
  ·rintro i _ again hi rfl ih
   obtain rfl | rfl:i=0∨i=1:=by omega
   ·unfold ij
    dsimp only
    rw[aD (by decide),show idx [l,m] ((0:Nat):Int)=some l from rfl,amq,amQ rfl,az (n:=(0:Int)+(l.length:Int)) (by omega) (by omega),aE (by omega)]
    refine ih _ ?_
    rw[Int.zero_add]
    rfl
   ·unfold ij
    dsimp only
    rw[aD (by decide),show idx [l,m] ((1:Nat):Int)=some m from rfl,amq,amP (by decide),amQ rfl,az (n:=(l.length:Int)+(m.length:Int)) (by omega) (by omega),aE (by omega)]
    exact ih _ rfl
  ·rintro _ again rfl
   unfold ij
   dsimp only
   rw[aE (by decide)]
   rfl
 have e2:∀ f,2<f→iter f ((([]:List ak),[l,m],(([l,m]:List (List ak)).length:Int),(0:Int),()):gP) gM=some (Sum.inr (l++m,())):=by
  intro f hf
  refine aZ (Inv:=fun i X=>X=(((if i=0 then ([]:List ak) else if i=1 then l else l++m),[l,m],2,(i:Int),()):gP)) 2 (fun r=>r=some (Sum.inr (l++m,()))) ?_ ?_ f 0 _ rfl (by omega) (by omega)
  ·rintro i _ again hi rfl ih
   obtain rfl | rfl:i=0∨i=1:=by omega
   ·unfold gM
    dsimp only
    rw[aD (by decide),show idx [l,m] ((0:Nat):Int)=some l from rfl,amq,amQ rfl,aH (cr (by simp;omega) (by simp;omega)),aly]
    exact ih _ rfl
   ·unfold gM
    dsimp only
    rw[aD (by decide),show idx [l,m] ((1:Nat):Int)=some m from rfl,amq,amP (by decide),amQ rfl,aH (cr (by omega) (by omega))]
    exact ih _ rfl
  ·rintro _ again rfl
   unfold gM
   dsimp only
   rw[aE (by decide)]
   rfl
 rw[e1 _ (by simp),aF]
 dsimp only
 have e3:rU [] ((l.length:Int)+m.length)=some ([],()):=by
  show Sy 48 [] _=_
  unfold Sy
  rw[show ((l.length:Int)+(m.length:Int)).toNat=l.length+m.length by omega,amH (by omega),amH (by simp;omega),amH (by simp;omega)]
  rfl
 rw[e3,amq]
 dsimp only
 rw[e2 _ (by simp),aF]
theorem ahA (v:ah) (l m:List ak) (hl:l.length≤20) (hm:m.length≤20) (sl:List bz) (f:Nat) (hf:(l++m).length<f) (r:Option BJ) (hr:r=iter f ((l,sl,m,([]:List Bys),((l++m).length:Int),(0:Int),v.1,v.2.1,v.2.2.1,v.2.2.2.1,v.2.2.2.2.1,v.2.2.2.2.2.1,v.2.2.2.2.2.2.1,v.2.2.2.2.2.2.2.1,v.2.2.2.2.2.2.2.2,l++m,()):vW) vE):
 r=some (Sum.inr (l,sl,m,(l++m).map (·.1),v.1,v.2.1,v.2.2.1,v.2.2.2.1,v.2.2.2.2.1,v.2.2.2.2.2.1,v.2.2.2.2.2.2.1,v.2.2.2.2.2.2.2.1,v.2.2.2.2.2.2.2.2,())):=by
 have hlm:(l++m).length≤40:=by rw[ak2];omega
 rw[hr]
 refine aZ (Inv:=fun i X=>X=((l,sl,m,((l++m).take i).map (·.1),((l++m).length:Int),(i:Int),v.1,v.2.1,v.2.2.1,v.2.2.2.1,v.2.2.2.2.1,v.2.2.2.2.2.1,v.2.2.2.2.2.2.1,v.2.2.2.2.2.2.2.1,v.2.2.2.2.2.2.2.2,l++m,()):vW)) (l++m).length (fun r=>r=some (Sum.inr (l,sl,m,(l++m).map (·.1),v.1,v.2.1,v.2.2.1,v.2.2.2.1,v.2.2.2.2.1,v.2.2.2.2.2.1,v.2.2.2.2.2.2.1,v.2.2.2.2.2.2.2.1,v.2.2.2.2.2.2.2.2,()))) ?_ ?_ f 0 _ rfl (by omega) (by omega)
 ·rintro i _ again hi rfl ih
  have e:vE (l,sl,m,((l++m).take i).map (·.1),((l++m).length:Int),(i:Int),v.1,v.2.1,v.2.2.1,v.2.2.2.1,v.2.2.2.2.1,v.2.2.2.2.2.1,v.2.2.2.2.2.2.1,v.2.2.2.2.2.2.2.1,v.2.2.2.2.2.2.2.2,l++m,()) again=again (l,sl,m,((l++m).take (i+1)).map (·.1),((l++m).length:Int),((i+1:Nat):Int),v.1,v.2.1,v.2.2.1,v.2.2.2.1,v.2.2.2.2.1,v.2.2.2.2.2.1,v.2.2.2.2.2.2.1,v.2.2.2.2.2.2.2.1,v.2.2.2.2.2.2.2.2,l++m,()):=by
   have hln:(((l++m).take i).map (·.1)).length≤40:=by rw[ak5,alc];omega
   unfold vE
   dsimp only
   rw[aD (by omega),aH (by simp only[ajK,amI];omega),akq,aC hi,amq,aH (cr (by omega) (by omega)),az (by omega) (by omega),alK,aC hi,ald]
   rfl
  rw[e]
  exact ih _ rfl
 ·rintro _ again rfl
  unfold vE
  dsimp only
  rw[aE (by omega),alN (alZ _)]
theorem abE (l:List ak) (hl:l.length≤20) (n:Bys) (d:aj):∃ x,GZ l n d=some (x,())∧x.2=((kL l n).map (·.2)).getD (d,d):=by
 unfold GZ
 have key:∀ (k:List ak) (i f:Nat),l.drop i=k→i≤l.length→k.length<f→iter f ((n,l,(l.length:Int),(i:Int),d.1,d.2,[],0,0,0,0,()):DY) yh=match kL k n with
  | some x=>some (Sum.inl (x,()))
  | none=>some (Sum.inr (n,d.1,d.2,[],0,0,0,0,())):=by
  intro k
  induction k with
  | nil=>
   intro i f hd hi hf
   obtain⟨f,rfl⟩:∃ m,f=m+1:=⟨f - 1,by simp at hf;omega⟩
   have:i=l.length:=by
    have:=congrArg List.length hd
    simp at this;omega
   subst this
   rw[dx]
   unfold yh
   dsimp only
   rw[aE (by omega)]
   rfl
  | cons y k ih=>
   intro i f hd hi hf
   obtain⟨f,rfl⟩:∃ m,f=m+1:=⟨f - 1,by simp at hf;omega⟩
   have hy:l[i]? =some y:=by
    have:=congrArg (·[0]?) hd
    simpa [akP] using this
   have hk:l.drop (i+1)=k:=by
    have:=congrArg List.tail hd
    simpa [alJ] using this
   have hil:i<l.length:=(akS.1 hy).1
   have ih':=ih (i+1) f hk hil (by simp at hf;omega)
   rw[dx]
   generalize hag:(fun y=>iter f y yh)=again
   have ih2:again (n,l,(l.length:Int),((i+1:Nat):Int),d.1,d.2,[],0,0,0,0,())=_:=(congrFun hag.symm _).trans ih'
   unfold yh
   dsimp only
   rw[aD (by omega),bf,hy,amq,az (by omega) (by omega)]
   have hlk:kL (y::k) n=bif y.1==n then some y else kL k n:=by
    unfold kL
    rw[List.find?_cons]
    cases y.1==n<;>rfl
   rw[hlk]
   cases hb:(y.1==n) with
   | true=>rfl
   | false=>
    rw[amD,amD]
    exact ih2
 have e:=key l 0
 rw[show ((0:Nat):Int)=0 from rfl] at e
 have e1:=fun f (hf:l.length<f)=>e f rfl (amm _) hf
 rw[e1 _ (by with_reducible apply dw;with_reducible apply yu;repeat (with_reducible first | exact amn | apply dw))]
 cases h:kL l n with
 | none=>exact⟨_,rfl,rfl⟩
 | some x=>exact⟨_,rfl,rfl⟩
theorem agX (v:ah) (hp:0≤vPl v∧vPl v≤4) {l m:List ak} (hL:Kh l) (hM:Kh m) (ns:List Bys) (hn:ns.length≤40) (sl:List bz) (hsl:sl.length≤10) (f:Nat) (hf:ns.length<f) (r:Option Bf) (hr:r=iter f ((l,sl,m,(ns.length:Int),(0:Int),v.1,v.2.1,v.2.2.1,v.2.2.2.1,v.2.2.2.2.1,v.2.2.2.2.2.1,v.2.2.2.2.2.2.1,v.2.2.2.2.2.2.2.1,v.2.2.2.2.2.2.2.2,ns,()):vN) vD):
 r=some (Sum.inr (ns.foldl (cM (vPl v) l m) sl,())):=by
 rw[hr]
 refine aZ (Inv:=fun i X=>X=((l,(ns.take i).foldl (cM (vPl v) l m) sl,m,(ns.length:Int),(i:Int),v.1,v.2.1,v.2.2.1,v.2.2.2.1,v.2.2.2.2.1,v.2.2.2.2.2.1,v.2.2.2.2.2.2.1,v.2.2.2.2.2.2.2.1,v.2.2.2.2.2.2.2.2,ns,()):vN)) ns.length (fun r=>r=some (Sum.inr (ns.foldl (cM (vPl v) l m) sl,()))) ?_ ?_ f 0 _ rfl (by omega) (by omega)
 ·rintro i _ again hi rfl ih
  have hy:ns[i]? =some ns[i]:=aC hi
  have hfl:=NH (vPl v) l m (ns.take i) sl
  rw[alc] at hfl
  have hstep:(ns.take (i+1)).foldl (cM (vPl v) l m) sl=cM (vPl v) l m ((ns.take i).foldl (cM (vPl v) l m) sl) ns[i]:=by
   rw[alK,hy,akJ];rfl
  generalize ns[i]=n at hy hstep
  generalize (ns.take i).foldl (cM (vPl v) l m) sl=out at hfl hstep
  have e:vD (l,out,m,(ns.length:Int),(i:Int),v.1,v.2.1,v.2.2.1,v.2.2.2.1,v.2.2.2.2.1,v.2.2.2.2.2.1,v.2.2.2.2.2.2.1,v.2.2.2.2.2.2.2.1,v.2.2.2.2.2.2.2.2,ns,()) again=again (l,cM (vPl v) l m out n,m,(ns.length:Int),((i+1:Nat):Int),v.1,v.2.1,v.2.2.1,v.2.2.2.1,v.2.2.2.2.1,v.2.2.2.2.2.1,v.2.2.2.2.2.2.1,v.2.2.2.2.2.2.2.1,v.2.2.2.2.2.2.2.2,ns,()):=by
   have k1:=ahh hL.dec n
   have k2:=agy hp hM.dec n
   obtain⟨x,hx,hx2⟩:=abE l hL.len n (0,0)
   obtain⟨y,hy3,hy2⟩:=abE m hM.len n (0,vPl v)
   have hx1:x.2=isT l n:=hx2
   have hy1:y.2=shT (vPl v) m n:=hy2
   rw[← hx1] at k1
   rw[← hy1] at k2
   obtain⟨c1,g1,g2⟩:=ado k1.1 k2.1
   obtain⟨c2,g3,g4⟩:=ado k1.2 k2.2
   unfold cM
   rw[← hx1, ← hy1]
   have n1:=KV out 6 n x.2.1 y.2.1
   unfold vD
   dsimp only
   rw[aD (by omega),aH (by simp only[ajK,amI];omega),akq,hy,amq,hx,amq,T7,amq]
   dsimp only
   rw[show BA (v.1,v.2.1,v.2.2.1,v.2.2.2.1,v.2.2.2.2.1,v.2.2.2.2.2.1,v.2.2.2.2.2.2.1,v.2.2.2.2.2.2.2.1,v.2.2.2.2.2.2.2.2) 0=(0,vPl v) from rfl,hy3,amq]
   dsimp only
   rw[g1,amq]
   dsimp only
   rw[g2]
   unfold KS at n1 ⊢
   by_cases h1:eg x.2.1=eg y.2.1
   ·rw[amH h1,ajW,amD,aF]
    rw[amQ h1] at n1 ⊢
    dsimp only
    rw[show ((x.2.2.1,x.2.2.2):aj)=x.2.2 from rfl,show ((y.2.2.1,y.2.2.2):aj)=y.2.2 from rfl,g3,amq]
    dsimp only
    rw[g4,az (by omega) (by omega)]
    by_cases h2:eg x.2.2=eg y.2.2
    ·rw[amH h2,ajW,amD,amQ h2];rfl
    ·rw[amG h2,ajV,amE,amP h2,aH (cr (by omega) (by omega))];rfl
   ·rw[amG h1,ajV,amE,aH (cr (by omega) (by omega)),aF]
    rw[amP h1] at n1 ⊢
    dsimp only
    rw[show ((x.2.2.1,x.2.2.2):aj)=x.2.2 from rfl,show ((y.2.2.1,y.2.2.2):aj)=y.2.2 from rfl,g3,amq]
    dsimp only
    rw[g4,az (by omega) (by omega)]
    by_cases h2:eg x.2.2=eg y.2.2
    ·rw[amH h2,ajW,amD,amQ h2];rfl
    ·rw[amG h2,ajV,amE,amP h2,aH (cr (by omega) (by omega))];rfl
  rw[e]
  refine ih _ ?_
  rw[hstep]
 ·rintro _ again rfl
  unfold vD
  dsimp only
  rw[aE (by omega),alN (alZ _)]
end Go.Md
namespace Go.Md
open Go.Dn
theorem aeX {a r:Nat} (ha:a=5) (h:0<r):5<a+r:=by omega
theorem abg (v:ah) (t:bP) (l:List ak):Ld v t l=some (Hi v t l):=by
 unfold Ld Hi
 rw[ZY,amq]
 by_cases h0:cK v=0
 ·rw[amP (by simpa using h0)]
  have hv:=gh h0
  cases hz:fH v with
  | inl f=>
   have hf:=Zz h0 hz
   rw[show C7 v=(aaT,f,()) by unfold C7;rw[amP (by simpa using h0),hz]]
   dsimp only
   rw[show (f != 0)=true by simpa using hf,amE]
  | inr s=>
   have ha:=Qt hz
   have hsh:=D8 hz
   have hs:=yH hv hsh
   have hR:=ahC hv ha
   have hM:=XY h0 hs
   have hpl:0≤vPl v∧vPl v≤4:=hv.pl
   have htx:CZ v=some (ew v s,0,()):=by
    rw[ac5]
    unfold ab3
    rw[amP (by simpa using h0),hz]
   rw[show C7 v=(cL v s,0,()) by unfold C7;rw[amP (by simpa using h0),hz]]
   dsimp only
   rw[zne,amD]
   unfold Fu
   rw[amq]
   dsimp only
   unfold acM
   generalize cL v s=u at hR ⊢
   refine nL (Q:=fun o=>o=some (if kj t l≠0 then ([],kj t l,()) else ((Ef l (ew v s)).foldl (cM (vPl v) l (ew v s)) (oN t u),0,()))) fun F hF r hr=> ?_
   have q5:=Yj v t u l F (by rw[hF];(with_reducible apply dw);(with_reducible refine aeX ?_ ?_);exact rfl;repeat (with_reducible first | exact amn | apply dw)) r hr
   clear hr hF F
   by_cases hT:∀ d∈bV t,aY d
   ·rw[amQ hT] at q5
    rw[q5,aF]
    clear q5 r
    dsimp only
    by_cases hl:20<l.length
    ·have hst:kj t l=2:=by unfold kj;rw[amQ hT,amQ hl]
     rw[aD (by omega),hst]
     rfl
    ·have hst:kj t l=cT (tT l) 0 l:=by unfold kj;rw[amQ hT,amP hl]
     rw[aE (by omega),hst]
     refine nL (Q:=fun o=>o=some (if cT (tT l) 0 l≠0 then ([],cT (tT l) 0 l,()) else ((Ef l (ew v s)).foldl (cM (vPl v) l (ew v s)) (oN t u),0,()))) fun F hF r hr=> ?_
     have q14:=XR v t u l (by omega) F (by rw[hF];with_reducible apply yu;repeat (with_reducible first | exact amn | apply dw)) r hr
     clear hr hF F
     by_cases hsc:cT (tT l) 0 l=0
     ·rw[amQ hsc] at q14
      rw[q14,aF,amP (by simpa using hsc)]
      clear q14 r
      obtain⟨_,hL⟩:=Mw (t:=t) (l:=l) (by rw[hst];exact hsc)
      dsimp only
      rw[amq]
      dsimp only
      refine nL (Q:=fun o=>o=some ((Ef l (ew v s)).foldl (cM (vPl v) l (ew v s)) (oN t u),0,())) fun F hF r hr=> ?_
      have q25:=YD v t u hT hR l F (by rw[hF];(with_reducible apply dw);(with_reducible apply dw);(with_reducible refine aeX ?_ ?_);exact rfl;repeat (with_reducible first | exact amn | apply dw)) r hr
      clear hr hF F
      rw[q25,aF]
      clear q25 r
      dsimp only
      rw[show CZ (v.1,v.2.1,v.2.2.1,v.2.2.2.1,v.2.2.2.2.1,v.2.2.2.2.2.1,v.2.2.2.2.2.2.1,v.2.2.2.2.2.2.2.1,v.2.2.2.2.2.2.2.2)=some (ew v s,0,()) from htx,amq]
      dsimp only
      rw[agJ l (ew v s) hL.len hM.len,amq]
      dsimp only
      refine nL (Q:=fun o=>o=some ((Ef l (ew v s)).foldl (cM (vPl v) l (ew v s)) (oN t u),0,())) fun F hF r hr=> ?_
      have q34:=ahA v l (ew v s) hL.len hM.len (oN t u) F (by rw[hF,ake];(with_reducible apply dw);(with_reducible apply dw);(with_reducible apply dw);(with_reducible apply dw);with_reducible apply yu;repeat (with_reducible first | exact amn | apply dw)) r hr
      clear hr hF F
      rw[q34,aF]
      clear q34 r
      dsimp only
      have hNl:((l++ew v s).map (·.1)).length≤40:=by
       have h1:=hL.len
       have h2:=hM.len
       rw[ak5,ak2];omega
      have hmap:(l++ew v s).map (·.1)=l.map (·.1)++(ew v s).map (·.1):=ald
      unfold Ef
      rw[← hmap]
      generalize (l++ew v s).map (·.1)=N at hNl
      have hsrt:slices_Sort_string N=some (N.mergeSort fun x y=>decide (x≤y),()):=by
       show Ih N=_
       unfold Ih
       rw[amH (by omega),amE]
      rw[hsrt,amq]
      dsimp only
      have hcmp:slices_Compact_string (N.mergeSort fun x y=>decide (x≤y))=some (Go.Lib.compact (N.mergeSort fun x y=>decide (x≤y)),()):=by
       show IA _=_
       unfold IA
       rw[amH (by rw[ak6];omega),amE]
      rw[hcmp,amq]
      dsimp only
      have hcl:(Go.Lib.compact (N.mergeSort fun x y=>decide (x≤y))).length≤40:=by
       have h1:=JM (N.mergeSort fun x y=>decide (x≤y))
       rw[ak6] at h1
       omega
      have hfl:(oN t u).length≤10:=by
       have l1:=iG [] 1 t.1 u.1
       have l2:=iG (bX [] 1 t.1 u.1) 2 t.2.1 u.2.1
       have l3:=iG (bX (bX [] 1 t.1 u.1) 2 t.2.1 u.2.1) 3 t.2.2.1 u.2.2.1
       have l4:=iG (bX (bX (bX [] 1 t.1 u.1) 2 t.2.1 u.2.1) 3 t.2.2.1 u.2.2.1) 4 t.2.2.2.1 u.2.2.2.1
       have l5:=iG (bX (bX (bX (bX [] 1 t.1 u.1) 2 t.2.1 u.2.1) 3 t.2.2.1 u.2.2.1) 4 t.2.2.2.1 u.2.2.2.1) 5 t.2.2.2.2 u.2.2.2.2
       have l0:([]:List bz).length=0:=rfl
       show (bX _ _ _ _).length≤10
       omega
      refine nL (Q:=fun o=>o=some ((Go.Lib.compact (N.mergeSort fun x y=>decide (x≤y))).foldl (cM (vPl v) l (ew v s)) (oN t u),0,())) fun F hF r hr=> ?_
      have q40:=agX v hpl hL hM (Go.Lib.compact (N.mergeSort fun x y=>decide (x≤y))) hcl (oN t u) hfl F (by rw[hF,ake];(with_reducible apply dw);(with_reducible apply dw);(with_reducible apply dw);with_reducible apply yu;repeat (with_reducible first | exact amn | apply dw)) r hr
      rw[q40,aF]
     ·rw[amP hsc] at q14
      rw[q14,dR,amQ hsc]
   ·have hst:kj t l=1:=by unfold kj;rw[amP hT]
    rw[amP hT] at q5
    rw[q5,dR,hst]
    rfl
 ·rw[amQ h0]
  rw[show C7 v=(aaT,cK v,()) by unfold C7;rw[amQ h0]]
  dsimp only
  rw[show (cK v != 0)=true by simpa using h0,amE]
theorem Qy {d:aj} (h:aY d):GD d=some (RW d,()):=by
 unfold GD RW
 have:=h.1
 rw[az (by omega) (by omega),show 0 - d.1= -d.1 by omega]
theorem Py {pl:Int} {l:List ax} (hl:l.length≤20) (h:∀ x∈l,OX pl x):uU l=some (l.map fW,()):=by
 unfold uU
 rw[Za (by omega),amq]
 dsimp only
 have loop:∀ f,l.length<f→iter f (((l.length:Int),(0:Int),l,()):vH) BR=some (Sum.inr (l.map fW,())):=by
  intro f hf
  refine aZ (Inv:=fun i X=>X=(((l.length:Int),(i:Int),upto fW l i,()):vH)) l.length (fun r=>r=some (Sum.inr (l.map fW,()))) ?_ ?_ f 0 _ (by rw[KZ];rfl) (by omega) (by omega)
  ·rintro i _ again hi rfl ih
   have hy:=OO fW hi
   have hm:l[i]∈l:=ak1 hi
   have hs:=Pk fW hi
   rw[aC hi] at hy
   generalize l[i]=y at hy hm hs
   have hd:=(h y hm).dec
   unfold BR
   dsimp only
   rw[aD (by omega),Oc,aH (by simp only[ajK,amI];omega),akq,hy,amq,az (by omega) (by omega)]
   cases hp:y.1 with
   | false=>
    rw[ajV,amE,Qy hd,amq]
    dsimp only
    rw[aH (by simp only[ajK,amI];omega),amq]
    refine ih _ ?_
    rw[← hs]
    unfold fW
    rw[hp]
    rfl
   | true=>
    rw[ajW,amD]
    refine ih _ ?_
    rw[← hs,show fW y=y by unfold fW;rw[hp,amQ rfl, ← hp],show (upto fW l i).set i y=upto fW l i from Zj hy]
    rfl
  ·rintro _ again rfl
   unfold BR
   dsimp only
   rw[aE (by omega),Om]
 rw[loop _ (by rw[ake];omega),aF]
theorem Wu (v:ah) (n:Bys) (d:Int):Dz v n d=some (OF v n d):=by
 unfold Dz OF
 rw[qj,amq]
 dsimp only
 by_cases h0:cK v=0
 ·rw[amP (by simpa using h0),show (cK v != 0)=false by simpa using h0,amD,yQ,amq]
  dsimp only
  cases hn:iC n with
  | false=>rw[amQ rfl,ajV,amE];rfl
  | true=>
   rw[amP (by simp),ajW,amD]
   by_cases he:n=v.1
   ·rw[amQ he,show (n==v.1)=true by simpa using he,amE];rfl
   ·rw[amP he,show (n==v.1)=false by simpa using he,amD,Bt,amq]
    dsimp only
    by_cases hd:d<v.2.2.1∨3652059<d
    ·rw[amQ hd,amG (by omega),ajV,amE];rfl
    ·rw[amP hd,amH (by omega),ajW,amD]
     have hv:=gh h0
     have hln:0<(aU v).length∧(aU v).length≤500:=hv.ln
     have hrn:0<(ai v).length∧(ai v).length≤20:=hv.rn
     have hx:=iO hv.ext
     have e2:ez (aU v)=some (aU v,()):=Wa (by omega)
     have e3:uU (bF v)=some ((bF v).map fW,()):=Py hx.1 fun x h=>(hx.2 x h).1
     rw[e3,amq,e2,amq]
     dsimp only
     have loop:∀ f,(aU v).length<f→iter f ((((aU v).length:Int),(0:Int),[],[],0,0,0,false,[],[],[],n,v.2.1,d,vPl v,dQ v,lM v,ai v,(bF v).map fW,aU v,()):pQ) pH=
      some (Sum.inr ([],[],0,0,0,false,[],[],[],n,v.2.1,d,vPl v,dQ v,lM v,ai v,(bF v).map fW,(aU v).map rK,())):=by
      intro f hf
      refine aZ (Inv:=fun i X=>X=((((aU v).length:Int),(i:Int),[],[],0,0,0,false,[],[],[],n,v.2.1,d,vPl v,dQ v,lM v,ai v,(bF v).map fW,upto rK (aU v) i,()):pQ)) (aU v).length (fun r=>r=some (Sum.inr ([],[],0,0,0,false,[],[],[],n,v.2.1,d,vPl v,dQ v,lM v,ai v,(bF v).map fW,(aU v).map rK,()))) ?_ ?_ f 0 _ (by rw[KZ];rfl) (by omega) (by omega)
      ·rintro i _ again hi rfl ih
       have hy:=OO rK hi
       have hm:(aU v)[i]∈aU v:=ak1 hi
       have hs:=Pk rK hi
       rw[aC hi] at hy
       generalize (aU v)[i]=y at hy hm hs
       have hlo:tN (vPl v) (ai v) y:=hv.lines y hm
       have hye:=iO hlo.ext
       have e4:uU y.2.2.2.2.2.2.2.1=some (y.2.2.2.2.2.2.2.1.map fW,()):=Py hye.1 fun x h=>(hye.2 x h).1
       have hlen:((upto rK (aU v) i)).length=(aU v).length:=Oc _ _ _
       have e:pH (((aU v).length:Int),(i:Int),[],[],0,0,0,false,[],[],[],n,v.2.1,d,vPl v,dQ v,lM v,ai v,(bF v).map fW,upto rK (aU v) i,()) again=again (((aU v).length:Int),((i+1:Nat):Int),[],[],0,0,0,false,[],[],[],n,v.2.1,d,vPl v,dQ v,lM v,ai v,(bF v).map fW,upto rK (aU v) (i+1),()):=by
        unfold pH
        dsimp only
        rw[aD (by omega),hlen,aH (by simp only[ajK,amI];omega),akq,hy,amq,Qy hlo.q,amq,e4,amq]
        dsimp only
        rw[aH (by simp only[ajK,amI];omega),amq,alb,hlen,aH (by simp only[ajK,amI];omega),akY (by omega),amq,az (by omega) (by omega),List.set_set]
        dsimp only
        rw[show ((y.1,y.2.1,y.2.2.1,RW y.2.2.2.1,y.2.2.2.2.1,y.2.2.2.2.2.1,y.2.2.2.2.2.2.1,List.map fW y.2.2.2.2.2.2.2.1,y.2.2.2.2.2.2.2.2):au)=rK y from rfl,hs]
        rfl
       rw[e]
       exact ih _ rfl
      ·rintro _ again rfl
       unfold pH
       dsimp only
       rw[aE (by omega),Om]
     rw[loop _ (by rw[ake];with_reducible apply FJ;repeat (with_reducible first | exact amn | apply CR)),aF]
     dsimp only
     rw[show ((n,v.2.1,d,vPl v,dQ v,lM v,ai v,List.map rK (aU v),List.map fW (bF v)):ah)=Kb v n d from rfl,qj,amq]
     dsimp only
     by_cases h1:cK (Kb v n d)=0
     ·rw[amP (by simpa using h1),show (cK (Kb v n d) != 0)=false by simpa using h1,amD]
     ·rw[amQ h1,show (cK (Kb v n d) != 0)=true by simpa using h1,amE]
      rfl
 ·rw[amQ h0,show (cK v != 0)=true by simpa using h0,amE]
  rfl
theorem Hh:Fg zeroV zeroV=some (true,()):=by kernel_rfl
theorem ah4 (v:ah) (n:Bys) (d:Int):Fg (OF v n d).1 (OF v n d).1=some (true,()):=by
 unfold OF
 split
 ·exact Hh
 split
 ·exact Hh
 split
 ·exact Hh
 split
 ·exact Hh
 split
 ·exact Hh
 ·rename_i h
  exact ah1 (aj2.1 h)
theorem af4 (l:List bz) (hl:l.length≤1000):oe l l=some (true,()):=by
 unfold oe
 rw[show (((List.length l:Nat):Int) != ((List.length l:Nat):Int))=false by simp,amD]
 have loop:∀ f,l.length<f→iter f ((l,l,(l.length:Int),(0:Int),()):lZ) lU=some (Sum.inr ()):=by
  intro f hf
  refine aZ (Inv:=fun i X=>X=(l,l,(l.length:Int),(i:Int),())) l.length (fun r=>r=some (Sum.inr ())) ?_ ?_ f 0 _ rfl (by omega) (by omega)
  ·rintro i _ again hi rfl ih
   unfold lU
   dsimp only
   rw[aD (by omega),bf,aC hi,amq,amq]
   simp only[amB,ajM,ajW,amD]
   rw[az (by omega) (by omega)]
   exact ih _ rfl
  ·rintro _ again rfl
   unfold lU
   dsimp only
   rw[aE (by omega)]
 rw[loop _ (by with_reducible apply FJ;repeat (with_reducible first | exact amn | apply CR)),aF]
theorem afF (v:ah) (t:bP) (l:List ak):(Hi v t l).1.length≤1000:=by
 unfold Hi
 split
 ·simp
 ·rename_i h0
  split
  ·simp
  ·rename_i s hz
   split
   ·simp
   ·rename_i hst
    have h0:cK v=0:=aj2.1 h0
    have hst:kj t l=0:=aj2.1 hst
    have hL:=(Mw hst).2.len
    have hM:=(XY h0 (yH (gh h0) (D8 hz))).len
    show ((Ef l (ew v s)).foldl (cM (vPl v) l (ew v s)) (oN t (cL v s))).length≤1000
    have h1:=NH (vPl v) l (ew v s) (Ef l (ew v s)) (oN t (cL v s))
    have h2:(Ef l (ew v s)).length≤40:=by
     have h3:=JM ((l.map (·.1)++(ew v s).map (·.1)).mergeSort fun x y=>decide (x≤y))
     rw[ak6,ak2,ak5,ak5] at h3
     show (Go.Lib.compact _).length≤40
     omega
    have h4:(oN t (cL v s)).length≤10:=by
     generalize cL v s=u
     have l1:=iG [] 1 t.1 u.1
     have l2:=iG (bX [] 1 t.1 u.1) 2 t.2.1 u.2.1
     have l3:=iG (bX (bX [] 1 t.1 u.1) 2 t.2.1 u.2.1) 3 t.2.2.1 u.2.2.1
     have l4:=iG (bX (bX (bX [] 1 t.1 u.1) 2 t.2.1 u.2.1) 3 t.2.2.1 u.2.2.1) 4 t.2.2.2.1 u.2.2.2.1
     have l5:=iG (bX (bX (bX (bX [] 1 t.1 u.1) 2 t.2.1 u.2.1) 3 t.2.2.1 u.2.2.1) 4 t.2.2.2.1 u.2.2.2.1) 5 t.2.2.2.2 u.2.2.2.2
     have l0:([]:List bz).length=0:=rfl
     show (bX _ _ _ _).length≤10
     omega
    omega
theorem UP (v:ah) (t:bP) (l:List ak) (n:Bys) (d:Int):lV v t l n d=some (true,()):=by
 unfold lV
 rw[ZE,amq,abg,amq,show ((Hi v t l).2.1 != (Hi v t l).2.1)=false by simp,amD,af4 _ (afF v t l),amq]
 dsimp only
 rw[ajW,amD,Us,amq,Wu,amq,show ((OF v n d).2.1==(OF v n d).2.1)=true by simp,amE,ah4,amq]
 dsimp only
 rw[amE,adx]
 rfl
end Go.Md
