/-
  Plain facts: the sheet of an invoice, by the reference; the plain law BillTotalsMatchSpec is true of all data. No condition.
-/
import Derived.Test.YtalfglakknbjkaaGreatDoorKu
set_option linter.all false
namespace Go.Md
open Go.Dn
theorem aaX {n:Int} (h1: -9223372036854775808<n) (h2:n≤9223372036854775807):HD n=some ((n.natAbs:Int),()):=by
 unfold HD
 rw [aA (by omega) (by omega)]
 by_cases h:0 - n>n
 ·rw [if_pos h];congr 2;omega
 ·rw [if_neg h];congr 2;omega
structure D7 (g:Nat→Int) (m b:Nat):Prop where
 lt:b<m
 le:∀ j,j<m→g j≤g b
 first:∀ j,j<b→g j<g b
theorem D7.uniq {g:Nat→Int} {m a b:Nat} (ha:D7 g m a) (hb:D7 g m b):a=b:=by
 rcases af8 a b with h | h | h
 ·have:=hb.first a h;have:=ha.le b hb.lt;omega
 ·exact h
 ·have:=ha.first b h;have:=hb.le a ha.lt;omega
def oo (u:Nat) (ws:List Nat) (c i:Nat):Int:=if kz (rS u ws) ws.length i<c then -1 else (rS u ws i:Int)
def ij (u:Nat) (pl:Int) (ws:List Nat) (c i:Nat):ak:=(((shQ u ws.sum (ws.getD i 0)+if kz (rS u ws) ws.length i<c then 1 else 0:Nat):Int),pl)
theorem YH {u:Nat} {ws o:List Nat} (ho:zm (rS u ws) ws.length o) {c b:Nat} (hb:o[c]? =some b):D7 (oo u ws c) ws.length b:=by
 have hrb:=ho.XH hb
 have eb:oo u ws c b=(rS u ws b:Int):=by unfold oo;rw [if_neg (by omega)]
 refine ⟨ho.mem.1 (List.mem_of_getElem? hb),fun j hj=> ?_,fun j hj=> ?_⟩
 ·rw [eb]
  unfold oo
  split
  ·omega
  ·rename_i hr
   have hj2:=ho.HK hj
   by_cases e:kz (rS u ws) ws.length j=c
   ·rw [e,hb] at hj2;cases hj2;omega
   ·have:=ho.J9 hb hj2 (by omega)
    unfold ahead at this;omega
 ·rw [eb]
  unfold oo
  split
  ·omega
  ·rename_i hr
   have hbl:b<ws.length:=ho.mem.1 (List.mem_of_getElem? hb)
   have hj2:=ho.HK (show j<ws.length by omega)
   by_cases e:kz (rS u ws) ws.length j=c
   ·rw [e,hb] at hj2;cases hj2;omega
   ·have:=ho.J9 hb hj2 (by omega)
    unfold ahead at this;omega
theorem abX (L n pl:Int) (out:List ak) (N:Nat) (hN:0<N∧N≤1000) (g:Nat→Int) (b:Nat) (hb:D7 g N b) (f:Nat) (hf:N<f):
 iter f ((L,(0:Int),(N:Int),(0:Int),n,pl,out,(List.range N).map g,()):As) Aw=some (Sum.inr (L,(b:Int),n,pl,out,(List.range N).map g,())):=by
 refine bn (Inv:=fun i X=>∃ a:Nat,D7 g (max i 1) a∧X=(L,(a:Int),(N:Int),(i:Int),n,pl,out,(List.range N).map g,())) N (fun r=>r=some (Sum.inr (L,(b:Int),n,pl,out,(List.range N).map g,()))) ?_ ?_ f 0 _ ⟨0,⟨by omega,fun j hj=>(by rw [show j=0 by omega];exact Int.le_refl _),fun j hj=>absurd hj (by omega)⟩,rfl⟩ (by omega) (by omega)
 ·rintro i _ again hi ⟨a,ha,rfl⟩ ih
  unfold Aw
  dsimp only
  have hal:=ha.lt
  have e1:((List.range N).map g)[i]? =some (g i):=by rw [List.getElem?_map,ae4 hi];rfl
  have e2:((List.range N).map g)[a]? =some (g a):=by rw [List.getElem?_map,ae4 (by omega)];rfl
  have el:((List.range N).map g).length=N:=by simp
  rw [aE (by omega),el,aJ (by simp only [ad5,decide_eq_true_eq];omega),aeF,e1,Option.bind_some,aJ (by simp only [ad5,decide_eq_true_eq];omega),aeF,e2,Option.bind_some,aA (by omega) (by omega)]
  by_cases h:g i>g a
  ·rw [aE h]
   refine ih _ ⟨i,⟨by omega,fun j hj=> ?_,fun j hj=> ?_⟩,rfl⟩
   ·by_cases e:j=i
    ·subst e;omega
    ·have:=ha.le j (by omega);omega
   ·have:=ha.le j (by omega);omega
  ·rw [aF h]
   refine ih _ ⟨a,⟨by omega,fun j hj=> ?_,ha.first⟩,rfl⟩
   by_cases e:j=i
   ·subst e;omega
   ·exact ha.le j (by omega)
 ·rintro _ again ⟨a,ha,rfl⟩
  unfold Aw
  dsimp only
  rw [aF (by omega)]
  rw [show max N 1=N by omega] at ha
  rw [ha.uniq hb]
theorem XJ (n pl:Int) (hn:n.natAbs≤1000000000000000) (hpl:0≤pl∧pl≤9) (ws:List Nat) (h:Ao ws):
 Jt (n,pl) (wI ws)=some ((b8 n ws).map fun x=>(x,pl),0,()):=by
 have hl:=h.len
 have hsum:=h.XV
 have hpos:=h.pos
 generalize hu:n.natAbs=u at*
 have hQ:∀ j,shQ u ws.sum (ws.getD j 0)≤u:=fun j=>by
  unfold shQ
  have hw:ws.getD j 0≤ws.sum:=by
   rw [List.getD_eq_getElem?_getD]
   cases hj:ws[j]? with
   | none=>simp
   | some w=>
    have h1:(ws.take (j+1)).sum≤ws.sum:=by
     conv=>rhs;rw [← afN (j+1) ws,afK]
     omega
    rw [vw hj] at h1
    simp;omega
  exact Nat.div_le_of_le_mul (by rw [agc ws.sum];exact agd u hw)
 unfold Jt
 rw [Dk,Option.bind_some]
 dsimp only
 rw [if_pos (show b6 (n,pl) from ⟨by omega,hpl.1,hpl.2⟩),show ((0:Int) != 0)=false from rfl,cond_false,BF,rE,aF (by omega),aF (by omega)]
 have loop1:∀ f,ws.length<f→iter f ((wI ws,(0:Int),wI ws,(ws.length:Int),(0:Int),n,pl,()):Co) Cn=some (Sum.inr (wI ws,(ws.sum:Int),n,pl,())):=by
  intro f hf
  refine bn (Inv:=fun i X=>X=(wI ws,(((ws.take i).sum:Nat):Int),wI ws,(ws.length:Int),(i:Int),n,pl,())) ws.length (fun r=>r=some (Sum.inr (wI ws,(ws.sum:Int),n,pl,()))) ?_ ?_ f 0 _ (by simp) (by omega) (by omega)
  ·rintro i _ again hi rfl ih
   unfold Cn
   dsimp only
   have hw:ws[i]? =some ws[i]:=aH hi
   have hwl:=h.le _ (afb hi)
   generalize ws[i]=w at hw hwl
   have h1:=h.Ug i
   rw [aE (by omega),bh,Lb hw,Option.bind_some,xk,Option.bind_some]
   dsimp only
   rw [agE (by omega),Bool.not_true,cond_false,aA (by omega) (by omega),aA (by omega) (by omega)]
   refine ih _ ?_
   rw [vw hw]
   simp
  ·rintro _ again rfl
   unfold Cn
   dsimp only
   rw [aF (by omega),afP (af0 _)]
 rw [loop1 _ (by omega),aG]
 dsimp only
 rw [show ((ws.sum:Int)==0)=false by simp;omega,cond_false,rE,aJ (by simp only [ad5,decide_eq_true_eq];omega),aJ (by simp only [ad5,decide_eq_true_eq];omega)]
 have hmax:(if (w64 (0 - n))>n then (w64 (0 - n)) else n)=(u:Int):=by
  rw [aA (by omega) (by omega)]
  split<;>omega
 rw [hmax]
 have loop2:∀ f,ws.length<f→iter f (((ws.sum:Int),(u:Int),(u:Int),wI ws,(ws.length:Int),(0:Int),n,pl,List.replicate (Int.toNat (ws.length:Int)) ((0,0):ak),List.replicate (Int.toNat (ws.length:Int)) (0:Int),()):Aq) Ay=
  some (Sum.inr (((u - (ws.map (shQ u ws.sum)).sum:Nat):Int),n,pl,(List.range ws.length).map (ij u pl ws 0),(List.range ws.length).map (oo u ws 0),())):=by
  intro f hf
  have hle:=(Qz (u:=u) hpos).2
  have htk:∀ i,((ws.take i).map (shQ u ws.sum)).sum≤u:=fun i=>by
   have:=JD (shQ u ws.sum) ws i
   omega
  refine bn (Inv:=fun i X=>X=((ws.sum:Int),(u:Int),((u - ((ws.take i).map (shQ u ws.sum)).sum:Nat):Int),wI ws,(ws.length:Int),(i:Int),n,pl,(List.range ws.length).map (fun j=>if j<i then ij u pl ws 0 j else ((0,0):ak)),(List.range ws.length).map (fun j=>if j<i then oo u ws 0 j else (0:Int)),())) ws.length (fun r=>r=some (Sum.inr (((u - (ws.map (shQ u ws.sum)).sum:Nat):Int),n,pl,(List.range ws.length).map (ij u pl ws 0),(List.range ws.length).map (oo u ws 0),()))) ?_ ?_ f 0 _ ?_ (by omega) (by omega)
  ·rintro i _ again hi rfl ih
   unfold Ay
   dsimp only
   have hw:ws[i]? =some ws[i]:=aH hi
   have hwl:=h.le _ (afb hi)
   generalize ws[i]=w at hw hwl
   have hgd:ws.getD i 0=w:=by rw [List.getD_eq_getElem?_getD,hw];rfl
   have hq:=hQ i
   rw [hgd] at hq
   have hr:shR u ws.sum w<ws.sum:=agb _ hpos
   have L:∀ m:Nat,m≤1000000000000000→Le 19 (m:Int):=fun m hm=>Le.int (by omega) (by omega)
   have D:∀ {k:Nat} {z:Int},Le k z→k≤500→(dg6 z.natAbs).length<90:=fun hk h5=>hk.n h5
   rw [aE (by omega),bh,Lb hw,Option.bind_some,gQ _ (by omega) (by omega),Option.bind_some,gQ _ (by omega) (by omega),Option.bind_some]
   dsimp only
   have d1:=D (L u (by omega)) (by omega)
   have d2:=D (L w (by omega)) (by omega)
   rw [gw _ _ (by omega) (by omega),Option.bind_some,gQ _ (by omega) (by omega),Option.bind_some]
   dsimp only
   rw [← aev,PL (u*w) ws.sum hpos (by rw [aev];exact ((L u (by omega)).mul (L w (by omega))).mono (by omega)) ((L ws.sum (by omega)).mono (by omega)),Option.bind_some]
   dsimp only
   rw [show u*w / ws.sum=shQ u ws.sum w from rfl,show u*w % ws.sum=shR u ws.sum w from rfl,EF _ _ (by omega) (by omega) ((L _ (by omega)).mono (by omega)),Option.bind_some,EF _ _ (by omega) (by omega) ((L _ (by omega)).mono (by omega)),Option.bind_some,if_pos (by omega),if_pos (by omega)]
   dsimp only
   have hl1:∀ {β:Type} (g:Nat→β),((List.range ws.length).map g).length=ws.length:=fun g=>by simp
   have hg1:∀ {β:Type} (g:Nat→β),((List.range ws.length).map g)[i]? =some (g i):=fun g=>by rw [List.getElem?_map,ae4 hi];rfl
   rw [hl1,aJ (by simp only [ad5,decide_eq_true_eq];omega),aeF,hg1,Option.bind_some,hl1,aJ (by simp only [ad5,decide_eq_true_eq];omega),hg1,Option.bind_some]
   have h1:=htk (i+1)
   have e1:((ws.take (i+1)).map (shQ u ws.sum)).sum=((ws.take i).map (shQ u ws.sum)).sum+shQ u ws.sum w:=by
    rw [afM,hw,afl,afK];simp
   have h2:=htk i
   rw [aA (by omega) (by omega),aA (by omega) (by omega)]
   refine ih _ ?_
   rw [e1]
   have e2:((u - (((ws.take i).map (shQ u ws.sum)).sum+shQ u ws.sum w):Nat):Int)=((u - ((ws.take i).map (shQ u ws.sum)).sum:Nat):Int) - (shQ u ws.sum w:Int):=by omega
   rw [e2]
   have s1:((List.range ws.length).map (fun j=>if j<i then ij u pl ws 0 j else ((0,0):ak))).set i ((shQ u ws.sum w:Int),pl)=(List.range ws.length).map (fun j=>if j<i+1 then ij u pl ws 0 j else ((0,0):ak)):=by
    refine jf _ _ _ _ _ (fun j hj hji=> ?_) ?_
    ·by_cases h3:j<i
     ·rw [if_pos h3,if_pos (by omega)]
     ·rw [if_neg h3,if_neg (by omega)]
    ·rw [if_pos (by omega)]
     unfold ij
     rw [if_neg (by omega),hgd]
     rfl
   have s2:((List.range ws.length).map (fun j=>if j<i then oo u ws 0 j else (0:Int))).set i (shR u ws.sum w:Int)=(List.range ws.length).map (fun j=>if j<i+1 then oo u ws 0 j else (0:Int)):=by
    refine jf _ _ _ _ _ (fun j hj hji=> ?_) ?_
    ·by_cases h3:j<i
     ·rw [if_pos h3,if_pos (by omega)]
     ·rw [if_neg h3,if_neg (by omega)]
    ·rw [if_pos (by omega)]
     unfold oo rS
     rw [if_neg (by omega),hgd]
   rw [s1,s2]
   rfl
  ·rintro _ again rfl
   unfold Ay
   dsimp only
   rw [aF (by omega),afP (af0 _)]
   have e1:(List.range ws.length).map (fun j=>if j<ws.length then ij u pl ws 0 j else ((0,0):ak))=(List.range ws.length).map (ij u pl ws 0):=afm fun j hj=>by rw [if_pos (afz.1 hj)]
   have e2:(List.range ws.length).map (fun j=>if j<ws.length then oo u ws 0 j else (0:Int))=(List.range ws.length).map (oo u ws 0):=afm fun j hj=>by rw [if_pos (afz.1 hj)]
   rw [e1,e2]
  ·have z:∀ {β:Type} (x:β) (g:Nat→β),List.replicate (Int.toNat (ws.length:Int)) x=(List.range ws.length).map (fun j=>if j<0 then g j else x):=fun x g=>by
    rw [aeF]
    apply aeW
    intro j
    by_cases hj:j<ws.length
    ·rw [List.getElem?_map,ae4 hj,ae5,if_pos hj];simp
    ·rw [ae3 (by simp;omega),ae3 (by simp;omega)]
   rw [z ((0,0):ak) (ij u pl ws 0),z (0:Int) (oo u ws 0)]
   simp
 rw [loop2 _ (by omega),aG]
 dsimp only
 obtain ⟨o,ho⟩:=zm.exists (rS u ws) ws.length
 have hol:=ho.len
 have hlfl:=ZC (u:=u) hpos
 generalize hlf:u - (ws.map (shQ u ws.sum)).sum=left at hlfl
 have loop3:∀ f,left<f→iter f (((left:Int),n,pl,(List.range ws.length).map (ij u pl ws 0),(List.range ws.length).map (oo u ws 0),()):AJ) Ae=some (Sum.inr (n,pl,(List.range ws.length).map (ij u pl ws left),())):=by
  intro f hf
  refine bn (Inv:=fun c X=>X=(((left - c:Nat):Int),n,pl,(List.range ws.length).map (ij u pl ws c),(List.range ws.length).map (oo u ws c),())) left (fun r=>r=some (Sum.inr (n,pl,(List.range ws.length).map (ij u pl ws left),()))) ?_ ?_ f 0 _ (by simp) (by omega) (by omega)
  ·rintro c _ again hc rfl ih
   unfold Ae
   dsimp only
   have hoc:o[c]? =some (o[c]'(by omega)):=aH (by omega)
   generalize (o[c]'(by omega))=b at hoc
   have hin:b<ws.length:=ho.mem.1 (List.mem_of_getElem? hoc)
   have hrk:=ho.XH hoc
   have hl1:∀ {β:Type} (g:Nat→β),((List.range ws.length).map g).length=ws.length:=fun g=>by simp
   have hg1:∀ {β:Type} (g:Nat→β),((List.range ws.length).map g)[b]? =some (g b):=fun g=>by rw [List.getElem?_map,ae4 hin];rfl
   have hqb:=hQ b
   have hne:∀ j,j<ws.length→j≠b→kz (rS u ws) ws.length j≠c:=fun j hj hjb e=>by
    have hjr:=ho.HK hj
    rw [e,hoc] at hjr;cases hjr;exact hjb rfl
   rw [aE (by omega),hl1,abX _ _ _ _ _ ⟨by omega,by omega⟩ _ _ (YH ho hoc) _ (by omega),aG]
   dsimp only
   rw [hl1,hl1,aJ (by simp only [ad5,decide_eq_true_eq];omega),aeF,hg1,Option.bind_some,aJ (by simp only [ad5,decide_eq_true_eq];omega),Option.bind_some,aJ (by simp only [ad5,decide_eq_true_eq];omega),hg1,Option.bind_some]
   have hrb:¬ kz (rS u ws) ws.length b<c:=by omega
   have eo:(ij u pl ws c b).1=(shQ u ws.sum (ws.getD b 0):Int):=by unfold ij;rw [if_neg hrb];rfl
   rw [aA (n:=((left - c:Nat):Int) - 1) (by omega) (by omega),aA (by rw [eo];omega) (by rw [eo];omega)]
   refine ih _ ?_
   have s1:((List.range ws.length).map (ij u pl ws c)).set b ((ij u pl ws c b).1+1,(ij u pl ws c b).2)=(List.range ws.length).map (ij u pl ws (c+1)):=by
    refine jf _ _ _ _ _ (fun j hj hjb=> ?_) ?_
    ·have:=hne j hj hjb
     unfold ij
     by_cases h3:kz (rS u ws) ws.length j<c
     ·rw [if_pos h3,if_pos (by omega)]
     ·rw [if_neg h3,if_neg (by omega)]
    ·rw [eo];unfold ij;rw [if_pos (by omega)];simp
   have s2:((List.range ws.length).map (oo u ws c)).set b (-1)=(List.range ws.length).map (oo u ws (c+1)):=by
    refine jf _ _ _ _ _ (fun j hj hjb=> ?_) ?_
    ·have:=hne j hj hjb
     unfold oo
     by_cases h3:kz (rS u ws) ws.length j<c
     ·rw [if_pos h3,if_pos (by omega)]
     ·rw [if_neg h3,if_neg (by omega)]
    ·unfold oo;rw [if_pos (by omega)]
   rw [s1,s2]
   have e3:((left - c:Nat):Int) - 1=((left - (c+1):Nat):Int):=by omega
   rw [e3]
  ·rintro _ again rfl
   unfold Ae
   dsimp only
   rw [aF (by omega)]
 rw [loop3 _ (by omega),aG]
 dsimp only
 have hl1:∀ {β:Type} (g:Nat→β),((List.range ws.length).map g).length=ws.length:=fun g=>by simp
 rw [hl1]
 have hg:∀ i,(shG n ws i,pl)=(if n<0 then ((-(ij u pl ws left i).1,pl):ak) else ij u pl ws left i):=fun i=>by
  unfold shG ij;dsimp only;rw [hu,hlf];split<;>rfl
 have loop4:∀ f,ws.length<f→iter f (((ws.length:Int),(0:Int),n,pl,(List.range ws.length).map (ij u pl ws left),()):An) Al=some (Sum.inr ((b8 n ws).map fun x=>(x,pl),())):=by
  intro f hf
  refine bn (Inv:=fun i X=>X=((ws.length:Int),(i:Int),n,pl,(List.range ws.length).map (fun j=>if j<i then (shG n ws j,pl) else ij u pl ws left j),())) ws.length (fun r=>r=some (Sum.inr ((b8 n ws).map fun x=>(x,pl),()))) ?_ ?_ f 0 _ ?_ (by omega) (by omega)
  ·rintro i _ again hi rfl ih
   unfold Al
   dsimp only
   have hset:∀ (z:ak),z=(shG n ws i,pl)→((List.range ws.length).map (fun j=>if j<i then (shG n ws j,pl) else ij u pl ws left j)).set i z=(List.range ws.length).map (fun j=>if j<i+1 then (shG n ws j,pl) else ij u pl ws left j):=fun z hz=>by
    refine jf _ _ _ _ _ (fun j hj hji=> ?_) (by rw [if_pos (by omega),hz])
    by_cases h3:j<i
    ·rw [if_pos h3,if_pos (by omega)]
    ·rw [if_neg h3,if_neg (by omega)]
   have hgi:=hg i
   have hg1:((List.range ws.length).map (fun j=>if j<i then (shG n ws j,pl) else ij u pl ws left j))[i]? =some (ij u pl ws left i):=by rw [List.getElem?_map,ae4 hi];simp
   have hob:0≤(ij u pl ws left i).1∧(ij u pl ws left i).1≤1000000000000001:=by
    have:=hQ i
    unfold ij
    dsimp only
    split<;>omega
   rw [aE (by omega),aA (n:=(i:Int)+1) (by omega) (by omega)]
   by_cases hneg:n<0
   ·rw [if_pos hneg] at hgi
    rw [aE hneg,hl1,aJ (by simp only [ad5,decide_eq_true_eq];omega),aeF,hg1,Option.bind_some,aJ (by simp only [ad5,decide_eq_true_eq];omega),Option.bind_some,aA (by omega) (by omega)]
    refine ih _ ?_
    rw [hset _ (by rw [hgi,Int.zero_sub];rfl)]
    rfl
   ·rw [if_neg hneg] at hgi
    rw [aF hneg]
    refine ih _ ?_
    rw [← hset (ij u pl ws left i) hgi.symm]
    have e:((List.range ws.length).map (fun j=>if j<i then (shG n ws j,pl) else ij u pl ws left j)).set i (ij u pl ws left i)=(List.range ws.length).map (fun j=>if j<i then (shG n ws j,pl) else ij u pl ws left j):=by
     apply aeW
     intro j
     by_cases e:i=j
     ·subst e
      rw [ae8 (by rw [hl1];exact hi),hg1]
     ·rw [ae7 e]
    rw [e]
    rfl
  ·rintro _ again rfl
   unfold Al
   dsimp only
   rw [aF (by omega),Ns,List.map_map]
   congr 3
   refine afm fun j hj=> ?_
   rw [if_pos (afz.1 hj)]
   rfl
  ·simp
 rw [loop4 _ (by omega),aG]
end Go.Md
namespace Go.Md
open Go.Dn
def Eo (n:Int) (lines:List Int):List Int:=if (lines.map Int.natAbs).sum=0 then (List.replicate lines.length 0).set 0 n else b8 n (lines.map Int.natAbs)
theorem I5:∀ (l:List Int),(l.map Int.natAbs).sum=0↔(l.all fun b=>b==0)=true
 | []=>by simp
 | x::l=>by
  have:=I5 l
  simp only [afn,afL,aeH,ad5,agz] at this ⊢
  rw [← this]
  omega
theorem V0 (n:Int) (hn:n.natAbs≤1000000000000000) (lines:List Int) (hl:0<lines.length∧lines.length≤20) (ha:aV lines=true):
 Hp n lines=some (if (lines.any fun b=>decide (MW<b.natAbs))=true then ([],2,()) else (Eo n lines,0,())):=by
 have ham:∀ b∈lines,b.natAbs≤1000000000000000:=fun b hb=>by
  have:=gx.1 (aeI.1 ha b hb)
  have hMU:=oc
  omega
 have hMW:MW=1000000000:=rfl
 unfold Hp
 rw [aJ (by simp only [ad5,decide_eq_true_eq];omega)]
 have hz:∀ z:List Int,z=List.replicate (Int.toNat (lines.length:Int)) 0→z.length=lines.length:=fun z hz=>by rw [hz];simp
 generalize hzz:(List.replicate (Int.toNat (lines.length:Int)) 0:List Int)=zs
 have hzl:=hz zs hzz.symm
 have loop1:∀ f,lines.length<f→iter f ((n,([]:List Int),(0:Int),lines,(lines.length:Int),(0:Int),zs,()):Ab) Av=
  (if (lines.any fun b=>decide (MW<b.natAbs))=true then some (Sum.inl ([],2,())) else some (Sum.inr (n,wI (lines.map Int.natAbs),(((lines.map Int.natAbs).sum:Nat):Int),zs,()))):=by
  intro f hf
  refine bn (Inv:=fun i X=>(∀ b∈lines.take i,b.natAbs≤MW)∧X=(n,wI ((lines.take i).map Int.natAbs),((((lines.take i).map Int.natAbs).sum:Nat):Int),lines,(lines.length:Int),(i:Int),zs,())) lines.length (fun r=>r=(if (lines.any fun b=>decide (MW<b.natAbs))=true then some (Sum.inl ([],2,())) else some (Sum.inr (n,wI (lines.map Int.natAbs),(((lines.map Int.natAbs).sum:Nat):Int),zs,())))) ?_ ?_ f 0 _ ⟨by simp,by simp [wI]⟩ (by omega) (by omega)
  ·rintro i _ again hi ⟨hle,rfl⟩ ih
   unfold Av
   dsimp only
   have hy:lines[i]? =some lines[i]:=aH hi
   have hm:=ham _ (afb hi)
   have hmem:lines[i]∈lines:=afb hi
   generalize lines[i]=y at hy hm hmem
   have habs:=aaX (n:=y) (by omega) (by omega)
   have hlen:(wI ((lines.take i).map Int.natAbs)).length≤20:=by rw [rE,afe,afk];omega
   have hs:((lines.take i).map Int.natAbs).sum≤20000000000:=by
    have h1:=MR (c:=1000000000) ((lines.take i).map Int.natAbs) (fun x hx=>by obtain ⟨b,hb,rfl⟩:=afw.1 hx;have:=hle b hb;omega)
    have h2:((lines.take i).map Int.natAbs).length≤20:=by rw [afe,afk];omega
    have h3:((lines.take i).map Int.natAbs).length*1000000000≤20*1000000000:=age _ h2
    omega
   rw [aE (by omega),bh,hy,Option.bind_some]
   rw [habs,Option.bind_some]
   dsimp only
   rw [aJ (fY (by omega) (by omega)),Option.bind_some,Option.bind_some]
   dsimp only
   by_cases hgt:MW<y.natAbs
   ·rw [aE (by omega),if_pos (aeK.2 ⟨y,hmem,agE hgt⟩)]
   ·rw [aF (by omega),aA (n:=(i:Int)+1) (by omega) (by omega),aA (by omega) (by omega)]
    refine ih _ ⟨fun b hb=> ?_, ?_⟩
    ·rw [afM,hy] at hb
     rcases afp.1 hb with hb | hb
     ·exact hle b hb
     ·rw [show b=y by simpa using hb];omega
    ·rw [afM,hy]
     simp [wI]
  ·rintro _ again ⟨hle,rfl⟩
   unfold Av
   dsimp only
   rw [afP (af0 _)] at hle ⊢
   rw [aF (by omega),if_neg (by
    rw [aeK]
    rintro ⟨b,hb,h⟩
    have:=hle b hb
    rw [decide_eq_true_eq] at h
    omega)]
 rw [loop1 _ (by omega)]
 by_cases hany:(lines.any fun b=>decide (MW<b.natAbs))=true
 ·rw [if_pos hany,if_pos hany,eV]
 ·rw [if_neg hany,if_neg hany,aG]
  dsimp only
  by_cases h0:(lines.map Int.natAbs).sum=0
  ·rw [h0,show (((0:Nat):Int)==0)=true from rfl,cond_true,aJ (by simp only [ad5,decide_eq_true_eq];omega)]
   have:zs[0]? =some (zs[0]'(by omega)):=aH (by omega)
   rw [this,Option.bind_some]
   unfold Eo
   rw [if_pos h0, ← hzz,aeF]
  ·rw [show ((((lines.map Int.natAbs).sum:Nat):Int)==0)=false by simp;omega,cond_false]
   have hw:Ao (lines.map Int.natAbs):=by
    refine ⟨by rw [afe];exact hl,fun w hw=> ?_,by omega⟩
    obtain ⟨b,hb,rfl⟩:=afw.1 hw
    have:¬ MW<b.natAbs:=fun h=>hany (aeK.2 ⟨b,hb,agE h⟩)
    omega
   rw [XJ n 0 hn ⟨by omega,by omega⟩ _ hw,Option.bind_some]
   dsimp only
   have hsl:(b8 n (lines.map Int.natAbs)).length=lines.length:=by rw [EG,afe]
   unfold Eo
   rw [if_neg h0]
   generalize b8 n (lines.map Int.natAbs)=sh at hsl
   have loop2:∀ f,sh.length<f→iter f (((0:Int),sh.map (fun x=>((x,0):ak)),((sh.map (fun x=>((x,0):ak))).length:Int),(0:Int),zs,()):yD) yl=some (Sum.inr (0,sh,())):=by
    intro f hf
    have e0:(sh.map (fun x=>((x,0):ak))).length=sh.length:=by simp
    rw [e0]
    refine bn (Inv:=fun i X=>X=((0:Int),sh.map (fun x=>((x,0):ak)),(sh.length:Int),(i:Int),sh.take i++zs.drop i,())) sh.length (fun r=>r=some (Sum.inr (0,sh,()))) ?_ ?_ f 0 _ (by simp) (by omega) (by omega)
    ·rintro i _ again hi rfl ih
     unfold yl
     dsimp only
     have hy:sh[i]? =some sh[i]:=aH hi
     have hll:(sh.take i++zs.drop i).length=sh.length:=by rw [afc,afk,List.length_drop];omega
     have hgz:(sh.take i++zs.drop i)[i]? =some ((sh.take i++zs.drop i)[i]'(by omega)):=aH (by omega)
     rw [aE (by omega),bh,List.getElem?_map,hy,agw,Option.bind_some,hll,aJ (by simp only [ad5,decide_eq_true_eq];omega),aeF,hgz,Option.bind_some,aA (by omega) (by omega)]
     refine ih _ ?_
     have e:(sh.take i++zs.drop i).set i sh[i]=sh.take (i+1)++zs.drop (i+1):=by
      rw [List.set_append_right _ _ (by rw [afk];omega),afk,show i - min i sh.length=0 by omega]
      have hd:zs.drop i=(zs[i]'(by omega))::zs.drop (i+1):=aeR (by omega)
      have ht:sh.take (i+1)=sh.take i++[sh[i]]:=by rw [afM,hy];rfl
      rw [hd,List.set_cons_zero,ht,aeL]
      rfl
     rw [e]
     rfl
    ·rintro _ again rfl
     unfold yl
     dsimp only
     rw [aF (by omega),afP (af0 _),List.drop_eq_nil_of_le (by omega),aeM]
   rw [loop2 _ (by rw [afe];omega),aG]
end Go.Md
namespace Go.Md
open Go.Dn
theorem Zv {v:ah} (h:iq v=0):∀ r∈ai v,r.1≠[]:=by
 unfold iq at h
 split at h
 ·omega
 split at h
 ·omega
 split at h
 ·omega
 split at h
 ·omega
 split at h
 ·omega
 split at h
 ·omega
 split at h
 ·omega
 split at h
 ·omega
 split at h
 ·omega
 intro r hr e
 have h0:pZ (ai v)=0:=by show pZ v.2.2.2.2.2.2.1=0;omega
 unfold pZ at h0
 split at h0
 ·omega
 split at h0
 ·omega
 obtain ⟨i,hi⟩:=afv.1 hr
 have:=CG h0 i r hi
 unfold Jy at this
 rw [e,show l8 []=false from rfl,if_pos rfl] at this
 omega
theorem abV {v:ah} (h:iq v=0):cn (·.1) ([]:List UInt8) (ai v)=none:=by
 cases hi:cn (·.1) ([]:List UInt8) (ai v) with
 | none=>rfl
 | some k=>
  obtain ⟨r,hr,he⟩:=jG hi
  exact absurd he (Zv h r (List.mem_of_getElem? hr))
def Hz (v:ah) (x:av) (l:List Int) (i:Nat):Int:=match cn (·.1) x.2.2 (ai v) with
 | some k=>if k<i then l.getD k 0 else 0
 | none=>(l.take i).sum
theorem acC {v:ah} {x:av} (T:Int×Int×Int×Int×Int) (nets lines:List Int) (B:List (List Int)) (am bases taxes:List Int) (has:List Bool) (h0:iq v=0) (hx:x.2.2=[]∨(cn (·.1) x.2.2 (ai v)).isSome=true) (hll:lines.length=(ai v).length) (hal:aV lines=true) (f:Nat) (hf:lines.length<f):
 iter f (((0:Int),ixI (cn (·.1) x.2.2 (ai v)),(lines.length:Int),(0:Int),v.1,v.2.1,v.2.2.1,v.2.2.2.1,v.2.2.2.2.1,v.2.2.2.2.2.1,v.2.2.2.2.2.2.1,v.2.2.2.2.2.2.2.1,v.2.2.2.2.2.2.2.2,x.1,x.2.1.1,x.2.1.2,x.2.2,T.1,T.2.1,T.2.2.1,T.2.2.2.1,T.2.2.2.2,nets,lines,B,am,bases,taxes,has,()):rm) rI=some (Sum.inr (o6 v lines x,ixI (cn (·.1) x.2.2 (ai v)),v.1,v.2.1,v.2.2.1,v.2.2.2.1,v.2.2.2.2.1,v.2.2.2.2.2.1,v.2.2.2.2.2.2.1,v.2.2.2.2.2.2.2.1,v.2.2.2.2.2.2.2.2,x.1,x.2.1.1,x.2.1.2,x.2.2,T.1,T.2.1,T.2.2.1,T.2.2.2.1,T.2.2.2.2,nets,lines,B,am,bases,taxes,has,())):=by
 have hn:(ai v).length≤20:=(jM h0).rn.2
 have ham:∀ b∈lines,b.natAbs≤1000000000000000:=fun b hb=>by
  have:=gx.1 (aeI.1 hal b hb)
  have hMU:=oc
  omega
 have hsum:∀ i,(lines.take i).sum.natAbs≤i*1000000000000000:=fun i=>by
  induction i with
  | zero=>simp
  | succ i ih=>
   by_cases hi:i<lines.length
   ·rw [tv (aH hi)]
    have:=ham _ (afb hi)
    omega
   ·rw [afP (by omega)]
    rw [afP (by omega)] at ih
    exact af1 ih (age _ (Nat.le_succ i))
 refine bn (Inv:=fun i X=>i≤lines.length∧X=(Hz v x lines i,ixI (cn (·.1) x.2.2 (ai v)),(lines.length:Int),(i:Int),v.1,v.2.1,v.2.2.1,v.2.2.2.1,v.2.2.2.2.1,v.2.2.2.2.2.1,v.2.2.2.2.2.2.1,v.2.2.2.2.2.2.2.1,v.2.2.2.2.2.2.2.2,x.1,x.2.1.1,x.2.1.2,x.2.2,T.1,T.2.1,T.2.2.1,T.2.2.2.1,T.2.2.2.2,nets,lines,B,am,bases,taxes,has,())) lines.length (fun r=>r=some (Sum.inr (o6 v lines x,ixI (cn (·.1) x.2.2 (ai v)),v.1,v.2.1,v.2.2.1,v.2.2.2.1,v.2.2.2.2.1,v.2.2.2.2.2.1,v.2.2.2.2.2.2.1,v.2.2.2.2.2.2.2.1,v.2.2.2.2.2.2.2.2,x.1,x.2.1.1,x.2.1.2,x.2.2,T.1,T.2.1,T.2.2.1,T.2.2.2.1,T.2.2.2.2,nets,lines,B,am,bases,taxes,has,()))) ?_ ?_ f 0 _ ⟨by omega, ?_⟩ (by omega) (by omega)
 ·rintro i _ again hi ⟨_,rfl⟩ ih
  unfold rI
  dsimp only
  have hy:lines[i]? =some lines[i]:=aH hi
  have hm:=ham _ (afb hi)
  have hgd:lines.getD i 0=lines[i]:=by rw [List.getD_eq_getElem?_getD,hy];rfl
  have hs:=hsum i
  have hs1:=tv hy
  generalize lines[i]=y at hy hm hgd hs1
  rw [aE (by omega),aJ (by simp only [ad5,decide_eq_true_eq];omega),aeF,hy,Option.bind_some,aA (n:=(i:Int)+1) (by omega) (by omega)]
  by_cases hr:x.2.2=[]
  ·have hnone:cn (·.1) x.2.2 (ai v)=none:=by rw [hr];exact abV h0
   have hb:∀ j,Hz v x lines j=(lines.take j).sum:=fun j=>by unfold Hz;rw [hnone]
   rw [Ic (by simpa using hr),hb,aA (by omega) (by omega)]
   refine ih _ ⟨by omega, ?_⟩
   rw [hb,hs1]
   rfl
  ·rw [HW (by simpa using hr)]
   obtain ⟨k,hk⟩:=agt.1 (hx.resolve_left hr)
   have hb:∀ j,Hz v x lines j=if k<j then lines.getD k 0 else 0:=fun j=>by unfold Hz;rw [hk]
   by_cases hik:i=k
   ·subst hik
    rw [Ic (by rw [hk];simp [ixI]),hb,if_neg (by omega),aA (by omega) (by omega)]
    refine ih _ ⟨by omega, ?_⟩
    rw [hb,if_pos (by omega),hgd,Int.zero_add]
    rfl
   ·rw [HW (by rw [hk];simp [ixI];omega)]
    refine ih _ ⟨by omega, ?_⟩
    rw [hb,hb]
    by_cases h3:k<i
    ·rw [if_pos h3,if_pos (by omega)];rfl
    ·rw [if_neg h3,if_neg (by omega)];rfl
 ·rintro _ again ⟨_,rfl⟩
  unfold rI
  dsimp only
  rw [aF (by omega)]
  have e:Hz v x lines lines.length=o6 v lines x:=by
   unfold Hz o6
   cases hk:cn (·.1) x.2.2 (ai v) with
   | none=>dsimp only;rw [afP (af0 _)]
   | some k=>
    obtain ⟨r,hr,_⟩:=jG hk
    have:=(List.getElem?_eq_some_iff.1 hr).1
    dsimp only
    rw [if_pos (by omega)]
  rw [e]
 ·have e:Hz v x lines 0=0:=by
   unfold Hz
   cases cn (·.1) x.2.2 (ai v) with
   | none=>rfl
   | some k=>dsimp only;rw [if_neg (by omega)]
  rw [e]
  rfl
theorem acX (T:Int×Int×Int×Int×Int) (nets lines:List Int) (B:List (List Int)) (am taxes:List Int) {n:Nat} (hn:n≤20) (k d:Int) (b g:Nat→Int) (hs:Nat→Bool) (hb:∀ j,j<n→(b j).natAbs≤1000000000000000) (hg:∀ j,j<n→(g j).natAbs≤1000000000000000) (f:Nat) (hf:n<f):
 iter f ((k,d,(List.range n).map g,(List.range n).map g,(n:Int),(0:Int),T.1,T.2.1,T.2.2.1,T.2.2.2.1,T.2.2.2.2,nets,lines,B,am,(List.range n).map b,taxes,(List.range n).map hs,()):mG) mH=some (Sum.inr (d,(List.range n).map g,T.1,T.2.1,T.2.2.1,T.2.2.2.1,T.2.2.2.2,nets,lines,B,am,(List.range n).map (fun j=>b j+g j),taxes,(List.range n).map (fun j=>hs j||(g j != 0)||((j:Int)==k)),())):=by
 refine bn (Inv:=fun i X=>X=(k,d,(List.range n).map g,(List.range n).map g,(n:Int),(i:Int),T.1,T.2.1,T.2.2.1,T.2.2.2.1,T.2.2.2.2,nets,lines,B,am,(List.range n).map (fun j=>if j<i then b j+g j else b j),taxes,(List.range n).map (fun j=>if j<i then (hs j||(g j != 0)||((j:Int)==k)) else hs j),())) n (fun r=>r=some (Sum.inr (d,(List.range n).map g,T.1,T.2.1,T.2.2.1,T.2.2.2.1,T.2.2.2.2,nets,lines,B,am,(List.range n).map (fun j=>b j+g j),taxes,(List.range n).map (fun j=>hs j||(g j != 0)||((j:Int)==k)),()))) ?_ ?_ f 0 _ ?_ (by omega) (by omega)
 ·rintro i _ again hi rfl ih
  unfold mH
  dsimp only
  have hl1:∀ {β:Type} (g:Nat→β),((List.range n).map g).length=n:=fun g=>by simp
  have hg1:∀ {β:Type} (g:Nat→β),((List.range n).map g)[i]? =some (g i):=fun g=>by rw [List.getElem?_map,ae4 hi];rfl
  have h1:=hb i hi
  have h2:=hg i hi
  have s1:((List.range n).map (fun j=>if j<i then b j+g j else b j)).set i (b i+g i)=(List.range n).map (fun j=>if j<i+1 then b j+g j else b j):=by
   refine jf _ _ _ _ _ (fun j hj hji=> ?_) (by rw [if_pos (by omega)])
   by_cases h3:j<i
   ·rw [if_pos h3,if_pos (by omega)]
   ·rw [if_neg h3,if_neg (by omega)]
  have s2:∀ z:Bool,z=(hs i||(g i != 0)||((i:Int)==k))→((List.range n).map (fun j=>if j<i then (hs j||(g j != 0)||((j:Int)==k)) else hs j)).set i z=(List.range n).map (fun j=>if j<i+1 then (hs j||(g j != 0)||((j:Int)==k)) else hs j):=fun z hz=>by
   refine jf _ _ _ _ _ (fun j hj hji=> ?_) (by rw [if_pos (by omega),hz])
   by_cases h3:j<i
   ·rw [if_pos h3,if_pos (by omega)]
   ·rw [if_neg h3,if_neg (by omega)]
  rw [aE (by omega),bh,hg1,Option.bind_some]
  simp only [hl1]
  rw [aJ (by simp only [ad5,decide_eq_true_eq];omega)]
  simp only [aeF,hg1,Option.bind_some,if_neg (Nat.lt_irrefl i)]
  rw [aA (n:=(i:Int)+1) (by omega) (by omega),aA (by omega) (by omega)]
  simp only [aJ (b:=decide (0≤(i:Int))&&decide ((i:Int)<(n:Int))) (by simp only [ad5,decide_eq_true_eq];omega)]
  rw [s1]
  cases hh:hs i with
  | true=>
   rw [cond_true,s2 true (by rw [hh];rfl)]
   exact ih _ rfl
  | false=>
   rw [cond_false]
   by_cases h3:g i=0
   ·rw [HW (by rw [h3];rfl),s2 _ (by rw [hh,h3];rfl)]
    exact ih _ rfl
   ·rw [Ic (by simpa using h3),s2 true (by rw [hh,show (g i != 0)=true by simpa using h3];rfl)]
    exact ih _ rfl
 ·rintro _ again rfl
  unfold mH
  dsimp only
  rw [aF (by omega)]
  have e1:(List.range n).map (fun j=>if j<n then b j+g j else b j)=(List.range n).map (fun j=>b j+g j):=afm fun j hj=>by rw [if_pos (afz.1 hj)]
  have e2:(List.range n).map (fun j=>if j<n then (hs j||(g j != 0)||((j:Int)==k)) else hs j)=(List.range n).map (fun j=>hs j||(g j != 0)||((j:Int)==k)):=afm fun j hj=>by rw [if_pos (afz.1 hj)]
  rw [e1,e2]
 ·simp
theorem ab4 (T:Int×Int×Int×Int×Int) (nets lines:List Int) (B:List (List Int)) (am bases taxes:List Int) (has:List Bool) (d:Int) (m:List Int) (hl:bases.length≤1000) (f:Nat) (hf:bases.length<f):
 iter f ((d,m,(bases.length:Int),(0:Int),T.1,T.2.1,T.2.2.1,T.2.2.2.1,T.2.2.2.2,nets,lines,B,am,bases,taxes,has,()):mj) mJ=(if aV bases=true then some (Sum.inr (d,m,T.1,T.2.1,T.2.2.1,T.2.2.2.1,T.2.2.2.2,nets,lines,B,am,bases,taxes,has,())) else some (Sum.inl (1,(nets,lines,B,am,bases,taxes,has,(T.1,T.2.1,T.2.2.1,T.2.2.2.1,T.2.2.2.2),()),()))):=by
 refine bn (Inv:=fun i X=>(∀ z∈bases.take i,iC z=true)∧X=(d,m,(bases.length:Int),(i:Int),T.1,T.2.1,T.2.2.1,T.2.2.2.1,T.2.2.2.2,nets,lines,B,am,bases,taxes,has,())) bases.length (fun r=>r=(if aV bases=true then some (Sum.inr (d,m,T.1,T.2.1,T.2.2.1,T.2.2.2.1,T.2.2.2.2,nets,lines,B,am,bases,taxes,has,())) else some (Sum.inl (1,(nets,lines,B,am,bases,taxes,has,(T.1,T.2.1,T.2.2.1,T.2.2.2.1,T.2.2.2.2),()),())))) ?_ ?_ f 0 _ ⟨by simp,rfl⟩ (by omega) (by omega)
 ·rintro i _ again hi ⟨hle,rfl⟩ ih
  unfold mJ
  dsimp only
  have hy:bases[i]? =some bases[i]:=aH hi
  have hmem:bases[i]∈bases:=afb hi
  generalize bases[i]=y at hy hmem
  rw [aE (by omega),aJ (by simp only [ad5,decide_eq_true_eq];omega),aeF,hy,Option.bind_some,lN,Option.bind_some]
  dsimp only
  cases hz:iC y with
  | true=>
   rw [show decide (y.natAbs≤MU)=true from hz,Bool.not_true,cond_false,aA (by omega) (by omega)]
   refine ih _ ⟨fun z hz2=> ?_,rfl⟩
   rw [afM,hy] at hz2
   rcases afp.1 hz2 with hz2 | hz2
   ·exact hle z hz2
   ·rw [show z=y by simpa using hz2];exact hz
  | false=>
   rw [show decide (y.natAbs≤MU)=false from hz,aee,cond_true,if_neg]
   intro h
   have:=aeI.1 h y hmem
   rw [hz] at this
   cases this
 ·rintro _ again ⟨hle,rfl⟩
  unfold mJ
  dsimp only
  rw [afP (af0 _)] at hle
  rw [aF (by omega),if_pos (show aV bases=true from aeI.2 hle)]
end Go.Md
namespace Go.Md
open Go.Dn
def PS (v8:(Int×Int×(List Int)×Int×Int×Int×Int×Int×(List Int)×(List Int)×(List (List Int))×(List Int)×(List Int)×(List Int)×(List Bool)×Unit)):Option (Int×((List Int)×(List Int)×(List (List Int))×(List Int)×(List Int)×(List Int)×(List Bool)×(Int×Int×Int×Int×Int)×Unit)×Unit):=
 aP (β:=(Int×((List Int)×(List Int)×(List (List Int))×(List Int)×(List Int)×(List Int)×(List Bool)×(Int×Int×Int×Int×Int)×Unit)×Unit)) (γ:=(Int×(List Int)×Int×Int×Int×Int×Int×(List Int)×(List Int)×(List (List Int))×(List Int)×(List Int)×(List Int)×(List Bool)×Unit)) (
  iter (X:=mG) (β:=qx) (v8.1.natAbs+(v8.2.1.natAbs+(v8.2.2.1.length+(v8.2.2.1.length+(Int.natAbs ((v8.2.2.1.length:Int))+(Int.natAbs (0:Int)+(v8.2.2.2.1.natAbs+(v8.2.2.2.2.1.natAbs+(v8.2.2.2.2.2.1.natAbs+(v8.2.2.2.2.2.2.1.natAbs+(v8.2.2.2.2.2.2.2.1.natAbs+(v8.2.2.2.2.2.2.2.2.1.length+(v8.2.2.2.2.2.2.2.2.2.1.length+(v8.2.2.2.2.2.2.2.2.2.2.1.length+(v8.2.2.2.2.2.2.2.2.2.2.2.1.length+(v8.2.2.2.2.2.2.2.2.2.2.2.2.1.length+(v8.2.2.2.2.2.2.2.2.2.2.2.2.2.1.length+(v8.2.2.2.2.2.2.2.2.2.2.2.2.2.2.1.length+2)))))))))))))))))) (v8.1,v8.2.1,v8.2.2.1,v8.2.2.1,(v8.2.2.1.length:Int),0,v8.2.2.2.1,v8.2.2.2.2.1,v8.2.2.2.2.2.1,v8.2.2.2.2.2.2.1,v8.2.2.2.2.2.2.2.1,v8.2.2.2.2.2.2.2.2.1,v8.2.2.2.2.2.2.2.2.2.1,v8.2.2.2.2.2.2.2.2.2.2.1,v8.2.2.2.2.2.2.2.2.2.2.2.1,v8.2.2.2.2.2.2.2.2.2.2.2.2.1,v8.2.2.2.2.2.2.2.2.2.2.2.2.2.1,v8.2.2.2.2.2.2.2.2.2.2.2.2.2.2.1,()) (mH)) fun v17=>
 aP (β:=(Int×((List Int)×(List Int)×(List (List Int))×(List Int)×(List Int)×(List Int)×(List Bool)×(Int×Int×Int×Int×Int)×Unit)×Unit)) (γ:=(Int×(List Int)×Int×Int×Int×Int×Int×(List Int)×(List Int)×(List (List Int))×(List Int)×(List Int)×(List Int)×(List Bool)×Unit)) (
  iter (X:=mj) (β:=qw) (v17.1.natAbs+(v17.2.1.length+(Int.natAbs ((v17.2.2.2.2.2.2.2.2.2.2.2.1.length:Int))+(Int.natAbs (0:Int)+(v17.2.2.1.natAbs+(v17.2.2.2.1.natAbs+(v17.2.2.2.2.1.natAbs+(v17.2.2.2.2.2.1.natAbs+(v17.2.2.2.2.2.2.1.natAbs+(v17.2.2.2.2.2.2.2.1.length+(v17.2.2.2.2.2.2.2.2.1.length+(v17.2.2.2.2.2.2.2.2.2.1.length+(v17.2.2.2.2.2.2.2.2.2.2.1.length+(v17.2.2.2.2.2.2.2.2.2.2.2.1.length+(v17.2.2.2.2.2.2.2.2.2.2.2.2.1.length+(v17.2.2.2.2.2.2.2.2.2.2.2.2.2.1.length+2)))))))))))))))) (v17.1,v17.2.1,(v17.2.2.2.2.2.2.2.2.2.2.2.1.length:Int),0,v17.2.2.1,v17.2.2.2.1,v17.2.2.2.2.1,v17.2.2.2.2.2.1,v17.2.2.2.2.2.2.1,v17.2.2.2.2.2.2.2.1,v17.2.2.2.2.2.2.2.2.1,v17.2.2.2.2.2.2.2.2.2.1,v17.2.2.2.2.2.2.2.2.2.2.1,v17.2.2.2.2.2.2.2.2.2.2.2.1,v17.2.2.2.2.2.2.2.2.2.2.2.2.1,v17.2.2.2.2.2.2.2.2.2.2.2.2.2.1,()) (mJ)) fun v21=>
 chk (decide (((v21.2.2.2.2.2.2.2.2.2.2.1.length)+1)*8≤140737488355328)&&decide ((v21.2.2.2.2.2.2.2.2.2.2.1.length)+1≤maxLen)) <|
 chk (decide (((v21.2.2.2.2.2.2.2.2.2.1.length)+1)*24≤140737488355328)&&decide ((v21.2.2.2.2.2.2.2.2.2.1.length)+1≤maxLen)) <|
 some (0,(v21.2.2.2.2.2.2.2.1,v21.2.2.2.2.2.2.2.2.1,v21.2.2.2.2.2.2.2.2.2.1++[v21.2.1],v21.2.2.2.2.2.2.2.2.2.2.1++[v21.1],v21.2.2.2.2.2.2.2.2.2.2.2.1,v21.2.2.2.2.2.2.2.2.2.2.2.2.1,v21.2.2.2.2.2.2.2.2.2.2.2.2.2.1,(v21.2.2.1,v21.2.2.2.1,v21.2.2.2.2.1,v21.2.2.2.2.2.1,v21.2.2.2.2.2.2.1),()),())
theorem aaF (T:Int×Int×Int×Int×Int) (nets lines:List Int) (B:List (List Int)) (hB:B.length≤1000) (am taxes:List Int) (ham:am.length≤1000) {n:Nat} (hn:n≤20) (k d:Int) (b g:Nat→Int) (hs:Nat→Bool) (hb:∀ j,j<n→(b j).natAbs≤1000000000000000) (hg:∀ j,j<n→(g j).natAbs≤1000000000000000):
 PS (k,d,(List.range n).map g,T.1,T.2.1,T.2.2.1,T.2.2.2.1,T.2.2.2.2,nets,lines,B,am,(List.range n).map b,taxes,(List.range n).map hs,())=
  if aV ((List.range n).map (fun j=>b j+g j))=true then some (0,(nets,lines,B++[(List.range n).map g],am++[d],(List.range n).map (fun j=>b j+g j),taxes,(List.range n).map (fun j=>hs j||(g j != 0)||((j:Int)==k)),T,()),()) else some (1,(nets,lines,B,am,(List.range n).map (fun j=>b j+g j),taxes,(List.range n).map (fun j=>hs j||(g j != 0)||((j:Int)==k)),T,()),()):=by
 unfold PS
 dsimp only
 have hl1:∀ {β:Type} (g:Nat→β),((List.range n).map g).length=n:=fun g=>by simp
 rw [hl1 g,acX T nets lines B am taxes hn k d b g hs hb hg _ (by repeat (with_reducible first | exact ago | apply qV | apply mM)),aG]
 dsimp only
 rw [ab4 T nets lines B am _ taxes _ d _ (by rw [hl1];omega) _ (by repeat (with_reducible first | exact ago | apply qV | apply mM))]
 by_cases h:aV ((List.range n).map (fun j=>b j+g j))=true
 ·rw [if_pos h,if_pos h,aG]
  dsimp only
  rw [aJ (fY (by omega) (by omega)),aJ (fY (by omega) (by omega))]
 ·rw [if_neg h,if_neg h,eV]
theorem ada (way:Int) (pc:ak):∀ (l:List Int) (i k:Nat),iF way pc (i+k) (di i l)=iT way (l.getD k 0) pc:=by
 have hz:iT way 0 pc=0:=by
  unfold iT
  rw [aeG,XP (by have:=agk (n:=pc.2.toNat) (show 0<10 by omega);omega)]
 have lo:∀ (l:List Int) (j i:Nat),i<j→iF way pc i (di j l)=0:=by
  intro l
  induction l with
  | nil=>intro j i h;rfl
  | cons y l ih=>
   intro j i h
   simp only [di]
   split
   ·exact ih _ _ (by omega)
   ·simp only [iF,ih (j+1) i (by omega)];simp;omega
 intro l
 induction l with
 | nil=>intro i k;simp [di,iF,hz]
 | cons x l ih=>
  intro i k
  simp only [di]
  cases k with
  | zero=>
   split
   ·rename_i hx;rw [afT,lo _ _ _ (by omega)];simp [hx,hz]
   ·simp only [iF,afT,lo l (i+1) i (by omega)];simp
  | succ k=>
   have ih:=ih (i+1) k
   rw [show i+1+k=i+(k+1) by omega] at ih
   split
   ·rw [ih];simp
   ·simp only [iF,ih];simp
theorem abZ:∀ (l:List Int) (i k:Nat),((di i l).map (·.1)).contains (i+k)=(l.getD k 0 != 0)
 | [],i,k=>by simp [di]
 | x::l,i,k=>by
  have lo:∀ (l:List Int) (j i:Nat),i<j→((di j l).map (·.1)).contains i=false:=by
   intro l j i h
   cases hc:((di j l).map (·.1)).contains i with
   | false=>rfl
   | true=>
    obtain ⟨p,hp,rfl⟩:=afw.1 (List.contains_iff_mem.1 hc)
    have:=(Mn l j p hp).1
    omega
  simp only [di]
  cases k with
  | zero=>
   by_cases hx:x=0
   ·rw [if_pos hx,afT,lo _ _ _ (by omega)];simp [hx]
   ·rw [if_neg hx];simp [hx]
  | succ k=>
   have ih:=abZ l (i+1) k
   rw [show i+1+k=i+(k+1) by omega] at ih
   by_cases hx:x=0
   ·rw [if_pos hx,ih];simp
   ·rw [if_neg hx,afn,List.contains_cons,ih];simp
end Go.Md
namespace Go.Md
open Go.Dn
abbrev RSh:Type:=(List Int)×(List Int)×(List (List Int))×(List Int)×(List Int)×(List Int)×(List Bool)×(Int×Int×Int×Int×Int)×Unit
structure QOk (n:Nat) (q:Br):Prop where
 le:∀ i,i<n→(atB q i).natAbs≤1000000000000000
 tax:∀ way pc k,iF way pc k q=iT way (atB q k) pc
def MD (v:ah) (nets lines:List Int) (B:List (List Int)) (am taxes:List Int) (T:Int×Int×Int×Int×Int) (br:Br) (fl:List Nat) (x:av) (R:Option (Int×RSh×Unit)):Prop:=
 (∃ f y,f≠0∧ck v lines [x] (br,fl,am)= .inl f∧R=some (f,y,()))∨
 (∃ d q qf,QOk (ai v).length q∧aV (az (ai v).length (br++q))=true∧ck v lines [x] (br,fl,am)= .inr (br++q,fl++qf,am++[d])∧
   R=some (0,(nets,lines,B++[az (ai v).length q],am++[d],az (ai v).length (br++q),taxes,bN (ai v).length (fl++qf),T,()),()))
theorem acP {n:Nat} {br:Br} (h:aV (az n br)=true) {i:Nat} (hi:i<n):(atB br i).natAbs≤1000000000000000:=by
 have:=gx.1 (aeI.1 h _ (List.mem_of_getElem? (fW br hi)))
 have hMU:=oc
 omega
theorem OB {v:ah} (nets lines:List Int) (B:List (List Int)) (hB:B.length≤1000) (am taxes:List Int) (ham:am.length≤1000) (hn:(ai v).length≤20) (T:Int×Int×Int×Int×Int) {br:Br} (hbr:aV (az (ai v).length br)=true) (fl:List Nat) {x:av} {d K:Int} {q:Br} {qf:List Nat}
 (hq:xT v lines x= .inr (d,q,qf)) (hok:QOk (ai v).length q) (hh:∀ i,i<(ai v).length→qf.contains i=((atB q i != 0)||((i:Int)==K))):
 MD v nets lines B am taxes T br fl x (PS (K,d,az (ai v).length q,T.1,T.2.1,T.2.2.1,T.2.2.2.1,T.2.2.2.2,nets,lines,B,am,az (ai v).length br,taxes,bN (ai v).length fl,())):=by
 have e:=aaF T nets lines B hB am taxes ham hn K d (atB br) (atB q) (fun j=>fl.contains j) (fun j hj=>acP hbr hj) hok.le
 have eb:(List.range (ai v).length).map (fun j=>atB br j+atB q j)=az (ai v).length (br++q):=by
  unfold az
  exact afm fun j _=>(Hv br q j).symm
 have eh:(List.range (ai v).length).map (fun j=>fl.contains j||(atB q j != 0)||((j:Int)==K))=bN (ai v).length (fl++qf):=by
  unfold bN
  refine afm fun j hj=> ?_
  have h1:=hh j (afz.1 hj)
  rw [show (fl++qf).contains j=(fl.contains j||qf.contains j) by simp,h1,Bool.or_assoc]
 rw [eb,eh] at e
 unfold MD
 rw [show az (ai v).length q=(List.range (ai v).length).map (atB q) from rfl,show az (ai v).length br=(List.range (ai v).length).map (atB br) from rfl,show bN (ai v).length fl=(List.range (ai v).length).map (fun j=>fl.contains j) from rfl,e]
 cases ha:aV (az (ai v).length (br++q)) with
 | true=>
  rw [if_pos rfl]
  refine .inr ⟨d,q,qf,hok,ha, ?_,rfl⟩
  simp only [ck,hq,ha,cond_true]
 | false=>
  rw [if_neg ad9]
  refine .inl ⟨1,_,by omega, ?_,rfl⟩
  simp only [ck,hq,ha,cond_false]
theorem QOk.one {n:Nat} {k:Nat} {d:Int} (hd:d.natAbs≤1000000000000000):QOk n [(k,d)]:=by
 refine ⟨fun i _=> ?_,fun way pc j=> ?_⟩
 ·simp only [atB];split<;>omega
 ·simp only [atB,iF]
  by_cases h:k=j
  ·rw [if_pos h,if_pos h];simp
  ·rw [if_neg h,if_neg h]
   unfold iT
   rw [Int.zero_add,aeG,XP (by have:=agk (n:=pc.2.toNat) (show 0<10 by omega);omega)]
theorem Vr {n k:Nat} {d:Int} (hk:k<n):(List.replicate n (0:Int)).set k d=az n [(k,d)]:=by
 apply aeW
 intro i
 by_cases hi:i<n
 ·rw [fW _ hi]
  by_cases e:k=i
  ·subst e
   rw [ae8 (by simpa using hk)];simp [atB]
  ·rw [ae7 e,ae5,if_pos hi];simp [atB,e]
 ·rw [ae3 (by simp;omega),ae3 (by rw [cg];omega)]
theorem acA (l:List Int):az l.length (di 0 l)=l:=by
 apply aeW
 intro i
 by_cases hi:i<l.length
 ·rw [fW _ hi]
  have:=HZ l 0 i
  rw [agm] at this
  rw [this,List.getD_eq_getElem?_getD,List.getElem?_eq_getElem hi];rfl
 ·rw [ae3 (by rw [cg];omega),ae3 (by omega)]
theorem XZ {v:ah} (h0:iq v=0) (T:Int×Int×Int×Int×Int) (nets lines:List Int) (hll:lines.length=(ai v).length) (hal:aV lines=true) (B:List (List Int)) (hB:B.length≤1000) (am taxes:List Int) (ham:am.length≤1000)
 {br:Br} (hbr:aV (az (ai v).length br)=true) (fl:List Nat) {x:av} (hx:x∈bT v):
 MD v nets lines B am taxes T br fl x (wo (nets,lines,B,am,az (ai v).length br,taxes,bN (ai v).length fl,T,()) v x):=by
 have hv:=jM h0
 have hn1:0<(ai v).length:=hv.rn.1
 have hn2:(ai v).length≤20:=hv.rn.2
 have hpl:=hv.pl
 have hMU:=oc
 obtain ⟨hx1,_,hx3⟩:=(rO hv.ext).2 x hx
 unfold wo
 rw [Au v x.2.2 (by show (ai v).length<_;omega),Option.bind_some]
 dsimp only
 rw [acC T nets lines B am (az (ai v).length br) taxes (bN (ai v).length fl) h0 hx3 hll hal _ (by repeat (with_reducible first | exact ago | apply qV | apply mM)),aG]
 dsimp only
 have hbase:(o6 v lines x).natAbs≤9000000000000000000:=by
  have ham2:∀ b∈lines,b.natAbs≤1000000000000000:=fun b hb=>by
   have:=gx.1 (aeI.1 hal b hb)
   omega
  unfold o6
  cases cn (·.1) x.2.2 (ai v) with
  | some k=>
   dsimp only
   rw [List.getD_eq_getElem?_getD]
   cases hk:lines[k]? with
   | none=>simp
   | some z=>have:=ham2 z (List.mem_of_getElem? hk);simp;omega
  | none=>
   dsimp only
   have key:∀ l:List Int,(∀ b∈l,b.natAbs≤1000000000000000)→l.sum.natAbs≤l.length*1000000000000000:=by
    intro l
    induction l with
    | nil=>intro _;simp
    | cons y l ih=>
     intro h
     have h1:=ih fun b hb=>h b (afr _ hb)
     have h2:=h y afs
     simp only [afL,afd,afS,agh];omega
   have h1:=key lines ham2
   have h2:lines.length*1000000000000000≤20*1000000000000000:=age _ (by omega)
   omega
 rw [show (v.1,v.2.1,v.2.2.1,v.2.2.2.1,v.2.2.2.2.1,v.2.2.2.2.2.1,v.2.2.2.2.2.2.1,v.2.2.2.2.2.2.2.1,v.2.2.2.2.2.2.2.2)=v from rfl,show (x.1,(x.2.1.1,x.2.1.2),x.2.2)=x from rfl,NQ v x _ hpl hx1 hbase,Option.bind_some]
 have hbF:xT v lines x=ry (cn (·.1) x.2.2 (ai v)) (gj v.2.2.2.2.1 v.2.2.2.1 (o6 v lines x) x) lines:=rfl
 generalize gj v.2.2.2.2.1 v.2.2.2.1 (o6 v lines x) x=d at hbF ⊢
 by_cases hd:(d.natAbs:Int)≤MU
 ·rw [if_pos hd]
  dsimp only
  have hda:iC d=true:=gx.2 hd
  have hd2:d.natAbs≤1000000000000000:=by omega
  rw [Bool.not_true,cond_false,aJ (by simp only [ad5,decide_eq_true_eq];omega)]
  by_cases hr:x.2.2=[]
  ·have hnone:cn (·.1) x.2.2 (ai v)=none:=by rw [hr];exact abV h0
   rw [hnone] at hbF ⊢
   rw [Ic (by simpa using hr),V0 d hd2 lines ⟨by omega,by omega⟩ hal,Option.bind_some]
   unfold ry at hbF
   rw [hda,cond_true] at hbF
   dsimp only at hbF
   by_cases hany:(lines.any fun b=>decide (MW<b.natAbs))=true
   ·rw [if_pos hany]
    dsimp only
    rw [show ((2:Int) != 0)=true from rfl,cond_true,eV]
    refine .inl ⟨2,_,by omega, ?_,rfl⟩
    have hz:(lines.all fun b=>b==0)=false:=by
     obtain ⟨b,hb,hgt⟩:=aeK.1 hany
     cases hc:lines.all fun b=>b==0 with
     | false=>rfl
     | true=>
      have:=aeI.1 hc b hb
      rw [agz] at this
      rw [decide_eq_true_eq,this] at hgt
      omega
    rw [hz,cond_false,hany,cond_true] at hbF
    simp only [ck,hbF]
   ·rw [if_neg hany]
    dsimp only
    rw [show ((0:Int) != 0)=false from rfl,cond_false,aG]
    have hany2:(lines.any fun b=>decide (MW<b.natAbs))=false:=by simpa using hany
    cases hz:lines.all fun b=>b==0 with
    | true=>
     rw [hz,cond_true] at hbF
     have e:Eo d lines=az (ai v).length [(0,d)]:=by
      unfold Eo
      rw [if_pos ((I5 lines).2 hz),hll]
      exact Vr hn1
     rw [e]
     refine OB nets lines B hB am taxes ham hn2 T hbr fl hbF (QOk.one hd2) (fun i hi=> ?_)
     simp only [atB,ixI]
     by_cases hd0:d=0
     ·subst hd0
      rw [show (bif (0:Int)==0 then ([]:List Nat) else [0])=[] from rfl]
      have:((i:Int)== -1)=false:=agy.2 (by omega)
      simp [this]
     ·rw [HW (show (d==0)=false by simpa using hd0)]
      have:((i:Int)== -1)=false:=agy.2 (by omega)
      rw [this,aeh]
      by_cases h3:i=0
      ·subst h3;simp [hd0]
      ·simp [h3,Ne.symm h3]
    | false=>
     rw [hz,cond_false,hany2,cond_false] at hbF
     have hne:¬ (lines.map Int.natAbs).sum=0:=fun h=>by rw [(I5 lines).1 h] at hz;cases hz
     have hlen:(b8 d (lines.map Int.natAbs)).length=(ai v).length:=by rw [EG,afe,hll]
     have hle:∀ y∈b8 d (lines.map Int.natAbs),y.natAbs≤d.natAbs:=fun y hy=>M0 (by omega) hy
     have e:Eo d lines=az (ai v).length (di 0 (b8 d (lines.map Int.natAbs))):=by
      unfold Eo
      rw [if_neg hne, ← hlen,acA]
     rw [e]
     refine OB nets lines B hB am taxes ham hn2 T hbr fl hbF ⟨fun i hi=> ?_,fun way pc k=> ?_⟩ (fun i hi=> ?_)
     ·have:=HZ (b8 d (lines.map Int.natAbs)) 0 i
      rw [agm] at this
      rw [this,List.getD_eq_getElem?_getD]
      cases hy:(b8 d (lines.map Int.natAbs))[i]? with
      | none=>simp
      | some y=>have:=hle y (List.mem_of_getElem? hy);simp;omega
     ·have h1:=ada way pc (b8 d (lines.map Int.natAbs)) 0 k
      have h2:=HZ (b8 d (lines.map Int.natAbs)) 0 k
      rw [agm] at h1 h2
      rw [h1,h2]
     ·have h1:=abZ (b8 d (lines.map Int.natAbs)) 0 i
      have h2:=HZ (b8 d (lines.map Int.natAbs)) 0 i
      rw [agm] at h1 h2
      have:((i:Int)==ixI none)=false:=agy.2 (by simp only [ixI];omega)
      rw [h1,h2,this,aeh]
  ·obtain ⟨k,hk⟩:=agt.1 (hx3.resolve_left hr)
   obtain ⟨r,hkr,_⟩:=jG hk
   have hkn:k<(ai v).length:=(List.getElem?_eq_some_iff.1 hkr).1
   have hk':cn (·.1) x.2.2 (ai v)=some k:=hk
   rw [hk'] at hbF ⊢
   rw [HW (by simpa using hr)]
   have hl2:(List.replicate (Int.toNat (lines.length:Int)) (0:Int)).length=(ai v).length:=by simp [hll]
   have hg:(List.replicate (Int.toNat (lines.length:Int)) (0:Int))[k]? =some 0:=by rw [ae5,if_pos (by rw [aeF];omega)]
   simp only [ixI]
   rw [aJ (by rw [hl2];exact Bool.and_eq_true_iff.2 ⟨agE (by omega),agE (by omega)⟩),aeF (n:=k),hg,Option.bind_some,aG]
   have e:(List.replicate (Int.toNat (lines.length:Int)) (0:Int)).set k d=az (ai v).length [(k,d)]:=by
    rw [aeF,hll]
    exact Vr hkn
   rw [e]
   unfold ry at hbF
   rw [hda,cond_true] at hbF
   refine OB nets lines B hB am taxes ham hn2 T hbr fl hbF (QOk.one hd2) (fun i hi=> ?_)
   simp only [atB]
   by_cases h3:i=k
   ·subst h3;simp
   ·have h4:((i:Int)==(k:Int))=false:=agy.2 (by omega)
    rw [h4]
    simp [h3,Ne.symm h3]
 ·rw [if_neg hd]
  dsimp only
  rw [aee,cond_true]
  refine .inl ⟨1,_,by omega, ?_,rfl⟩
  have hda:iC d=false:=by
   cases h:iC d with
   | false=>rfl
   | true=>exact absurd (gx.1 h) hd
  unfold ry at hbF
  rw [hda,cond_false] at hbF
  simp only [ck,hbF]
end Go.Md
namespace Go.Md
open Go.Dn
theorem aaO {way:Int} {neg:Bool} {q b:Nat} (hb:0<b):Ew way neg q 0 b=false:=by
 unfold Ew
 split
 ·exact agD (by omega)
 split
 ·exact agD (by omega)
 split
 ·exact agD (by omega)
 split
 ·rw [agD (by omega),ad6]
 split
 ·rw [agD (by omega),ad6]
 rfl
theorem aby {way a:Int} {b m:Nat} (hb:0<b) (h:a.natAbs≤m*b):(rnd way a b).natAbs≤m:=by
 unfold rnd
 dsimp only
 have h1:=Nat.div_add_mod a.natAbs b
 have hr:=agb a.natAbs hb
 have hq:a.natAbs / b≤m:=Nat.div_le_of_le_mul (by rw [agc];exact h)
 by_cases h0:a.natAbs % b=0
 ·rw [h0,aaO hb]
  rw [if_neg ad9]
  clear h1 hr h0
  generalize a.natAbs / b=q at hq ⊢
  split<;>omega
 ·have hlt:a.natAbs / b<m:=by
   rw [Nat.div_lt_iff_lt_mul hb]
   refine Nat.lt_of_le_of_ne h fun e=>h0 ?_
   rw [e]
   exact Nat.mul_mod_left m b
  generalize Ew way (decide (a<0)) (a.natAbs / b) (a.natAbs % b) b=up
  clear h1 hr h0 hq h
  generalize a.natAbs / b=q at hlt ⊢
  split<;>split<;>omega
theorem yu {way n:Int} {d:ak} (h:inR d 0 100 9=true):(iT way n d).natAbs≤n.natAbs:=by
 unfold inR at h
 rw [decide_eq_true_eq] at h
 obtain ⟨_,_,h1,h2⟩:=h
 unfold iT
 have hp:0<10 ^ d.2.toNat:=agk (by omega)
 refine aby (by omega) ?_
 rw [Int.natAbs_mul]
 refine agd _ ?_
 have e:(100:Int)*10 ^ d.2.toNat=((100*10 ^ d.2.toNat:Nat):Int):=by push_cast;rfl
 rw [e] at h2
 rw [aeG] at h1
 omega
theorem zg (v:ah) {n:Int} {d:ak} (h:inR d 0 100 9=true) (hn:n.natAbs≤1000000000000000):pG v n d=some (iT v.2.2.2.2.1 n d,true,()):=by
 have hd:b6 d:=by
  unfold inR at h
  rw [decide_eq_true_eq] at h
  exact h.1
 have hs:=yu (way:=v.2.2.2.2.1) (n:=n) h
 have hMU:=oc
 rw [L6 v n d hd (by omega),if_pos (by omega)]
end Go.Md
namespace Go.Md
open Go.Dn
theorem WR {v:ah} (hv:lf v) {k:Nat} (hk:k<(ai v).length):∃ r:aD,(ai v)[k]? =some r∧r.2=nV v k∧inR r.2 0 100 9=true:=by
 have hr:(ai v)[k]? =some (ai v)[k]:=aH hk
 exact ⟨_,hr,(Sx hr).symm,hv.rates _ (afb hk)⟩
theorem Mi {way:Int} {pc:ak} (hp:inR pc 0 100 9=true) (k:Nat):∀ {b:Br},(∀ p∈b,p.2.natAbs≤1000000000000000)→(iF way pc k b).natAbs≤b.length*1000000000000000
 | [],_=>by simp [iF]
 | p::b,h=>by
  have h1:=Mi (way:=way) hp k (b:=b) fun q hq=>h q (afr _ hq)
  have h2:=h p afs
  have h3:=yu (way:=way) (n:=p.2) hp
  simp only [iF,afd,afS,agh]
  split<;>omega
theorem aci {v:ah} (h0:iq v=0) (T:Int×Int×Int×Int×Int) (lines:List Int) {lb:Br} (hlb:cz v (bu v)=some lb) (qs:List Br) (am bases taxes:List Int) (has:List Bool) {k:Nat} (hk:k<(ai v).length) (f:Nat) (hf:(bu v).length<f):
 iter f (((k:Int),(0:Int),bu v,((bu v).length:Int),(0:Int),v.1,v.2.1,v.2.2.1,v.2.2.2.1,v.2.2.2.2.1,v.2.2.2.2.2.1,v.2.2.2.2.2.2.1,v.2.2.2.2.2.2.2.1,v.2.2.2.2.2.2.2.2,T.1,T.2.1,T.2.2.1,T.2.2.2.1,T.2.2.2.2,lb.map (·.2),lines,qs.map (az (ai v).length),am,bases,taxes,has,()):uo) uQ=some (Sum.inr ((k:Int),iF (iE v) (nV v k) k lb,v.1,v.2.1,v.2.2.1,v.2.2.2.1,v.2.2.2.2.1,v.2.2.2.2.2.1,v.2.2.2.2.2.2.1,v.2.2.2.2.2.2.2.1,v.2.2.2.2.2.2.2.2,T.1,T.2.1,T.2.2.1,T.2.2.2.1,T.2.2.2.2,lb.map (·.2),lines,qs.map (az (ai v).length),am,bases,taxes,has,())):=by
 have hv:=jM h0
 have hln:(bu v).length≤500:=hv.ln.2
 have hMU:=oc
 obtain ⟨b1,b2,b3⟩:=Bh hv (fun x hx=>hx) hlb
 obtain ⟨r,hr,hr2,hr3⟩:=WR hv hk
 have ham:∀ p∈lb,p.2.natAbs≤1000000000000000:=fun p hp=>by have:=b1.am p hp;omega
 refine bn (Inv:=fun i X=>X=((k:Int),iF (iE v) (nV v k) k (lb.take i),bu v,((bu v).length:Int),(i:Int),v.1,v.2.1,v.2.2.1,v.2.2.2.1,v.2.2.2.2.1,v.2.2.2.2.2.1,v.2.2.2.2.2.2.1,v.2.2.2.2.2.2.2.1,v.2.2.2.2.2.2.2.2,T.1,T.2.1,T.2.2.1,T.2.2.2.1,T.2.2.2.2,lb.map (·.2),lines,qs.map (az (ai v).length),am,bases,taxes,has,())) (bu v).length (fun r=>r=some (Sum.inr ((k:Int),iF (iE v) (nV v k) k lb,v.1,v.2.1,v.2.2.1,v.2.2.2.1,v.2.2.2.2.1,v.2.2.2.2.2.1,v.2.2.2.2.2.2.1,v.2.2.2.2.2.2.2.1,v.2.2.2.2.2.2.2.2,T.1,T.2.1,T.2.2.1,T.2.2.2.1,T.2.2.2.2,lb.map (·.2),lines,qs.map (az (ai v).length),am,bases,taxes,has,()))) ?_ ?_ f 0 _ rfl (by omega) (by omega)
 ·rintro i _ again hi rfl ih
  unfold uQ
  dsimp only
  have hy:(bu v)[i]? =some (bu v)[i]:=aH hi
  have hx:=hv.lines _ (afb hi)
  have hp:lb[i]? =some (lb[i]'(by omega)):=aH (by omega)
  have hpm:(lb[i]'(by omega))∈lb:=afb _
  generalize (lb[i]'(by omega))=p at hp hpm
  have h3:=b3 i _ p hy hp
  have hx':zx v.2.2.2.1 v.2.2.2.2.2.2.1 (bu v)[i]:=hx
  generalize (bu v)[i]=y at hy hx' h3
  have hpam:=ham p hpm
  have hrr:v.2.2.2.2.2.2.1[k]? =some r:=hr
  have htk:lb.take (i+1)=lb.take i++[p]:=by rw [afM,hp];rfl
  have hb:=Mi (way:=iE v) hr3 k (b:=lb.take i) (fun q hq=>ham q (afx hq))
  have hbl:(lb.take i).length*1000000000000000≤500*1000000000000000:=age _ (by rw [afk];omega)
  have hps:=yu (way:=iE v) (n:=p.2) hr3
  rw [hr2] at hb hps
  rw [aE (by omega),bh,hy,Option.bind_some,bh,hrr,Option.bind_some,aA (n:=(i:Int)+1) (by omega) (by omega)]
  obtain ⟨j,hj⟩:=agt.1 hx'.rate
  have hpj:p.1=j:=by
   rw [h3.2]
   unfold M7
   rw [show cn (·.1) y.2.2.2.2.2.2.2.2 (ai v)=some j from hj]
   rfl
  by_cases he:y.2.2.2.2.2.2.2.2=r.1
  ·have hjk:j=k:=by
    have:=ZN hv.asc hrr he.symm
    rw [hj] at this
    exact Option.some.inj this
   rw [Ic (by simpa using he)]
   have hnl:(lb.map (·.2)).length=lb.length:=by simp
   have hnp:(lb.map (·.2))[i]? =some p.2:=by rw [List.getElem?_map,hp];rfl
   rw [hnl,aJ (by simp only [ad5,decide_eq_true_eq];omega),aeF,hnp,Option.bind_some,Option.bind_some]
   rw [show (v.1,v.2.1,v.2.2.1,v.2.2.2.1,v.2.2.2.2.1,v.2.2.2.2.2.1,v.2.2.2.2.2.2.1,v.2.2.2.2.2.2.2.1,v.2.2.2.2.2.2.2.2)=v from rfl,zg v hr3 hpam,Option.bind_some,hr2,show iT v.2.2.2.2.1 p.2 (nV v k)=iT (iE v) p.2 (nV v k) from rfl]
   dsimp only
   rw [aA (by omega) (by omega)]
   refine ih _ ?_
   rw [htk,nq]
   simp only [iF]
   rw [if_pos (by omega),ael]
   rfl
  ·have hjk:j≠k:=fun e=>he (by
    obtain ⟨r',h1,h2⟩:=jG hj
    rw [e,hrr] at h1
    cases h1
    exact h2.symm)
   rw [HW (by simpa using he)]
   refine ih _ ?_
   rw [htk,nq]
   simp only [iF]
   rw [if_neg (by omega),ael,ael]
   rfl
 ·rintro _ again rfl
  unfold uQ
  dsimp only
  rw [aF (by omega),afP (by omega)]
theorem acd {v:ah} (h0:iq v=0) (T:Int×Int×Int×Int×Int) (lines:List Int) {lb:Br} (hlb:cz v (bu v)=some lb) (qs:List Br) (am bases taxes:List Int) (has:List Bool) {k:Nat} (hk:k<(ai v).length) (hqs:∀ q∈qs,QOk (ai v).length q) (hql:qs.length≤1000) (f:Nat) (hf:qs.length<f):
 iter f (((k:Int),iF (iE v) (nV v k) k lb,(qs.length:Int),(0:Int),v.1,v.2.1,v.2.2.1,v.2.2.2.1,v.2.2.2.2.1,v.2.2.2.2.2.1,v.2.2.2.2.2.2.1,v.2.2.2.2.2.2.2.1,v.2.2.2.2.2.2.2.2,T.1,T.2.1,T.2.2.1,T.2.2.2.1,T.2.2.2.2,lb.map (·.2),lines,qs.map (az (ai v).length),am,bases,taxes,has,()):sS) sI=some (Sum.inr (iF (iE v) (nV v k) k (lb++qs.flatten),T.1,T.2.1,T.2.2.1,T.2.2.2.1,T.2.2.2.2,lb.map (·.2),lines,qs.map (az (ai v).length),am,bases,taxes,has,())):=by
 have hv:=jM h0
 have hln:(bu v).length≤500:=hv.ln.2
 have hMU:=oc
 obtain ⟨b1,b2,b3⟩:=Bh hv (fun x hx=>hx) hlb
 obtain ⟨r,hr,hr2,hr3⟩:=WR hv hk
 have ham:∀ p∈lb,p.2.natAbs≤1000000000000000:=fun p hp=>by have:=b1.am p hp;omega
 have hb0:=Mi (way:=iE v) hr3 k (b:=lb) ham
 have hbl0:lb.length*1000000000000000≤500*1000000000000000:=age _ (by omega)
 have hsum:∀ l:List Br,(∀ q∈l,QOk (ai v).length q)→(iF (iE v) r.2 k l.flatten).natAbs≤l.length*1000000000000000:=by
  intro l
  induction l with
  | nil=>intro _;simp [iF]
  | cons q l ih=>
   intro h
   have h1:=ih fun x hx=>h x (afr _ hx)
   have hq:=h q afs
   have h2:=hq.le k hk
   have h3:=yu (way:=iE v) (n:=atB q k) hr3
   rw [List.flatten_cons,nq,hq.tax]
   simp only [afd,afS,agh]
   omega
 refine bn (Inv:=fun i X=>X=((k:Int),iF (iE v) (nV v k) k (lb++(qs.take i).flatten),(qs.length:Int),(i:Int),v.1,v.2.1,v.2.2.1,v.2.2.2.1,v.2.2.2.2.1,v.2.2.2.2.2.1,v.2.2.2.2.2.2.1,v.2.2.2.2.2.2.2.1,v.2.2.2.2.2.2.2.2,T.1,T.2.1,T.2.2.1,T.2.2.2.1,T.2.2.2.2,lb.map (·.2),lines,qs.map (az (ai v).length),am,bases,taxes,has,())) qs.length (fun r=>r=some (Sum.inr (iF (iE v) (nV v k) k (lb++qs.flatten),T.1,T.2.1,T.2.2.1,T.2.2.2.1,T.2.2.2.2,lb.map (·.2),lines,qs.map (az (ai v).length),am,bases,taxes,has,()))) ?_ ?_ f 0 _ (by simp) (by omega) (by omega)
 ·rintro i _ again hi rfl ih
  unfold sI
  dsimp only
  have hq:qs[i]? =some qs[i]:=aH hi
  have hqm:qs[i]∈qs:=afb hi
  generalize qs[i]=q at hq hqm
  have hok:=hqs q hqm
  have hrr:v.2.2.2.2.2.2.1[k]? =some r:=hr
  have hml:(qs.map (az (ai v).length)).length=qs.length:=by simp
  have hmq:(qs.map (az (ai v).length))[i]? =some (az (ai v).length q):=by rw [List.getElem?_map,hq];rfl
  have h2:=hok.le k hk
  have h3:=yu (way:=iE v) (n:=atB q k) hr3
  have h4:=hsum (qs.take i) (fun x hx=>hqs x (afx hx))
  have h5:(qs.take i).length*1000000000000000≤1000*1000000000000000:=age _ (by rw [afk];omega)
  rw [aE (by omega),hml,aJ (by simp only [ad5,decide_eq_true_eq];omega),aeF,hmq,Option.bind_some,bh,fW _ hk,Option.bind_some,bh,hrr,Option.bind_some]
  rw [show (v.1,v.2.1,v.2.2.1,v.2.2.2.1,v.2.2.2.2.1,v.2.2.2.2.2.1,v.2.2.2.2.2.2.1,v.2.2.2.2.2.2.2.1,v.2.2.2.2.2.2.2.2)=v from rfl,zg v hr3 h2,Option.bind_some,show iT v.2.2.2.2.1 (atB q k) r.2=iT (iE v) (atB q k) r.2 from rfl]
  dsimp only
  rw [hr2] at h3 h4 hb0 ⊢
  rw [nq,aA (n:=(i:Int)+1) (by omega) (by omega),aA (by omega) (by omega)]
  refine ih _ ?_
  have htk:(qs.take (i+1)).flatten=(qs.take i).flatten++q:=by rw [afM,hq,List.flatten_append];simp
  rw [htk,nq,nq,hok.tax, ← Int.add_assoc]
  rfl
 ·rintro _ again rfl
  unfold sI
  dsimp only
  rw [aF (by omega),afP (af0 _)]
end Go.Md
namespace Go.Md
open Go.Dn
theorem aai {v:ah} (h0:iq v=0) (T:Int×Int×Int×Int×Int) (lines:List Int) {lb:Br} (hlb:cz v (bu v)=some lb) (qs:List Br) (am taxes:List Int) (has:List Bool) {k:Nat} (hk:k<(ai v).length)
 (hqs:∀ q∈qs,QOk (ai v).length q) (hql:qs.length≤1000) (hbr:aV (az (ai v).length (lb++qs.flatten))=true):
 Az (lb.map (·.2),lines,qs.map (az (ai v).length),am,az (ai v).length (lb++qs.flatten),taxes,has,T,()) v (k:Int)=
  some (tN v (lb++qs.flatten) k,iC (tN v (lb++qs.flatten) k),(lb.map (·.2),lines,qs.map (az (ai v).length),am,az (ai v).length (lb++qs.flatten),taxes,has,T,()),()):=by
 have hv:=jM h0
 have hMU:=oc
 obtain ⟨r,hr,hr2,hr3⟩:=WR hv hk
 have hrr:v.2.2.2.2.2.2.1[k]? =some r:=hr
 have hbk:=acP hbr hk
 unfold Az tN
 dsimp only
 cases hp:v.2.2.2.2.2.1 with
 | false=>
  have hn:¬ C6 v=true:=by show ¬ v.2.2.2.2.2.1=true;rw [hp];exact ad9
  rw [aee,cond_true,cg,aJ (by simp only [ad5,decide_eq_true_eq];omega),aeF,fW _ hk,Option.bind_some,bh,hrr,Option.bind_some,zg v hr3 hbk,Option.bind_some,if_neg hn,hr2]
  have h3:=yu (way:=iE v) (n:=atB (lb++qs.flatten) k) hr3
  rw [hr2] at h3
  have ha:iC (iT (iE v) (atB (lb++qs.flatten) k) (nV v k))=true:=gx.2 (by omega)
  rw [ha]
 | true=>
  have hn:C6 v=true:=hp
  rw [Bool.not_true,cond_false,if_pos hn]
  have e1:=aci h0 T lines hlb qs am (az (ai v).length (lb++qs.flatten)) taxes has hk
  have e2:=acd h0 T lines hlb qs am (az (ai v).length (lb++qs.flatten)) taxes has hk hqs hql
  have hp':v.2.2.2.2.2.1=true:=hp
  rw [hp'] at e1 e2
  rw [e1 _ (by repeat (with_reducible first | exact ago | apply qV | apply mM)),aG]
  dsimp only
  rw [afe]
  rw [e2 _ (by repeat (with_reducible first | exact ago | apply qV | apply mM)),aG]
  dsimp only
  rw [lN,Option.bind_some]
  rfl
end Go.Md
namespace Go.Md
open Go.Dn
theorem abN {v:ah} (h0:iq v=0) (R:(List Int)×(List Int)×(List (List Int))×(List Int)×(List Int)×(List Int)×(List Bool)×Int×Int×Int×Int×Int) (t0 t1 t2 t4:Int) (lines:List Int) {lb:Br} (hlb:cz v (bu v)=some lb) (qs:List Br) (am:List Int) (has:List Bool)
 (hqs:∀ q∈qs,QOk (ai v).length q) (hql:qs.length≤1000) (hbr:aV (az (ai v).length (lb++qs.flatten))=true) (f:Nat) (hf:(ai v).length<f) (r:Option Ch)
 (hr:r=iter f ((((ai v).length:Int),(0:Int),v.1,v.2.1,v.2.2.1,v.2.2.2.1,v.2.2.2.2.1,v.2.2.2.2.2.1,v.2.2.2.2.2.2.1,v.2.2.2.2.2.2.2.1,v.2.2.2.2.2.2.2.2,R.1,R.2.1,R.2.2.1,R.2.2.2.1,R.2.2.2.2.1,R.2.2.2.2.2.1,R.2.2.2.2.2.2.1,R.2.2.2.2.2.2.2.1,R.2.2.2.2.2.2.2.2.1,R.2.2.2.2.2.2.2.2.2.1,R.2.2.2.2.2.2.2.2.2.2.1,R.2.2.2.2.2.2.2.2.2.2.2,lb.map (·.2),lines,qs.map (az (ai v).length),am,az (ai v).length (lb++qs.flatten),([]:List Int),has,t0,t1,t2,(0:Int),t4,()):CI) B3):(if aV (cU v (lb++qs.flatten))=true then r=some (Sum.inr (R.1,R.2.1,R.2.2.1,R.2.2.2.1,R.2.2.2.2.1,R.2.2.2.2.2.1,R.2.2.2.2.2.2.1,R.2.2.2.2.2.2.2.1,R.2.2.2.2.2.2.2.2.1,R.2.2.2.2.2.2.2.2.2.1,R.2.2.2.2.2.2.2.2.2.2.1,R.2.2.2.2.2.2.2.2.2.2.2,lb.map (·.2),lines,qs.map (az (ai v).length),am,az (ai v).length (lb++qs.flatten),cU v (lb++qs.flatten),has,t0,t1,t2,(cU v (lb++qs.flatten)).sum,t4,())) else ∃ y,r=some (Sum.inl (y,1,()))):=by
 have hv:=jM h0
 have hn2:(ai v).length≤20:=hv.rn.2
 have hMU:=oc
 rw [hr]
 refine bn (Inv:=fun i X=>(∀ j,j<i→iC (tN v (lb++qs.flatten) j)=true)∧X=(((ai v).length:Int),(i:Int),v.1,v.2.1,v.2.2.1,v.2.2.2.1,v.2.2.2.2.1,v.2.2.2.2.2.1,v.2.2.2.2.2.2.1,v.2.2.2.2.2.2.2.1,v.2.2.2.2.2.2.2.2,R.1,R.2.1,R.2.2.1,R.2.2.2.1,R.2.2.2.2.1,R.2.2.2.2.2.1,R.2.2.2.2.2.2.1,R.2.2.2.2.2.2.2.1,R.2.2.2.2.2.2.2.2.1,R.2.2.2.2.2.2.2.2.2.1,R.2.2.2.2.2.2.2.2.2.2.1,R.2.2.2.2.2.2.2.2.2.2.2,lb.map (·.2),lines,qs.map (az (ai v).length),am,az (ai v).length (lb++qs.flatten),(List.range i).map (tN v (lb++qs.flatten)),has,t0,t1,t2,((List.range i).map (tN v (lb++qs.flatten))).sum,t4,())) (ai v).length (fun r=>(if aV (cU v (lb++qs.flatten))=true then r=some (Sum.inr (R.1,R.2.1,R.2.2.1,R.2.2.2.1,R.2.2.2.2.1,R.2.2.2.2.2.1,R.2.2.2.2.2.2.1,R.2.2.2.2.2.2.2.1,R.2.2.2.2.2.2.2.2.1,R.2.2.2.2.2.2.2.2.2.1,R.2.2.2.2.2.2.2.2.2.2.1,R.2.2.2.2.2.2.2.2.2.2.2,lb.map (·.2),lines,qs.map (az (ai v).length),am,az (ai v).length (lb++qs.flatten),cU v (lb++qs.flatten),has,t0,t1,t2,(cU v (lb++qs.flatten)).sum,t4,())) else ∃ y,r=some (Sum.inl (y,1,())))) ?_ ?_ f 0 _ ⟨fun j hj=>absurd hj (by omega),rfl⟩ (by omega) (by omega)
 ·rintro i _ again hi ⟨hle,rfl⟩ ih
  unfold B3
  dsimp only
  have hs:((List.range i).map (tN v (lb++qs.flatten))).sum.natAbs≤i*1000000000000000:=by
   clear ih hr
   clear hi
   induction i with
   | zero=>simp
   | succ i ihh=>
    have h1:=ihh fun j hj=>hle j (by omega)
    have h2:=gx.1 (hle i (by omega))
    rw [afH,afl,afK,afS,agh]
    simp only [afn,afo,afL,List.sum_nil]
    omega
  have hi20:i*1000000000000000≤20*1000000000000000:=age _ (by omega)
  have e:=aai h0 (t0,t1,t2,((List.range i).map (tN v (lb++qs.flatten))).sum,t4) lines hlb qs am ((List.range i).map (tN v (lb++qs.flatten))) has hi hqs hql hbr
  rw [aE (by omega),show (v.1,v.2.1,v.2.2.1,v.2.2.2.1,v.2.2.2.2.1,v.2.2.2.2.2.1,v.2.2.2.2.2.2.1,v.2.2.2.2.2.2.2.1,v.2.2.2.2.2.2.2.2)=v from rfl,e,Option.bind_some]
  dsimp only
  cases ha:iC (tN v (lb++qs.flatten) i) with
  | true=>
   have h2:=gx.1 ha
   have hl:((List.range i).map (tN v (lb++qs.flatten))).length=i:=by simp
   rw [Bool.not_true,cond_false,hl,aJ (fY (by omega) (by omega)),aA (n:=(i:Int)+1) (by omega) (by omega),aA (by omega) (by omega)]
   refine ih _ ⟨fun j hj=> ?_, ?_⟩
   ·by_cases hji:j=i
    ·rw [hji];exact ha
    ·exact hle j (by omega)
   ·rw [afH,afl,afK]
    simp only [afn,afo,afL,List.sum_nil,ael]
    rfl
  | false=>
   rw [aee,cond_true,if_neg]
   ·exact ⟨_,rfl⟩
   ·intro h
    have:=aeI.1 h (tN v (lb++qs.flatten) i) (by unfold cU;exact List.mem_map_of_mem (afz.2 hi))
    rw [ha] at this
    cases this
 ·rintro _ again ⟨hle,rfl⟩
  unfold B3
  dsimp only
  rw [aF (by omega),if_pos]
  ·rfl
  ·unfold aV cU
   rw [aeI]
   intro z hz
   obtain ⟨j,hj,rfl⟩:=afw.1 hz
   exact hle j (afz.1 hj)
end Go.Md
namespace Go.Md
open Go.Dn
theorem aaq {v:ah} (h0:iq v=0) (R:(List Int)×(List Int)×(List (List Int))×(List Int)×(List Int)×(List Int)×(List Bool)×Int×Int×Int×Int×Int) (T:Int×Int×Int×Int×Int) (nets lines taxes:List Int) (hll:lines.length=(ai v).length) (hal:aV lines=true) {lb:Br} (hlb:aV (az (ai v).length lb)=true) (fl0:List Nat) (f:Nat) (hf:(bT v).length<f) (r:Option CW)
 (hr:r=iter f ((bT v,((bT v).length:Int),(0:Int),v.1,v.2.1,v.2.2.1,v.2.2.2.1,v.2.2.2.2.1,v.2.2.2.2.2.1,v.2.2.2.2.2.2.1,v.2.2.2.2.2.2.2.1,v.2.2.2.2.2.2.2.2,R.1,R.2.1,R.2.2.1,R.2.2.2.1,R.2.2.2.2.1,R.2.2.2.2.2.1,R.2.2.2.2.2.2.1,R.2.2.2.2.2.2.2.1,R.2.2.2.2.2.2.2.2.1,R.2.2.2.2.2.2.2.2.2.1,R.2.2.2.2.2.2.2.2.2.2.1,R.2.2.2.2.2.2.2.2.2.2.2,nets,lines,([]:List (List Int)),([]:List Int),az (ai v).length lb,taxes,bN (ai v).length fl0,T.1,T.2.1,T.2.2.1,T.2.2.2.1,T.2.2.2.2,()):Cm) Cc):((∃ f y,f≠0∧ck v lines (bT v) (lb,fl0,[])= .inl f∧r=some (Sum.inl (y,f,())))∨(∃ (s:ESt) (qs:List Br),ck v lines (bT v) (lb,fl0,[])= .inr s∧s.1=lb++qs.flatten∧(∀ q∈qs,QOk (ai v).length q)∧qs.length≤20∧aV (az (ai v).length s.1)=true∧r=some (Sum.inr (v.1,v.2.1,v.2.2.1,v.2.2.2.1,v.2.2.2.2.1,v.2.2.2.2.2.1,v.2.2.2.2.2.2.1,v.2.2.2.2.2.2.2.1,v.2.2.2.2.2.2.2.2,R.1,R.2.1,R.2.2.1,R.2.2.2.1,R.2.2.2.2.1,R.2.2.2.2.2.1,R.2.2.2.2.2.2.1,R.2.2.2.2.2.2.2.1,R.2.2.2.2.2.2.2.2.1,R.2.2.2.2.2.2.2.2.2.1,R.2.2.2.2.2.2.2.2.2.2.1,R.2.2.2.2.2.2.2.2.2.2.2,nets,lines,qs.map (az (ai v).length),s.2.2,az (ai v).length s.1,taxes,bN (ai v).length s.2.1,T.1,T.2.1,T.2.2.1,T.2.2.2.1,T.2.2.2.2,())))):=by
 have hv:=jM h0
 have hxl:(bT v).length≤20:=(rO hv.ext).1
 rw [hr]
 refine bn (Inv:=fun i X=>∃ (s:ESt) (qs:List Br),ck v lines ((bT v).take i) (lb,fl0,[])= .inr s∧s.1=lb++qs.flatten∧(∀ q∈qs,QOk (ai v).length q)∧qs.length=i∧s.2.2.length=i∧aV (az (ai v).length s.1)=true∧X=(bT v,((bT v).length:Int),(i:Int),v.1,v.2.1,v.2.2.1,v.2.2.2.1,v.2.2.2.2.1,v.2.2.2.2.2.1,v.2.2.2.2.2.2.1,v.2.2.2.2.2.2.2.1,v.2.2.2.2.2.2.2.2,R.1,R.2.1,R.2.2.1,R.2.2.2.1,R.2.2.2.2.1,R.2.2.2.2.2.1,R.2.2.2.2.2.2.1,R.2.2.2.2.2.2.2.1,R.2.2.2.2.2.2.2.2.1,R.2.2.2.2.2.2.2.2.2.1,R.2.2.2.2.2.2.2.2.2.2.1,R.2.2.2.2.2.2.2.2.2.2.2,nets,lines,qs.map (az (ai v).length),s.2.2,az (ai v).length s.1,taxes,bN (ai v).length s.2.1,T.1,T.2.1,T.2.2.1,T.2.2.2.1,T.2.2.2.2,())) (bT v).length (fun r=>((∃ f y,f≠0∧ck v lines (bT v) (lb,fl0,[])= .inl f∧r=some (Sum.inl (y,f,())))∨(∃ (s:ESt) (qs:List Br),ck v lines (bT v) (lb,fl0,[])= .inr s∧s.1=lb++qs.flatten∧(∀ q∈qs,QOk (ai v).length q)∧qs.length≤20∧aV (az (ai v).length s.1)=true∧r=some (Sum.inr (v.1,v.2.1,v.2.2.1,v.2.2.2.1,v.2.2.2.2.1,v.2.2.2.2.2.1,v.2.2.2.2.2.2.1,v.2.2.2.2.2.2.2.1,v.2.2.2.2.2.2.2.2,R.1,R.2.1,R.2.2.1,R.2.2.2.1,R.2.2.2.2.1,R.2.2.2.2.2.1,R.2.2.2.2.2.2.1,R.2.2.2.2.2.2.2.1,R.2.2.2.2.2.2.2.2.1,R.2.2.2.2.2.2.2.2.2.1,R.2.2.2.2.2.2.2.2.2.2.1,R.2.2.2.2.2.2.2.2.2.2.2,nets,lines,qs.map (az (ai v).length),s.2.2,az (ai v).length s.1,taxes,bN (ai v).length s.2.1,T.1,T.2.1,T.2.2.1,T.2.2.2.1,T.2.2.2.2,()))))) ?_ ?_ f 0 _ ⟨(lb,fl0,[]),[],rfl,by simp,by simp,rfl,rfl,hlb,rfl⟩ (by omega) (by omega)
 ·rintro i _ again hi ⟨s,qs,g1,g2,g3,g4,g5,g6,rfl⟩ ih
  unfold Cc
  dsimp only
  have hy:(bT v)[i]? =some (bT v)[i]:=aH hi
  have hm:(bT v)[i]∈bT v:=afb hi
  generalize (bT v)[i]=x at hy hm
  have hap:ck v lines ((bT v).take (i+1)) (lb,fl0,[])=ck v lines [x] s:=by
   rw [afM,hy,ya,g1]
   rfl
  rw [aE (by omega),bh,hy,Option.bind_some]
  rw [show (v.1,v.2.1,v.2.2.1,v.2.2.2.1,v.2.2.2.2.1,v.2.2.2.2.2.1,v.2.2.2.2.2.2.1,v.2.2.2.2.2.2.2.1,v.2.2.2.2.2.2.2.2)=v from rfl,show (T.1,T.2.1,T.2.2.1,T.2.2.2.1,T.2.2.2.2)=T from rfl]
  have hb:=XZ h0 T nets lines hll hal (qs.map (az (ai v).length)) (by rw [afe];omega) s.2.2 taxes (by omega) g6 s.2.1 hm
  unfold MD at hb
  rcases hb with ⟨fa,y,b1,b2,b3⟩ | ⟨d,q,qf,b1,b2,b3,b4⟩
  ·rw [b3,Option.bind_some]
   dsimp only
   rw [Ic (show (fa != 0)=true by simpa using b1)]
   refine .inl ⟨fa,_,b1, ?_,rfl⟩
   rw [show ((s.1,s.2.1,s.2.2):ESt)=s from rfl] at b2
   rw [b2] at hap
   exact HQ hap
  ·rw [b4,Option.bind_some]
   dsimp only
   rw [show ((0:Int) != 0)=false from rfl,cond_false,aA (by omega) (by omega)]
   rw [show ((s.1,s.2.1,s.2.2):ESt)=s from rfl] at b3
   refine ih _ ⟨(s.1++q,s.2.1++qf,s.2.2++[d]),qs++[q],by rw [hap,b3], ?_, ?_, ?_, ?_,b2, ?_⟩
   ·show s.1++q=_
    rw [g2,List.flatten_append,aeL]
    simp
   ·intro z hz
    rcases afp.1 hz with hz | hz
    ·exact g3 z hz
    ·rw [show z=q by simpa using hz];exact b1
   ·rw [afc,g4];rfl
   ·show (s.2.2++[d]).length=_
    rw [afc,g5];rfl
   ·rw [afl]
    rfl
 ·rintro _ again ⟨s,qs,g1,g2,g3,g4,g5,g6,rfl⟩
  unfold Cc
  dsimp only
  rw [aF (by omega)]
  rw [afP (af0 _)] at g1
  exact .inr ⟨s,qs,g1,g2,g3,by omega,g6,rfl⟩
end Go.Md
namespace Go.Md
open Go.Dn
theorem UK {β:Type} {a b:Prop} {ia:Decidable a} {ib:Decidable b} (ha:a) (hb:b) (x:Option β):chk (@decide a ia&& @decide b ib) x=x:=by
 rw [agE ha,agE hb];rfl
theorem acw {v:ah} (h0:iq v=0) (R:(List Int)×(List Int)×(List (List Int))×(List Int)×(List Int)×(List Int)×(List Bool)×Int×Int×Int×Int×Int) (B:List (List Int)) (am bs tx:List Int) (t1 t2 t3 t4:Int) (f:Nat) (hf:(bu v).length<f) (r:Option EB)
 (hr:r=iter f ((bu v,((bu v).length:Int),(0:Int),v.1,v.2.1,v.2.2.1,v.2.2.2.1,v.2.2.2.2.1,v.2.2.2.2.2.1,v.2.2.2.2.2.2.1,v.2.2.2.2.2.2.2.1,v.2.2.2.2.2.2.2.2,R.1,R.2.1,R.2.2.1,R.2.2.2.1,R.2.2.2.2.1,R.2.2.2.2.2.1,R.2.2.2.2.2.2.1,R.2.2.2.2.2.2.2.1,R.2.2.2.2.2.2.2.2.1,R.2.2.2.2.2.2.2.2.2.1,R.2.2.2.2.2.2.2.2.2.2.1,R.2.2.2.2.2.2.2.2.2.2.2,([]:List Int),B,am,bs,tx,(0:Int),t1,t2,t3,t4,az (ai v).length [],bN (ai v).length [],()):EP) vI):((cz v (bu v)=none∧∃ y,r=some (Sum.inl (y,1,())))∨(∃ lb:Br,cz v (bu v)=some lb∧r=some (Sum.inr (v.1,v.2.1,v.2.2.1,v.2.2.2.1,v.2.2.2.2.1,v.2.2.2.2.2.1,v.2.2.2.2.2.2.1,v.2.2.2.2.2.2.2.1,v.2.2.2.2.2.2.2.2,R.1,R.2.1,R.2.2.1,R.2.2.2.1,R.2.2.2.2.1,R.2.2.2.2.2.1,R.2.2.2.2.2.2.1,R.2.2.2.2.2.2.2.1,R.2.2.2.2.2.2.2.2.1,R.2.2.2.2.2.2.2.2.2.1,R.2.2.2.2.2.2.2.2.2.2.1,R.2.2.2.2.2.2.2.2.2.2.2,lb.map (·.2),B,am,bs,tx,(lb.map (·.2)).sum,t1,t2,t3,t4,az (ai v).length lb,bN (ai v).length (lb.map (·.1)),())))):=by
 have hv:=jM h0
 have hln:(bu v).length≤500:=hv.ln.2
 have hrn:(ai v).length≤20:=hv.rn.2
 have hMU:=oc
 rw [hr]
 refine bn (Inv:=fun i X=>∃ b:Br,cz v ((bu v).take i)=some b∧X=(bu v,((bu v).length:Int),(i:Int),v.1,v.2.1,v.2.2.1,v.2.2.2.1,v.2.2.2.2.1,v.2.2.2.2.2.1,v.2.2.2.2.2.2.1,v.2.2.2.2.2.2.2.1,v.2.2.2.2.2.2.2.2,R.1,R.2.1,R.2.2.1,R.2.2.2.1,R.2.2.2.2.1,R.2.2.2.2.2.1,R.2.2.2.2.2.2.1,R.2.2.2.2.2.2.2.1,R.2.2.2.2.2.2.2.2.1,R.2.2.2.2.2.2.2.2.2.1,R.2.2.2.2.2.2.2.2.2.2.1,R.2.2.2.2.2.2.2.2.2.2.2,b.map (·.2),B,am,bs,tx,(b.map (·.2)).sum,t1,t2,t3,t4,az (ai v).length b,bN (ai v).length (b.map (·.1)),())) (bu v).length (fun r=>((cz v (bu v)=none∧∃ y,r=some (Sum.inl (y,1,())))∨(∃ lb:Br,cz v (bu v)=some lb∧r=some (Sum.inr (v.1,v.2.1,v.2.2.1,v.2.2.2.1,v.2.2.2.2.1,v.2.2.2.2.2.1,v.2.2.2.2.2.2.1,v.2.2.2.2.2.2.2.1,v.2.2.2.2.2.2.2.2,R.1,R.2.1,R.2.2.1,R.2.2.2.1,R.2.2.2.2.1,R.2.2.2.2.2.1,R.2.2.2.2.2.2.1,R.2.2.2.2.2.2.2.1,R.2.2.2.2.2.2.2.2.1,R.2.2.2.2.2.2.2.2.2.1,R.2.2.2.2.2.2.2.2.2.2.1,R.2.2.2.2.2.2.2.2.2.2.2,lb.map (·.2),B,am,bs,tx,(lb.map (·.2)).sum,t1,t2,t3,t4,az (ai v).length lb,bN (ai v).length (lb.map (·.1)),()))))) ?_ ?_ f 0 _ ⟨[],rfl,rfl⟩ (by omega) (by omega)
 ·rintro i _ again hi ⟨b,g1,rfl⟩ ih
  have hy:(bu v)[i]? =some (bu v)[i]:=aH hi
  have hx:zx v.2.2.2.1 v.2.2.2.2.2.2.1 (bu v)[i]:=hv.lines _ (afb hi)
  generalize (bu v)[i]=y at hy hx
  have hst:=RQ hy g1
  obtain ⟨b1,b2,_⟩:=Bh hv (l:=(bu v).take i) (fun x hx=>afx hx) g1
  have hbl:b.length≤500:=by rw [b2,afk];omega
  have hsum:∀ l:List (Nat×Int),(∀ p∈l,(p.2.natAbs:Int)≤MU)→(List.map (fun p:Nat×Int=>p.2) l).sum.natAbs≤l.length*1000000000000000:=by
   intro l
   induction l with
   | nil=>intro _;simp
   | cons p l ihl=>
    intro h
    have h1:=ihl fun q hq=>h q (afr _ hq)
    have h2:=h p afs
    simp only [afn,afL,afd,afS,agh]
    omega
  have hs1:=hsum b (fun p hp=>by have:=b1.am p hp;omega)
  have hs2:b.length*1000000000000000≤500*1000000000000000:=age _ hbl
  have hvv:((v.1,v.2.1,v.2.2.1,v.2.2.2.1,v.2.2.2.2.1,v.2.2.2.2.2.1,v.2.2.2.2.2.2.1,v.2.2.2.2.2.2.2.1,v.2.2.2.2.2.2.2.2):ah)=v:=rfl
  cases hn:A1 v y with
  | none=>
   rw [hn] at hst
   refine .inl ⟨Rv hst,(b.map (·.2),az (ai v).length b,B,am,bs,tx,bN (ai v).length (b.map (·.1)),(b.map (·.2)).sum,t1,t2,t3,t4), ?_⟩
   unfold vI
   dsimp only
   rw [aE (by omega),bh,hy,Option.bind_some,hvv,SS hv hx,Option.bind_some,hn]
   dsimp only [acq]
   rw [aee,cond_true]
  | some z=>
   rw [hn] at hst
   have hz:=(OJ hn).2
   obtain ⟨j,hj⟩:=agt.1 hx.rate
   obtain ⟨r',hr',_⟩:=jG hj
   have hjn:j<(ai v).length:=(List.getElem?_eq_some_iff.1 hr').1
   have hrt:M7 v y=j:=by
    unfold M7
    rw [show cn (·.1) y.2.2.2.2.2.2.2.2 (ai v)=some j from hj]
    rfl
   have hat:=aa5 b1 j
   have hrf:fJ v y.2.2.2.2.2.2.2.2=some ((j:Int),()):=by
    rw [Au v _ (by show (ai v).length<_;omega),hj]
    rfl
   have hbl1:(b.map (·.2)).length=b.length:=by simp
   have hhl:(bN (ai v).length (b.map (·.1))).length=(ai v).length:=by simp [bN]
   have hhg:∃ q,(bN (ai v).length (b.map (·.1)))[j]? =some q:=⟨_,aH (by rw [hhl];exact hjn)⟩
   obtain ⟨q,hq⟩:=hhg
   have hc1:(decide (0≤(j:Int))&&decide ((j:Int)<((ai v).length:Int)))=true:=by rw [agE (by omega),agE (by omega)];rfl
   have e:vI (bu v,((bu v).length:Int),(i:Int),v.1,v.2.1,v.2.2.1,v.2.2.2.1,v.2.2.2.2.1,v.2.2.2.2.2.1,v.2.2.2.2.2.2.1,v.2.2.2.2.2.2.2.1,v.2.2.2.2.2.2.2.2,R.1,R.2.1,R.2.2.1,R.2.2.2.1,R.2.2.2.2.1,R.2.2.2.2.2.1,R.2.2.2.2.2.2.1,R.2.2.2.2.2.2.2.1,R.2.2.2.2.2.2.2.2.1,R.2.2.2.2.2.2.2.2.2.1,R.2.2.2.2.2.2.2.2.2.2.1,R.2.2.2.2.2.2.2.2.2.2.2,b.map (·.2),B,am,bs,tx,(b.map (·.2)).sum,t1,t2,t3,t4,az (ai v).length b,bN (ai v).length (b.map (·.1)),()) again=again (bu v,((bu v).length:Int),((i:Int)+1),v.1,v.2.1,v.2.2.1,v.2.2.2.1,v.2.2.2.2.1,v.2.2.2.2.2.1,v.2.2.2.2.2.2.1,v.2.2.2.2.2.2.2.1,v.2.2.2.2.2.2.2.2,R.1,R.2.1,R.2.2.1,R.2.2.2.1,R.2.2.2.2.1,R.2.2.2.2.2.1,R.2.2.2.2.2.2.1,R.2.2.2.2.2.2.2.1,R.2.2.2.2.2.2.2.2.1,R.2.2.2.2.2.2.2.2.2.1,R.2.2.2.2.2.2.2.2.2.2.1,R.2.2.2.2.2.2.2.2.2.2.2,(b++[(j,z)]).map (·.2),B,am,bs,tx,((b++[(j,z)]).map (·.2)).sum,t1,t2,t3,t4,az (ai v).length (b++[(j,z)]),bN (ai v).length ((b++[(j,z)]).map (·.1)),()):=by
    unfold vI
    dsimp only
    rw [aE (by omega),bh,hy,Option.bind_some,hvv,SS hv hx,Option.bind_some,hn]
    dsimp only [acq]
    rw [Bool.not_true,cond_false,hrf,Option.bind_some]
    dsimp only
    rw [hbl1,hhl,cg,aJ (fY (by omega) (by omega)),UK (aew j) (Int.ofNat_lt.2 hjn),aeF,fW _ hjn,Option.bind_some,UK (aew j) (Int.ofNat_lt.2 hjn),Option.bind_some,UK (aew j) (Int.ofNat_lt.2 hjn),hq,Option.bind_some]
    rw [aA (n:=(i:Int)+1) (by omega) (by omega),aA (n:=(List.map (fun p:Nat×Int=>p.2) b).sum+z) (by omega) (by omega),aA (n:=atB b j+z) (by omega) (by omega),KS,DT]
    simp only [afl,afn,afo,afK,afL,List.sum_nil,ael]
   rw [e]
   refine ih _ ⟨b++[(j,z)],by rw [hst,hrt];rfl,rfl⟩
 ·rintro _ again ⟨b,g1,rfl⟩
  unfold vI
  dsimp only
  rw [aF (by omega)]
  rw [afP (af0 _)] at g1
  exact .inr ⟨b,g1,rfl⟩
end Go.Md
namespace Go.Md
open Go.Dn
theorem Tn (v:ah) (R:(List Int)×(List Int)×(List (List Int))×(List Int)×(List Int)×(List Int)×(List Bool)×Int×Int×Int×Int×Int) (nets lines:List Int) (B:List (List Int)) (am bs tx:List Int) (has:List Bool) (t0 t1 t2 t3 t4:Int) (hl:lines.length≤1000) (f:Nat) (hf:lines.length<f) (r:Option CO)
 (hr:r=iter f (((lines.length:Int),(0:Int),v.1,v.2.1,v.2.2.1,v.2.2.2.1,v.2.2.2.2.1,v.2.2.2.2.2.1,v.2.2.2.2.2.2.1,v.2.2.2.2.2.2.2.1,v.2.2.2.2.2.2.2.2,R.1,R.2.1,R.2.2.1,R.2.2.2.1,R.2.2.2.2.1,R.2.2.2.2.2.1,R.2.2.2.2.2.2.1,R.2.2.2.2.2.2.2.1,R.2.2.2.2.2.2.2.2.1,R.2.2.2.2.2.2.2.2.2.1,R.2.2.2.2.2.2.2.2.2.2.1,R.2.2.2.2.2.2.2.2.2.2.2,nets,B,am,bs,tx,t0,t1,t2,t3,t4,lines,has,()):CD) tj):(if aV lines=true then r=some (Sum.inr (v.1,v.2.1,v.2.2.1,v.2.2.2.1,v.2.2.2.2.1,v.2.2.2.2.2.1,v.2.2.2.2.2.2.1,v.2.2.2.2.2.2.2.1,v.2.2.2.2.2.2.2.2,R.1,R.2.1,R.2.2.1,R.2.2.2.1,R.2.2.2.2.1,R.2.2.2.2.2.1,R.2.2.2.2.2.2.1,R.2.2.2.2.2.2.2.1,R.2.2.2.2.2.2.2.2.1,R.2.2.2.2.2.2.2.2.2.1,R.2.2.2.2.2.2.2.2.2.2.1,R.2.2.2.2.2.2.2.2.2.2.2,nets,B,am,bs,tx,t0,t1,t2,t3,t4,lines,has,())) else ∃ y,r=some (Sum.inl (y,1,()))):=by
 rw [hr]
 refine bn (Inv:=fun i X=>(∀ z∈lines.take i,iC z=true)∧X=((lines.length:Int),(i:Int),v.1,v.2.1,v.2.2.1,v.2.2.2.1,v.2.2.2.2.1,v.2.2.2.2.2.1,v.2.2.2.2.2.2.1,v.2.2.2.2.2.2.2.1,v.2.2.2.2.2.2.2.2,R.1,R.2.1,R.2.2.1,R.2.2.2.1,R.2.2.2.2.1,R.2.2.2.2.2.1,R.2.2.2.2.2.2.1,R.2.2.2.2.2.2.2.1,R.2.2.2.2.2.2.2.2.1,R.2.2.2.2.2.2.2.2.2.1,R.2.2.2.2.2.2.2.2.2.2.1,R.2.2.2.2.2.2.2.2.2.2.2,nets,B,am,bs,tx,t0,t1,t2,t3,t4,lines,has,())) lines.length (fun r=>(if aV lines=true then r=some (Sum.inr (v.1,v.2.1,v.2.2.1,v.2.2.2.1,v.2.2.2.2.1,v.2.2.2.2.2.1,v.2.2.2.2.2.2.1,v.2.2.2.2.2.2.2.1,v.2.2.2.2.2.2.2.2,R.1,R.2.1,R.2.2.1,R.2.2.2.1,R.2.2.2.2.1,R.2.2.2.2.2.1,R.2.2.2.2.2.2.1,R.2.2.2.2.2.2.2.1,R.2.2.2.2.2.2.2.2.1,R.2.2.2.2.2.2.2.2.2.1,R.2.2.2.2.2.2.2.2.2.2.1,R.2.2.2.2.2.2.2.2.2.2.2,nets,B,am,bs,tx,t0,t1,t2,t3,t4,lines,has,())) else ∃ y,r=some (Sum.inl (y,1,())))) ?_ ?_ f 0 _ ⟨by simp,rfl⟩ (by omega) (by omega)
 ·rintro i _ again hi ⟨hle,rfl⟩ ih
  have hy:lines[i]? =some lines[i]:=aH hi
  have hmem:lines[i]∈lines:=afb hi
  generalize lines[i]=y at hy hmem
  cases hz:iC y with
  | true=>
   have e:tj ((lines.length:Int),(i:Int),v.1,v.2.1,v.2.2.1,v.2.2.2.1,v.2.2.2.2.1,v.2.2.2.2.2.1,v.2.2.2.2.2.2.1,v.2.2.2.2.2.2.2.1,v.2.2.2.2.2.2.2.2,R.1,R.2.1,R.2.2.1,R.2.2.2.1,R.2.2.2.2.1,R.2.2.2.2.2.1,R.2.2.2.2.2.2.1,R.2.2.2.2.2.2.2.1,R.2.2.2.2.2.2.2.2.1,R.2.2.2.2.2.2.2.2.2.1,R.2.2.2.2.2.2.2.2.2.2.1,R.2.2.2.2.2.2.2.2.2.2.2,nets,B,am,bs,tx,t0,t1,t2,t3,t4,lines,has,()) again=again ((lines.length:Int),((i:Int)+1),v.1,v.2.1,v.2.2.1,v.2.2.2.1,v.2.2.2.2.1,v.2.2.2.2.2.1,v.2.2.2.2.2.2.1,v.2.2.2.2.2.2.2.1,v.2.2.2.2.2.2.2.2,R.1,R.2.1,R.2.2.1,R.2.2.2.1,R.2.2.2.2.1,R.2.2.2.2.2.1,R.2.2.2.2.2.2.1,R.2.2.2.2.2.2.2.1,R.2.2.2.2.2.2.2.2.1,R.2.2.2.2.2.2.2.2.2.1,R.2.2.2.2.2.2.2.2.2.2.1,R.2.2.2.2.2.2.2.2.2.2.2,nets,B,am,bs,tx,t0,t1,t2,t3,t4,lines,has,()):=by
    unfold tj
    dsimp only
    rw [aE (by omega),aJ (by simp only [ad5,decide_eq_true_eq];omega),aeF,hy,Option.bind_some,lN,Option.bind_some]
    dsimp only
    rw [show decide (y.natAbs≤MU)=true from hz,Bool.not_true,cond_false,aA (by omega) (by omega)]
   rw [e]
   refine ih _ ⟨fun z hz2=> ?_,rfl⟩
   rw [afM,hy] at hz2
   rcases afp.1 hz2 with hz2 | hz2
   ·exact hle z hz2
   ·rw [show z=y by simpa using hz2];exact hz
  | false=>
   rw [if_neg]
   ·refine ⟨(nets,lines,B,am,bs,tx,has,t0,t1,t2,t3,t4), ?_⟩
    unfold tj
    dsimp only
    rw [aE (by omega),aJ (by simp only [ad5,decide_eq_true_eq];omega),aeF,hy,Option.bind_some,lN,Option.bind_some]
    dsimp only
    rw [show decide (y.natAbs≤MU)=false from hz,aee,cond_true]
   ·intro h
    have:=aeI.1 h y hmem
    rw [hz] at this
    cases this
 ·rintro _ again ⟨hle,rfl⟩
  rw [afP (af0 _)] at hle
  rw [if_pos (show aV lines=true from aeI.2 hle)]
  unfold tj
  dsimp only
  rw [aF (by omega)]
theorem Lm:∀ {l:List Int},aV l=true→l.sum.natAbs≤l.length*1000000000000000
 | [],_=>by simp
 | x::l,h=>by
  unfold aV at h
  rw [aeH,ad5] at h
  have h1:=Lm (l:=l) h.2
  have h2:=gx.1 h.1
  have hMU:=oc
  rw [afL,afd,afS,agh]
  omega
theorem Vi (R:(List Int)×(List Int)×(List (List Int))×(List Int)×(List Int)×(List Int)×(List Bool)×Int×Int×Int×Int×Int) (nets lines:List Int) (B:List (List Int)) (am bs tx:List Int) (has:List Bool) (t0 t2 t3 t4:Int) (hl:am.length≤20) (ham:aV am=true) (f:Nat) (hf:am.length<f) (r:Option B1)
 (hr:r=iter f ((am,(am.length:Int),(0:Int),R.1,R.2.1,R.2.2.1,R.2.2.2.1,R.2.2.2.2.1,R.2.2.2.2.2.1,R.2.2.2.2.2.2.1,R.2.2.2.2.2.2.2.1,R.2.2.2.2.2.2.2.2.1,R.2.2.2.2.2.2.2.2.2.1,R.2.2.2.2.2.2.2.2.2.2.1,R.2.2.2.2.2.2.2.2.2.2.2,nets,lines,B,am,bs,tx,has,t0,(0:Int),t2,t3,t4,()):Cl) xS):r=some (Sum.inr (R.1,R.2.1,R.2.2.1,R.2.2.2.1,R.2.2.2.2.1,R.2.2.2.2.2.1,R.2.2.2.2.2.2.1,R.2.2.2.2.2.2.2.1,R.2.2.2.2.2.2.2.2.1,R.2.2.2.2.2.2.2.2.2.1,R.2.2.2.2.2.2.2.2.2.2.1,R.2.2.2.2.2.2.2.2.2.2.2,nets,lines,B,am,bs,tx,has,t0,am.sum,t2,t3,t4,())):=by
 rw [hr]
 refine bn (Inv:=fun i X=>X=(am,(am.length:Int),(i:Int),R.1,R.2.1,R.2.2.1,R.2.2.2.1,R.2.2.2.2.1,R.2.2.2.2.2.1,R.2.2.2.2.2.2.1,R.2.2.2.2.2.2.2.1,R.2.2.2.2.2.2.2.2.1,R.2.2.2.2.2.2.2.2.2.1,R.2.2.2.2.2.2.2.2.2.2.1,R.2.2.2.2.2.2.2.2.2.2.2,nets,lines,B,am,bs,tx,has,t0,(am.take i).sum,t2,t3,t4,())) am.length (fun r=>r=some (Sum.inr (R.1,R.2.1,R.2.2.1,R.2.2.2.1,R.2.2.2.2.1,R.2.2.2.2.2.1,R.2.2.2.2.2.2.1,R.2.2.2.2.2.2.2.1,R.2.2.2.2.2.2.2.2.1,R.2.2.2.2.2.2.2.2.2.1,R.2.2.2.2.2.2.2.2.2.2.1,R.2.2.2.2.2.2.2.2.2.2.2,nets,lines,B,am,bs,tx,has,t0,am.sum,t2,t3,t4,()))) ?_ ?_ f 0 _ rfl (by omega) (by omega)
 ·rintro i _ again hi rfl ih
  have hy:am[i]? =some am[i]:=aH hi
  have hmem:iC am[i]=true:=aeI.1 ham _ (afb hi)
  generalize am[i]=y at hy hmem
  have e:xS (am,(am.length:Int),(i:Int),R.1,R.2.1,R.2.2.1,R.2.2.2.1,R.2.2.2.2.1,R.2.2.2.2.2.1,R.2.2.2.2.2.2.1,R.2.2.2.2.2.2.2.1,R.2.2.2.2.2.2.2.2.1,R.2.2.2.2.2.2.2.2.2.1,R.2.2.2.2.2.2.2.2.2.2.1,R.2.2.2.2.2.2.2.2.2.2.2,nets,lines,B,am,bs,tx,has,t0,(am.take i).sum,t2,t3,t4,()) again=again (am,(am.length:Int),((i:Int)+1),R.1,R.2.1,R.2.2.1,R.2.2.2.1,R.2.2.2.2.1,R.2.2.2.2.2.1,R.2.2.2.2.2.2.1,R.2.2.2.2.2.2.2.1,R.2.2.2.2.2.2.2.2.1,R.2.2.2.2.2.2.2.2.2.1,R.2.2.2.2.2.2.2.2.2.2.1,R.2.2.2.2.2.2.2.2.2.2.2,nets,lines,B,am,bs,tx,has,t0,(am.take (i+1)).sum,t2,t3,t4,()):=by
   have h1:=Lm (Mh ham i)
   rw [afk] at h1
   have h4:min i am.length*1000000000000000≤20*1000000000000000:=age _ (by omega)
   have h2:=gx.1 hmem
   have hMU:=oc
   unfold xS
   dsimp only
   rw [aE (by omega),bh,hy,Option.bind_some,aA (n:=(i:Int)+1) (by omega) (by omega),aA (n:=(am.take i).sum+y) (by omega) (by omega), ← tv hy]
  rw [e]
  exact ih _ rfl
 ·rintro _ again rfl
  unfold xS
  dsimp only
  rw [aF (by omega),afP (af0 _)]
theorem aco (R:(List Int)×(List Int)×(List (List Int))×(List Int)×(List Int)×(List Int)×(List Bool)×Int×Int×Int×Int×Int) (nets lines:List Int) (B:List (List Int)) (am bs tx:List Int) (has:List Bool) (t0 t1 t2 t3 t4:Int) (f:Nat) (hf:5<f) (r:Option CB)
 (hr:r=iter f (((t0,t1,t2,t3,t4),(0:Int),R.1,R.2.1,R.2.2.1,R.2.2.2.1,R.2.2.2.2.1,R.2.2.2.2.2.1,R.2.2.2.2.2.2.1,R.2.2.2.2.2.2.2.1,R.2.2.2.2.2.2.2.2.1,R.2.2.2.2.2.2.2.2.2.1,R.2.2.2.2.2.2.2.2.2.2.1,R.2.2.2.2.2.2.2.2.2.2.2,nets,lines,B,am,bs,tx,has,t0,t1,t2,t3,t4,()):CJ) tO):(if aV [t0,t1,t2,t3,t4]=true then r=some (Sum.inr (R.1,R.2.1,R.2.2.1,R.2.2.2.1,R.2.2.2.2.1,R.2.2.2.2.2.1,R.2.2.2.2.2.2.1,R.2.2.2.2.2.2.2.1,R.2.2.2.2.2.2.2.2.1,R.2.2.2.2.2.2.2.2.2.1,R.2.2.2.2.2.2.2.2.2.2.1,R.2.2.2.2.2.2.2.2.2.2.2,nets,lines,B,am,bs,tx,has,t0,t1,t2,t3,t4,())) else r=some (Sum.inl ((nets,lines,B,am,bs,tx,has,t0,t1,t2,t3,t4),1,()))):=by
 rw [hr]
 refine bn (Inv:=fun i X=>(∀ z∈[t0,t1,t2,t3,t4].take i,iC z=true)∧X=((t0,t1,t2,t3,t4),(i:Int),R.1,R.2.1,R.2.2.1,R.2.2.2.1,R.2.2.2.2.1,R.2.2.2.2.2.1,R.2.2.2.2.2.2.1,R.2.2.2.2.2.2.2.1,R.2.2.2.2.2.2.2.2.1,R.2.2.2.2.2.2.2.2.2.1,R.2.2.2.2.2.2.2.2.2.2.1,R.2.2.2.2.2.2.2.2.2.2.2,nets,lines,B,am,bs,tx,has,t0,t1,t2,t3,t4,())) 5 (fun r=>(if aV [t0,t1,t2,t3,t4]=true then r=some (Sum.inr (R.1,R.2.1,R.2.2.1,R.2.2.2.1,R.2.2.2.2.1,R.2.2.2.2.2.1,R.2.2.2.2.2.2.1,R.2.2.2.2.2.2.2.1,R.2.2.2.2.2.2.2.2.1,R.2.2.2.2.2.2.2.2.2.1,R.2.2.2.2.2.2.2.2.2.2.1,R.2.2.2.2.2.2.2.2.2.2.2,nets,lines,B,am,bs,tx,has,t0,t1,t2,t3,t4,())) else r=some (Sum.inl ((nets,lines,B,am,bs,tx,has,t0,t1,t2,t3,t4),1,())))) ?_ ?_ f 0 _ ⟨by simp,rfl⟩ (by omega) (by omega)
 ·rintro i _ again hi ⟨hle,rfl⟩ ih
  have hy:[t0,t1,t2,t3,t4][i]? =some [t0,t1,t2,t3,t4][i]:=aH hi
  have hmem:[t0,t1,t2,t3,t4][i]∈[t0,t1,t2,t3,t4]:=afb hi
  generalize [t0,t1,t2,t3,t4][i]=y at hy hmem
  cases hz:iC y with
  | true=>
   have e:tO ((t0,t1,t2,t3,t4),(i:Int),R.1,R.2.1,R.2.2.1,R.2.2.2.1,R.2.2.2.2.1,R.2.2.2.2.2.1,R.2.2.2.2.2.2.1,R.2.2.2.2.2.2.2.1,R.2.2.2.2.2.2.2.2.1,R.2.2.2.2.2.2.2.2.2.1,R.2.2.2.2.2.2.2.2.2.2.1,R.2.2.2.2.2.2.2.2.2.2.2,nets,lines,B,am,bs,tx,has,t0,t1,t2,t3,t4,()) again=again ((t0,t1,t2,t3,t4),((i:Int)+1),R.1,R.2.1,R.2.2.1,R.2.2.2.1,R.2.2.2.2.1,R.2.2.2.2.2.1,R.2.2.2.2.2.2.1,R.2.2.2.2.2.2.2.1,R.2.2.2.2.2.2.2.2.1,R.2.2.2.2.2.2.2.2.2.1,R.2.2.2.2.2.2.2.2.2.2.1,R.2.2.2.2.2.2.2.2.2.2.2,nets,lines,B,am,bs,tx,has,t0,t1,t2,t3,t4,()):=by
    unfold tO
    dsimp only
    rw [aE (by omega),bh,hy,Option.bind_some,lN,Option.bind_some]
    dsimp only
    rw [show decide (y.natAbs≤MU)=true from hz,Bool.not_true,cond_false,aA (by omega) (by omega)]
   rw [e]
   refine ih _ ⟨fun z hz2=> ?_,rfl⟩
   rw [afM,hy] at hz2
   rcases afp.1 hz2 with hz2 | hz2
   ·exact hle z hz2
   ·rw [show z=y by simpa using hz2];exact hz
  | false=>
   rw [if_neg]
   ·unfold tO
    dsimp only
    rw [aE (by omega),bh,hy,Option.bind_some,lN,Option.bind_some]
    dsimp only
    rw [show decide (y.natAbs≤MU)=false from hz,aee,cond_true]
   ·intro h
    have:=aeI.1 h y hmem
    rw [hz] at this
    cases this
 ·rintro _ again ⟨hle,rfl⟩
  rw [afP (by simp)] at hle
  rw [if_pos (show aV [t0,t1,t2,t3,t4]=true from aeI.2 hle)]
  unfold tO
  dsimp only
  rw [aF (by omega)]
end Go.Md
namespace Go.Md
open Go.Dn
theorem TY (n:Nat):List.replicate n (0:Int)=az n []:=by
 unfold az
 induction n with
 | zero=>rfl
 | succ n ih=>rw [List.replicate_succ',ih,afH,afl];rfl
theorem abp {l:List Int} (h:l≠[]) (hl:l.length≤1000):uu l=some (l,()):=by
 unfold uu
 rw [show l.isEmpty=false by cases l with | nil=>exact absurd rfl h | cons _ _=>rfl,cond_false,aJ (fY (by omega) (by omega))]
theorem W2 {β:Type} {k:Int} {n:Nat} (hn:n≤1000) (hk:0≤k∧k≤1000) (x:Option β):chk (decide ((0:Int)≤(n:Int))&&decide ((n:Int)≤(n:Int))&&decide (k*(n:Int)≤281474976710656)&&decide ((n:Int)≤9223372036854775807)) x=x:=by
 have h:k*(n:Int)≤1000*1000:=Int.mul_le_mul hk.2 (by omega) (by omega) (by omega)
 rw [agE (by omega),agE (by omega),agE (by omega),agE (by omega)]
 rfl
theorem TN {n a r:Nat} (ha:0<a) (h:n<r):n+1<a+r:=by omega
theorem Bu {X β γ:Type} {Q:Option β→Prop} {F:Nat} {x:X} {b:X→(X→Option (β ⊕ γ))→Option (β ⊕ γ)} {k:γ→Option β} (h:∀ F',F'=F→∀ r,r=iter F' x b→Q (aP r k)):Q (aP (iter F x b) k):=h F rfl _ rfl
def Ej (v:ah) (o:Option (bC×Int×Unit)):Prop:=
 (∃ f y,f≠0∧kO v= .inl f∧o=some (y,f,()))∨
 (∃ s lines B,tU v= .inr s∧kO v= .inr s∧o=some ((s.nets,lines,B,s.am,az (ai v).length s.br,s.taxes,bN (ai v).length s.fl,s.nets.sum,s.am.sum,s.nets.sum+s.am.sum,s.taxes.sum,s.nets.sum+s.am.sum+s.taxes.sum),0,()))
theorem X0 {v:ah} (h:cz v (bu v)=none):kO v= .inl 1:=by
 unfold kO tU;rw [h]
theorem Yq {v:ah} {lb:Br} (h:cz v (bu v)=some lb) (ha:aV (az (ai v).length lb)=false):kO v= .inl 1:=by
 unfold kO tU;rw [h];dsimp only;rw [ha,cond_false]
theorem Ws {v:ah} {lb:Br} (h:cz v (bu v)=some lb) (ha:aV (az (ai v).length lb)=true) {f:Int} (he:ck v (az (ai v).length lb) (bT v) (lb,lb.map (·.1),[])= .inl f):kO v= .inl f:=by
 unfold kO tU;rw [h];dsimp only;rw [ha,cond_true,he]
theorem Xo {v:ah} {lb:Br} (h:cz v (bu v)=some lb) (ha:aV (az (ai v).length lb)=true) {s:ESt} (he:ck v (az (ai v).length lb) (bT v) (lb,lb.map (·.1),[])= .inr s) (ht:aV (cU v s.1)=false):kO v= .inl 1:=by
 unfold kO tU;rw [h];dsimp only;rw [ha,cond_true,he];dsimp only;rw [ht,cond_false]
theorem YF {v:ah} {lb:Br} (h:cz v (bu v)=some lb) (ha:aV (az (ai v).length lb)=true) {s:ESt} (he:ck v (az (ai v).length lb) (bT v) (lb,lb.map (·.1),[])= .inr s) (ht:aV (cU v s.1)=true):tU v= .inr ⟨lb.map (·.2),s.1,s.2.1,s.2.2,cU v s.1⟩:=by
 unfold tU;rw [h];dsimp only;rw [ha,cond_true,he];dsimp only;rw [ht,cond_true]
abbrev R0:(List Int)×(List Int)×(List (List Int))×(List Int)×(List Int)×(List Int)×(List Bool)×Int×Int×Int×Int×Int:=([],[],[],[],[],[],[],0,0,0,0,0)
theorem PK {v:ah} (h0:iq v=0):Ej v (IA v):=by
 have hv:=jM h0
 have hln:0<(bu v).length∧(bu v).length≤500:=hv.ln
 have hrn:0<(ai v).length∧(ai v).length≤20:=hv.rn
 have hxl:(bT v).length≤20:=(rO hv.ext).1
 have hMU:=oc
 unfold IA
 rw [W2 (k:=8) (n:=(ai v).length) (by omega) (by omega),W2 (k:=1) (n:=(ai v).length) (by omega) (by omega)]
 rw [aeF,show List.replicate (v.2.2.2.2.2.2.1.length) (0:Int)=az (ai v).length [] from TY _,show List.replicate (v.2.2.2.2.2.2.1.length) false=bN (ai v).length [] from (W8 _).symm]
 refine Bu (Q:=Ej v) fun F hF r hr=> ?_
 rcases acw h0 R0 [] [] [] [] 0 0 0 0 _ (by rw [hF];with_reducible apply qV;repeat (with_reducible first | exact ago | apply mM)) r hr with ⟨h1,y,h2⟩ | ⟨lb,h1,h2⟩
 ·rw [h2,eV]
  exact .inl ⟨1,y,by omega,X0 h1,rfl⟩
 clear hr hF F
 rw [h2,aG]
 clear h2 r
 dsimp only
 obtain ⟨b1,b2,b3⟩:=Bh hv (fun x hx=>hx) h1
 refine Bu (Q:=Ej v) fun F hF r hr=> ?_
 have hq:=Tn v R0 (lb.map (·.2)) (az (ai v).length lb) [] [] [] [] (bN (ai v).length (lb.map (·.1))) (lb.map (·.2)).sum 0 0 0 0 (by rw [cg];omega) _ (by rw [hF,aeu];with_reducible apply qV;repeat (with_reducible first | exact ago | apply mM)) r hr
 clear hr hF F
 cases ha:aV (az (ai v).length lb) with
 | false=>
  rw [ha,if_neg (by simp)] at hq
  obtain ⟨y,h2⟩:=hq
  rw [h2,eV]
  exact .inl ⟨1,y,by omega,Yq h1 ha,rfl⟩
 | true=>
  rw [ha,if_pos rfl] at hq
  rw [hq,aG]
  clear hq r
  dsimp only
  rw [abp (by intro h;have:=cg (ai v).length lb;rw [h] at this;simp at this;omega) (by rw [cg];omega),Option.bind_some]
  dsimp only
  refine Bu (Q:=Ej v) fun F hF r hr=> ?_
  rcases aaq h0 R0 ((lb.map (·.2)).sum,0,0,0,0) (lb.map (·.2)) (az (ai v).length lb) [] (cg _ _) ha ha (lb.map (·.1)) _ (by rw [hF];with_reducible apply qV;repeat (with_reducible first | exact ago | apply mM)) r hr with ⟨f,y,hf,he,h2⟩ | ⟨⟨br,fl,am⟩,qs,he,e1,hqs,hql,hbr,h2⟩
  ·rw [h2,eV]
   exact .inl ⟨f,y,hf,Ws h1 ha he,rfl⟩
  clear hr hF F
  rw [h2,aG]
  clear h2 r
  dsimp only at e1 hbr ⊢
  subst e1
  refine Bu (Q:=Ej v) fun F hF r hr=> ?_
  have hq:=abN h0 R0 (lb.map (·.2)).sum 0 0 0 (az (ai v).length lb) h1 qs am (bN (ai v).length fl) hqs (by omega) hbr _ (by rw [hF,aeu];with_reducible apply qV;repeat (with_reducible first | exact ago | apply mM)) r hr
  clear hr hF F
  cases ht:aV (cU v (lb++qs.flatten)) with
  | false=>
   rw [ht,if_neg (by simp)] at hq
   obtain ⟨y,h2⟩:=hq
   rw [h2,eV]
   exact .inl ⟨1,y,by omega,Xo h1 ha he ht,rfl⟩
  | true=>
   rw [ht,if_pos rfl] at hq
   rw [hq,aG]
   clear hq r
   dsimp only
   have hsh:=YF h1 ha he ht
   have hs:=Ke hv hsh
   have ham:aV am=true:=hs.am
   have haml:am.length≤20:=hs.aml
   refine Bu (Q:=Ej v) fun F hF r hr=> ?_
   have hq:=Vi R0 (lb.map (·.2)) (az (ai v).length lb) (qs.map (az (ai v).length)) am (az (ai v).length (lb++qs.flatten)) (cU v (lb++qs.flatten)) (bN (ai v).length fl) (lb.map (·.2)).sum 0 (cU v (lb++qs.flatten)).sum 0 haml ham _ (by rw [hF];with_reducible apply qV;repeat (with_reducible first | exact ago | apply mM)) r hr
   rw [hq,aG]
   clear hq hr r hF F
   dsimp only
   have q1:=Lm (l:=lb.map (·.2)) hs.nets
   have q2:=Lm ham
   have q3:=Lm ht
   have q4:(lb.map (·.2)).length=lb.length:=by simp
   have q5:(cU v (lb++qs.flatten)).length=(ai v).length:=by simp [cU]
   rw [q4] at q1
   rw [q5] at q3
   have q6:lb.length*1000000000000000≤500*1000000000000000:=age _ (by omega)
   have q7:am.length*1000000000000000≤20*1000000000000000:=age _ haml
   have q8:(ai v).length*1000000000000000≤20*1000000000000000:=age _ hrn.2
   rw [aA (n:=(lb.map (·.2)).sum+am.sum) (by omega) (by omega),aA (n:=(lb.map (·.2)).sum+am.sum+(cU v (lb++qs.flatten)).sum) (by omega) (by omega)]
   refine Bu (Q:=Ej v) fun F hF r hr=> ?_
   have h5f:5<F:=by
    have p1:0<(lb.map (·.2)).length:=by omega
    have p2:0<(az (ai v).length lb).length:=by rw [cg];omega
    have p3:0<(az (ai v).length (lb++qs.flatten)).length:=by rw [cg];omega
    have p4:0<(cU v (lb++qs.flatten)).length:=by omega
    rw [hF]
    repeat (with_reducible first | exact Nat.one_lt_two | apply TN p1 | apply TN p2 | apply TN p3 | apply TN p4 | apply mM)
   have hq:=aco R0 (lb.map (·.2)) (az (ai v).length lb) (qs.map (az (ai v).length)) am (az (ai v).length (lb++qs.flatten)) (cU v (lb++qs.flatten)) (bN (ai v).length fl) (lb.map (·.2)).sum am.sum ((lb.map (·.2)).sum+am.sum) (cU v (lb++qs.flatten)).sum ((lb.map (·.2)).sum+am.sum+(cU v (lb++qs.flatten)).sum) _ h5f r hr
   ·cases h5:aV [(lb.map (·.2)).sum,am.sum,(lb.map (·.2)).sum+am.sum,(cU v (lb++qs.flatten)).sum,(lb.map (·.2)).sum+am.sum+(cU v (lb++qs.flatten)).sum] with
    | false=>
     rw [h5,if_neg (by simp)] at hq
     rw [hq,eV]
     refine .inl ⟨1,_,by omega, ?_,rfl⟩
     unfold kO;rw [hsh];dsimp only [Eu];rw [h5,cond_false]
    | true=>
     rw [h5,if_pos rfl] at hq
     rw [hq,aG]
     refine .inr ⟨_,_,_,hsh, ?_,rfl⟩
     unfold kO;rw [hsh];dsimp only [Eu];rw [h5,cond_true]
end Go.Md
namespace Go.Md
open Go.Dn
theorem YM (v:ah) (n:Int):uL v n=some (Hf v n,()):=rfl
theorem Us {v:ah} (hv:lf v) {s:ShZ} (hs:SOk v s) (nets lines:List Int) (B:List (List Int)) (am:List Int) (T:Int×Int×Int×Int×Int):
 sU (nets,lines,B,am,az (ai v).length s.br,s.taxes,bN (ai v).length s.fl,T) v=some (Jq v s,()):=by
 have hrn:0<(ai v).length∧(ai v).length≤20:=hv.rn
 unfold sU
 generalize hD:((nets,lines,B,am,az (ai v).length s.br,s.taxes,bN (ai v).length s.fl,T):bC)=D
 have loop:∀ f,(ai v).length<f→iter f ((D,([]:List bQ),ai v,((ai v).length:Int),(0:Int),v.1,v.2.1,v.2.2.1,v.2.2.2.1,v.2.2.2.2.1,v.2.2.2.2.2.1,v.2.2.2.2.2.2.1,v.2.2.2.2.2.2.2.1,v.2.2.2.2.2.2.2.2,()):o7) o5=some (Sum.inr (Jq v s,())):=by
  intro f hf
  refine bn (Inv:=fun i X=>X=(D,((List.range i).filter fun k=>s.fl.contains k).map (Ep v s),ai v,((ai v).length:Int),(i:Int),v.1,v.2.1,v.2.2.1,v.2.2.2.1,v.2.2.2.2.1,v.2.2.2.2.2.1,v.2.2.2.2.2.2.1,v.2.2.2.2.2.2.2.1,v.2.2.2.2.2.2.2.2,())) (ai v).length (fun r=>r=some (Sum.inr (Jq v s,()))) ?_ ?_ f 0 _ rfl (by omega) (by omega)
  ·rintro i _ again hi rfl ih
   have hr:(ai v)[i]? =some (ai v)[i]:=aH hi
   generalize (ai v)[i]=r at hr
   have hrd:(ai v).getD i ([],(0,0))=r:=by rw [List.getD_eq_getElem?_getD,hr];rfl
   have htz:(s.taxes)[i]? =some (tN v s.br i):=by
    rw [hs.txe];unfold cU;rw [List.getElem?_map,ae4 hi];rfl
   have e1:idx D.2.2.2.2.2.2.1 (i:Int)=some (s.fl.contains i):=by
    rw [← hD];show idx (bN (ai v).length s.fl) (i:Int)=_;rw [bh,AW _ hi]
   have e2:idx D.2.2.2.2.1 (i:Int)=some (atB s.br i):=by
    rw [← hD];show idx (az (ai v).length s.br) (i:Int)=_;rw [bh,fW _ hi]
   have e3:idx D.2.2.2.2.2.1 (i:Int)=some (tN v s.br i):=by
    rw [← hD];show idx s.taxes (i:Int)=_;rw [bh,htz]
   have hfl:(((List.range i).filter fun k=>s.fl.contains k).map (Ep v s)).length≤20:=by
    rw [afe]
    have:=List.length_filter_le (fun k=>s.fl.contains k) (List.range i)
    rw [afh] at this
    omega
   have hstep:((List.range (i+1)).filter fun k=>s.fl.contains k).map (Ep v s)=((List.range i).filter fun k=>s.fl.contains k).map (Ep v s)++(if s.fl.contains i=true then [Ep v s i] else []):=by
    rw [afH,aeX,afl]
    cases hc:s.fl.contains i with
    | true=>rw [List.filter_cons_of_pos (by rw [hc]),List.filter_nil,if_pos rfl];rfl
    | false=>rw [List.filter_cons_of_neg (by rw [hc];exact ad9),List.filter_nil,if_neg ad9];rfl
   unfold o5
   dsimp only
   rw [aE (by omega),bh,hr]
   simp only [Option.bind_some,e1]
   cases hc:s.fl.contains i with
   | true=>
    rw [hc,if_pos rfl] at hstep
    simp only [cond_true,e2,e3,Option.bind_some,YM]
    rw [aJ (fY (by omega) (by omega)),aA (by omega) (by omega)]
    refine ih _ ?_
    rw [hstep]
    unfold Ep
    rw [hrd]
    rfl
   | false=>
    rw [hc,if_neg (by simp),aeM] at hstep
    rw [cond_false,aA (by omega) (by omega)]
    refine ih _ ?_
    rw [hstep]
    rfl
  ·rintro _ again rfl
   unfold o5
   dsimp only
   rw [aF (by omega)]
   rfl
 rw [loop _ (by repeat (with_reducible first | exact ago | apply qV | apply mM)),aG]
theorem XR (v:ah):Kd v=some (LA v):=by
 unfold Kd LA
 rw [DD,Option.bind_some]
 dsimp only
 by_cases h0:iq v=0
 ·rw [if_neg (by simpa using h0),show (iq v != 0)=false by simpa using h0,cond_false]
  have hv:=jM h0
  rcases PK h0 with ⟨f,y,hf,ht,e⟩ | ⟨s,lines,B,hs,ht,e⟩
  ·rw [e,ht,Option.bind_some]
   dsimp only
   rw [show (f != 0)=true by simpa using hf,cond_true]
  ·rw [e,ht,Option.bind_some]
   dsimp only
   rw [show ((0:Int) != 0)=false from rfl,cond_false,Us hv (Ke hv hs),Option.bind_some]
 ·rw [if_pos h0,show (iq v != 0)=true by simpa using h0,cond_true]
theorem Wp (v:ah):Hh v=some (Qx v):=by
 unfold Hh Qx
 rw [DD,Option.bind_some]
 dsimp only
 by_cases h0:iq v=0
 ·rw [if_neg (by simpa using h0),show (iq v != 0)=false by simpa using h0,cond_false]
  rcases PK h0 with ⟨f,y,hf,ht,e⟩ | ⟨s,lines,B,hs,ht,e⟩
  ·rw [e,ht,Option.bind_some]
   dsimp only
   rw [show (f != 0)=true by simpa using hf,cond_true]
   rfl
  ·rw [e,ht,Option.bind_some]
   dsimp only
   rw [show ((0:Int) != 0)=false from rfl,cond_false]
   rfl
 ·rw [if_pos h0,show (iq v != 0)=true by simpa using h0,cond_true]
  rfl
theorem YL (l:List bQ) (hl:l.length≤1000):mh l l=some (true,()):=by
 unfold mh
 rw [show (((List.length l:Nat):Int) != ((List.length l:Nat):Int))=false by simp,cond_false]
 have loop:∀ f,l.length<f→iter f ((l,l,(l.length:Int),(0:Int),()):ku) ko=some (Sum.inr ()):=by
  intro f hf
  refine bn (Inv:=fun i X=>X=(l,l,(l.length:Int),(i:Int),())) l.length (fun r=>r=some (Sum.inr ())) ?_ ?_ f 0 _ rfl (by omega) (by omega)
  ·rintro i _ again hi rfl ih
   unfold ko
   dsimp only
   rw [aE (by omega),bh,aH hi,Option.bind_some,Option.bind_some]
   simp only [agA,Bool.and_self,Bool.not_true,cond_false]
   rw [aA (by omega) (by omega)]
   exact ih _ rfl
  ·rintro _ again rfl
   unfold ko
   dsimp only
   rw [aF (by omega)]
 rw [loop _ (by repeat (with_reducible first | exact ago | apply qV | apply mM)),aG]
theorem aag (v:ah):(LA v).1.length≤1000:=by
 unfold LA
 by_cases h0:iq v=0
 ·rw [if_neg (by simpa using h0)]
  have hrn:0<(ai v).length∧(ai v).length≤20:=(jM h0).rn
  cases kO v with
  | inl f=>simp
  | inr s=>
   dsimp only
   unfold Jq
   rw [afe]
   have:=List.length_filter_le (fun k=>s.fl.contains k) (List.range (ai v).length)
   rw [afh] at this
   omega
 ·rw [if_pos h0];simp
theorem Tz (v:ah):mc v=some (true,()):=by
 unfold mc
 rw [V5,Option.bind_some,XR,Option.bind_some]
 simp only [agB,cond_false]
 rw [YL _ (aag v),Option.bind_some]
 simp only [Bool.not_true,cond_false]
 rw [UE,Option.bind_some,Wp,Option.bind_some]
 simp only [agA,Bool.and_self,cond_true]
 rw [Y6]
 rfl
end Go.Md
