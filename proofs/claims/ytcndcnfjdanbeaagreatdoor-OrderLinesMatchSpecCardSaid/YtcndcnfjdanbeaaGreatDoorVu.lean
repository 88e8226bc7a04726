/-
  Plain facts: the lines by their numbers; quantities. No condition.
-/
import Derived.Test.YtcndcnfjdanbeaaGreatDoorVt
import Derived.Test.YtcndcnfjdanbeaaGreatDoorVx
set_option linter.all false
namespace Go.Md
open Go.Dn
structure Ids (A:List aj):Prop where
 nd:(A.map aj.no).Nodup
 rg:∀ x,x∈A→1≤x.no∧x.no≤99999
 len:A.length≤500
 ne:A≠[]
theorem Ge {n:Int}:∀ {A:List aj} {i:Nat},bR n i A=none→n∉A.map aj.no
 | [],_,_=>by simp
 | x::r,i,h=>by
  simp only [bR] at h
  by_cases hx:n=x.no
  ·rw [if_pos hx] at h;cases h
  ·rw [if_neg hx] at h
   have:=Ge h
   simp only [aek,aeq,afE]
   exact ⟨hx,this⟩
theorem QX {A:List aj} {k:Nat} {y x:aj} (hx:A[k]? =some x) (h:y.no=x.no):(A.set k y).map aj.no=A.map aj.no:=by
 rw [List.map_set]
 refine adR fun i=> ?_
 rw [ad4]
 split
 ·rename_i e
  subst e
  have hl:=(List.getElem?_eq_some_iff.1 hx).1
  simp only [List.length_map,hl,afA,List.getElem?_map,hx,afm,h]
 ·rfl
theorem S8 {o:ai} {l:List ah} {i:Nat} {d:ah} {A:List aj} (hA:Good l A) (hI:Ids A) (hl:∀ d,d∈l→bn d=0) (hd:l[i]? =some d):Ids (bS o l i d A).2:=by
 unfold bS
 by_cases k1:aF d=1
 ·rw [if_pos k1]
  split
  ·exact hI
  ·rename_i hf
   split
   ·exact hI
   ·split
    ·exact hI
    ·rename_i h5 _
     obtain ⟨_,_,_,_,_,hln,_⟩:=bG (hl d (List.mem_of_getElem? hd))
     refine ⟨?_,fun x hx=> ?_, ?_,by simp⟩
     ·rw [aei,List.nodup_append]
      refine ⟨hI.nd,by simp,fun a ha b hb e=> ?_⟩
      simp only [aek,aem,aez] at hb
      subst hb;subst e
      exact Ge hf ha
     ·rcases aen.1 hx with hx | hx
      ·exact hI.rg x hx
      ·simp only [aez] at hx
       subst hx
       exact hln
     ·rw [aeb]
      show A.length+1≤500
      omega
 ·rw [if_neg k1]
  split
  ·exact hI
  ·rename_i k hk
   split
   ·rename_i x hx
    obtain ⟨h1,h2⟩:=hA.sound.line x (List.mem_of_getElem? hx)
    obtain ⟨_,_,a3,_⟩:=DO (o:=o) h1 h2 hl hd
    refine ⟨by rw [QX hx a3];exact hI.nd,fun y hy=> ?_,by rw [aeg];exact hI.len,fun e=>hI.ne (by simpa using e)⟩
    rcases aex hy with hy | hy
    ·exact hI.rg y hy
    ·subst hy;rw [a3];exact hI.rg x (List.mem_of_getElem? hx)
   ·exact hI
theorem aaH {o:ai} {l:List ah} {wt day:Int} (hl:∀ d,d∈l→bn d=0):∀ (r:List ah) (i:Nat) (A:List aj) (ref:List (Int×Int)) (pts:List ay),l.drop i=r→Good l A→Ids A→
 Good l (eU o l wt day r i A ref pts).1∧Ids (eU o l wt day r i A ref pts).1:=by
 intro r
 induction r with
 | nil=>intro i A ref pts _ hA hI;exact ⟨hA,hI⟩
 | cons d r ih=>
  intro i A ref pts hdr hA hI
  have hd:l[i]? =some d:=by
   have:=congrArg (·[0]?) hdr
   simpa [ad1] using this
  have hr':l.drop (i+1)=r:=by
   have:=congrArg List.tail hdr
   simpa [aeH] using this
  have hgood:=uV (o:=o) hA hl hd
  have hids:=S8 (o:=o) hA hI hl hd
  simp only [eU]
  split
  ·exact ⟨hA,hI⟩
  ·split
   ·exact ih (i+1) _ _ _ hr' hgood hids
   ·exact ih (i+1) _ _ _ hr' hgood hids
theorem Mt {o:ai} (ho:jW o=0):Ids (gX o):=by
 obtain ⟨_,_,hlen,hne,hgo,_⟩:=qB ho
 obtain ⟨hln,_,hpw⟩:=lg hgo
 refine ⟨?_,fun x hx=> ?_,by rw [List.length_map];exact hlen,fun e=>hne (by simpa using e)⟩
 ·rw [ael]
  exact List.Pairwise.map _ (fun a b (h:a.1<b.1) e=>by
   have e':a.1=b.1:=e
   omega) hpw
 ·obtain ⟨q,hq,rfl⟩:=aeu.1 hx
  exact (hln q hq).2.2.2.2.1
theorem tq {o:ai} {l:List ah} (h:dh o l=0) (wt day:Int):Good l (fC o l wt day).1∧Ids (fC o l wt day).1:=by
 obtain ⟨h1,h2⟩:=BU h
 obtain ⟨h3,h4⟩:=si h2
 exact aaH h4 l 0 _ [] [] rfl (u7 h1 l) (Mt h1)
def aH (A:List aj):List aj:=A.mergeSort fun x y=>decide (x.no≤y.no)
theorem cc (A:List aj):(aH A).Perm A:=List.mergeSort_perm A _
theorem PL (A:List aj):(aH A).Pairwise fun x y=>x.no≤y.no:=by
 have:=List.pairwise_mergeSort (le:=fun x y:aj=>decide (x.no≤y.no)) (fun a b c h1 h2=>by
  simp only [afu] at *;omega) (fun a b=>by simp only [adg,afu];omega) A
 exact this.imp fun h=>by simpa using h
theorem SH {A:List aj} (hI:Ids A):(aH A).Pairwise fun x y=>x.no<y.no:=by
 have h1:=PL A
 have h2:((aH A).map aj.no).Nodup:=((cc A).map _).nodup_iff.2 hI.nd
 have h3:(aH A).Pairwise fun x y=>x.no≠y.no:=aeD.1 h2
 exact (h1.and h3).imp fun ⟨a,b⟩=>by omega
theorem Gp:∀ (A:List aj) (i:Nat),(qN i A).map (·.1)=A.map aj.no
 | [],_=>rfl
 | x::r,i=>by simp only [qN,aek,Gp r]
theorem VK {A:List aj} (hI:Ids A):Mo (mapOf A)=true:=by
 unfold Mo
 rw [Gp,Cd]
 have:=hI.len
 simp only [ac1,afu,adC]
 refine ⟨by omega,fun p hp=> ?_,hI.nd⟩
 have hm:p.1∈(mapOf A).map (·.1):=aeu.2 ⟨p,hp,rfl⟩
 rw [Gp] at hm
 obtain ⟨x,hx,e⟩:=aeu.1 hm
 have:=hI.rg x hx
 omega
theorem Ox (A:List aj):uZ (mapOf A)=(aH A).map aj.no:=by
 unfold uZ
 rw [Gp]
 refine List.Perm.eq_of_pairwise (le:=fun a b:Int=>decide (a≤b)=true) (fun a b _ _ h1 h2=> ?_) ?_ ?_ ?_
 ·simp only [afu] at h1 h2;omega
 ·exact List.pairwise_mergeSort (le:=fun x y:Int=>decide (x≤y)) (fun a b c h1 h2=>by simp only [afu] at *;omega) (fun a b=>by simp only [adg,afu];omega) _
 ·exact aeD.2 ((PL A).imp fun h=>by simpa using h)
 ·exact (List.mergeSort_perm _ _).trans ((cc A).map _).symm
theorem Qx {n:Int}:∀ {A:List aj} {i k:Nat} {x:aj},(A.map aj.no).Nodup→A[k]? =some x→x.no=n→bR n i A=some (i+k)
 | [],_,_,_,_,h,_=>by simp at h
 | y::r,i,0,x,_,h,hn=>by
  have e:y=x:=by simpa using h
  subst e
  simp only [bR,if_pos hn.symm,aeR]
 | y::r,i,k+1,x,hnd,h,hn=>by
  have h':r[k]? =some x:=by simpa using h
  rw [aek,List.nodup_cons] at hnd
  have hne:¬n=y.no:=fun e=>hnd.1 (by
   rw [← e, ← hn]
   exact aeu.2 ⟨x,List.mem_of_getElem? h',rfl⟩)
  simp only [bR,if_neg hne]
  rw [Qx hnd.2 h' hn,show i+1+k=i+(k+1) by omega]
theorem TJ {A:List aj} (hI:Ids A) {x:aj} (hx:x∈aH A):∃ k,dw x.no A=some k∧A[k]? =some x:=by
 obtain ⟨k,hk⟩:=List.getElem?_of_mem ((cc A).mem_iff.1 hx)
 exact ⟨k,by have:=Qx (i:=0) hI.nd hk rfl;rwa [aff] at this,hk⟩
def nK (A:List aj):List (Option Nat):=(aH A).map fun x=>dw x.no A
end Go.Md
namespace Go.Md
open Go.Dn
theorem abi (A:List aj):nK A=(uZ (mapOf A)).map fun k=>dw k A:=by
 rw [Ox,ael];rfl
theorem mM {A:List aj} (hI:Ids A) (o:ai) (l:List ah) (ref:List aa) (pts:List ay) (wt:Int):
 fq (o,l,mapOf A,ref,pts,wt,())=some (nK A,(o,l,mapOf A,ref,pts,wt,()),()):=by
 obtain ⟨onum,obuy,osel,oday,oext,olns⟩:=o
 have sH:maxLen=9223372036854775807:=rfl
 unfold fq
 dsimp only
 rw [cE (VK hI)]
 have hkl:(uZ (mapOf A)).length≤500:=by
  rw [Ox,List.length_map,(cc A).length_eq];exact hI.len
 rw [abi]
 generalize uZ (mapOf A)=ks at hkl
 have loop:∀ n,ks.length<n→iter (X:=fG) (β:=iR) n ([],(ks.length:Int),0,onum,obuy,osel,oday,oext,olns,l,wt,ks,ref,pts,mapOf A,()) iQ=some (Sum.inr (ks.map (fun k=>dw k A),onum,obuy,osel,oday,oext,olns,l,wt,ref,pts,mapOf A,())):=by
  intro n hn
  refine bQ (Inv:=fun i X=>X=(((ks.map (fun k=>dw k A)).take i,(ks.length:Int),(i:Int),onum,obuy,osel,oday,oext,olns,l,wt,ks,ref,pts,mapOf A,()):fG)) ks.length (fun z=>z=some (Sum.inr (ks.map (fun k=>dw k A),onum,obuy,osel,oday,oext,olns,l,wt,ref,pts,mapOf A,()))) ?_ ?_ n 0 _ rfl (afg _) (by omega)
  ·rintro i X again hi rfl hag
   unfold iQ
   dsimp only
   obtain ⟨y,hy⟩:∃ y,ks[i]? =some y:=⟨ks[i],List.getElem?_eq_getElem hi⟩
   have hlen:((ks.map (fun k=>dw k A)).take i).length=i:=by rw [aeh,List.length_map];omega
   rw [decide_eq_true (show (i:Int)<(ks.length:Int) by omega),cond_true,cE (by simp),adA,hy,Option.bind_some,hlen,cE (by
    rw [ac1];exact ⟨decide_eq_true (by omega),decide_eq_true (by omega)⟩),aA (n:=(i:Int)+1) (by omega) (by omega),gd]
   have e:(ks.map (fun k=>dw k A)).take i++[bR y 0 A]=(ks.map (fun k=>dw k A)).take (i+1):=by
    rw [aeI,List.getElem?_map,hy];rfl
   rw [e]
   exact hag _ rfl
  ·rintro X again rfl
   unfold iQ
   dsimp only
   rw [afs (show ¬(ks.length:Int)<(ks.length:Int) by omega),cond_false,aeN (by rw [List.length_map];exact aeX _)]
 have h2:=Cd A 0
 rw [loop _ (by
  simp only [aee,adr]
  omega)]
 rfl
theorem Mg {l:List ah} {A:List aj} (hA:Good l A) (hI:Ids A) {i:Nat} {x:aj} (hx:(aH A)[i]? =some x):∃ k,(nK A)[i]? =some (some k)∧A[k]? =some x∧fI (some k) (A.map aj.tup)=some (aT x,())∧x∈A:=by
 obtain ⟨k,hk,hxk⟩:=TJ hI (List.mem_of_getElem? hx)
 have hm:=List.mem_of_getElem? hxk
 refine ⟨k, ?_,hxk,sI hxk (hA.sound.line x hm).1 (hA.pr x hm),hm⟩
 unfold nK
 rw [List.getElem?_map,hx,afm,hk]
def lnF (o:ai) (l:List ah) (day:Int):Int:=if dh o l≠0 then dh o l else if 1≤day∧day≤3652059 then 0 else 1
theorem Px (o:ai) (l:List ah) (day:Int):xA o l day=some (if lnF o l day=0 then (aH (fC o l 0 day).1).map aT else [],lnF o l day,()):=by
 have sH:maxLen=9223372036854775807:=rfl
 unfold xA
 rw [lp]
 unfold lnF
 by_cases h:dh o l=0
 rotate_left
 ·rw [if_pos (show dh o l≠0 from h),if_pos (show dh o l≠0 from h)]
  show (bif dh o l != 0 then _ else _)=_
  rw [cq h,cond_true,if_neg h]
 rw [if_neg (show ¬dh o l≠0 from fun e=>e h),if_neg (show ¬dh o l≠0 from fun e=>e h)]
 by_cases hd:1≤day∧day≤3652059
 rotate_left
 ·rw [if_pos hd,if_neg hd];rfl
 rw [if_neg (show ¬¬(1≤day∧day≤3652059) from fun e=>e hd),if_pos hd,if_pos rfl]
 refine Eq.trans zD ?_
 rw [wL h hd,Option.bind_some]
 dsimp only
 rw [show ((0:Int) != 0)=false from rfl,cond_false]
 obtain ⟨hg,hI⟩:=tq h 0 day
 rw [mM hI o l,Option.bind_some]
 generalize (fC o l 0 day).1=A at hg hI
 have hSl:(aH A).length≤500:=by rw [(cc A).length_eq];exact hI.len
 have hHl:(nK A).length=(aH A).length:=by unfold nK;rw [List.length_map]
 dsimp only
 rw [hHl]
 have loop:∀ n,(aH A).length<n→iter (X:=mK) (β:=qQ) n ([],((aH A).length:Int),0,nK A,A.map aj.tup,()) qP=some (Sum.inr ((aH A).map aT,A.map aj.tup,())):=by
  intro n hn
  refine bQ (Inv:=fun i X=>X=((((aH A).map aT).take i,((aH A).length:Int),(i:Int),nK A,A.map aj.tup,()):mK)) (aH A).length (fun z=>z=some (Sum.inr ((aH A).map aT,A.map aj.tup,()))) ?_ ?_ n 0 _ rfl (afg _) (by omega)
  ·rintro i X again hi rfl hag
   unfold qP
   dsimp only
   obtain ⟨x,hx⟩:∃ y,(aH A)[i]? =some y:=⟨(aH A)[i],List.getElem?_eq_getElem hi⟩
   obtain ⟨k,hk,_,hst,_⟩:=Mg hg hI hx
   have hlen:(((aH A).map aT).take i).length=i:=by rw [aeh,List.length_map];omega
   rw [decide_eq_true (show (i:Int)<((aH A).length:Int) by omega),cond_true,hHl,cE (by simp;omega),adA,hk,Option.bind_some,hst,Option.bind_some,hlen,cE (by
    rw [ac1];exact ⟨decide_eq_true (by omega),decide_eq_true (by omega)⟩),aA (n:=(i:Int)+1) (by omega) (by omega)]
   have e:((aH A).map aT).take i++[aT x]=((aH A).map aT).take (i+1):=by
    rw [aeI,List.getElem?_map,hx];rfl
   dsimp only
   rw [e]
   exact hag _ rfl
  ·rintro X again rfl
   unfold qP
   dsimp only
   rw [afs (show ¬((aH A).length:Int)<((aH A).length:Int) by omega),cond_false,aeN (by rw [List.length_map];exact aeX _)]
 rw [loop _ (by simp only [aee,adr];omega)]
 rfl
theorem FE (l:List bf) (hl:l.length≤2001):jP l l=some (true,()):=by
 unfold jP
 rw [show ((l.length:Int) != (l.length:Int))=false by simp,cond_false]
 have:∀ n,l.length<n→iter (X:=fe) (β:=iB) n (l,l,(l.length:Int),0,()) iA=some (Sum.inr ()):=by
  intro n hn
  refine bQ (Inv:=fun i X=>X=((l,l,(l.length:Int),(i:Int),()):fe)) l.length (fun z=>z=some (Sum.inr ())) ?_ ?_ n 0 _ rfl (afg _) (by omega)
  ·rintro i X again hi rfl hag
   unfold iA
   dsimp only
   obtain ⟨y,hy⟩:∃ y,l[i]? =some y:=⟨l[i],List.getElem?_eq_getElem hi⟩
   rw [decide_eq_true (show (i:Int)<(l.length:Int) by omega),cond_true,bJ hy,Option.bind_some,Option.bind_some,aA (n:=(i:Int)+1) (by omega) (by omega)]
   simp only [afp,ac3,Bool.not_true,cond_false]
   exact hag _ rfl
  ·rintro X again rfl
   unfold iA
   dsimp only
   rw [afs (show ¬(l.length:Int)<(l.length:Int) by omega),cond_false]
 rw [this _ (by omega)]
 rfl
theorem JG {o:ai} {l:List ah} {day:Int} (h:lnF o l day=0):dh o l=0∧1≤day∧day≤3652059:=by
 unfold lnF at h
 split at h
 ·rename_i h1;exact absurd h h1
 ·rename_i h1
  split at h
  ·rename_i h2;exact ⟨adi.1 h1,h2⟩
  ·cases h
end Go.Md
namespace Go.Md
open Go.Dn
theorem KQ (z:Int) (hz:z.natAbs≤9000000000000000000) (p:Nat) (hp:p≤1000):eN (z,(p:Int))=some (((few p z).1,((few p z).2:Int)),()):=by
 have loop:∀ (n:Nat) (z:Int) (p:Nat),z.natAbs≤9000000000000000000→p≤1000→p<n→iter (X:=zL) (β:=zK) n (z,(p:Int),0,0,()) zI=some (Sum.inr ((few p z).1,((few p z).2:Int),0,0,())):=by
  intro n
  induction n with
  | zero=>intro z p _ _ h;omega
  | succ n ih=>
   intro z p hz hp hn
   rw [cF]
   generalize hag:(fun y=>iter n y zI)=again
   unfold zI
   dsimp only
   cases p with
   | zero=>rw [bH (by omega)];rfl
   | succ p=>
    rw [bE (by omega)]
    by_cases hm:z % 10=0
    ·have h1:Int.tmod z 10=0:=Int.tmod_eq_zero_of_dvd (Int.dvd_of_emod_eq_zero hm)
     have h2:Int.tdiv z 10=z / 10:=Int.tdiv_eq_ediv_of_dvd (Int.dvd_of_emod_eq_zero hm)
     have e:few (p+1) z=few p (z / 10):=by simp [few,hm]
     rw [h1,h2,show ((0:Int)==0)=true from rfl,cond_true,aA (by omega) (by omega),aA (by omega) (by omega),e, ← hag,show ((p+1:Nat):Int) - 1=(p:Int) by omega]
     exact ih (z / 10) p (by omega) (by omega) (by omega)
    ·have h1:(Int.tmod z 10==0)=false:=by
      simp only [afo,ne_eq]
      intro h
      exact hm (Int.emod_eq_zero_of_dvd (Int.dvd_of_tmod_eq_zero h))
     have e:few (p+1) z=(z,p+1):=by simp [few,hm]
     rw [h1,cond_false,e]
 unfold eN
 dsimp only
 rw [loop _ z p hz hp (by omega),aS]
structure kF (d:aa) (n:Int):Prop where
 p0:0≤d.2
 p3:d.2≤3
 val:d.1*10 ^ (3 - d.2).toNat=n
 bd:n.natAbs≤2000000000000000
theorem kF.unit {d:aa} {n:Int} (h:kF d n):d.1.natAbs≤n.natAbs:=by
 have:=h.val
 have h1:(1:Nat)≤10 ^ (3 - d.2).toNat:=Nat.one_le_pow _ _ (by omega)
 rw [← h.val,adq,ads]
 exact Nat.le_mul_of_pos_right _ h1
theorem sw {d:aa} {n:Int} (h:kF d n):oX d=some (n,()):=by
 obtain ⟨u,p⟩:=d
 have hu:=h.unit
 have hb:=h.bd
 have p0:=h.p0
 have p3:=h.p3
 obtain ⟨k,hk⟩:∃ k:Nat,(3 - p:Int)=(k:Int):=⟨(3 - p).toNat,by dsimp only at p3;omega⟩
 have hk3:k≤3:=by dsimp only at p0;omega
 have hv:u*10 ^ k=n:=by
  have:=h.val
  dsimp only at this
  rwa [hk,adA] at this
 dsimp only at hu
 unfold oX
 dsimp only
 rw [hk,aA (n:=(k:Int)) (by omega) (by omega)]
 have hm:∀ i,i≤k→(u*10 ^ i).natAbs≤n.natAbs:=fun i hi=>by
  rw [← hv,adq,adq,ads,ads]
  exact Nat.mul_le_mul_left _ (afd (by decide) hi)
 have loop:∀ m,k<m→iter (X:=wR) (β:=BF) m (u,(k:Int),0,()) BE=some (Sum.inr (n,())):=by
  intro m hm'
  refine bQ (Inv:=fun i X=>X=((u*10 ^ i,(k:Int),(i:Int),()):wR)) k (fun z=>z=some (Sum.inr (n,()))) ?_ ?_ m 0 _ (by simp) (afg _) (by omega)
  ·rintro i X again hi rfl hag
   unfold BE
   dsimp only
   have h1:=hm (i+1) (by omega)
   have e:u*10 ^ i*10=u*10 ^ (i+1):=by rw [adv,adm]
   rw [decide_eq_true (show (i:Int)<(k:Int) by omega),cond_true,e,aA (n:=u*10 ^ (i+1)) (by omega) (by omega),aA (n:=(i:Int)+1) (by omega) (by omega)]
   exact hag _ rfl
  ·rintro X again rfl
   unfold BE
   dsimp only
   rw [afs (show ¬(k:Int)<(k:Int) by omega),cond_false,hv]
 rw [loop _ (by simp only [adr];omega)]
 rfl
theorem cK {n:Int} (h:n.natAbs≤2000000000000000):kF (bz n) n:=by
 obtain ⟨h1,h2,h3⟩:=DQ 3 n
 refine ⟨by show (0:Int)≤((few 3 n).2:Int);omega,by show ((few 3 n).2:Int)≤3;omega, ?_,h⟩
 show (few 3 n).1*10 ^ (3 - ((few 3 n).2:Int)).toNat=n
 rw [show (3 - ((few 3 n).2:Int)).toNat=3 - (few 3 n).2 by omega]
 exact h2
theorem qX {a b:aa} {m n:Int} (ha:kF a m) (hb:kF b n):kR a b=some (bz (m+n),()):=by
 have h1:=ha.bd
 have h2:=hb.bd
 unfold kR
 rw [sw ha,Option.bind_some,sw hb,Option.bind_some]
 dsimp only
 rw [aA (by omega) (by omega)]
 have:=KQ (m+n) (by omega) 3 (by omega)
 rw [show ((3:Nat):Int)=3 from rfl] at this
 rw [this]
 rfl
theorem kF.neg {d:aa} {n:Int} (h:kF d n):kF (-d.1,d.2) (-n):=⟨h.p0,h.p3,by show -d.1*10 ^ (3 - d.2).toNat= -n;rw [Int.neg_mul,h.val],by rw [Int.natAbs_neg];exact h.bd⟩
theorem OG {a b:aa} {m n:Int} (ha:kF a m) (hb:kF b n):Fb a b=some (bz (m - n),()):=by
 have h2:=hb.unit
 have h3:=hb.bd
 unfold Fb
 rw [Int.zero_sub,aA (n:= -b.1) (by omega) (by omega),qX ha hb.neg,Option.bind_some,Int.sub_eq_add_neg]
theorem AP (p:Nat) (n:Int):((few p n).1<0↔n<0)∧((few p n).1=0↔n=0):=by
 obtain ⟨_,h2,_⟩:=DQ p n
 have hp:(0:Int)<10 ^ (p - (few p n).2):=Int.pow_pos (by decide)
 generalize (few p n).1=u at h2
 generalize (10:Int) ^ (p - (few p n).2)=q at h2 hp
 subst h2
 refine ⟨⟨fun h=>Int.mul_neg_of_neg_of_pos h hp,fun h=> ?_⟩,⟨fun h=>by rw [h,Int.zero_mul],fun h=> ?_⟩⟩
 ·rcases Classical.em (u<0) with h1 | h1
  ·exact h1
  ·have:=ado (show 0≤u by omega) (Int.le_of_lt hp);omega
 ·rcases Int.mul_eq_zero.1 h with h1 | h1
  ·exact h1
  ·omega
theorem Rj {s:bf} {m n:Int} (h1:kF s.2.2.2.2.2.2.1 m) (h2:kF s.2.2.2.2.2.2.2.2.1 n):yH s=some (bz (m - n),()):=by
 unfold yH
 rw [OG h1 h2];rfl
theorem SA {s:bf} {c m n:Int} (h0:kF s.2.2.2.1 c) (h1:kF s.2.2.2.2.2.2.1 m) (h2:kF s.2.2.2.2.2.2.2.2.1 n) (hb:(m - n).natAbs≤2000000000000000):
 oY s=some ((s.1,s.2.1,s.2.2.1,s.2.2.2.1,s.2.2.2.2.1,s.2.2.2.2.2.1,s.2.2.2.2.2.2.1,s.2.2.2.2.2.2.2.1,s.2.2.2.2.2.2.2.2.1,bz (if c - m+n>0 then c - m+n else 0)),()):=by
 unfold oY
 rw [Rj h1 h2,Option.bind_some,OG h0 (cK hb),Option.bind_some]
 dsimp only
 have e:c - (m - n)=c - m+n:=by omega
 rw [e]
 by_cases h:c - m+n<0
 ·rw [decide_eq_true (show (bz (c - m+n)).1<0 from (AP 3 _).1.2 h),cond_true,if_neg (by omega)]
  unfold bz
  rw [O5]
  rfl
 ·rw [afs (show ¬(bz (c - m+n)).1<0 from fun h'=>h ((AP 3 _).1.1 h')),cond_false]
  by_cases h0:c - m+n>0
  ·rw [if_pos h0]
  ·rw [if_neg h0,show c - m+n=0 by omega]
end Go.Md
namespace Go.Md
open Go.Dn
structure FOk (o:ai) (l:List ah) (x:aj):Prop where
 art:cL x.art=true
 unit:cL x.unit=true
 pr:inR x.price 0 1000000000 4=true
 due:cw o≤x.due∧x.due≤3652059
 wish:0≤x.wish→aF (fP l x)=3→cw o≤ef (fP l x)
 off:x.ono≠0→cw o≤x.ount∧x.ount≤3652059
theorem Mk {n:Int} (h:xq n=true):1≤n∧n≤3652059:=afF h
theorem FOk.clr {o:ai} {l:List ah} {x:aj} (h:FOk o l x):FOk o l x.clr:=⟨h.art,h.unit,h.pr,h.due,h.wish,fun e=>absurd rfl e⟩
theorem Y0 {o:ai} {l:List ah} {d:ah} {x:aj} (hw:WOk l x) (hl:∀ d,d∈l→bn d=0) (hf:FOk o l x):FOk o l (bI l d x).2:=by
 have nw:∀ {y:aj},y.wish= -1→(0≤y.wish→aF (fP l y)=3→cw o≤ef (fP l y)):=fun e h=>by rw [e] at h;omega
 unfold bI
 by_cases h1:x.wish<0
 ·rw [if_pos h1];exact hf
 rw [if_neg h1]
 obtain ⟨w,hw1,hw2⟩:=hw.kind (by omega)
 have hwe:=jR hw1
 have hfw:=hf.wish (by omega)
 rw [hwe] at hfw
 rw [hwe]
 obtain ⟨_,_,_,hk,_,_,hu⟩:=bG (hl w (List.mem_of_getElem? hw1))
 obtain ⟨_,up,uu,_⟩:=cG hu
 by_cases h2:dNo w≠dTo d
 ·rw [if_pos h2];exact hf
 rw [if_neg h2]
 by_cases h3:aF d=5
 ·rw [if_pos h3]
  by_cases k2:aF w=2
  ·rw [if_pos k2]
   split
   ·exact hf
   ·exact ⟨hf.art,hf.unit,hf.pr,hf.due,nw rfl,hf.off⟩
  ·rw [if_neg k2]
   by_cases k1:aF w=1
   ·rw [if_pos k1];exact ⟨hf.art,hf.unit,hf.pr,hf.due,nw rfl,hf.off⟩
   ·rw [if_neg k1]
    by_cases k3:aF w=3
    ·rw [if_pos k3]
     have hd:=Mk (uu (by unfold usU;exact decide_eq_true (.inr (.inl k3))))
     exact ⟨hf.art,hf.unit,hf.pr,⟨hfw k3,hd.2⟩,nw rfl,hf.off⟩
    ·rw [if_neg k3]
     have hk':1≤aF w∧aF w≤11:=hk
     exact ⟨hf.art,hf.unit,up (by unfold usP;exact decide_eq_true (.inr (by omega))),hf.due,nw rfl,hf.off⟩
 ·rw [if_neg h3];exact ⟨hf.art,hf.unit,hf.pr,hf.due,nw rfl,hf.off⟩
theorem abw {o:ai} {l:List ah} {ext:Int} {d:ah} {x:aj} (hf:FOk o l x):FOk o l (bW ext d x).2:=by
 unfold bW
 split
 ·split
  ·exact hf
  ·split
   ·exact hf
   ·exact ⟨hf.art,hf.unit,hf.pr,hf.due,hf.wish,hf.off⟩
 ·split
  ·split
   ·exact hf
   ·exact ⟨hf.art,hf.unit,hf.pr,hf.due,hf.wish,hf.off⟩
  ·split
   ·exact hf
   ·exact ⟨hf.art,hf.unit,hf.pr,hf.due,hf.wish,hf.off⟩
theorem abR {o:ai} {l:List ah} {i:Nat} {d:ah} {x:aj} (hw:WOk l x) (hl:∀ d,d∈l→bn d=0) (hd:l[i]? =some d) (hf:FOk o l x):FOk o l (bg o l i d x).2:=by
 have ha:=Y0 (d:=d) hw hl hf
 have hm:=abw (ext:=bN o) (d:=d) hf
 obtain ⟨_,_,_,hk,_,_,hu⟩:=bG (hl d (List.mem_of_getElem? hd))
 obtain ⟨_,_,uu,_⟩:=cG hu
 unfold bg
 split
 ·unfold rA
  split
  ·exact hf
  ·rename_i h1
   split
   ·exact hf
   ·refine ⟨hf.art,hf.unit,hf.pr,hf.due,fun _ h3=> ?_,hf.off⟩
    have e:fP l { x with wish:=(i:Int) }=d:=jR (x:={ x with wish:=(i:Int) }) (by show l[((i:Int)).toNat]? =some d;simpa using hd)
    rw [e] at h3 ⊢
    rcases Int.lt_or_le (ef d) (cw o) with h | h
    ·exact absurd ⟨h3,h⟩ h1
    ·exact h
 ·split
  ·split
   ·exact ha.clr
   ·exact ha
  ·split
   ·rename_i k7
    split
    ·rename_i h0
     have hd:=Mk (uu (by unfold usU;exact decide_eq_true (.inr (.inr k7))))
     refine ⟨hf.art,hf.unit,hf.pr,hf.due,hf.wish,fun _=>⟨?_,hd.2⟩⟩
     unfold jA at h0
     split at h0
     ·cases h0
     ·show cw o≤ef d
      omega
    ·exact hf
   ·split
    ·unfold BH
     split
     ·exact hf
     ·split
      ·exact hf
      ·rename_i h0
       have:=hf.off (fun e=>h0 (.inl e))
       exact ⟨hf.art,hf.unit,hf.pr,this,hf.wish,fun e=>absurd rfl e⟩
    ·split
     ·split
      ·exact hm.clr
      ·exact hm
     ·exact hm
theorem aa7 {o:ai} {l:List ah} {i:Nat} {d:ah} {A:List aj} (hA:Good l A) (hF:∀ x,x∈A→FOk o l x) (hl:∀ d,d∈l→bn d=0) (hd:l[i]? =some d):∀ x,x∈(bS o l i d A).2→FOk o l x:=by
 unfold bS
 by_cases k1:aF d=1
 ·rw [if_pos k1]
  split
  ·exact hF
  ·split
   ·exact hF
   ·split
    ·exact hF
    ·rename_i h5 h6
     intro x hx
     rcases aen.1 hx with hx | hx
     ·exact hF x hx
     ·simp only [aez] at hx
      subst hx
      obtain ⟨_,_,_,_,_,_,hu⟩:=bG (hl d (List.mem_of_getElem? hd))
      obtain ⟨_,up,uu,ua,_⟩:=cG hu
      have hdy:=Mk (uu (by unfold usU;exact decide_eq_true (.inl k1)))
      obtain ⟨a1,a2⟩:=ua (by unfold usA;exact decide_eq_true k1)
      refine ⟨a1,a2,up (by unfold usP;exact decide_eq_true (.inl k1)),⟨by show cw o≤ef d;omega,hdy.2⟩,fun _ h3=> ?_,fun e=>absurd rfl e⟩
      have e:fP l (eC i d)=d:=jR (x:=eC i d) (by show l[((i:Int)).toNat]? =some d;simpa using hd)
      rw [e,k1] at h3;cases h3
 ·rw [if_neg k1]
  split
  ·exact hF
  ·split
   ·rename_i y hy
    intro x hx
    rcases aex hx with hx | hx
    ·exact hF x hx
    ·subst hx
     have hm:=List.mem_of_getElem? hy
     exact abR (hA.sound.line y hm).2 hl hd (hF y hm)
   ·exact hF
theorem ack {o:ai} {l:List ah} {wt day:Int} (hl:∀ d,d∈l→bn d=0):∀ (r:List ah) (i:Nat) (A:List aj) (ref:List (Int×Int)) (pts:List ay),l.drop i=r→Good l A→(∀ x,x∈A→FOk o l x)→
 ∀ x,x∈(eU o l wt day r i A ref pts).1→FOk o l x:=by
 intro r
 induction r with
 | nil=>intro i A ref pts _ hA hI;exact hI
 | cons d r ih=>
  intro i A ref pts hdr hA hI
  have hd:l[i]? =some d:=by
   have:=congrArg (·[0]?) hdr
   simpa [ad1] using this
  have hr':l.drop (i+1)=r:=by
   have:=congrArg List.tail hdr
   simpa [aeH] using this
  have hgood:=uV (o:=o) hA hl hd
  have hids:=aa7 (o:=o) hA hI hl hd
  simp only [eU]
  split
  ·exact hI
  ·split
   ·exact ih (i+1) _ _ _ hr' hgood hids
   ·exact ih (i+1) _ _ _ hr' hgood hids
theorem abv {o:ai} (ho:jW o=0) (l:List ah):∀ x,x∈gX o→FOk o l x:=by
 obtain ⟨_,_,_,_,hgo,_⟩:=qB ho
 obtain ⟨hln,_,_⟩:=lg hgo
 intro x hx
 obtain ⟨q,hq,rfl⟩:=aeu.1 hx
 obtain ⟨h1,_,h3,h4,_,h6⟩:=hln q hq
 exact ⟨h1,h3,h4,h6,fun h=>by have:(0:Int)≤ -1:=h;omega,fun e=>absurd rfl e⟩
theorem YX {o:ai} {l:List ah} (h:dh o l=0) (wt day:Int):∀ x,x∈(fC o l wt day).1→FOk o l x:=by
 obtain ⟨h1,h2⟩:=BU h
 obtain ⟨h3,h4⟩:=si h2
 exact ack h4 l 0 _ [] [] rfl (u7 h1 l) (abv h1 l)
def pZ:ai:=([],[],[],0,0,[])
end Go.Md
namespace Go.Md
open Go.Dn
end Go.Md
namespace Go.Md
open Go.Dn
def d0:ah:=(0,0,0,0,0,[],(0,0),[],(0,0),0,0)
end Go.Md
set_option linter.all false
namespace Go.Md
open Go.Dn
theorem aci (b:Bool):((if b=true then (0:Int) else 1) != 0)= !b:=by cases b<;>rfl
theorem Rk (o:ai) (i:Nat) (x:aK) (hi:(gS o)[i]? =some x) (hl:(gS o).length≤500):zT o (i:Int)=some (cO (cw o) (bK (gS o) i) x,()):=by
 have hlt:i<(gS o).length:=(List.getElem?_eq_some_iff.1 hi).1
 unfold zT
 rw [bJ hi,Option.bind_some]
 simp only [jZ,E2,AB,Fa,Option.bind_some,aci]
 have tail:∀ (p:Option aK) (hp:(p.any fun q=>decide (x.1≤q.1))=false) (h1:1≤x.1∧x.1≤99999),
  (bif !cL x.2.1 then some (5,()) else bif !qOk x.2.2.1 false then some (1,()) else bif !cL x.2.2.2.1 then some (5,()) else
    bif !inR x.2.2.2.2.1 0 1000000000 4 then some (1,()) else bif !decide (cw o≤x.2.2.2.2.2∧x.2.2.2.2.2≤3652059) then some (1,()) else some (0,()))=some (cO (cw o) p x,()):=fun p hp h1=>by
  unfold cO
  rw [if_neg (show ¬¬(1≤x.1∧x.1≤99999) from fun h=>h h1),if_neg (show ¬(p.any fun q=>decide (x.1≤q.1))=true by rw [hp];exact ac7)]
  cases cL x.2.1
  ·rfl
  ·cases qOk x.2.2.1 false
   ·rfl
   ·cases cL x.2.2.2.1
    ·rfl
    ·cases inR x.2.2.2.2.1 0 1000000000 4
     ·rfl
     ·by_cases hd:cw o≤x.2.2.2.2.2∧x.2.2.2.2.2≤3652059
      ·simp [hd]
      ·simp [hd]
 by_cases h1:1≤x.1∧x.1≤99999
 ·rw [decide_eq_true h1,Bool.not_true,cond_false]
  cases i with
  | zero=>
   rw [afs (show ¬((0:Nat):Int)>0 by omega),cond_false]
   exact tail none rfl h1
  | succ j=>
   have hq:(gS o)[j]? =some (gS o)[j]:=List.getElem?_eq_getElem (by omega)
   have e:w64 (((j+1:Nat):Int) - 1)=(j:Int):=by rw [aA (by omega) (by omega)];omega
   rw [decide_eq_true (show ((j+1:Nat):Int)>0 by omega),cond_true,e,bJ hq,Option.bind_some]
   simp only [bK,hq]
   by_cases h2:x.1≤(gS o)[j].1
   ·rw [decide_eq_true h2,Option.bind_some]
    have:cO (cw o) (some (gS o)[j]) x=8:=by
     unfold cO
     rw [if_neg (show ¬¬(1≤x.1∧x.1≤99999) from fun h=>h h1),if_pos (show (Option.any (fun q=>decide (x.1≤q.1)) (some (gS o)[j]))=true from decide_eq_true h2)]
    rw [this]
    rfl
   ·rw [afs h2,Option.bind_some]
    exact tail (some (gS o)[j]) (by simp [h2]) h1
 ·rw [afs h1,ade,cond_true]
  unfold cO
  rw [if_pos h1]
theorem PG (o:ai):xK o=some (jW o,()):=by
 unfold xK jW
 simp only [E2,wN,jZ,Option.bind_some]
 cases h1:cL o.1
 ·simp [EP,h1]
 cases h2:cL o.2.1
 ·simp [EP,EO,h1,h2]
 cases h3:cL o.2.2.1
 ·simp [EP,EO,JM,h1,h2,h3]
 rw [if_neg (by simp [EP,EO,JM,h1,h2,h3])]
 simp only [Bool.not_true,cond_false]
 by_cases h4:o.2.1=o.2.2.1
 ·rw [if_pos h4,show (o.2.1==o.2.2.1)=true by simp [h4],cond_true]
 rw [if_neg h4,show (o.2.1==o.2.2.1)=false by simp [h4],cond_false]
 by_cases h5:1≤o.2.2.2.1∧o.2.2.2.1≤3652059
 ·rw [if_neg (by simp [cw,h5]),decide_eq_true h5,Bool.not_true,cond_false]
  by_cases h6:0≤o.2.2.2.2.1∧o.2.2.2.2.1≤1000
  ·rw [if_neg (by simp [bN,h6]),decide_eq_true h6,Bool.not_true,cond_false]
   by_cases h7:o.2.2.2.2.2=[]
   ·rw [if_pos h7,h7];rfl
   ·have h7':o.2.2.2.2.2.length≠0:=fun e=>h7 (adQ e)
    rw [if_neg h7,cD (show (o.2.2.2.2.2.length:Int)≠0 by omega),cond_false]
    by_cases h8:500<o.2.2.2.2.2.length
    ·rw [if_pos h8,decide_eq_true (by omega),cond_true]
    ·rw [if_neg h8,afs (by omega),cond_false]
     have:=JE (f:=pF) (fun (_:Unit) (i:Nat)=>(((o.2.2.2.2.2.length:Int),(i:Int),o.1,o.2.1,o.2.2.1,o.2.2.2.1,o.2.2.2.2.1,o.2.2.2.2.2,()):pG)) o.2.2.2.2.2
      (fun (_:Unit) i y k=>if cO (cw o) (bK o.2.2.2.2.2 i) y≠0 then some (Sum.inl (cO (cw o) (bK o.2.2.2.2.2 i) y,())) else k ()) (fun _=>some (Sum.inr ()))
      (fun s i y again hy=>by
        have hlt:i<o.2.2.2.2.2.length:=(List.getElem?_eq_some_iff.1 hy).1
        unfold pF
        dsimp only
        rw [decide_eq_true (by omega),cond_true]
        have:=Rk o i y hy (by show o.2.2.2.2.2.length≤500;omega)
        rw [show ((o.1,o.2.1,o.2.2.1,o.2.2.2.1,o.2.2.2.2.1,o.2.2.2.2.2):ai)=o from rfl,this,Option.bind_some]
        dsimp only
        by_cases hf:cO (cw o) (bK o.2.2.2.2.2 i) y=0
        ·rw [if_neg (by simp [hf]),show (cO (cw o) (bK (gS o) i) y != 0)=false by simp [hf],cond_false,aA (by omega) (by omega)]
         rfl
        ·rw [if_pos hf,show (cO (cw o) (bK (gS o) i) y != 0)=true by simp [hf],cond_true]) (fun s again=>by
        unfold pF
        dsimp only
        rw [afs (show ¬((o.2.2.2.2.2.length:Int)<(o.2.2.2.2.2.length:Int)) by omega)];rfl) ()
     refine (congrArg (fun z=>aJ (β:=(Int×Unit)) (γ:=Unit) z fun _=>some (0,())) (this _ (by omega))).trans ?_
     have e:=CL o.2.2.2.2.2 (cw o) o.2.2.2.2.2 0 () rfl
     change Ew _ _ _ 0 ()=_ at e
     refine (congrArg (fun z=>aJ (β:=(Int×Unit)) (γ:=Unit) z fun _=>some (0,())) e).trans ?_
     simp only [bK]
     by_cases h:iO (cw o) o.2.2.2.2.2 none=0
     ·rw [L3 h,h];rfl
     ·rw [Ix h];rfl
  ·rw [if_pos h6,afs h6];rfl
 ·rw [if_pos h5,afs h5];rfl
section merge
variable (x y:List ah) (hx:x.length≤2000) (hy:y.length≤2000)
end merge
end Go.Md
set_option linter.all false
namespace Go.Md
open Go.Dn
theorem Qf {d:aa} {n:Int} (h:kF d n):lQ d=n*1000000:=by
 have h0:=h.p0;have h3:=h.p3
 unfold lQ
 rw [show (9 - d.2).toNat=(3 - d.2).toNat+6 by omega,adu, ← adm,h.val]
 rfl
theorem Rg {d:aa} (h1:d.1.natAbs≤4000000000000000) (h2:0≤d.2) (h3:d.2≤9):xB d 9=some (N (lQ d),()):=by
 unfold xB
 rw [uo _ (by omega) (by omega),Option.bind_some,aA (by omega) (by omega)]
 dsimp only
 obtain ⟨m,hm⟩:∃ m:Nat,9 - d.2=m:=⟨(9 - d.2).toNat,by omega⟩
 rw [hm,Hy m (by omega),Option.bind_some]
 dsimp only
 have hl1:(dg6 d.1.natAbs).length≤10:=He (by omega)
 have hl2:(dg6 ((10:Int) ^ m).natAbs).length≤10:=by
  refine He ?_
  have h1:((10:Int) ^ m).natAbs=10 ^ m:=by rw [ads];rfl
  have h2:=afd (n:=10) (by omega) (show m≤9 by omega)
  omega
 rw [rQ _ _ (by omega) (by omega),Option.bind_some]
 unfold lQ
 rw [hm];rfl
theorem zU {a b:aa} {m n:Int} (ha:kF a m) (hb:kF b n):ur a b=some ((m - n).sign,()):=by
 have a1:=ha.unit;have a2:=ha.bd;have a3:=ha.p0;have a4:=ha.p3
 have b1:=hb.unit;have b2:=hb.bd;have b3:=hb.p0;have b4:=hb.p3
 have e1:=Qf ha
 have e2:=Qf hb
 have m1:=He (z:=lQ a) (by omega)
 have m2:=He (z:=lQ b) (by omega)
 unfold ur
 rw [Rg (by omega) a3 (by omega),Option.bind_some,Rg (by omega) b3 (by omega),Option.bind_some,TA _ _ (by omega) (by omega),e1,e2]
 have:m*1000000 - n*1000000=(m - n)*1000000:=by omega
 rw [this,Int.sign_mul,show Int.sign 1000000=1 from rfl,adp]
 rfl
theorem pV {d:aa} {z:Bool} (h:qOk d z=true):kF d (aO d):=by
 obtain ⟨⟨h1,h2⟩,h3,h4,_⟩:=Cn h
 obtain ⟨u1,u2,_⟩:=kC h
 exact ⟨h1,h2,rfl,by omega⟩
theorem Tc:∀ (k p:Nat) (z:Int),few (p+k) (z*10 ^ k)=few p z
 | 0,p,z=>by simp
 | k+1,p,z=>by
  rw [← aeP,few,if_pos (by rw [adv, ← adm];omega)]
  rw [show z*10 ^ (k+1) / 10=z*10 ^ k by rw [adv, ← adm];omega]
  exact Tc k p z
theorem YT {d:aa} {z:Bool} (h:qOk d z=true):bz (aO d)=dU d:=by
 obtain ⟨⟨h1,h2⟩,_⟩:=Cn h
 unfold bz dU aO
 have:=Tc (3 - d.2).toNat d.2.toNat d.1
 rw [show d.2.toNat+(3 - d.2).toNat=3 by omega] at this
 rw [this]
theorem zJ {d:aa} (h:d.1.natAbs≤9000000000000000000) (h0:0≤d.2) (h1:d.2≤9):eN d=some (dU d,()):=by
 have:=KQ d.1 h d.2.toNat (by omega)
 rw [show ((d.2.toNat:Nat):Int)=d.2 by omega] at this
 exact this
theorem Hw {d:aa} {z:Bool} (h:qOk d z=true):eN d=some (bz (aO d),()):=by
 obtain ⟨⟨h1,h2⟩,h3,h4,_⟩:=Cn h
 have hm:=(pV h).unit
 have:=(pV h).bd
 rw [YT h]
 exact zJ (by omega) h1 (by omega)
theorem Hv {d:aa} (h:inR d 0 1000000000 4=true):eN d=some (dU d,()):=by
 obtain ⟨h1,h2,h3,h4⟩:=yA h
 exact zJ (by omega) h3 h4
theorem aal {M:List aj} (hs:M.Pairwise fun x y=>x.no<y.no) {a b:aj} (ha:a∈M) (hb:b∈M) (h:a.no=b.no):a=b:=by
 obtain ⟨i,hi,rfl⟩:=List.mem_iff_getElem.1 ha
 obtain ⟨j,hj,rfl⟩:=List.mem_iff_getElem.1 hb
 rw [aeC] at hs
 rcases ae4 i j with c | c | c
 ·have:=hs i j hi hj c;omega
 ·subst c;rfl
 ·have:=hs j i hj hi c;omega
theorem SI {A M:List aj} (hp:M.Perm A) (hs:M.Pairwise fun x y=>x.no<y.no):aH A=M:=by
 refine List.Perm.eq_of_pairwise (le:=fun x y=>x.no≤y.no) ?_ (PL A) (hs.imp fun h=>Int.le_of_lt h) ((cc A).trans hp.symm)
 intro a b ha hb h1 h2
 exact aal hs (hp.mem_iff.2 ((cc A).mem_iff.1 ha)) hb (by omega)
theorem XJ {M:List aj}:(M.Pairwise fun x y=>x.no<y.no)↔(M.map aj.no).Pairwise (· < ·):=by rw [aeD]
theorem PJ {α:Type} {x y:α}:∀ {l:List α} {j:Nat},l[j]? =some x→(x::l.set j y).Perm (y::l)
 | [],_,h=>by simp at h
 | a::l,0,h=>by cases h;exact List.Perm.swap _ _ _
 | a::l,j+1,h=>by
  have ih:=PJ (x:=x) (y:=y) (l:=l) (j:=j) (by simpa using h)
  exact ((List.Perm.swap a x _).trans (ih.cons a)).trans (List.Perm.swap y a l)
theorem aaO {A:List aj} (hI:Ids A) {k j:Nat} {x y:aj} (hk:A[k]? =some x) (hj:(aH A)[j]? =some x) (hy:y.no=x.no):aH (A.set k y)=(aH A).set j y:=by
 refine SI ?_ ?_
 ·have h1:=PJ (y:=y) hj
  have h2:=PJ (y:=y) hk
  exact (h1.trans (((cc A).cons y).trans h2.symm)).cons_inv
 ·rw [XJ,QX hj hy, ← XJ]
  exact SH hI
def fJ (n:Int):List aj→Nat
 | []=>0
 | x::r=>if x.no<n then fJ n r+1 else 0
theorem No (n:Int):∀ l,fJ n l≤l.length
 | []=>aeX _
 | x::r=>by
  have:=No n r
  simp only [fJ,aec]
  split<;>omega
theorem XN (n:Int):∀ (l:List aj) (k:Nat) (x:aj),k<fJ n l→l[k]? =some x→x.no<n
 | [],k,x,h,_=>by simp [fJ] at h
 | y::r,k,x,h,hx=>by
  simp only [fJ] at h
  split at h
  ·rename_i c
   cases k with
   | zero=>cases hx;exact c
   | succ k=>exact XN n r k x (by omega) (by simpa using hx)
  ·omega
theorem XM (n:Int):∀ (l:List aj) (x:aj),l[fJ n l]? =some x→¬x.no<n
 | [],x,h=>by simp [fJ] at h
 | y::r,x,h=>by
  simp only [fJ] at h
  split at h
  ·exact XM n r x (by simpa using h)
  ·rename_i c;cases h;exact c
theorem Xs {n:Int} {y:aj} (hy:y.no=n):∀ {l:List aj},(l.Pairwise fun x y=>x.no<y.no)→(∀ x,x∈l→x.no≠n)→(l.take (fJ n l)++y::l.drop (fJ n l)).Pairwise fun x y=>x.no<y.no
 | [],_,_=>by simp [fJ]
 | x::r,hs,hn=>by
  obtain ⟨s1,s2⟩:=List.pairwise_cons.1 hs
  simp only [fJ]
  split
  ·rename_i c
   rw [List.take_succ_cons,List.drop_succ_cons,adH]
   refine List.Pairwise.cons (fun z hz=> ?_) (Xs hy s2 (fun z hz=>hn z (by simp [hz])))
   rcases aen.1 hz with hz | hz
   ·exact s1 z (aew hz)
   ·rcases aeq.1 hz with rfl | hz
    ·omega
    ·exact s1 z (aev hz)
  ·rename_i c
   have hx:=hn x (by simp)
   rw [List.take_zero,adO,aeA]
   refine List.Pairwise.cons (fun z hz=> ?_) hs
   rcases aeq.1 hz with rfl | hz
   ·omega
   ·have:=s1 z hz;omega
theorem aaN {A:List aj} (hI:Ids A) {y:aj} (hn:∀ x,x∈A→x.no≠y.no):aH (A++[y])=(aH A).take (fJ y.no (aH A))++y::(aH A).drop (fJ y.no (aH A)):=by
 refine SI ?_ (Xs rfl (SH hI) fun x hx=>hn x ((cc A).mem_iff.1 hx))
 refine List.perm_middle.trans ?_
 rw [aeJ]
 exact ((cc A).cons y).trans (List.perm_append_singleton y A).symm
end Go.Md
