/-
  Plain facts, a part. No condition.
-/
import Derived.Test.YtakjkcibbeeekaaGreatDoorYl
import Derived.Test.YtakjkcibbeeekaaGreatDoorYg
import Derived.Test.YtakjkcibbeeekaaGreatDoorYk
import Derived.Test.YtakjkcibbeeekaaGreatDoorYh
set_option linter.all false
namespace Go.Md
open Go.Dn
structure Ids (A:List aq):Prop where
 nd:(A.map aq.no).Nodup
 rg:∀ x,x∈A->1<=x.no/\x.no<=99999
 len:A.length<=500
 ne:A≠[]
theorem Iw {n:Int}:∀ {A:List aq} {i:Nat},cH n i A=none->n∉A.map aq.no
 | [],_,_=>by simp
 | x::r,i,h=>by
  simp only[cH] at h
  by_cases hx:n=x.no
  ·rw[ajZ hx] at h;cases h
  ·rw[ajY hx] at h
   have:=Iw h
   simp only[aiv,aiz,aj4]
   exact⟨hx,this⟩
theorem aa4 {A:List aq} {k:Nat} {y x:aq} (hx:A[k]? =some x) (h:y.no=x.no):(A.set k y).map aq.no=A.map aq.no:=by
 rw[List.map_set]
 refine ahW fun i=> ?_
 rw[aie]
 split
 ·rename_i e
  subst e
  have hl:=(aia.1 hx).1
  simp only[aio,hl,aj0,aib,hx,ajG,h]
 ·rfl
theorem abW {o:ai} {l:List aa} {i:Nat} {d:aa} {A:List aq} (hA:Good l A) (hI:Ids A) (hl:∀ d,d∈l->dP d=0) (hd:l[i]? =some d):Ids (gV o l i d A).2:=by
 unfold gV
 by_cases k1:b9 d=1
 ·rw[ajZ k1]
  split
  ·exact hI
  ·rename_i hf
   split
   ·exact hI
   ·split
    ·exact hI
    ·rename_i h5 _
     obtain⟨_,_,_,_,_,hln,_⟩:=fh (hl d (aiF hd))
     refine⟨?_,fun x hx=> ?_, ?_,by simp⟩
     ·rw[ait,List.nodup_append]
      refine⟨hI.nd,by simp,fun a ha b hb e=> ?_⟩
      simp only[aiv,aix,aiJ] at hb
      subst hb;subst e
      exact Iw hf ha
     ·rcases aiy.1 hx with hx | hx
      ·exact hI.rg x hx
      ·simp only[aiJ] at hx
       subst hx
       exact hln
     ·rw[aim]
      show A.length+1<=500
      omega
 ·rw[ajY k1]
  split
  ·exact hI
  ·rename_i k hk
   split
   ·rename_i x hx
    obtain⟨h1,h2⟩:=hA.sound.line x (aiF hx)
    obtain⟨_,_,a3,_⟩:=Pd (o:=o) h1 h2 hl hd
    refine⟨by rw[aa4 hx a3];exact hI.nd,fun y hy=> ?_,by rw[aiq];exact hI.len,fun e=>hI.ne (by simpa using e)⟩
    rcases aiH hy with hy | hy
    ·exact hI.rg y hy
    ·subst hy;rw[a3];exact hI.rg x (aiF hx)
   ·exact hI
theorem aeb {o:ai} {l:List aa} {wt day:Int} (hl:∀ d,d∈l->dP d=0):∀ (r:List aa) (i:Nat) (A:List aq) (ref:List (Int×Int)) (pts:List bn),l.drop i=r->Good l A->Ids A-> Good l (qq o l wt day r i A ref pts).1/\Ids (qq o l wt day r i A ref pts).1:=by
 intro r
 induction r with
 | nil=>intro i A ref pts _ hA hI;exact⟨hA,hI⟩
 | cons d r ih=>
  intro i A ref pts hdr hA hI
  have hd:l[i]? =some d:=by
   have:=congrArg (·[0]?) hdr
   simpa [ah7] using this
  have hr':l.drop (i+1)=r:=by
   have:=congrArg List.tail hdr
   simpa [aiU] using this
  have hgood:=SK (o:=o) hA hl hd
  have hids:=abW (o:=o) hA hI hl hd
  simp only[qq]
  split
  ·exact⟨hA,hI⟩
  ·split
   ·exact ih (i+1) _ _ _ hr' hgood hids
   ·exact ih (i+1) _ _ _ hr' hgood hids
theorem Cl {o:ai} (ho:gf o=0):Ids (aO o):=by
 obtain⟨_,_,hlen,hne,hgo,_⟩:=gy ho
 obtain⟨hln,_,hpw⟩:=pg hgo
 refine⟨?_,fun x hx=> ?_,by rw[aio];exact hlen,fun e=>hne (by simpa using e)⟩
 ·rw[aiw]
  exact List.Pairwise.map _ (fun a b (h:a.1<b.1) e=>by
   have e':a.1=b.1:=e
   omega) hpw
 ·obtain⟨q,hq,rfl⟩:=aiE.1 hx
  exact (hln q hq).2.2.2.2.1
theorem D2 {o:ai} {l:List aa} (h:dM o l=0) (wt day:Int):Good l (sd o l wt day).1/\Ids (sd o l wt day).1:=by
 obtain⟨h1,h2⟩:=NB h
 obtain⟨h3,h4⟩:=Qs h2
 exact aeb h4 l 0 _ [] [] rfl (Tp h1 l) (Cl h1)
def fB (A:List aq):List aq:=A.mergeSort fun x y=>decide (x.no<=y.no)
theorem tZ (A:List aq):(fB A).Perm A:=aiK A _
theorem YO (A:List aq):(fB A).Pairwise fun x y=>x.no<=y.no:=by
 have:=aiP (le:=fun x y:aq=>decide (x.no<=y.no)) (fun a b c h1 h2=>by
  simp only[ajS] at *;omega) (fun a b=>by simp only[ahf,ajS];omega) A
 exact this.imp fun h=>by simpa using h
theorem aft {A:List aq} (hI:Ids A):(fB A).Pairwise fun x y=>x.no<y.no:=by
 have h1:=YO A
 have h2:((fB A).map aq.no).Nodup:=((tZ A).map _).nodup_iff.2 hI.nd
 have h3:(fB A).Pairwise fun x y=>x.no≠y.no:=aiO.1 h2
 exact (h1.and h3).imp fun ⟨a,b⟩=>by omega
theorem IB:∀ (A:List aq) (i:Nat),(wu i A).map (·.1)=A.map aq.no
 | [],_=>rfl
 | x::r,i=>by simp only[wu,aiv,IB r]
theorem Yh {A:List aq} (hI:Ids A):Ou (mapOf A)=true:=by
 unfold Ou
 rw[IB,Fb]
 have:=hI.len
 simp only[ag1,ajS,ahH]
 refine⟨by omega,fun p hp=> ?_,hI.nd⟩
 have hm:p.1∈(mapOf A).map (·.1):=aiE.2 ⟨p,hp,rfl⟩
 rw[IB] at hm
 obtain⟨x,hx,e⟩:=aiE.1 hm
 have:=hI.rg x hx
 omega
theorem QD (A:List aq):Ad (mapOf A)=(fB A).map aq.no:=by
 unfold Ad
 rw[IB]
 refine ahE (le:=fun a b:Int=>decide (a<=b)=true) (fun a b _ _ h1 h2=> ?_) ?_ ?_ ?_
 ·simp only[ajS] at h1 h2;omega
 ·exact aiP (le:=fun x y:Int=>decide (x<=y)) (fun a b c h1 h2=>by simp only[ajS] at *;omega) (fun a b=>by simp only[ahf,ajS];omega) _
 ·exact aiO.2 ((YO A).imp fun h=>by simpa using h)
 ·exact (aiK _ _).trans ((tZ A).map _).symm
theorem LC {n:Int}:∀ {A:List aq} {i k:Nat} {x:aq},(A.map aq.no).Nodup->A[k]? =some x->x.no=n->cH n i A=some (i+k)
 | [],_,_,_,_,h,_=>by simp at h
 | y::r,i,0,x,_,h,hn=>by
  have e:y=x:=by simpa using h
  subst e
  simp only[cH,ajZ hn.symm,ai5]
 | y::r,i,k+1,x,hnd,h,hn=>by
  have h':r[k]? =some x:=by simpa using h
  rw[aiv,aiM] at hnd
  have hne:¬n=y.no:=fun e=>hnd.1 (by
   rw[<- e, <- hn]
   exact aiE.2 ⟨x,aiF h',rfl⟩)
  simp only[cH,ajY hne]
  rw[LC hnd.2 h' hn,show i+1+k=i+(k+1) by omega]
theorem ada {A:List aq} (hI:Ids A) {x:aq} (hx:x∈fB A):∃ k,oG x.no A=some k/\A[k]? =some x:=by
 obtain⟨k,hk⟩:=List.getElem?_of_mem ((tZ A).mem_iff.1 hx)
 exact⟨k,by have:=LC (i:=0) hI.nd hk rfl;rwa [ajx] at this,hk⟩
def C6 (A:List aq):List (Option Nat):=(fB A).map fun x=>oG x.no A
end Go.Md
namespace Go.Md
open Go.Dn
theorem aeW (A:List aq):C6 A=(Ad (mapOf A)).map fun k=>oG k A:=by
 rw[QD,aiw];rfl
theorem zj {A:List aq} (hI:Ids A) (o:ai) (l:List aa) (ref:List ah) (pts:List bn) (wt:Int): lN (o,l,mapOf A,ref,pts,wt,())=some (C6 A,(o,l,mapOf A,ref,pts,wt,()),()):=by
 obtain⟨onum,obuy,osel,oday,oext,olns⟩:=o
 have BN:maxLen=9223372036854775807:=rfl
 unfold lN
 dsimp only
 rw[yT (Yh hI)]
 have hkl:(Ad (mapOf A)).length<=500:=by
  rw[QD,aio,(tZ A).length_eq];exact hI.len
 rw[aeW]
 generalize Ad (mapOf A)=ks at hkl
 have loop:∀ n,ks.length<n->iter (X:=jv) (β:=mE) n ([],(ks.length:Int),0,onum,obuy,osel,oday,oext,olns,l,wt,ks,ref,pts,mapOf A,()) mD=some (Sum.inr (ks.map (fun k=>oG k A),onum,obuy,osel,oday,oext,olns,l,wt,ref,pts,mapOf A,())):=by
  intro n hn
  refine bX (Inv:=fun i X=>X=(((ks.map (fun k=>oG k A)).take i,(ks.length:Int),(i:Int),onum,obuy,osel,oday,oext,olns,l,wt,ks,ref,pts,mapOf A,()):jv)) ks.length (fun z=>z=some (Sum.inr (ks.map (fun k=>oG k A),onum,obuy,osel,oday,oext,olns,l,wt,ref,pts,mapOf A,()))) ?_ ?_ n 0 _ rfl (ajy _) (by omega)
  ·rintro i X again hi rfl hag
   unfold mD
   dsimp only
   obtain⟨y,hy⟩:∃ y,ks[i]? =some y:=⟨ks[i],ah8 hi⟩
   have hlen:((ks.map (fun k=>oG k A)).take i).length=i:=by rw[ais,aio];omega
   rw[ajR (show (i:Int)<(ks.length:Int) by omega),ajO,yT (by simp),ahC,hy,ajA,hlen,yT (by
    rw[ag1];exact⟨ajR (by omega),ajR (by omega)⟩),ax (n:=(i:Int)+1) (by omega) (by omega),lB]
   have e:(ks.map (fun k=>oG k A)).take i++[cH y 0 A]=(ks.map (fun k=>oG k A)).take (i+1):=by
    rw[aiV,aib,hy];rfl
   rw[e]
   exact hag _ rfl
  ·rintro X again rfl
   unfold mD
   dsimp only
   rw[ajQ (show ¬(ks.length:Int)<(ks.length:Int) by omega),ajN,aiZ (by rw[aio];exact ajc _)]
 have h2:=Fb A 0
 rw[loop _ (by
  simp only[aip,ahs]
  omega)]
 rfl
theorem VQ {l:List aa} {A:List aq} (hA:Good l A) (hI:Ids A) {i:Nat} {x:aq} (hx:(fB A)[i]? =some x):∃ k,(C6 A)[i]? =some (some k)/\A[k]? =some x/\nN (some k) (A.map aq.tup)=some (dB x,())/\x∈A:=by
 obtain⟨k,hk,hxk⟩:=ada hI (aiF hx)
 have hm:=aiF hxk
 refine⟨k, ?_,hxk,DR hxk (hA.sound.line x hm).1 (hA.pr x hm),hm⟩
 unfold C6
 rw[aib,hx,ajG,hk]
def lnF (o:ai) (l:List aa) (day:Int):Int:=if dM o l≠0 then dM o l else if 1<=day/\day<=3652059 then 0 else 1
theorem BS (o:ai) (l:List aa) (day:Int):pn o l day=some (if lnF o l day=0 then (fB (sd o l 0 day).1).map dB else [],lnF o l day,()):=by
 have BN:maxLen=9223372036854775807:=rfl
 unfold pn
 rw[FQ]
 unfold lnF
 by_cases h:dM o l=0
 rotate_left
 ·rw[ajZ (show dM o l≠0 from h),ajZ (show dM o l≠0 from h)]
  show (bif dM o l != 0 then _ else _)=_
  rw[dX h,ajO,ajY h]
 rw[ajY (show ¬dM o l≠0 from fun e=>e h),ajY (show ¬dM o l≠0 from fun e=>e h)]
 by_cases hd:1<=day/\day<=3652059
 rotate_left
 ·rw[ajZ hd,ajY hd];rfl
 rw[ajY (show ¬¬(1<=day/\day<=3652059) from fun e=>e hd),ajZ hd,ajZ rfl]
 refine Eq.trans Gv ?_
 rw[JC h hd,ajA]
 dsimp only
 rw[zne,ajN]
 obtain⟨hg,hI⟩:=D2 h 0 day
 rw[zj hI o l,ajA]
 generalize (sd o l 0 day).1=A at hg hI
 have hSl:(fB A).length<=500:=by rw[(tZ A).length_eq];exact hI.len
 have hHl:(C6 A).length=(fB A).length:=by unfold C6;rw[aio]
 dsimp only
 rw[hHl]
 have loop:∀ n,(fB A).length<n->iter (X:=qT) (β:=wA) n ([],((fB A).length:Int),0,C6 A,A.map aq.tup,()) wz=some (Sum.inr ((fB A).map dB,A.map aq.tup,())):=by
  intro n hn
  refine bX (Inv:=fun i X=>X=((((fB A).map dB).take i,((fB A).length:Int),(i:Int),C6 A,A.map aq.tup,()):qT)) (fB A).length (fun z=>z=some (Sum.inr ((fB A).map dB,A.map aq.tup,()))) ?_ ?_ n 0 _ rfl (ajy _) (by omega)
  ·rintro i X again hi rfl hag
   unfold wz
   dsimp only
   obtain⟨x,hx⟩:∃ y,(fB A)[i]? =some y:=⟨(fB A)[i],ah8 hi⟩
   obtain⟨k,hk,_,hst,_⟩:=VQ hg hI hx
   have hlen:(((fB A).map dB).take i).length=i:=by rw[ais,aio];omega
   rw[ajR (show (i:Int)<((fB A).length:Int) by omega),ajO,hHl,yT (by simp;omega),ahC,hk,ajA,hst,ajA,hlen,yT (by
    rw[ag1];exact⟨ajR (by omega),ajR (by omega)⟩),ax (n:=(i:Int)+1) (by omega) (by omega)]
   have e:((fB A).map dB).take i++[dB x]=((fB A).map dB).take (i+1):=by
    rw[aiV,aib,hx];rfl
   dsimp only
   rw[e]
   exact hag _ rfl
  ·rintro X again rfl
   unfold wz
   dsimp only
   rw[ajQ (show ¬((fB A).length:Int)<((fB A).length:Int) by omega),ajN,aiZ (by rw[aio];exact ajc _)]
 rw[loop _ (by simp only[aip,ahs];omega)]
 rfl
end Go.Md
namespace Go.Md
open Go.Dn
structure aax (d:ah) (n:Int):Prop where
 p0:0<=d.2
 p3:d.2<=3
 val:d.1*10 ^ (3 - d.2).toNat=n
 bd:n.natAbs<=2000000000000000
theorem aax.neg {d:ah} {n:Int} (h:aax d n):aax (-d.1,d.2) (-n):=⟨h.p0,h.p3,by show -d.1*10 ^ (3 - d.2).toNat= -n;rw[Int.neg_mul,h.val],by rw[Int.natAbs_neg];exact h.bd⟩
theorem adF (p:Nat) (n:Int):((few p n).1<0↔n<0)/\((few p n).1=0↔n=0):=by
 obtain⟨_,h2,_⟩:=mR p n
 have hp:(0:Int)<10 ^ (p - (few p n).2):=ahw (by decide)
 generalize (few p n).1=u at h2
 generalize (10:Int) ^ (p - (few p n).2)=q at h2 hp
 subst h2
 refine⟨⟨fun h=>ahq h hp,fun h=> ?_⟩,⟨fun h=>by rw[h,ahD],fun h=> ?_⟩⟩
 ·rcases Classical.em (u<0) with h1 | h1
  ·exact h1
  ·have:=ahr (show 0<=u by omega) (Int.le_of_lt hp);omega
 ·rcases Int.mul_eq_zero.1 h with h1 | h1
  ·exact h1
  ·omega
theorem Eb {n:Int} (h:n.natAbs<=1000000000000000):cm (eP n)/\nJ (eP n)=n*1000000:=by
 obtain⟨h1,h2,h3⟩:=mR 3 n
 refine⟨⟨by show (few 3 n).1.natAbs<=_;omega,by show (0:Int)<=((few 3 n).2:Int);omega,by show ((few 3 n).2:Int)<=9;omega⟩, ?_⟩
 show (few 3 n).1*10 ^ (9 - ((few 3 n).2:Int)).toNat=n*1000000
 rw[show (9 - ((few 3 n).2:Int)).toNat=(3 - (few 3 n).2)+6 by omega,ahv, <- aho,h2]
 rfl
end Go.Md
namespace Go.Md
open Go.Dn
def C8:ai:=([],[],[],0,0,[])
theorem aaZ {d:ah} (h:inR d 0 1000000000 4=true):inR (E9 d) 0 1000000000 4=true:=by
 unfold inR at h ⊢
 obtain⟨⟨h1,h2,h3⟩,h4,h5,h6⟩:=aj5 h
 obtain⟨u,p⟩:=d
 dsimp only at h1 h2 h3 h4 h5 h6
 obtain⟨f1,f2,f3⟩:=mR p.toNat u
 have e1:(E9 (u,p)).1=(few p.toNat u).1:=rfl
 have e2:(E9 (u,p)).2=((few p.toNat u).2:Int):=rfl
 generalize hv:(few p.toNat u).1=v at f2 f3 e1
 generalize hq:(few p.toNat u).2=q at f1 f2 e2
 refine ajR ⟨⟨by rw[e1];omega,by rw[e2];omega,by rw[e2];omega⟩,by rw[e2];omega, ?_, ?_⟩
 ·rw[e1,e2,ahD]
  rw[ahD] at h5
  have hp:(0:Int)<10 ^ (p.toNat - q):=ahw (by decide)
  rcases Classical.em (0<=v) with h | h
  ·exact h
  ·have:=ahq (show v<0 by omega) hp
   omega
 ·rw[e1,e2,ahC]
  have hp:(0:Int)<10 ^ (p.toNat - q):=ahw (by decide)
  have e3:(10:Int) ^ p.toNat=10 ^ q*10 ^ (p.toNat - q):=by rw[<- ahv];congr 1;omega
  rw[<- f2,e3, <- aho] at h6
  exact Int.le_of_mul_le_mul_right h6 hp
theorem IX {n:Int} (h0:0<n) (h1:n<=1000000000000):qOk (eP n) false=true:=by
 obtain⟨f1,f2,f3⟩:=mR 3 n
 have hs:=adF 3 n
 have e1:(eP n).1=(few 3 n).1:=rfl
 have e2:(eP n).2=((few 3 n).2:Int):=rfl
 unfold qOk inR
 rw[ag1]
 refine⟨ajR ⟨⟨by rw[e1];omega,by rw[e2];omega,by rw[e2];omega⟩,by rw[e2];omega, ?_, ?_⟩, ?_⟩
 ·rw[e1,ahD];omega
 ·rw[e1,e2,ahC]
  have hp:(0:Int)<10 ^ (3 - (few 3 n).2):=ahw (by decide)
  have e3:(1000000000:Int)*10 ^ (few 3 n).2*10 ^ (3 - (few 3 n).2)=1000000000000:=by
   rw[aho, <- ahv,show (few 3 n).2+(3 - (few 3 n).2)=3 by omega];rfl
  refine Int.le_of_mul_le_mul_right ?_ hp
  rw[f2,e3];exact h1
 ·rw[e1,ahg,ahb,ajK]
  intro h;have:=hs.2.1 h;omega
theorem QU (n:Int):bW (eP n)=n:=by
 obtain⟨f1,f2,_⟩:=mR 3 n
 show (few 3 n).1*10 ^ (3 - ((few 3 n).2:Int)).toNat=n
 rw[show (3 - ((few 3 n).2:Int)).toNat=3 - (few 3 n).2 by omega]
 exact f2
end Go.Md
set_option linter.all false
namespace Go.Md
open Go.Dn
theorem VL:∀ (k p:Nat) (z:Int),few (p+k) (z*10 ^ k)=few p z
 | 0,p,z=>by simp
 | k+1,p,z=>by
  rw[<- ai3,few,ajZ (by rw[ahx, <- aho];omega)]
  rw[show z*10 ^ (k+1) / 10=z*10 ^ k by rw[ahx, <- aho];omega]
  exact VL k p z
end Go.Md
set_option linter.all false
namespace Go.Md
open Go.Dn
theorem WS (o:ai) (l:List aa) (day:Int):Aj o l day=some (if lnF o l day=0 then !((fB (sd o l 0 day).1).any fun x=>decide (0<x.opn)) else false,lnF o l day,()):=by
 unfold Aj
 rw[FQ]
 unfold lnF
 by_cases h:dM o l=0
 rotate_left
 ·rw[ajZ (show dM o l≠0 from h),ajZ (show dM o l≠0 from h)]
  show (bif dM o l != 0 then _ else _)=_
  rw[dX h,ajO,ajY h]
 rw[ajY (show ¬dM o l≠0 from fun e=>e h),ajY (show ¬dM o l≠0 from fun e=>e h)]
 by_cases hd:1<=day/\day<=3652059
 rotate_left
 ·rw[ajZ hd,ajY hd];rfl
 rw[ajY (show ¬¬(1<=day/\day<=3652059) from fun e=>e hd),ajZ hd,ajZ rfl]
 refine Eq.trans Gv ?_
 rw[JC h hd,ajA]
 dsimp only
 rw[zne,ajN]
 obtain⟨hg,hI⟩:=D2 h 0 day
 rw[zj hI o l,ajA]
 generalize (sd o l 0 day).1=A at hg hI
 have hSl:(fB A).length<=500:=by rw[(tZ A).length_eq];exact hI.len
 have hHl:(C6 A).length=(fB A).length:=by unfold C6;rw[aio]
 dsimp only
 unfold l6 nS
 have loop:∀ (r:List aq) (i n:Nat),(fB A).drop i=r->i<=(fB A).length->r.length<n->
  iter (X:=iw) (β:=iu) n (C6 A,(),((C6 A).length:Int),(i:Int),A.map aq.tup,()) fH=some (match r.findIdx? fun x=>decide (0<x.opn) with | some k=>Sum.inl (((i+k:Nat):Int),()) | none=>Sum.inr (A.map aq.tup,())):=by
  intro r
  induction r with
  | nil=>
   intro i n hdr hi hn
   have:i=(fB A).length:=by
    have:=congrArg List.length hdr
    simp at this;omega
   subst this
   obtain⟨n,rfl⟩:∃ m,n=m+1:=⟨n - 1,by omega⟩
   rw[bR]
   unfold fH
   dsimp only
   rw[hHl,ajQ (show ¬((fB A).length:Int)<((fB A).length:Int) by omega),ajN]
   rfl
  | cons x r ih=>
   intro i n hdr hi hn
   have hx:(fB A)[i]? =some x:=by
    have:=congrArg (·[0]?) hdr
    simpa [ah7] using this
   have hr':(fB A).drop (i+1)=r:=by
    have:=congrArg List.tail hdr
    simpa [aiU] using this
   have hlt:=(aia.1 hx).1
   obtain⟨k,hk,hxk,_,hm⟩:=VQ hg hI hx
   obtain⟨n,rfl⟩:∃ m,n=m+1:=⟨n - 1,by simp at hn;omega⟩
   rw[bR]
   generalize hag:(fun y=>iter n y fH)=again
   unfold fH
   dsimp only
   rw[hHl,ajR (show (i:Int)<((fB A).length:Int) by omega),ajO,iB hk,ajA]
   unfold HF
   rw[zk hxk (hg.sound.line x hm).1,ajA,ajA]
   dsimp only
   by_cases c:0<x.opn
   ·rw[ajR (show x.opn>0 from c),ajO,ahZ,ajR c]
    rfl
   ·rw[ajQ (show ¬x.opn>0 from c),ajN,ax (n:=(i:Int)+1) (by omega) (by omega),ahZ,ajQ c, <- hag,show (i:Int)+1=((i+1:Nat):Int) by omega, <- hHl]
    refine (ih (i+1) n hr' (by omega) (by simp at hn;omega)).trans ?_
    cases hq:r.findIdx? fun x=>decide (0<x.opn) with
    | none=>simp
    | some q=>simp;omega
 have:=loop (fB A) 0 ((C6 A).length+(Int.natAbs (((C6 A).length:Int))+(Int.natAbs (0:Int)+2))) rfl (ajy _) (by omega)
 rw[show ((0:Nat):Int)=0 from rfl] at this
 rw[this]
 cases hq:(fB A).findIdx? fun x=>decide (0<x.opn) with
 | none=>
  have:((fB A).any fun x=>decide (0<x.opn))=false:=by
   rw[ahJ]
   intro x hx
   have:=List.findIdx?_eq_none_iff.1 hq x hx
   simpa using this
  rw[this];rfl
 | some q=>
  obtain⟨q1,q2,_⟩:=List.findIdx?_eq_some_iff_getElem.1 hq
  have:((fB A).any fun x=>decide (0<x.opn))=true:=ahK.2 ⟨_,ail q1,q2⟩
  rw[this]
  show some (!decide (((0+q:Nat):Int)>=0),0,())=_
  rw[ajR (show ((0+q:Nat):Int)>=0 by omega)]
end Go.Md
set_option linter.all false
namespace Go.Md
open Go.Dn
def gm (s:aj):Int:=nJ s.2.2.2.2.2.2.2.1 - nJ s.2.2.2.2.2.2.2.2.1
def Ae (st:List aj) (t:Int×Int) (x:aI) (n:Int):Int:=
 match st.find? (fun s=>s.1==x.2.1) with
 | none=>3
 | some s=>if ¬(s.2.1=x.2.2.1/\s.2.2.1=x.2.2.2.2.1) then 4
  else if nJ s.2.2.2.2.1*(1000+t.1)*x.2.2.2.2.2.2.1<nJ x.2.2.2.2.2.1*1000 then 5
  else if n<0\/gm s*(1000+t.2)<n*1000 then 6 else 0
abbrev ED:=List (Int×Int×Int)
def Nh (b:Int->Int) (k z:Int):Int->Int:=fun n=>if n=k then z else b n
def oe (st:List aj) (t:Int×Int) (i:Int):Nat->List aI->(Int->Int)->ED×(Int->Int)
 | _,[],b=>([],b)
 | k,x::r,b=>if Ae st t x (b x.2.1+nJ x.2.2.2.1)=0 then oe st t i (k+1) r (Nh b x.2.1 (b x.2.1+nJ x.2.2.2.1))
  else ((i,(k:Int),Ae st t x (b x.2.1+nJ x.2.2.2.1))::(oe st t i (k+1) r b).1,(oe st t i (k+1) r b).2)
def BO (num:Bys) (stf:Int->List aj) (t:Int×Int) (pre:List an) (i:Int) (v:an) (b:Int->Int):ED×(Int->Int):=
 if v.2.1≠num then ([(i, -1,1)],b)
 else if (pre.any fun u=>u.1==v.1)=true then ([(i, -1,2)],b)
 else oe (stf v.2.2.1) t i 0 v.2.2.2.2.2.2.2.1 b
def Fc (num:Bys) (stf:Int->List aj) (t:Int×Int):List an->List an->(Int->Int)->ED×(Int->Int)
 | _,[],b=>([],b)
 | pre,v::r,b=>((BO num stf t pre pre.length v b).1++(Fc num stf t (pre++[v]) r (BO num stf t pre pre.length v b).2).1,(Fc num stf t (pre++[v]) r (BO num stf t pre pre.length v b).2).2)
def BB (b:Int->Int):Prop:=∀ n,0<=b n/\b n<=10 ^ 26
def StB (st:List aj):Prop:=∀ s∈st,0<=gm s/\gm s<=10 ^ 24
theorem aaX {st:List aj} {t:Int×Int} {x:aI} {n:Int} (h:Ae st t x n=0):∃ s,st.find? (fun s=>s.1==x.2.1)=some s/\0<=n/\n*1000<=gm s*(1000+t.2):=by
 unfold Ae at h
 split at h
 ·cases h
 ·rename_i s hs
  split at h
  ·cases h
  split at h
  ·cases h
  split at h
  ·cases h
  ·exact⟨s,hs,by omega,by omega⟩
theorem Yi {st:List aj} {t:Int×Int} {x:aI} {n:Int} (hst:StB st) (ht:t.2<=1000) (h:Ae st t x n=0):0<=n/\n<=10 ^ 26:=by
 obtain⟨s,hs,h1,h2⟩:=aaX h
 obtain⟨h3,h4⟩:=hst s (List.mem_of_find?_eq_some hs)
 have h5:gm s*(1000+t.2)<=gm s*2000:=ahp (by omega) h3
 exact⟨h1,by omega⟩
theorem ZK {b:Int->Int} {k z:Int} (h:BB b) (hz:0<=z/\z<=10 ^ 26):BB (Nh b k z):=fun n=>by
 unfold Nh
 split
 ·exact hz
 ·exact h n
theorem Oz {st:List aj} {t:Int×Int} {i:Int} (hst:StB st) (ht:t.2<=1000):∀ (l:List aI) (k:Nat) (b:Int->Int),BB b->BB (oe st t i k l b).2
 | [],_,_,h=>h
 | x::r,k,b,h=>by
  unfold oe
  split
  ·rename_i h0
   exact Oz hst ht r _ _ (ZK h (Yi hst ht h0))
  ·exact Oz hst ht r _ _ h
theorem aeZ {num:Bys} {stf:Int->List aj} {t:Int×Int} {pre:List an} {i:Int} {v:an} {b:Int->Int} (hst:∀ d,StB (stf d)) (ht:t.2<=1000) (h:BB b):BB (BO num stf t pre i v b).2:=by
 unfold BO
 split
 ·exact h
 ·split
  ·exact h
  ·exact Oz (hst _) ht _ _ _ h
def Mk (t:Int×Int):Int:=if t.1<0\/1000<t.1\/t.2<0\/1000<t.2 then 1 else 0
def qN:Option an->List an->Int
 | _,[]=>0
 | p,x::r=>if mA x≠0 then mA x else if (p.any fun q=>decide (x.2.2.1<q.2.2.1))=true then 8 else qN (some x) r
def mF (o:ai) (l:List aa) (t:Int×Int) (v:List an):Int:=
 if dM o l≠0 then dM o l else if Mk t≠0 then Mk t else if 200<v.length then 2 else qN none v
structure MOk (o:ai) (l:List aa) (t:Int×Int) (v:List an):Prop where
 chk:dM o l=0
 t1:0<=t.1/\t.1<=1000
 t2:0<=t.2/\t.2<=1000
 len:v.length<=200
 go:qN none v=0
theorem afb {o:ai} {l:List aa} {t:Int×Int} {v:List an} (h:mF o l t v=0):MOk o l t v:=by
 unfold mF at h
 split at h
 ·omega
 rename_i h1
 split at h
 ·omega
 rename_i h2
 split at h
 ·omega
 rename_i h3
 have h2':Mk t=0:=by omega
 unfold Mk at h2'
 split at h2'
 ·cases h2'
 ·exact⟨by omega,by omega,by omega,by omega,h⟩
theorem Th:∀ {v:List an} {p:Option an},qN p v=0->∀ x∈v,mA x=0
 | [],_,_,x,hx=>by cases hx
 | y::r,p,h,x,hx=>by
  simp only[qN] at h
  split at h
  ·rename_i h1;exact absurd h h1
  rename_i h1
  split at h
  ·cases h
  rcases aiz.1 hx with rfl | hx
  ·exact ahk h1
  ·exact Th h x hx
def stF (o:ai) (l:List aa) (d:Int):List aj:=if lnF o l d=0 then (fB (sd o l 0 d).1).map dB else []
structure W7 (s:aj):Prop where
 pr:cm s.2.2.2.2.1
 rc:cm s.2.2.2.2.2.2.2.1
 rt:cm s.2.2.2.2.2.2.2.2.1
 k0:0<=gm s
 k1:gm s<=10 ^ 24
theorem aao {o:ai} {l:List aa} {d:Int} {s:aj} (h:dM o l=0) (hs:s∈stF o l d):∃ x,LOk x/\I2 x/\s=dB x:=by
 unfold stF at hs
 split at hs
 ·obtain⟨x,hx,rfl⟩:=aiE.1 hs
  have hx':=(tZ _).mem_iff.1 hx
  have hg:=(D2 h 0 d).1
  exact⟨x,(hg.sound.line x hx').1,hg.pr x hx',rfl⟩
 ·cases hs
theorem LM {x:aq} (hx:LOk x):gm (dB x)=(x.rcv - x.ret)*1000000:=by
 have h1:=hx.ret0;have h2:=hx.retr;have h3:=hx.rcvs;have h4:=hx.shp1
 show nJ (eP x.rcv) - nJ (eP x.ret)=_
 rw[(Eb (n:=x.rcv) (by omega)).2,(Eb (n:=x.ret) (by omega)).2]
 omega
theorem aei {x:aq} (hx:LOk x) (hp:I2 x):W7 (dB x):=by
 have h1:=hx.ret0;have h2:=hx.retr;have h3:=hx.rcvs;have h4:=hx.shp1
 obtain⟨p1,p2,p3,p4⟩:=hp
 obtain⟨g1,g2,g3⟩:=mR x.price.2.toNat x.price.1
 have hk:=LM hx
 refine⟨⟨by show (few x.price.2.toNat x.price.1).1.natAbs<=_;omega,by show (0:Int)<=((few x.price.2.toNat x.price.1).2:Int);omega,by show ((few x.price.2.toNat x.price.1).2:Int)<=9;omega⟩,(Eb (n:=x.rcv) (by omega)).1,(Eb (n:=x.ret) (by omega)).1,by rw[hk];omega,by rw[hk];omega⟩
theorem TW {o:ai} {l:List aa} (h:dM o l=0) (d:Int):∀ s∈stF o l d,W7 s:=fun s hs=>by
 obtain⟨x,hx,hp,rfl⟩:=aao h hs
 exact aei hx hp
theorem aez {o:ai} {l:List aa} (h:dM o l=0) (d:Int):StB (stF o l d):=fun s hs=>⟨(TW h d s hs).k0,(TW h d s hs).k1⟩
theorem Ea {d:ah} (h:cm d):(nJ d).natAbs<=10 ^ 24:=by
 unfold nJ
 have h1:=h.1
 rw[Int.natAbs_mul]
 have h2:((10:Int) ^ (9 - d.2).toNat).natAbs<=10 ^ 9:=by
  rw[Int.natAbs_pow]
  exact ajv (by decide) (by have:=h.2.1;omega)
 have h3:=Nat.mul_le_mul h1 h2
 omega
theorem jK {n:Nat} (h:n<=10 ^ 60):n<4294967296 ^ 99:=by
 have h1:(10:Nat) ^ 60<4294967296 ^ 99:=by decide
 omega
theorem qE {d:ah} (h:cm d):ew d=some (W (nJ d),()):=by
 obtain⟨h1,h2,h3⟩:=h
 unfold ew
 rw[we d 9 (by omega) (by omega) (by omega) (by omega) (by omega),ajA]
 rfl
end Go.Md
set_option linter.all false
namespace Go.Md
open Go.Dn
abbrev CJ:=List (Int×List aj)
abbrev Ga:=List (Int×au)
abbrev MB:=ai×(List aa)×bD×(List an)×CJ×Ga×ED×Unit
def oy (o:ai) (l:List aa) (S:CJ):Prop:=∀ d s,dN (k:=tI) (v:= .slice aU) S d=some s->s=stF o l d
def BOk (M:Ga) (b:Int->Int):Prop:=∀ n,Option.getD (α:=au) (dN (k:=tI) (v:=aA) M n) (false,[])=W (b n)
theorem KR (a b:(tI).den):Ty.beq tI a b=true↔a=b:=by
 show ((show Int from a)==(show Int from b))=true↔_
 exact ajL
theorem oy.set {o:ai} {l:List aa} {S:CJ} (h:oy o l S) (d:Int):oy o l (jG (k:=tI) (v:= .slice aU) S d (stF o l d)):=fun n s hs=>by
 have e:= @OB tI (.slice aU) KR S d (stF o l d) n
 replace hs:=e.symm.trans hs
 cases hb:Ty.beq tI d n with
 | true=>
  rw[hb,ajO] at hs
  have:=(KR d n).1 hb
  subst this
  cases hs;rfl
 | false=>
  rw[hb,ajN] at hs
  exact h n s hs
theorem BOk.set {M:Ga} {b:Int->Int} (h:BOk M b) (k z:Int):BOk (jG (k:=tI) (v:=aA) M k (W z)) (Nh b k z):=fun n=>by
 have e:= @OB tI aA KR M k (W z) n
 refine (congrArg (fun q=>Option.getD (α:=au) q (false,[])) e).trans ?_
 unfold Nh
 cases hb:Ty.beq tI k n with
 | true=>
  have:=(KR k n).1 hb
  subst this
  rw[ajO,ajZ rfl];rfl
 | false=>
  have hne:¬n=k:=fun e=>by
   subst e
   have:=(KR n n).2 rfl
   rw[hb] at this;cases this
  rw[ajN]
  exact (h n).trans (congrArg W (ajY hne).symm)
theorem ZG {o:ai} {l:List aa} {t:bD} {v:List an} {S:CJ} {M:Ga} {out:ED} (hS:oy o l S) (day:Int): ∃ S',oy o l S'/\oC ((o,l,t,v,S,M,out,()):MB) day=some (stF o l day,((o,l,t,v,S',M,out,()):MB),()):=by
 unfold oC
 dsimp only
 cases hg:dN (k:=tI) (v:= .slice aU) S day with
 | none=>
  refine⟨_,hS.set day, ?_⟩
  change (bif true then _ else _)=_
  rw[ajO,BS,ajA]
  rfl
 | some s=>
  refine⟨S,hS, ?_⟩
  change (bif false then _ else _)=_
  rw[ajN, <- hS day s hg]
  rfl
theorem X5 {α:Type} (p:α->Bool):∀ l:List α,(l.findIdx? p=none/\l.find? p=none)\/∃ (k:Nat) (s:α),l.findIdx? p=some k/\l[k]? =some s/\l.find? p=some s
 | []=> .inl ⟨rfl,rfl⟩
 | a::r=>by
  rw[ahZ,ahX]
  cases hp:p a with
  | true=>exact .inr ⟨0,a,rfl,rfl,rfl⟩
  | false=>
   rcases X5 p r with ⟨h1,h2⟩ | ⟨k,s,h1,h2,h3⟩
   ·exact .inl ⟨by simp[h1],h2⟩
   ·exact .inr ⟨k+1,s,by simp[h1],by simpa using h2,h3⟩
theorem WM (st:List aj) (x:aI) (hl:st.length<1000000000):kU st x=some (match st.findIdx? (fun s=>s.1==x.2.1) with | some k=>(k:Int) | none=> -1,()):=by
 unfold kU
 have loop:∀ (r:List aj) (i n:Nat),st.drop i=r->i<=st.length->r.length<n->
  iter (X:=jg) (β:=jf) n (st,x,(st.length:Int),(i:Int),()) gw=some (match r.findIdx? (fun s=>s.1==x.2.1) with | some k=>Sum.inl (((i+k:Nat):Int),()) | none=>Sum.inr ()):=by
  intro r
  induction r with
  | nil=>
   intro i n hdr hi hn
   have:i=st.length:=by
    have:=congrArg List.length hdr
    simp at this;omega
   subst this
   obtain⟨n,rfl⟩:∃ m,n=m+1:=⟨n - 1,by omega⟩
   rw[bR]
   unfold gw
   dsimp only
   rw[az (by omega)]
   rfl
  | cons y r ih=>
   intro i n hdr hi hn
   have hy:st[i]? =some y:=by
    have:=congrArg (·[0]?) hdr
    simpa [ah7] using this
   have hr':st.drop (i+1)=r:=by
    have:=congrArg List.tail hdr
    simpa [aiU] using this
   have hlt:=(aia.1 hy).1
   obtain⟨n,rfl⟩:∃ m,n=m+1:=⟨n - 1,by simp at hn;omega⟩
   rw[bR]
   generalize hag:(fun y=>iter n y gw)=again
   unfold gw
   dsimp only
   rw[aB (by omega),bq,hy,ajA]
   unfold xP
   rw[ajA]
   dsimp only
   rw[ahZ]
   cases hb:(y.1==x.2.1) with
   | true=>rfl
   | false=>
    rw[ajN,ax (n:=(i:Int)+1) (by omega) (by omega), <- hag,show (i:Int)+1=((i+1:Nat):Int) by omega]
    refine (ih (i+1) n hr' (by omega) (by simp at hn;omega)).trans ?_
    cases hq:r.findIdx? (fun s=>s.1==x.2.1) with
    | none=>simp
    | some q=>simp;omega
 have:=loop st 0 (List.length st+(Int.natAbs ((List.length st:Int))+(Int.natAbs (0:Int)+2))) rfl (ajy _) (by omega)
 rw[show ((0:Nat):Int)=0 from rfl] at this
 rw[this]
 cases hq:st.findIdx? (fun s=>s.1==x.2.1) with
 | none=>rfl
 | some q=>simp[aG]
theorem Uo (l:List an) (y:an) (hl:l.length<1000000000):ir l y=some (l.any (fun o=>o.1==y.1),()):=by
 unfold ir nR
 have loop:iter (X:=fG) (β:=fF) (List.length l+(Int.natAbs ((List.length l:Int))+(Int.natAbs (0:Int)+2))) (l,y,(List.length l:Int),0,()) fE=some (Sum.inr ())/\l.any (fun o=>o.1==y.1)=false\/
  ∃ i:Nat,iter (X:=fG) (β:=fF) (List.length l+(Int.natAbs ((List.length l:Int))+(Int.natAbs (0:Int)+2))) (l,y,(List.length l:Int),0,()) fE=some (Sum.inl ((i:Int),()))/\l.any (fun o=>o.1==y.1)=true:=by
  refine bX (Inv:=fun i x=>x=(l,y,(List.length l:Int),(i:Int),())/\(l.take i).any (fun o=>o.1==y.1)=false) l.length (fun r=>r=some (Sum.inr ())/\l.any (fun o=>o.1==y.1)=false\/∃ i:Nat,r=some (Sum.inl ((i:Int),()))/\l.any (fun o=>o.1==y.1)=true) ?_ ?_ _ 0 _ ⟨rfl,by simp⟩ (by omega) (by omega)
  ·rintro i _ again hi ⟨rfl,hn⟩ ih
   unfold fE
   dsimp only
   have hy:l[i]? =some l[i]:=aJ hi
   rw[aB (by omega),bq,hy,ajA]
   unfold uk
   rw[ajA]
   dsimp only
   cases hb:(l[i].1==y.1) with
   | true=>
    right
    exact⟨i,rfl,ahK.2 ⟨l[i],ail _,hb⟩⟩
   | false=>
    rw[ajN,ax (by omega) (by omega)]
    refine ih _ ⟨rfl, ?_⟩
    rw[aiV,hy,List.any_append,hn]
    simp[hb]
  ·rintro _ again ⟨rfl,hn⟩
   unfold fE
   dsimp only
   rw[az (by omega)]
   rw[aiZ (ajc _)] at hn
   exact .inl ⟨rfl,hn⟩
 rcases loop with ⟨h1,h2⟩ | ⟨i,h1,h2⟩
 ·rw[h1,aS,ajA,h2];rfl
 ·rw[h1,lI,ajA,h2];simp
theorem OD {a b:Int} {m n:Nat} (ha:a.natAbs<=m) (hb:b.natAbs<=n):(a*b).natAbs<=m*n:=by
 rw[Int.natAbs_mul];exact Nat.mul_le_mul ha hb
theorem aam (x y:Int):decide ((x - y).sign>0)=decide (y<x):=by
 rcases Int.lt_trichotomy y x with h | h | h
 ·rw[ahz (by omega),ajR h];rfl
 ·subst h;rw[Int.sub_self];simp
 ·rw[ahy (by omega),ajQ (show ¬y<x by omega)];rfl
theorem aeg (x:Int):decide (x.sign<0)=decide (x<0):=by
 rcases Int.lt_trichotomy x 0 with h | h | h
 ·rw[ahy h,ajR h];rfl
 ·subst h;rfl
 ·rw[ahz h,ajQ (show ¬x<0 by omega)];rfl
theorem Z4 {z:Int} (hz:z.natAbs<=10 ^ 30) {t:Int} (h0:0<=t) (h1:t<=1000):EV (W z) t=some (W (z*(1000+t)),()):=by
 unfold EV
 rw[ax (by omega) (by omega),l9 _ (by omega) (by omega),ajA,lW _ _ (jK (by omega)) (jK (by omega)),ajA]
theorem ZX {s:aj} (h:W7 s):EU s=some (W (gm s),()):=by
 unfold EU
 rw[qE h.rc,ajA,qE h.rt,ajA,pN _ _ (jK (by have:=Ea h.rc;omega)) (jK (by have:=Ea h.rt;omega)),ajA]
 rfl
structure aat (x:aI):Prop where
 q:cm x.2.2.2.1
 p:cm x.2.2.2.2.2.1
 per:1<=x.2.2.2.2.2.2.1/\x.2.2.2.2.2.2.1<=100000
theorem agj {pl:Int} {rates:List aZ} {x:aI} (h:Xj pl rates x):aat x:=⟨h.q,h.p,h.per⟩
theorem ae3 {o:ai} {l:List aa} {t:bD} {v:List an} {S:CJ} {M:Ga} {out:ED} {b:Int->Int} (hc:dM o l=0) (ht1:0<=t.1/\t.1<=1000) (ht2:0<=t.2/\t.2<=1000) (hS:oy o l S) (hM:BOk M b) (hb:BB b) (day:Int) {x:aI} (hx:aat x): ∃ S',oy o l S'/\uP ((o,l,t,v,S,M,out,()):MB) day x=some (Ae (stF o l day) t x (b x.2.1+nJ x.2.2.2.1),((o,l,t,v,S',M,out,()):MB),()):=by
 obtain⟨S',hS',e⟩:=ZG (t:=t) (v:=v) (M:=M) (out:=out) hS day
 refine⟨S',hS', ?_⟩
 have hlen:(stF o l day).length<1000000000:=by
  unfold stF
  split
  ·rw[aio,(tZ _).length_eq]
   have:=(D2 hc 0 day).2.len
   omega
  ·simp
 unfold uP Ae
 dsimp only
 rw[e,ajA]
 dsimp only
 rw[WM _ _ hlen,ajA]
 rcases X5 (fun s:aj=>s.1==x.2.1) (stF o l day) with ⟨h1,h2⟩ | ⟨k,s,h1,h2,h3⟩
 ·rw[h1,h2];rfl
 rw[h1,h3]
 dsimp only
 have hs:=TW hc day s (aiF h2)
 rw[az (show ¬((k:Int)<0) from Int.not_lt.2 (aht k)),bq,h2,ajA]
 by_cases ha:s.2.1=x.2.2.1
 rotate_left
 ·rw[show (!(s.2.1==x.2.2.1))=true by simp[ha],ajO,ajZ (fun h=>ha h.1)]
 rw[show (!(s.2.1==x.2.2.1))=false by simp[ha],ajN]
 by_cases hu:s.2.2.1=x.2.2.2.2.1
 rotate_left
 ·rw[show (!(s.2.2.1==x.2.2.2.2.1))=true by simp[hu],ajO,ajZ (fun h=>hu h.2)]
 rw[show (!(s.2.2.1==x.2.2.2.2.1))=false by simp[hu],ajN,ajY (fun h=>h ⟨ha,hu⟩)]
 have n1:=Ea hx.p
 have n2:=Ea hs.pr
 have n3:=Ea hx.q
 have m1:(nJ x.2.2.2.2.2.1*1000).natAbs<=10 ^ 24*1000:=OD n1 (by decide)
 have m2:(nJ s.2.2.2.2.1*(1000+t.1)).natAbs<=10 ^ 24*2000:=OD n2 (by omega)
 have m3:(nJ s.2.2.2.2.1*(1000+t.1)*x.2.2.2.2.2.2.1).natAbs<=10 ^ 24*2000*100000:=OD m2 (by have:=hx.per;omega)
 rw[qE hx.p,ajA,l9 1000 (by omega) (by omega),ajA,lW _ _ (jK (by omega)) (jK (by omega)),ajA,qE hs.pr,ajA,
  Z4 (by omega) ht1.1 ht1.2,ajA,l9 _ (by have:=hx.per;omega) (by have:=hx.per;omega),ajA,lW _ _ (jK (by omega)) (jK (by have:=hx.per;omega)),ajA,
  wV _ _ (jK (by omega)) (jK (by omega)),ajA]
 dsimp only
 rw[aam]
 by_cases hp:nJ s.2.2.2.2.1*(1000+t.1)*x.2.2.2.2.2.2.1<nJ x.2.2.2.2.2.1*1000
 ·rw[aB hp,ajZ hp]
 rw[az hp,ajY hp,qE hx.q,ajA,hM x.2.1]
 obtain⟨b0,b1⟩:=hb x.2.1
 have m4:(b x.2.1+nJ x.2.2.2.1).natAbs<=10 ^ 27:=by omega
 have m5:((b x.2.1+nJ x.2.2.2.1)*1000).natAbs<=10 ^ 27*1000:=OD m4 (by decide)
 have k0:=hs.k0;have k1:=hs.k1
 have m6:(gm s*(1000+t.2)).natAbs<=10 ^ 24*2000:=OD (by omega) (by omega)
 rw[pO _ _ (jK (by omega)) (jK (by omega)),ajA,jT,ajA]
 dsimp only
 rw[aeg]
 by_cases hn:b x.2.1+nJ x.2.2.2.1<0
 ·rw[aB hn,ajZ (.inl hn)]
 rw[az hn,ajA,lW _ _ (jK (by omega)) (jK (by omega)),ajA,ZX hs,ajA,Z4 (by omega) ht2.1 ht2.2,ajA,
  wV _ _ (jK (by omega)) (jK (by omega)),ajA]
 dsimp only
 rw[aam]
 by_cases hq:gm s*(1000+t.2)<(b x.2.1+nJ x.2.2.2.1)*1000
 ·rw[aB hq,ajZ (.inr hq)]
 ·rw[az hq,ajY (fun h=>h.elim hn hq)]
end Go.Md
set_option linter.all false
namespace Go.Md
open Go.Dn
theorem LN (st:List aj) (t:Int×Int) (i:Int):∀ (l:List aI) (k:Nat) (b:Int->Int),(oe st t i k l b).1.length<=l.length
 | [],_,_=>ajy _
 | x::r,k,b=>by
  unfold oe
  split
  ·have:=LN st t i r (k+1) (Nh b x.2.1 (b x.2.1+nJ x.2.2.2.1))
   simp only[ain];omega
  ·have:=LN st t i r (k+1) b
   simp only[ain];omega
theorem Va {o:ai} {l:List aa} {t:bD} {v:List an} {S:CJ} {M:Ga} {out:ED} (line kind i:Int) (h:out.length<=1000000): iA line kind ((o,l,t,v,S,M,out,()):MB) (i,())=some (((o,l,t,v,S,M,out++[(i,line,kind)],()):MB),(i,()),()):=by
 have BN:maxLen=9223372036854775807:=rfl
 unfold iA
 dsimp only
 rw[bg (by rw[ag1];exact⟨ajR (by omega),ajR (by omega)⟩)]
theorem Zi {o:ai} {l:List aa} {t:bD} {v:List an} (hc:dM o l=0) (ht1:0<=t.1/\t.1<=1000) (ht2:0<=t.2/\t.2<=1000) (i:Int) (y:an) (ls:List aI) (hls:ls.length<=1000) (hx:∀ x∈ls,aat x): ∀ (r:List aI) (k n:Nat) (S:CJ) (M:Ga) (b:Int->Int) (out:ED),ls.drop k=r->k<=ls.length->r.length<n->oy o l S->BOk M b->BB b->out.length+r.length<=1000000-> ∃ S' M',oy o l S'/\BOk M' (oe (stF o l y.2.2.1) t i k r b).2/\ iter (X:=nq) (β:=nk) n (ls,(ls.length:Int),(k:Int),i,y.1,y.2.1,y.2.2.1,y.2.2.2.1,y.2.2.2.2.1,y.2.2.2.2.2.1,y.2.2.2.2.2.2.1,y.2.2.2.2.2.2.2.1,y.2.2.2.2.2.2.2.2,o.1,o.2.1,o.2.2.1,o.2.2.2.1,o.2.2.2.2.1,o.2.2.2.2.2,l,t.1,t.2,v,S,M,out,()) jP =some (Sum.inr (o.1,o.2.1,o.2.2.1,o.2.2.2.1,o.2.2.2.2.1,o.2.2.2.2.2,l,t.1,t.2,v,S',M',out++(oe (stF o l y.2.2.1) t i k r b).1,())):=by
 obtain⟨o1,o2,o3,o4,o5,o6⟩:=o
 obtain⟨t1,t2⟩:=t
 obtain⟨y1,y2,y3,y4,y5,y6,y7,y8,y9⟩:=y
 dsimp only at*
 intro r
 induction r with
 | nil=>
  intro k n S M b out hdr hk hn hS hM hb ho
  have:k=ls.length:=by
   have:=congrArg List.length hdr
   simp at this;omega
  subst this
  obtain⟨n,rfl⟩:∃ m,n=m+1:=⟨n - 1,by omega⟩
  refine⟨S,M,hS,hM, ?_⟩
  rw[bR]
  unfold jP
  dsimp only
  rw[az (by omega)]
  simp only[oe,ahM]
 | cons x r ih=>
  intro k n S M b out hdr hk hn hS hM hb ho
  have hxk:ls[k]? =some x:=by
   have:=congrArg (·[0]?) hdr
   simpa [ah7] using this
  have hr':ls.drop (k+1)=r:=by
   have:=congrArg List.tail hdr
   simpa [aiU] using this
  have hlt:=(aia.1 hxk).1
  have hbx:=hx x (aiF hxk)
  obtain⟨n,rfl⟩:∃ m,n=m+1:=⟨n - 1,by simp at hn;omega⟩
  simp only[ain] at hn ho
  obtain⟨S1,hS1,e1⟩:=ae3 (t:=(t1,t2)) (v:=v) (out:=out) hc ht1 ht2 hS hM hb y3 hbx
  rw[bR]
  generalize hag:(fun y=>iter n y jP)=again
  unfold jP oe
  dsimp only
  rw[aB (by omega),bq,hxk,ajA,e1,ajA]
  dsimp only
  by_cases h0:Ae (stF (o1,o2,o3,o4,o5,o6) l y3) (t1,t2) x (b x.2.1+nJ x.2.2.2.1)=0
  ·obtain⟨z0,z1⟩:=Yi (aez hc y3) ht2.2 h0
   have b1:=hb x.2.1
   have q1:=Ea hbx.q
   rw[h0,zne,ajN,ajZ rfl,qE hbx.q,ajA,hM x.2.1,pO _ _ (jK (by omega)) (jK (by omega)),ajA,ax (n:=(k:Int)+1) (by omega) (by omega), <- hag,show (k:Int)+1=((k+1:Nat):Int) by omega]
   exact ih (k+1) n S1 _ _ out hr' (by omega) (by omega) hS1 (hM.set x.2.1 _) (ZK hb ⟨z0,z1⟩) (by omega)
  ·rw[dX h0,ajO,ajY h0,Va _ _ _ (by omega),ajA,ax (n:=(k:Int)+1) (by omega) (by omega), <- hag,show (k:Int)+1=((k+1:Nat):Int) by omega]
   obtain⟨S2,M2,g1,g2,g3⟩:=ih (k+1) n S1 M b (out++[(i,(k:Int),Ae (stF (o1,o2,o3,o4,o5,o6) l y3) (t1,t2) x (b x.2.1+nJ x.2.2.2.1))]) hr' (by omega) (by omega) hS1 hM hb (by simp;omega)
   refine⟨S2,M2,g1,g2,g3.trans ?_⟩
   rw[ahL];rfl
theorem To {y:an} (h:mA y=0):(∀ x∈y.2.2.2.2.2.2.2.1,aat x)/\y.2.2.2.2.2.2.2.1.length<=500:=⟨fun x hx=>agj ((Oo h).lines x hx),(Oo h).ln.2⟩
theorem aaU {o:ai} {l:List aa} {t:bD} {v:List an} {S:CJ} {M:Ga} {out:ED} {b:Int->Int} (hc:dM o l=0) (ht1:0<=t.1/\t.1<=1000) (ht2:0<=t.2/\t.2<=1000) (hv:v.length<=200) {i:Nat} {y:an} (hy:v[i]? =some y) (hi:mA y=0) (hS:oy o l S) (hM:BOk M b) (hb:BB b) (ho:out.length+500<=1000000): ∃ S' M',oy o l S'/\BOk M' (BO o.1 (stF o l) t (v.take i) i y b).2/\mm ((o,l,t,v,S,M,out,()):MB) i=some (((o,l,t,v,S',M',out++(BO o.1 (stF o l) t (v.take i) i y b).1,()):MB),()):=by
 have hlt:=(aia.1 hy).1
 obtain⟨hx,hll⟩:=To hi
 unfold mm BO
 dsimp only
 rw[bq,hy,ajA]
 by_cases hn:y.2.1=o.1
 rotate_left
 ·rw[show (!(y.2.1==o.1))=true by simp[hn],ajO,ajZ hn,Va _ _ _ (by omega),ajA]
  exact⟨S,M,hS,hM,rfl⟩
 rw[show (!(y.2.1==o.1))=false by simp[hn],ajN,ajY (fun h=>h hn),bg (by simp;omega),ahC,ahT,Uo _ _ (by rw[ais];omega),ajA]
 dsimp only
 cases ha:(v.take i).any fun u=>u.1==y.1 with
 | true=>
  rw[ajO,ajZ rfl,Va _ _ _ (by omega),ajA]
  exact⟨S,M,hS,hM,rfl⟩
 | false=>
  rw[ajN,ajY (by decide)]
  obtain⟨S',M',g1,g2,g3⟩:=Zi (v:=v) hc ht1 ht2 (i:Int) y y.2.2.2.2.2.2.2.1 (by omega) hx y.2.2.2.2.2.2.2.1 0 (y.2.2.2.2.2.2.2.1.length+(Int.natAbs ((y.2.2.2.2.2.2.2.1.length:Int))+(Int.natAbs (0:Int)+(Int.natAbs (i:Int)+(y.1.length+(y.2.1.length+(y.2.2.1.natAbs+(y.2.2.2.1.natAbs+(y.2.2.2.2.1.natAbs+(y.2.2.2.2.2.2.1.length+(y.2.2.2.2.2.2.2.1.length+(y.2.2.2.2.2.2.2.2.length+(o.1.length+(o.2.1.length+(o.2.2.1.length+(o.2.2.2.1.natAbs+(o.2.2.2.2.1.natAbs+(o.2.2.2.2.2.length+(List.length l+(t.1.natAbs+(t.2.natAbs+(List.length v+(List.length S+(List.length M+(List.length out+2)))))))))))))))))))))))))
   S M b out rfl (ajy _) (ajf (by with_reducible repeat (first | exact ajz | refine aje _ ?_))) hS hM hb (by omega)
  refine⟨S',M',g1,g2, ?_⟩
  refine (congrArg (fun q=>aG q _) g3).trans ?_
  rfl
end Go.Md
set_option linter.all false
set_option maxRecDepth 20000
namespace Go.Md
open Go.Dn
theorem adj (t:bD):nw t=some (Mk t,()):=by
 unfold nw Mk
 rw[cG,ajA]
 dsimp only
 by_cases h1:t.1<0\/1000<t.1
 ·rw[ajR h1,ajO,ajZ (by omega)]
 ·rw[ajQ h1,ajN,cG,ajA]
  dsimp only
  by_cases h2:t.2<0\/1000<t.2
  ·rw[ajR h2,ajO,ajZ (by omega)]
  ·rw[ajQ h2,ajN,ajY (by omega)]
theorem Wc {v:List an} {i:Nat} (x:an) (hi:i<v.length) (hv:v.length<=200): (bif decide ((i:Int)>0) then Option.bind (idx v (w64 ((i:Int) - 1))) fun y4=>some (decide (x.2.2.1<y4.2.2.1),()) else some (false,()))=some ((de v i).any fun q=>decide (x.2.2.1<q.2.2.1),()):=by
 cases i with
 | zero=>rfl
 | succ j=>
  have hj:v[j]? =some v[j]:=ah8 (by omega)
  rw[aB (by omega),ax (by omega) (by omega),show ((j+1:Nat):Int) - 1=(j:Int) by omega,bq,hj,ajA]
  show _=some ((v[j]?).any _,())
  rw[hj];rfl
def abj {γ:Type} (z:Int) (g:γ):((Option Nat)×Int×Unit) ⊕ γ:=if z≠0 then Sum.inl (none,z,()) else Sum.inr g
theorem Vh {γ:Type} {z:Int} (h:z≠0) (g:γ):abj z g=Sum.inl (none,z,()):=ajZ h
theorem af7 {γ:Type} (g:γ):abj 0 g=Sum.inr g:=rfl
theorem WR {o:ai} {l:List aa} {t:bD} {v:List an} (hv:v.length<=200):∀ (r:List an) (i n:Nat),v.drop i=r->i<=v.length->r.length<n-> iter (X:=pT) (β:=pS) n (l,v,v,(v.length:Int),(i:Int),o.1,o.2.1,o.2.2.1,o.2.2.2.1,o.2.2.2.2.1,o.2.2.2.2.2,t.1,t.2,()) mj =some (abj (qN (de v i) r) (l,v,o.1,o.2.1,o.2.2.1,o.2.2.2.1,o.2.2.2.2.1,o.2.2.2.2.2,t.1,t.2,())):=by
 intro r
 induction r with
 | nil=>
  intro i n hdr hi hn
  have:i=v.length:=by
   have:=congrArg List.length hdr
   simp at this;omega
  subst this
  obtain⟨n,rfl⟩:∃ m,n=m+1:=⟨n - 1,by omega⟩
  rw[bR]
  unfold mj
  dsimp only
  rw[az (by omega),qN,af7]
 | cons x r ih=>
  intro i n hdr hi hn
  have hxi:v[i]? =some x:=by
   have:=congrArg (·[0]?) hdr
   simpa [ah7] using this
  have hr':v.drop (i+1)=r:=by
   have:=congrArg List.tail hdr
   simpa [aiU] using this
  have hlt:=(aia.1 hxi).1
  obtain⟨n,rfl⟩:∃ m,n=m+1:=⟨n - 1,by simp at hn;omega⟩
  simp only[ain] at hn
  have ep:de v (i+1)=some x:=hxi
  rw[bR]
  generalize hag:(fun y=>iter n y mj)=again
  unfold mj
  dsimp only
  rw[aB (by omega),bq,hxi,ajA,mh,ajA]
  dsimp only
  rw[qN]
  by_cases h0:mA x=0
  rotate_left
  ·rw[dX h0,ajO,ajZ h0,Vh h0]
  rw[ajY (fun h=>h h0),h0,zne,ajN,Wc x hlt hv,ajA]
  dsimp only
  cases hp:(de v i).any fun q=>decide (x.2.2.1<q.2.2.1) with
  | true=>rw[ajO,ajZ rfl,Vh (by decide)]
  | false=>
   rw[ajN,ajY (by decide),ax (n:=(i:Int)+1) (by omega) (by omega), <- hag,show (i:Int)+1=((i+1:Nat):Int) by omega]
   exact (ih (i+1) n hr' (by omega) (by omega)).trans (by rw[ep])
theorem Yt {o:ai} {l:List aa} {t:bD} {v:List an} (hv:v.length<=200):∀ (r:List an) (i n:Nat),v.drop i=r->i<=v.length->r.length<n->qN (de v i) r=0-> iter (X:=sH) (β:=sG) n (l,v,v,(v.length:Int),(i:Int),o.1,o.2.1,o.2.2.1,o.2.2.2.1,o.2.2.2.2.1,o.2.2.2.2.2,t.1,t.2,()) nX =some (Sum.inr (l,v,o.1,o.2.1,o.2.2.1,o.2.2.2.1,o.2.2.2.2.1,o.2.2.2.2.2,t.1,t.2,())):=by
 intro r
 induction r with
 | nil=>
  intro i n hdr hi hn _
  have:i=v.length:=by
   have:=congrArg List.length hdr
   simp at this;omega
  subst this
  obtain⟨n,rfl⟩:∃ m,n=m+1:=⟨n - 1,by omega⟩
  rw[bR]
  unfold nX
  dsimp only
  rw[az (by omega)]
 | cons x r ih=>
  intro i n hdr hi hn hz
  have hxi:v[i]? =some x:=by
   have:=congrArg (·[0]?) hdr
   simpa [ah7] using this
  have hr':v.drop (i+1)=r:=by
   have:=congrArg List.tail hdr
   simpa [aiU] using this
  have hlt:=(aia.1 hxi).1
  obtain⟨n,rfl⟩:∃ m,n=m+1:=⟨n - 1,by simp at hn;omega⟩
  simp only[ain] at hn
  have ep:de v (i+1)=some x:=hxi
  simp only[qN] at hz
  split at hz
  ·rename_i h1;exact absurd hz h1
  rename_i h1
  have h0:mA x=0:=ahk h1
  split at hz
  ·cases hz
  rename_i h2
  rw[bR]
  generalize hag:(fun y=>iter n y nX)=again
  unfold nX
  dsimp only
  rw[aB (by omega),bq,hxi,ajA,mh,ajA]
  dsimp only
  rw[h0,zne,ajN,Wc x hlt hv,ajA]
  dsimp only
  rw[Bool.eq_false_iff.2 h2,ajN,ax (n:=(i:Int)+1) (by omega) (by omega), <- hag,show (i:Int)+1=((i+1:Nat):Int) by omega]
  exact ih (i+1) n hr' (by omega) (by omega) (by rw[ep];exact hz)
theorem U8 (o:ai) (l:List aa) (t:bD) (v:List an):wh o l t v=if mF o l t v≠0 then some (none,mF o l t v,()) else none:=by
 unfold wh mF dM
 rw[nC,ajA]
 dsimp only
 by_cases h1:gf o=0
 rotate_left
 ·rw[dX h1,ajO,ajZ h1,ajZ h1,ajZ h1]
 rw[h1,zne,ajN,xS,ajA]
 dsimp only
 rw[ajY (show ¬((0:Int)≠0) by decide)]
 by_cases h2:xb l=0
 rotate_left
 ·rw[dX h2,ajO,ajZ h2,ajZ h2]
 rw[h2,zne,ajN,adj,ajA]
 dsimp only
 rw[ajY (show ¬((0:Int)≠0) by decide)]
 by_cases h3:Mk t=0
 rotate_left
 ·rw[dX h3,ajO,ajZ h3,ajZ h3]
 rw[h3,zne,ajN]
 rw[ajY (show ¬((0:Int)≠0) by decide)]
 by_cases h4:200<v.length
 ·rw[aB (by omega),ajZ h4,ajZ (by decide)]
 rw[az (by omega),ajY h4]
 refine (congrArg (fun q=>aG q _) (WR (o:=o) (l:=l) (t:=t) (v:=v) (by omega) v 0 _ rfl (ajy _) (aje _ (ajf (by with_reducible repeat (first | exact ajz | refine aje _ ?_)))))).trans ?_
 show aG (some (abj (qN none v) _)) _=_
 by_cases h5:qN none v=0
 ·rw[h5];rfl
 ·rw[Vh h5,ajZ h5];rfl
theorem Ys {o:ai} {l:List aa} {t:bD} {v:List an} (h:MOk o l t v):z8 o l t v=some (((o,l,t,v,[],[],[],()):MB),0,()):=by
 obtain⟨h1,h2⟩:=NB h.chk
 have h3:Mk t=0:=by
  unfold Mk
  have:=h.t1;have:=h.t2
  rw[ajY (by omega)]
 unfold z8
 rw[nC,ajA]
 dsimp only
 rw[h1,zne,ajN,xS,ajA]
 dsimp only
 rw[h2,zne,ajN,adj,ajA]
 dsimp only
 have h4:=h.len
 rw[h3,zne,ajN,az (by omega)]
 refine (congrArg (fun q=>aG q _) (Yt (o:=o) (l:=l) (t:=t) (v:=v) h4 v 0 _ rfl (ajy _) (aje _ (ajf (by with_reducible repeat (first | exact ajz | refine aje _ ?_)))) h.go)).trans ?_
 rfl
theorem agw {a r:Nat} (h:a+500*(r+1)<=900000):a+500<=1000000:=by omega
theorem agx {a r c:Nat} (h:a+500*(r+1)<=900000) (hc:c<=500):a+c+500*r<=900000:=by omega
theorem aa5 {o:ai} {l:List aa} {t:bD} {v:List an} (h:MOk o l t v):∀ (r:List an) (i n:Nat) (S:CJ) (M:Ga) (b:Int->Int) (out:ED),v.drop i=r->i<=v.length->r.length<n->oy o l S->BOk M b->BB b->out.length+500*r.length<=900000-> ∃ S' M',oy o l S'/\BOk M' (Fc o.1 (stF o l) t (v.take i) r b).2/\ iter (X:=Bp) (β:=Bo) n ((v.length:Int),(i:Int),o.1,o.2.1,o.2.2.1,o.2.2.2.1,o.2.2.2.2.1,o.2.2.2.2.2,l,t.1,t.2,v,S,M,out,()) w8 =some (Sum.inr (o.1,o.2.1,o.2.2.1,o.2.2.2.1,o.2.2.2.2.1,o.2.2.2.2.2,l,t.1,t.2,v,S',M',out++(Fc o.1 (stF o l) t (v.take i) r b).1,())):=by
 intro r
 induction r with
 | nil=>
  intro i n S M b out hdr hi hn hS hM hb ho
  have:i=v.length:=by
   have:=congrArg List.length hdr
   simp at this;omega
  subst this
  obtain⟨n,rfl⟩:∃ m,n=m+1:=⟨n - 1,by omega⟩
  refine⟨S,M,hS,hM, ?_⟩
  rw[bR]
  unfold w8
  dsimp only
  rw[az (by omega)]
  simp only[Fc,ahM]
 | cons x r ih=>
  intro i n S M b out hdr hi hn hS hM hb ho
  have hxi:v[i]? =some x:=by
   have:=congrArg (·[0]?) hdr
   simpa [ah7] using this
  have hr':v.drop (i+1)=r:=by
   have:=congrArg List.tail hdr
   simpa [aiU] using this
  have hlt:=(aia.1 hxi).1
  obtain⟨n,rfl⟩:∃ m,n=m+1:=⟨n - 1,by simp at hn;omega⟩
  simp only[ain] at hn ho
  have hv:=h.len
  have hx0:=Th h.go x (aiF hxi)
  have ho':out.length+500<=1000000:=agw ho
  obtain⟨S1,M1,g1,g2,g3⟩:=aaU (out:=out) h.chk h.t1 h.t2 hv hxi hx0 hS hM hb ho'
  have hb1:BB (BO o.1 (stF o l) t (v.take i) i x b).2:=aeZ (aez h.chk) h.t2.2 hb
  have hlen:(BO o.1 (stF o l) t (v.take i) i x b).1.length<=500:=by
   unfold BO
   split
   ·simp
   ·split
    ·simp
    ·have:=LN (stF o l x.2.2.1) t i x.2.2.2.2.2.2.2.1 0 b
     have:=(To hx0).2
     omega
  have etl:((v.take i).length:Int)=(i:Int):=by rw[ais];omega
  rw[bR]
  generalize hag:(fun y=>iter n y w8)=again
  unfold w8
  simp only[Fc]
  rw[aB (show (i:Int)<(v.length:Int) by omega)]
  have g3':mm ((o.1,o.2.1,o.2.2.1,o.2.2.2.1,o.2.2.2.2.1,o.2.2.2.2.2),l,(t.1,t.2),v,S,M,out,()) (i:Int)=_:=g3
  rw[g3',ajA]
  dsimp only
  rw[ax (n:=(i:Int)+1) (by omega) (by omega), <- hag,show (i:Int)+1=((i+1:Nat):Int) by omega,etl]
  obtain⟨S2,M2,q1,q2,q3⟩:=ih (i+1) n S1 M1 _ (out++(BO o.1 (stF o l) t (v.take i) i x b).1) hr' (by omega) (by omega) g1 g2 hb1 (by rw[aim];exact agx ho hlen)
  rw[T3 hxi] at q2 q3
  refine⟨S2,M2,q1,q2,q3.trans ?_⟩
  rw[ahL]
theorem aeB:BOk [] (fun _=>0):=fun n=>by
 show (false,[])=W 0
 decide
theorem aeA:BB (fun _=>0):=fun n=>by
 exact⟨ahm _,by show (0:Int)<=10 ^ 26;decide⟩
theorem Y1 (o:ai) (l:List aa):oy o l []:=fun d s h=>by cases h
theorem Ws (o:ai) (l:List aa) (t:bD) (v:List an):z7 o l t v=some (if mF o l t v=0 then (Fc o.1 (stF o l) t [] v (fun _=>0)).1 else [],mF o l t v,()):=by
 unfold z7
 rw[U8]
 by_cases h:mF o l t v=0
 rotate_left
 ·rw[ajZ h,ajY h]
  unfold Gu
  dsimp only
  rw[dX h,ajO]
 have hm:=afb h
 rw[ajY (by simpa using h),ajZ h]
 refine Eq.trans Gv ?_
 rw[Ys hm,ajA]
 dsimp only
 rw[zne,ajN]
 have hl:=hm.len
 obtain⟨S',M',_,_,q3⟩:=aa5 hm v 0 (Int.natAbs ((List.length v:Int))+(Int.natAbs (0:Int)+(o.1.length+(o.2.1.length+(o.2.2.1.length+(o.2.2.2.1.natAbs+(o.2.2.2.2.1.natAbs+(o.2.2.2.2.2.length+(List.length l+(t.1.natAbs+(t.2.natAbs+(List.length v+(List.length ([]:CJ)+(List.length ([]:Ga)+(List.length ([]:ED)+2)))))))))))))))
  [] [] (fun _=>0) [] rfl (ajy _) (by rw[ahs];exact ajf (by with_reducible repeat (first | exact ajz | refine aje _ ?_))) (Y1 o l) aeB aeA (by simp;omega)
 refine (congrArg (fun q=>aG q _) q3).trans ?_
 rw[h];rfl
end Go.Md
set_option linter.all false
set_option maxRecDepth 20000
namespace Go.Md
open Go.Dn
def kqZ (s:aj):Int:=gm s / 1000000
theorem adb {o:ai} {l:List aa} (h:dM o l=0) {d:Int} {s:aj} (hs:s∈stF o l d):gm s=kqZ s*1000000/\0<=kqZ s/\kqZ s<=1000000000000000:=by
 obtain⟨x,hx,hp,rfl⟩:=aao h hs
 have h1:=hx.ret0;have h2:=hx.retr;have h3:=hx.rcvs;have h4:=hx.shp1
 have hk:=LM hx
 unfold kqZ
 rw[hk,Int.mul_ediv_cancel _ (by decide)]
 exact⟨rfl,by omega,by omega⟩
theorem X4 {m:Int} (h:m.natAbs<=1000000000000000):mY (W (m*1000000)) 9=some (eP m,0,()):=by
 have e:=vX (m*1000000) (jK (by omega)) 9 (by decide)
 rw[show ((9:Nat):Int)=9 from rfl] at e
 have f:few 9 (m*1000000)=few 3 m:=VL 6 3 m
 rw[f] at e
 obtain⟨h1,h2,h3⟩:=mR 3 m
 rw[ajZ (by omega)] at e
 exact e
def gq (rate:Bys):Nat->List aj->List aI
 | _,[]=>[]
 | k,s::r=>if gm s<=0 then gq rate k r else (((k:Int)+1),s.1,s.2.1,eP (kqZ s),s.2.2.1,s.2.2.2.2.1,1,[],rate)::gq rate (k+1) r
abbrev agp:an:=([],[],0,0,0,false,[],[],[])
def nW (like:an):Bys:=(like.2.2.2.2.2.2.1.headD ([],(0,0))).1
def eD (o:ai) (l:List aa) (num:Bys) (like:an):an:=
 (num,o.1,like.2.2.1,like.2.2.2.1,like.2.2.2.2.1,like.2.2.2.2.2.1,like.2.2.2.2.2.2.1,gq (nW like) 0 (stF o l 3652059),[])
def blF (o:ai) (l:List aa) (num:Bys) (like:an):Int:=
 if dM o l≠0 then dM o l else if bF num=false then 5 else if mA like≠0 then mA like else if gq (nW like) 0 (stF o l 3652059)=[] then 9 else mA (eD o l num like)
theorem afu {o:ai} {l:List aa} (hc:dM o l=0) (d:Int):(stF o l d).length<=500:=by
 unfold stF
 split
 ·rw[aio,(tZ _).length_eq]
  exact (D2 hc 0 d).2.len
 ·simp
theorem XI {l:List aZ} (h0:0<l.length) (h1:l.length<=20):oZ l=some (l,()):=by
 have BN:maxLen=9223372036854775807:=rfl
 unfold oZ
 rw[show List.isEmpty l=false by cases l with | nil=>simp at h0 | cons a r=>rfl,ajN,bg (by rw[ag1];exact⟨ajR (by omega),ajR (by omega)⟩)]
theorem aef (x:Int):decide (x.sign<=0)=decide (x<=0):=by
 rcases Int.lt_trichotomy x 0 with h | h | h
 ·rw[ahy h,ajR (show x<=0 by omega)];rfl
 ·subst h;rfl
 ·rw[ahz h,ajQ (show ¬x<=0 by omega)];rfl
theorem Y7 {st:List aj} (hst:∀ s∈st,W7 s/\gm s=kqZ s*1000000/\0<=kqZ s/\kqZ s<=1000000000000000) (hlen:st.length<=500) {like:an} {r0:aZ} {rr:List aZ} (hr:like.2.2.2.2.2.2.1=r0::rr) (n1 n2:Bys) (p1 p2 p3:Int) (p4:Bool) (ex:List bY) (q:List aZ): ∀ (r:List aj) (i n:Nat) (B:List aI),st.drop i=r->i<=st.length->r.length<n->B.length<=i-> iter (X:=yl) (β:=yj) n (st,(st.length:Int),(i:Int),like.1,like.2.1,like.2.2.1,like.2.2.2.1,like.2.2.2.2.1,like.2.2.2.2.2.1,like.2.2.2.2.2.2.1,like.2.2.2.2.2.2.2.1,like.2.2.2.2.2.2.2.2,[],[],0,0,0,false,[],[],[],n1,n2,p1,p2,p3,p4,B,ex,q,()) sF =some (Sum.inr ([],[],0,0,0,false,[],[],[],n1,n2,p1,p2,p3,p4,B++gq r0.1 B.length r,ex,q,())):=by
 have BN:maxLen=9223372036854775807:=rfl
 obtain⟨v1,v2,v3,v4,v5,v6,v7,v8,v9⟩:=like
 dsimp only at hr ⊢
 subst hr
 intro r
 induction r with
 | nil=>
  intro i n B hdr hi hn hB
  have:i=st.length:=by
   have:=congrArg List.length hdr
   simp at this;omega
  subst this
  obtain⟨n,rfl⟩:∃ m,n=m+1:=⟨n - 1,by omega⟩
  rw[bR]
  unfold sF
  dsimp only
  rw[az (by omega)]
  simp only[gq,ahM]
 | cons s r ih=>
  intro i n B hdr hi hn hB
  have hsi:st[i]? =some s:=by
   have:=congrArg (·[0]?) hdr
   simpa [ah7] using this
  have hr':st.drop (i+1)=r:=by
   have:=congrArg List.tail hdr
   simpa [aiU] using this
  have hlt:=(aia.1 hsi).1
  obtain⟨hs,hk,hk0,hk1⟩:=hst s (aiF hsi)
  obtain⟨n,rfl⟩:∃ m,n=m+1:=⟨n - 1,by simp at hn;omega⟩
  simp only[ain] at hn
  rw[bR]
  generalize hag:(fun y=>iter n y sF)=again
  unfold sF gq
  dsimp only
  rw[aB (by omega),bq,hsi,ajA,ZX hs,ajA,jT,ajA]
  dsimp only
  rw[aef]
  by_cases h0:gm s<=0
  ·rw[aB h0,ajZ h0,ax (n:=(i:Int)+1) (by omega) (by omega), <- hag,show (i:Int)+1=((i+1:Nat):Int) by omega]
   exact ih (i+1) n B hr' (by omega) (by omega) (by omega)
  ·rw[az h0,ajY h0,hk,X4 (by omega),ajA]
   dsimp only
   rw[zne,ajN,show idx (r0::rr) 0=some r0 from rfl,ajA,bg (by rw[ag1];exact⟨ajR (by omega),ajR (by omega)⟩),ax (n:=(i:Int)+1) (by omega) (by omega),ax (n:=(B.length:Int)+1) (by omega) (by omega), <- hag,show (i:Int)+1=((i+1:Nat):Int) by omega]
   refine (ih (i+1) n _ hr' (by omega) (by omega) (by simp;omega)).trans ?_
   rw[ahL,aim]
   rfl
theorem Ui (o:ai) (l:List aa) (num:Bys) (like:an):AS o l num like=some (if blF o l num like≠0 then agp else eD o l num like,blF o l num like,()):=by
 have hln:lnF o l 3652059=dM o l:=by
  unfold lnF
  by_cases h:dM o l=0
  ·rw[ajY (fun e=>e h),ajZ (by omega),h]
  ·rw[ajZ h]
 unfold AS
 rw[nC,ajA]
 dsimp only
 by_cases h1:gf o=0
 rotate_left
 ·have:blF o l num like=gf o:=by
   have e:dM o l=gf o:=by unfold dM;rw[ajZ h1]
   unfold blF;rw[e,ajZ h1]
  rw[dX h1,ajO,this,ajZ h1]
 rw[h1,zne,ajN,BS,ajA]
 dsimp only
 rw[hln]
 by_cases h2:dM o l=0
 rotate_left
 ·have:blF o l num like=dM o l:=by unfold blF;rw[ajZ h2]
  rw[dX h2,ajO,this,ajZ h2]
 have est:(if dM o l=0 then (fB (sd o l 0 3652059).1).map dB else [])=stF o l 3652059:=by unfold stF;rw[hln]
 rw[est,h2,zne,ajN,gH,ajA]
 dsimp only
 have hb:∀ z,blF o l num like=z->True:=fun _ _=>trivial
 cases h3:bF num with
 | false=>
  have:blF o l num like=5:=by unfold blF;rw[ajY (fun e=>e h2),h3,ajZ rfl]
  rw[show (!false)=true from rfl,ajO,this,ajZ (by decide)]
 | true=>
 rw[show (!true)=false from rfl,ajN,mh,ajA]
 dsimp only
 by_cases h4:mA like=0
 rotate_left
 ·have:blF o l num like=mA like:=by unfold blF;rw[ajY (fun e=>e h2),h3,ajY (by decide),ajZ h4]
  rw[dX h4,ajO,this,ajZ h4]
 have hrn:=(Oo h4).rn
 rw[h4,zne,ajN,XI hrn.1 hrn.2,ajA]
 dsimp only
 obtain⟨r0,rr,hr⟩:∃ r0 rr,like.2.2.2.2.2.2.1=r0::rr:=by
  cases hh:like.2.2.2.2.2.2.1 with
  | nil=>rw[hh] at hrn;simp at hrn
  | cons a b=>exact⟨a,b,rfl⟩
 have hrate:nW like=r0.1:=by unfold nW;rw[hr];rfl
 have loop:=Y7 (st:=stF o l 3652059) (fun s hs=>⟨TW h2 _ s hs,adb h2 hs⟩) (afu h2 _) hr num o.1 like.2.2.1 like.2.2.2.1 like.2.2.2.2.1 like.2.2.2.2.2.1 [] like.2.2.2.2.2.2.1 (stF o l 3652059) 0
  (List.length (stF o l 3652059)+(Int.natAbs ((List.length (stF o l 3652059):Int))+(Int.natAbs (0:Int)+(List.length like.1+(List.length like.2.1+(Int.natAbs like.2.2.1+(Int.natAbs like.2.2.2.1+(Int.natAbs like.2.2.2.2.1+(List.length like.2.2.2.2.2.2.1+(List.length like.2.2.2.2.2.2.2.1+(List.length like.2.2.2.2.2.2.2.2+(List.length ([]:Bys)+(List.length ([]:Bys)+(Int.natAbs (0:Int)+(Int.natAbs (0:Int)+(Int.natAbs (0:Int)+(List.length ([]:List aZ)+(List.length ([]:List aI)+(List.length ([]:List bY)+(List.length num+(o.1.length+(Int.natAbs like.2.2.1+(Int.natAbs like.2.2.2.1+(Int.natAbs like.2.2.2.2.1+(List.length ([]:List aI)+(List.length ([]:List bY)+(List.length like.2.2.2.2.2.2.1+2)))))))))))))))))))))))))))
  [] rfl (ajy _) (ajf (by with_reducible repeat (first | exact ajz | refine aje _ ?_))) (ajc _)
 refine (congrArg (fun q=>aG q _) loop).trans ?_
 rw[aS]
 dsimp only
 rw[aiL, <- hrate]
 show (bif ((List.length (gq (nW like) 0 (stF o l 3652059)):Int))==0 then _ else _)=_
 by_cases h5:gq (nW like) 0 (stF o l 3652059)=[]
 ·have:blF o l num like=9:=by unfold blF;rw[ajY (fun e=>e h2),h3,ajY (by decide),ajY (fun e=>e h4),ajZ h5]
  rw[h5,this];rfl
 have hne:((List.length (gq (nW like) 0 (stF o l 3652059)):Int)==0)=false:=by
  rw[ajK]
  intro e
  exact h5 (List.length_eq_zero_iff.1 (by omega))
 have hbl:blF o l num like=mA (eD o l num like):=by unfold blF;rw[ajY (fun e=>e h2),h3,ajY (by decide),ajY (fun e=>e h4),ajY h5]
 rw[hne,ajN,hbl]
 refine (congrArg (fun q=>Option.bind q _) (mh (eD o l num like))).trans ?_
 rw[ajA]
 dsimp only
 by_cases h6:mA (eD o l num like)=0
 ·rw[h6];rfl
 ·rw[dX h6,ajO,ajZ h6]
end Go.Md
set_option linter.all false
set_option maxRecDepth 20000
namespace Go.Md
open Go.Dn
theorem ade {o:ai} {l:List aa} (h:dM o l=0) (d:Int):(stF o l d).Pairwise fun a b=>a.1≠b.1:=by
 unfold stF
 split
 ·rw[aiO]
  exact (aft (D2 h 0 d).2).imp fun {x y} hxy e=>by
   have:x.no=y.no:=e
   omega
 ·exact .nil
theorem Oe {st:List aj} (hnd:st.Pairwise fun a b=>a.1≠b.1):∀ s∈st,st.find? (fun x=>x.1==s.1)=some s:=by
 induction st with
 | nil=>intro s hs;cases hs
 | cons a r ih=>
  intro s hs
  obtain⟨h1,h2⟩:=List.pairwise_cons.1 hnd
  rw[ahX]
  rcases aiz.1 hs with rfl | hs
  ·rw[show (s.1==s.1)=true by simp]
  ·rw[show (a.1==s.1)=false by simp[h1 s hs]]
   exact ih h2 s hs
def JL (r:List aj) (b:Int->Int):Int->Int:=fun n=>match r.find? (fun s=>s.1==n) with
 | some s=>if gm s<=0 then b n else gm s
 | none=>b n
theorem QE {st:List aj} {s:aj} {n rate no:_} (hf:st.find? (fun x=>x.1==s.1)=some s) (hk:gm s=kqZ s*1000000) (m:Int): Ae st (0,0) (((no:Int),s.1,s.2.1,eP (kqZ s),s.2.2.1,s.2.2.2.2.1,1,[],rate):aI) n=if n<0\/gm s*1000<n*1000 then 6 else 0:=by
 unfold Ae
 dsimp only
 rw[hf]
 dsimp only
 rw[ajY (fun h=>h ⟨rfl,rfl⟩),ajY (by omega)]
 simp only[Int.add_zero]
theorem ZP {k:Int} (h0:0<=k) (h1:k<=1000000000000000):nJ (eP k)=k*1000000:=(Eb (by omega)).2
theorem Jx {st:List aj} (hst:∀ s∈st,gm s=kqZ s*1000000/\0<=kqZ s/\kqZ s<=1000000000000000) (hnd:st.Pairwise fun a b=>a.1≠b.1) (i:Int) (rate:Bys): ∀ (r:List aj) (k q:Nat) (b:Int->Int),(∀ s∈r,s∈st)->r.Pairwise (fun a b=>a.1≠b.1)->(∀ s∈r,b s.1=0)-> oe st (0,0) i k (gq rate q r) b=([],JL r b)
 | [],k,q,b,_,_,_=>rfl
 | s::r,k,q,b,hr,hp,hb=>by
  obtain⟨p1,p2⟩:=List.pairwise_cons.1 hp
  obtain⟨hk,hk0,hk1⟩:=hst s (hr s aiB)
  unfold gq
  by_cases h0:gm s<=0
  ·rw[ajZ h0,Jx hst hnd i rate r k q b (fun x hx=>hr x (aiA _ hx)) p2 (fun x hx=>hb x (aiA _ hx))]
   refine congrArg (Prod.mk _) (funext fun n=> ?_)
   unfold JL
   rw[ahX]
   cases hn:(s.1==n) with
   | false=>rfl
   | true=>
    have en:s.1=n:=by simpa using hn
    have hnone:r.find? (fun s=>s.1==n)=none:=by
     rw[ahY]
     intro x hx
     have:=p1 x hx
     simp;omega
    rw[hnone]
    dsimp only
    rw[ajZ h0]
  ·rw[ajY h0,oe]
   dsimp only
   have hb0:=hb s aiB
   rw[hb0,Int.zero_add,ZP hk0 hk1, <- hk]
   have hkz:Ae st (0,0) ((((q:Int)+1),s.1,s.2.1,eP (kqZ s),s.2.2.1,s.2.2.2.2.1,1,[],rate):aI) (gm s)=0:=by
    rw[QE (Oe hnd s (hr s aiB)) hk 0,ajY (by omega)]
   rw[ajZ hkz,
    Jx hst hnd i rate r (k+1) (q+1) _ (fun x hx=>hr x (aiA _ hx)) p2 (fun x hx=>by
     unfold Nh
     rw[ajY (fun e=>p1 x hx e.symm)]
     exact hb x (aiA _ hx))]
   refine congrArg (Prod.mk _) (funext fun n=> ?_)
   unfold JL Nh
   rw[ahX]
   cases hn:(s.1==n) with
   | false=>
    have en:¬n=s.1:=fun e=>by rw[e] at hn;simp at hn
    rw[ajY en]
   | true=>
    have en:s.1=n:=by simpa using hn
    have hnone:r.find? (fun s=>s.1==n)=none:=by
     rw[ahY]
     intro x hx
     have:=p1 x hx
     simp;omega
    rw[hnone]
    dsimp only
    rw[ajZ en.symm,ajY h0]
theorem Jy {st:List aj} (hst:∀ s∈st,gm s=kqZ s*1000000/\0<=kqZ s/\kqZ s<=1000000000000000) (hnd:st.Pairwise fun a b=>a.1≠b.1) (i:Int) (rate:Bys): ∀ (r:List aj) (k q:Nat) (b:Int->Int),(∀ s∈r,s∈st)->(∀ s∈r,0<gm s->b s.1=gm s)-> (oe st (0,0) i k (gq rate q r) b).1.length=(gq rate q r).length
 | [],k,q,b,_,_=>rfl
 | s::r,k,q,b,hr,hb=>by
  obtain⟨hk,hk0,hk1⟩:=hst s (hr s aiB)
  unfold gq
  by_cases h0:gm s<=0
  ·rw[ajZ h0]
   exact Jy hst hnd i rate r k q b (fun x hx=>hr x (aiA _ hx)) (fun x hx=>hb x (aiA _ hx))
  ·rw[ajY h0,oe]
   dsimp only
   have hb0:=hb s aiB (by omega)
   rw[hb0,ZP hk0 hk1, <- hk]
   have hkz:Ae st (0,0) ((((q:Int)+1),s.1,s.2.1,eP (kqZ s),s.2.2.1,s.2.2.2.2.1,1,[],rate):aI) (gm s+gm s)=6:=by
    rw[QE (Oe hnd s (hr s aiB)) hk 0,ajZ (by omega)]
   rw[ajY (by rw[hkz];decide),ain,ain,
    Jy hst hnd i rate r (k+1) (q+1) b (fun x hx=>hr x (aiA _ hx)) (fun x hx=>hb x (aiA _ hx))]
theorem aaV {x y:an} (hx:mA x=0) (hd:¬y.2.2.1<x.2.2.1):qN none [x,y]=mA y:=by
 have a1:(Option.any (fun q:an=>decide (x.2.2.1<q.2.2.1)) none)=false:=rfl
 have a2:(Option.any (fun q:an=>decide (y.2.2.1<q.2.2.1)) (some x))=false:=ajQ hd
 rw[qN,ajY (fun e=>e hx),a1,ajY (by decide),qN,a2]
 by_cases c:mA y=0
 ·rw[ajY (fun e=>e c),ajY (by decide),c];rfl
 ·rw[ajZ c]
end Go.Md
