/-
  Plain facts: the lines by their numbers; the latest order. No condition.
-/
import Derived.Test.YtgmbmgfhpkoajacGreatDoorYt
import Derived.Test.YtgmbmgfhpkoajacGreatDoorYg
set_option linter.all false
namespace Go.Md
open Go.Dn
structure Ids (A:List ak):Prop where
 nd:(A.map ak.no).Nodup
 rg:∀ x,x∈A->1<=x.no/\x.no<=99999
 len:A.length<=500
 ne:A≠[]
theorem yE {n:Int}:∀ {A:List ak} {i:Nat},bp n i A=none->n∉A.map ak.no
 | [],_,_=>by simp
 | x::r,i,h=>by
  simp only[bp] at h
  by_cases hx:n=x.no
  ·rw[Xe hx] at h;cases h
  ·rw[Xd hx] at h
   have:=yE h
   simp only[VD,VH,Xj]
   exact⟨hx,this⟩
theorem OU {A:List ak} {k:Nat} {y x:ak} (hx:A[k]? =some x) (h:y.no=x.no):(A.set k y).map ak.no=A.map ak.no:=by
 rw[List.map_set]
 refine U3 fun i=> ?_
 rw[Vk]
 split
 ·rename_i e
  subst e
  have hl:=(Vg.1 hx).1
  simp only[Vt,hl,Xf,Vh,hx,WM,h]
 ·rfl
theorem PX {o:aj} {l:List aa} {i:Nat} {d:aa} {A:List ak} (hA:Good l A) (hI:Ids A) (hl:∀ d,d∈l->cc d=0) (hd:l[i]? =some d):Ids (bY o l i d A).2:=by
 unfold bY
 by_cases k1:aB d=1
 ·rw[Xe k1]
  split
  ·exact hI
  ·rename_i hf
   split
   ·exact hI
   ·split
    ·exact hI
    ·rename_i h5 _
     obtain⟨_,_,_,_,_,hln,_⟩:=cJ (hl d (VO hd))
     refine⟨?_,fun x hx=> ?_, ?_,by simp⟩
     ·rw[VB,List.nodup_append]
      refine⟨hI.nd,by simp,fun a ha b hb e=> ?_⟩
      simp only[VD,List.map_nil,VR] at hb
      subst hb;subst e
      exact yE hf ha
     ·rcases VF.1 hx with hx | hx
      ·exact hI.rg x hx
      ·simp only[VR] at hx
       subst hx
       exact hln
     ·rw[Vr]
      show A.length+1<=500
      omega
 ·rw[Xd k1]
  split
  ·exact hI
  ·rename_i k hk
   split
   ·rename_i x hx
    obtain⟨h1,h2⟩:=hA.sound.line x (VO hx)
    obtain⟨_,_,a3,_⟩:=D1 (o:=o) h1 h2 hl hd
    refine⟨by rw[OU hx a3];exact hI.nd,fun y hy=> ?_,by rw[Vy];exact hI.len,fun e=>hI.ne (by simpa using e)⟩
    rcases VP hy with hy | hy
    ·exact hI.rg y hy
    ·subst hy;rw[a3];exact hI.rg x (VO hx)
   ·exact hI
theorem RJ {o:aj} {l:List aa} {wt day:Int} (hl:∀ d,d∈l->cc d=0):∀ (r:List aa) (i:Nat) (A:List ak) (ref:List (Int×Int)) (pts:List az),l.drop i=r->Good l A->Ids A-> Good l (jG o l wt day r i A ref pts).1/\Ids (jG o l wt day r i A ref pts).1:=by
 intro r
 induction r with
 | nil=>intro i A ref pts _ hA hI;exact⟨hA,hI⟩
 | cons d r ih=>
  intro i A ref pts hdr hA hI
  have hd:l[i]? =some d:=by
   have:=congrArg (·[0]?) hdr
   simpa [Vd] using this
  have hr':l.drop (i+1)=r:=by
   have:=congrArg List.tail hdr
   simpa [V0] using this
  have hgood:=GQ (o:=o) hA hl hd
  have hids:=PX (o:=o) hA hI hl hd
  simp only[jG]
  split
  ·exact⟨hA,hI⟩
  ·split
   ·exact ih (i+1) _ _ _ hr' hgood hids
   ·exact ih (i+1) _ _ _ hr' hgood hids
theorem Qm {o:aj} (ho:eV o=0):Ids (nM o):=by
 obtain⟨_,_,hlen,hne,hgo,_⟩:=vB ho
 obtain⟨hln,_,hpw⟩:=nw hgo
 refine⟨?_,fun x hx=> ?_,by rw[Vt];exact hlen,fun e=>hne (by simpa using e)⟩
 ·rw[VE]
  exact List.Pairwise.map _ (fun a b (h:a.1<b.1) e=>by
   have e':a.1=b.1:=e
   omega) hpw
 ·obtain⟨q,hq,rfl⟩:=VN.1 hx
  exact (hln q hq).2.2.2.2.1
theorem Ll {o:aj} {l:List aa} (h:lZ o l=0) (wt day:Int):Good l (sK o l wt day).1/\Ids (sK o l wt day).1:=by
 obtain⟨h1,h2⟩:=Jk h
 obtain⟨h3,h4⟩:=uP h2
 exact RJ h4 l 0 _ [] [] rfl (Hs h1 l) (Qm h1)
def ew (A:List ak):List ak:=A.mergeSort fun x y=>decide (x.no<=y.no)
theorem pq (A:List ak):(ew A).Perm A:=List.mergeSort_perm A _
theorem Mz (A:List ak):(ew A).Pairwise fun x y=>x.no<=y.no:=by
 have:=List.pairwise_mergeSort (le:=fun x y:ak=>decide (x.no<=y.no)) (fun a b c h1 h2=>by
  simp only[WY] at *;omega) (fun a b=>by simp only[Uu,WY];omega) A
 exact this.imp fun h=>by simpa using h
theorem SO {A:List ak} (hI:Ids A):(ew A).Pairwise fun x y=>x.no<y.no:=by
 have h1:=Mz A
 have h2:((ew A).map ak.no).Nodup:=((pq A).map _).nodup_iff.2 hI.nd
 have h3:(ew A).Pairwise fun x y=>x.no≠y.no:=VW.1 h2
 exact (h1.and h3).imp fun ⟨a,b⟩=>by omega
theorem yI:∀ (A:List ak) (i:Nat),(mS i A).map (·.1)=A.map ak.no
 | [],_=>rfl
 | x::r,i=>by simp only[mS,VD,yI r]
theorem L1 {A:List ak} (hI:Ids A):kN (mapOf A)=true:=by
 unfold kN
 rw[yI,vw]
 have:=hI.len
 simp only[Ug,WY,UN]
 refine⟨by omega,fun p hp=> ?_,hI.nd⟩
 have hm:p.1∈(mapOf A).map (·.1):=VN.2 ⟨p,hp,rfl⟩
 rw[yI] at hm
 obtain⟨x,hx,e⟩:=VN.1 hm
 have:=hI.rg x hx
 omega
theorem ES (A:List ak):pV (mapOf A)=(ew A).map ak.no:=by
 unfold pV
 rw[yI]
 refine List.Perm.eq_of_pairwise (le:=fun a b:Int=>decide (a<=b)=true) (fun a b _ _ h1 h2=> ?_) ?_ ?_ ?_
 ·simp only[WY] at h1 h2;omega
 ·exact List.pairwise_mergeSort (le:=fun x y:Int=>decide (x<=y)) (fun a b c h1 h2=>by simp only[WY] at *;omega) (fun a b=>by simp only[Uu,WY];omega) _
 ·exact VW.2 ((Mz A).imp fun h=>by simpa using h)
 ·exact (List.mergeSort_perm _ _).trans ((pq A).map _).symm
theorem Bb {n:Int}:∀ {A:List ak} {i k:Nat} {x:ak},(A.map ak.no).Nodup->A[k]? =some x->x.no=n->bp n i A=some (i+k)
 | [],_,_,_,_,h,_=>by simp at h
 | y::r,i,0,x,_,h,hn=>by
  have e:y=x:=by simpa using h
  subst e
  simp only[bp,Xe hn.symm,Wb]
 | y::r,i,k+1,x,hnd,h,hn=>by
  have h':r[k]? =some x:=by simpa using h
  rw[VD,VT] at hnd
  have hne:¬n=y.no:=fun e=>hnd.1 (by
   rw[<- e, <- hn]
   exact VN.2 ⟨x,VO h',rfl⟩)
  simp only[bp,Xd hne]
  rw[Bb hnd.2 h' hn,show i+1+k=i+(k+1) by omega]
theorem QX {A:List ak} (hI:Ids A) {x:ak} (hx:x∈ew A):∃ k,gD x.no A=some k/\A[k]? =some x:=by
 obtain⟨k,hk⟩:=Vi ((pq A).mem_iff.1 hx)
 exact⟨k,by have:=Bb (i:=0) hI.nd hk rfl;rwa [Wz] at this,hk⟩
def Be (A:List ak):List (Option Nat):=(ew A).map fun x=>gD x.no A
end Go.Md
namespace Go.Md
open Go.Dn
theorem Sq (A:List ak):Be A=(pV (mapOf A)).map fun k=>gD k A:=by
 rw[ES,VE];rfl
theorem xV {A:List ak} (hI:Ids A) (o:aj) (l:List aa) (ref:List ah) (pts:List az) (wt:Int): iL (o,l,mapOf A,ref,pts,wt,())=some (Be A,(o,l,mapOf A,ref,pts,wt,()),()):=by
 obtain⟨onum,obuy,osel,oday,oext,olns⟩:=o
 have vW:maxLen=9223372036854775807:=rfl
 unfold iL
 dsimp only
 rw[iq (L1 hI)]
 have hkl:(pV (mapOf A)).length<=500:=by
  rw[ES,Vt,(pq A).length_eq];exact hI.len
 rw[Sq]
 generalize pV (mapOf A)=ks at hkl
 have loop:∀ n,ks.length<n->iter (X:=eG) (β:=gp) n ([],(ks.length:Int),0,onum,obuy,osel,oday,oext,olns,l,wt,ks,ref,pts,mapOf A,()) gm=some (Sum.inr (ks.map (fun k=>gD k A),onum,obuy,osel,oday,oext,olns,l,wt,ref,pts,mapOf A,())):=by
  intro n hn
  refine fh (Inv:=fun i X=>X=(((ks.map (fun k=>gD k A)).take i,(ks.length:Int),(i:Int),onum,obuy,osel,oday,oext,olns,l,wt,ks,ref,pts,mapOf A,()):eG)) ks.length (fun z=>z=some (Sum.inr (ks.map (fun k=>gD k A),onum,obuy,osel,oday,oext,olns,l,wt,ref,pts,mapOf A,()))) ?_ ?_ n 0 _ rfl (WD _) (by omega)
  ·rintro i X again hi rfl hag
   unfold gm
   dsimp only
   obtain⟨y,hy⟩:∃ y,ks[i]? =some y:=⟨ks[i],Ve hi⟩
   have hlen:((ks.map (fun k=>gD k A)).take i).length=i:=by rw[VA,Vt];omega
   rw[WX (show (i:Int)<(ks.length:Int) by omega),WV,iq (by simp),UL,hy,WG,hlen,iq (by
    rw[Ug];exact⟨WX (by omega),WX (by omega)⟩),aG (n:=(i:Int)+1) (by omega) (by omega),fM]
   have e:(ks.map (fun k=>gD k A)).take i++[bp y 0 A]=(ks.map (fun k=>gD k A)).take (i+1):=by
    rw[V3,Vh,hy];rfl
   rw[e]
   exact hag _ rfl
  ·rintro X again rfl
   unfold gm
   dsimp only
   rw[WW (show ¬(ks.length:Int)<(ks.length:Int) by omega),WU,V7 (by rw[Vt];exact Wj _)]
 have h2:=vw A 0
 rw[loop _ (by
  simp only[Vv,Int.natAbs_natCast]
  omega)]
 rfl
theorem Qb {l:List aa} {A:List ak} (hA:Good l A) (hI:Ids A) {i:Nat} {x:ak} (hx:(ew A)[i]? =some x):∃ k,(Be A)[i]? =some (some k)/\A[k]? =some x/\gT (some k) (A.map ak.tup)=some (DM x,())/\x∈A:=by
 obtain⟨k,hk,hxk⟩:=QX hI (VO hx)
 have hm:=VO hxk
 refine⟨k, ?_,hxk,tV hxk (hA.sound.line x hm).1 (hA.pr x hm),hm⟩
 unfold Be
 rw[Vh,hx,WM,hk]
end Go.Md
namespace Go.Md
open Go.Dn
structure uN (d:ah) (n:Int):Prop where
 p0:0<=d.2
 p3:d.2<=3
 val:d.1*10 ^ (3 - d.2).toNat=n
 bd:n.natAbs<=2000000000000000
theorem uN.unit {d:ah} {n:Int} (h:uN d n):d.1.natAbs<=n.natAbs:=by
 have:=h.val
 have h1:(1:Nat)<=10 ^ (3 - d.2).toNat:=Nat.one_le_pow _ _ (by omega)
 rw[<- h.val,Int.natAbs_mul,UD]
 exact Nat.le_mul_of_pos_right _ h1
theorem OW {n:Int} (h:n.natAbs<=2000000000000000):uN (wW n) n:=by
 obtain⟨h1,h2,h3⟩:=Ap 3 n
 refine⟨by show (0:Int)<=((few 3 n).2:Int);omega,by show ((few 3 n).2:Int)<=3;omega, ?_,h⟩
 show (few 3 n).1*10 ^ (3 - ((few 3 n).2:Int)).toNat=n
 rw[show (3 - ((few 3 n).2:Int)).toNat=3 - (few 3 n).2 by omega]
 exact h2
theorem uN.neg {d:ah} {n:Int} (h:uN d n):uN (-d.1,d.2) (-n):=⟨h.p0,h.p3,by show -d.1*10 ^ (3 - d.2).toNat= -n;rw[Int.neg_mul,h.val],by rw[Int.natAbs_neg];exact h.bd⟩
end Go.Md
namespace Go.Md
open Go.Dn
structure FOk (o:aj) (l:List aa) (x:ak):Prop where
 art:dw x.art=true
 unit:dw x.unit=true
 pr:inR x.price 0 1000000000 4=true
 due:bH o<=x.due/\x.due<=3652059
 wish:0<=x.wish->aB (gw l x)=3->bH o<=dX (gw l x)
 off:x.ono≠0->bH o<=x.ount/\x.ount<=3652059
theorem FOk.clr {o:aj} {l:List aa} {x:ak} (h:FOk o l x):FOk o l x.clr:=⟨h.art,h.unit,h.pr,h.due,h.wish,fun e=>absurd rfl e⟩
def mj (x:ak):ai:=(x.no,x.art,wW x.ord,x.unit,dM x.price,x.due)
def rI (x:ak):Bool:=decide (0<x.ord)
def rK (A:List ak):List ai:=((ew A).filter rI).map mj
def Ro (o:aj) (A:List ak):aj:=(o.1,o.2.1,o.2.2.1,o.2.2.2.1,o.2.2.2.2.1,rK A)
def qj:aj:=([],[],[],0,0,[])
theorem Hz (o:aj) (l:List aa):s7 o l=some (if lZ o l≠0 then (qj,lZ o l,()) else if rK (sK o l 0 3652059).1=[] then (qj,9,()) else (Ro o (sK o l 0 3652059).1,0,())):=by
 have vW:maxLen=9223372036854775807:=rfl
 unfold s7
 rw[KM]
 by_cases h:lZ o l=0
 rotate_left
 ·rw[Xe (show lZ o l≠0 from h),Xe (show lZ o l≠0 from h)]
  show (bif lZ o l != 0 then _ else _)=_
  rw[gA h,WV];rfl
 rw[Xd (show ¬lZ o l≠0 from fun e=>e h),Xd (show ¬lZ o l≠0 from fun e=>e h),Xd (show ¬¬((1:Int)<=3652059/\(3652059:Int)<=3652059) from fun e=>e (by omega))]
 refine Eq.trans O2 ?_
 rw[Nn h (by omega),WG]
 dsimp only
 rw[show ((0:Int) != 0)=false from rfl,WU]
 obtain⟨hg,hI⟩:=Ll h 0 3652059
 rw[xV hI o l,WG]
 generalize (sK o l 0 3652059).1=A at hg hI
 obtain⟨onum,obuy,osel,oday,oext,olns⟩:=o
 have hSl:(ew A).length<=500:=by rw[(pq A).length_eq];exact hI.len
 have hHl:(Be A).length=(ew A).length:=by unfold Be;rw[Vt]
 dsimp only
 rw[hHl]
 have loop:∀ n,(ew A).length<n->iter (X:=iF) (β:=oo) n (((ew A).length:Int),0,[],[],[],0,0,[],onum,obuy,osel,oday,oext,[],Be A,A.map ak.tup,()) om=some (Sum.inr ([],[],[],0,0,[],onum,obuy,osel,oday,oext,rK A,A.map ak.tup,())):=by
  intro n hn
  refine fh (Inv:=fun i X=>X=((((ew A).length:Int),(i:Int),[],[],[],0,0,[],onum,obuy,osel,oday,oext,(((ew A).take i).filter rI).map mj,Be A,A.map ak.tup,()):iF)) (ew A).length (fun z=>z=some (Sum.inr ([],[],[],0,0,[],onum,obuy,osel,oday,oext,rK A,A.map ak.tup,()))) ?_ ?_ n 0 _ rfl (WD _) (by omega)
  ·rintro i X again hi rfl hag
   unfold om
   dsimp only
   obtain⟨x,hx⟩:∃ y,(ew A)[i]? =some y:=⟨(ew A)[i],Ve hi⟩
   obtain⟨k,hk,hkx,hst,_⟩:=Qb hg hI hx
   have hlen:((((ew A).take i).filter rI).map mj).length<=i:=by
    rw[Vt]
    have:=List.length_filter_le rI ((ew A).take i)
    rw[VA] at this
    omega
   have e:(ew A).take (i+1)=(ew A).take i++[x]:=by rw[V3,hx];rfl
   rw[WX (show (i:Int)<((ew A).length:Int) by omega),WV,hHl,iq (by simp;omega),UL,hk,WG,WG,ko hkx,WG]
   dsimp only
   by_cases h0:0<x.ord
   ·rw[WX (show x.ord>0 from h0),WV,hst,WG,iq (by
     rw[Ug];exact⟨WX (by omega),WX (by omega)⟩),aG (n:=(i:Int)+1) (by omega) (by omega)]
    have e2:(((ew A).take i).filter rI).map mj++[mj x]=(((ew A).take (i+1)).filter rI).map mj:=by
     rw[e,U4,VB,U5,Xe (show rI x=true from WX h0)];rfl
    have:=hag ((((ew A).length:Int),((i+1:Nat):Int),[],[],[],0,0,[],onum,obuy,osel,oday,oext,(((ew A).take (i+1)).filter rI).map mj,Be A,A.map ak.tup,()):iF) rfl
    rw[<- e2] at this
    exact this
   ·rw[WW (show ¬x.ord>0 from h0),WU,aG (n:=(i:Int)+1) (by omega) (by omega)]
    have e2:(((ew A).take i).filter rI).map mj=(((ew A).take (i+1)).filter rI).map mj:=by
     rw[e,U4,U5,Xd (show ¬rI x=true from fun h=>h0 (Xk h)),List.filter_nil,UR]
    rw[e2]
    exact hag _ rfl
  ·rintro X again rfl
   unfold om
   dsimp only
   rw[WW (show ¬((ew A).length:Int)<((ew A).length:Int) by omega),WU,V7 (Wj _)]
   rfl
 rw[loop _ (by simp only[Int.natAbs_natCast];omega),bC]
 dsimp only
 by_cases h0:rK A=[]
 ·rw[Xe h0,h0];rfl
 ·have:0<(rK A).length:=List.length_pos_iff.2 h0
  rw[Xd h0,show (((rK A).length:Int)==0)=false by simp;omega,WU]
  rfl
theorem OO {d:ah} (h:inR d 0 1000000000 4=true):inR (dM d) 0 1000000000 4=true:=by
 unfold inR at h ⊢
 obtain⟨⟨h1,h2,h3⟩,h4,h5,h6⟩:=Xk h
 obtain⟨u,p⟩:=d
 dsimp only at h1 h2 h3 h4 h5 h6
 obtain⟨f1,f2,f3⟩:=Ap p.toNat u
 have e1:(dM (u,p)).1=(few p.toNat u).1:=rfl
 have e2:(dM (u,p)).2=((few p.toNat u).2:Int):=rfl
 generalize hv:(few p.toNat u).1=v at f2 f3 e1
 generalize hq:(few p.toNat u).2=q at f1 f2 e2
 refine WX ⟨⟨by rw[e1];omega,by rw[e2];omega,by rw[e2];omega⟩,by rw[e2];omega, ?_, ?_⟩
 ·rw[e1,e2,Int.zero_mul]
  rw[Int.zero_mul] at h5
  have hp:(0:Int)<10 ^ (p.toNat - q):=Int.pow_pos (by decide)
  rcases Classical.em (0<=v) with h | h
  ·exact h
  ·have:=Int.mul_neg_of_neg_of_pos (show v<0 by omega) hp
   omega
 ·rw[e1,e2,UL]
  have hp:(0:Int)<10 ^ (p.toNat - q):=Int.pow_pos (by decide)
  have e3:(10:Int) ^ p.toNat=10 ^ q*10 ^ (p.toNat - q):=by rw[<- UF];congr 1;omega
  rw[<- f2,e3, <- UA] at h6
  exact Int.le_of_mul_le_mul_right h6 hp
end Go.Md
namespace Go.Md
open Go.Dn
end Go.Md
namespace Go.Md
open Go.Dn
def d0:aa:=(0,0,0,0,0,[],(0,0),[],(0,0),0,0)
end Go.Md
set_option linter.all false
namespace Go.Md
open Go.Dn
section merge
variable (x y:List aa) (hx:x.length<=2000) (hy:y.length<=2000)
end merge
end Go.Md
set_option linter.all false
namespace Go.Md
open Go.Dn
theorem GP {d:ah} {n:Int} (h:uN d n):lz d=n*1000000:=by
 have h0:=h.p0;have h3:=h.p3
 unfold lz
 rw[show (9 - d.2).toNat=(3 - d.2).toNat+6 by omega,UF, <- UA,h.val]
 rfl
theorem HO {d:ah} (h1:d.1.natAbs<=4000000000000000) (h2:0<=d.2) (h3:d.2<=9):wR d 9=some (N (lz d),()):=by
 unfold wR
 rw[BF _ (by omega) (by omega),WG,aG (by omega) (by omega)]
 dsimp only
 obtain⟨m,hm⟩:∃ m:Nat,9 - d.2=m:=⟨(9 - d.2).toNat,by omega⟩
 rw[hm,EZ m (by omega),WG]
 dsimp only
 have hl1:(dg6 d.1.natAbs).length<=10:=zH (by omega)
 have hl2:(dg6 ((10:Int) ^ m).natAbs).length<=10:=by
  refine zH ?_
  have h1:((10:Int) ^ m).natAbs=10 ^ m:=by rw[UD];rfl
  have h2:=Wx (n:=10) (by omega) (show m<=9 by omega)
  omega
 rw[wg _ _ (by omega) (by omega),WG]
 unfold lz
 rw[hm];rfl
theorem Mp {a b:ah} {m n:Int} (ha:uN a m) (hb:uN b n):vH a b=some ((m - n).sign,()):=by
 have a1:=ha.unit;have a2:=ha.bd;have a3:=ha.p0;have a4:=ha.p3
 have b1:=hb.unit;have b2:=hb.bd;have b3:=hb.p0;have b4:=hb.p3
 have e1:=GP ha
 have e2:=GP hb
 have m1:=zH (z:=lz a) (by omega)
 have m2:=zH (z:=lz b) (by omega)
 unfold vH
 rw[HO (by omega) a3 (by omega),WG,HO (by omega) b3 (by omega),WG,JW _ _ (by omega) (by omega),e1,e2]
 have:m*1000000 - n*1000000=(m - n)*1000000:=by omega
 rw[this,Int.sign_mul,show Int.sign 1000000=1 from rfl,UC]
 rfl
theorem SD {d:ah} {z:Bool} (h:qOk d z=true):uN d (aQ d):=by
 obtain⟨⟨h1,h2⟩,h3,h4,_⟩:=DA h
 obtain⟨u1,u2,_⟩:=iC h
 exact⟨h1,h2,rfl,by omega⟩
end Go.Md
