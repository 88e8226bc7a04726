/-
  Plain facts: the book of the reference. No condition.
-/
import Derived.Test.YtekilbogbgmbbaaGreatDoorYu
import Derived.Test.YtekilbogbgmbbaaGreatDoorYg
import Derived.Test.YtekilbogbgmbbaaGreatDoorYt
import Derived.Test.YtekilbogbgmbbaaGreatDoorYq
import Derived.Test.YtekilbogbgmbbaaGreatDoorYf
import Derived.Test.YtekilbogbgmbbaaGreatDoorYr
set_option linter.all false
set_option linter.all false
namespace Go.Md
open Go.Dn
structure OH (l:List aa) (P:Int->List ay) (x:ak) (y:an):Prop where
 st:y.1=bV x
 wish:y.2.1=x.wish
 off0:x.ono=0->y.2.2.1= -1
 off1:x.ono≠0->∃ (j:Nat) (d:aa),y.2.2.1=(j:Int)/\l[j]? =some d/\dNo d=x.ono/\aL (dQ d)=x.oq/\fW d=x.ount/\aD d=7
 ev:y.2.2.2=P x.no
structure vK (l:List aa) (P:Int->List ay) (A:List ak) (L:List an):Prop where
 len:L.length=(bD A).length
 rel:∀ (k:Nat) x y,(bD A)[k]? =some x->L[k]? =some y->OH l P x y
theorem vK.get {l:List aa} {P:Int->List ay} {A:List ak} {L:List an} (h:vK l P A L) {k:Nat} {x:ak} (hx:(bD A)[k]? =some x):∃ y,L[k]? =some y/\OH l P x y:=by
 have hlt:=(aej.1 hx).1
 have:k<L.length:=by rw[h.len];exact hlt
 exact⟨_,aeh this,h.rel k x _ hx (aeh this)⟩
def lS (no:Int) (A:List ak):Option Nat:=(bD A).findIdx? fun x=>decide (x.no=no)
theorem vX {no:Int} {A:List ak} (hI:Ids A) {k:Nat} (h:lS no A=some k):∃ x j,(bD A)[k]? =some x/\x.no=no/\ef no A=some j/\A[j]? =some x:=by
 obtain⟨h1,h2,_⟩:=List.findIdx?_eq_some_iff_getElem.1 h
 have hx:(bD A)[k]? =some (bD A)[k]:=aeh h1
 have hno:(bD A)[k].no=no:=agl h2
 obtain⟨j,hj,hjx⟩:=Q6 hI (aeW hx)
 rw[hno] at hj
 exact⟨_,j,hx,hno,hj,hjx⟩
theorem Az {no:Int} {A:List ak} (h:lS no A=none):ef no A=none/\∀ x,x∈A->x.no≠no:=by
 have hn:∀ x,x∈A->x.no≠no:=fun x hx e=>by
  have:=List.findIdx?_eq_none_iff.1 h x ((eE A).mem_iff.2 hx)
  rw[af6 e] at this;cases this
 refine⟨?_,hn⟩
 cases hf:ef no A with
 | none=>rfl
 | some k=>
  obtain⟨x,hx,hxn⟩:=sJ hf
  exact absurd hxn (hn x (aeW hx))
variable {o:aj} {l:List aa} {A:List ak} {L:List an} {ref:List ah} {P:Int->List ay}
theorem wZ (hB:vK l P A L) (hlen:A.length<=500) (l2:List aa) (no:Int):kZ (o,l2,L,ref) no=some (match lS no A with | some k=>(k:Int) | none=> -1,()):=by
 have hL:L.length=A.length:=by rw[hB.len,(eE A).length_eq]
 unfold kZ
 dsimp only
 have:∀ m,L.length<m->iter (X:=kD) (β:=nL) m (no,L,(L.length:Int),0,()) nK=some (match lS no A with | some i=>Sum.inl ((i:Int),()) | none=>Sum.inr ()):=by
  intro m hm
  refine cG (Inv:=fun i X=>X=((no,L,(L.length:Int),(i:Int),()):kD)/\∀ j,j<i->∀ x,(bD A)[j]? =some x->¬x.no=no) L.length (fun z=>z=some (match lS no A with | some i=>Sum.inl ((i:Int),()) | none=>Sum.inr ())) ?_ ?_ m 0 _ ⟨rfl,fun j hj=>absurd hj (afH _)⟩ (afN _) (by omega)
  ·rintro i X again hi ⟨rfl,hno⟩ hag
   unfold nK
   dsimp only
   have hi2:i<(bD A).length:=by rw[<- hB.len];exact hi
   have hx:(bD A)[i]? =some (bD A)[i]:=aeh hi2
   obtain⟨y,hy,hr⟩:=hB.get hx
   rw[af6 (show (i:Int)<(L.length:Int) by omega),af2,bG hy,afO,hr.st]
   show (bif (bD A)[i].no==no then _ else _)=_
   by_cases e:(bD A)[i].no=no
   ·rw[show ((bD A)[i].no==no)=true by simpa using e,af2]
    have:lS no A=some i:=List.findIdx?_eq_some_iff_getElem.2 ⟨hi2,af6 e,fun j hj=>by
     have:=hno j hj _ (aeh (by omega))
     simpa using this⟩
    rw[this]
   ·rw[cL e,af1,aA (n:=(i:Int)+1) (by omega) (by omega)]
    refine hag _ ⟨rfl,fun j hj x hjx=> ?_⟩
    by_cases c:j=i
    ·subst c;rw[hx] at hjx;cases hjx;exact e
    ·exact hno j (by omega) x hjx
  ·rintro X again ⟨rfl,hno⟩
   unfold nK
   dsimp only
   rw[af4 (show ¬(L.length:Int)<(L.length:Int) by omega),af1]
   have:lS no A=none:=List.findIdx?_eq_none_iff.2 fun x hx=>by
    obtain⟨j,hj⟩:=aeU.1 hx
    have:=hno j (by rw[hB.len];exact (aej.1 hj).1) x hj
    simpa using this
   rw[this]
 rw[this _ (by omega)]
 cases lS no A<;>rfl
theorem XI {x:ak} (hx:LOk x) (he0:0<=b8 o) (he1:b8 o<=1000):wQ (o,l,L,ref) (bV x)=some (x.ord+x.ord*b8 o / 1000,()):=by
 have b4:=hx.jt;have b5:=hx.ord1
 have m0:0<=x.ord*b8 o:=adB b4 he0
 have m1:x.ord*b8 o<=x.ord*1000:=adA he1 b4
 have d0:0<=x.ord*b8 o / 1000:=Int.ediv_nonneg m0 (by omega)
 have d1:x.ord*b8 o / 1000<=x.ord:=by omega
 unfold wQ
 dsimp only
 rw[show (bV x).2.2.2.1=bE x.ord from rfl,qj (cU (n:=x.ord) (by omega)),afO]
 dsimp only
 rw[show o.2.2.2.2.1=b8 o from rfl,aA (n:=x.ord*b8 o) (by omega) (by omega),adL m0]
 first
  | rw[aA (n:=x.ord*b8 o / 1000) (by omega) (by omega),aA (n:=x.ord+x.ord*b8 o / 1000) (by omega) (by omega)]
  | rw[aA (n:=x.ord+x.ord*b8 o / 1000) (by omega) (by omega)]
theorem PT {x:ak} (hx:LOk x):vE (bV x)=some (bE (x.shp - x.ret),()):=by
 have:=hx.ret0;have:=hx.retr;have:=hx.rcvs;have:=hx.shp1
 exact Oh (s:=bV x) (cU (n:=x.shp) (by omega)) (cU (n:=x.ret) (by omega))
theorem PN {z:Int}:decide (z.sign>0)=decide (0<z):=by
 rw[af3]
 exact Int.sign_pos_iff
theorem abF {z:Int}:decide (z.sign<0)=decide (z<0):=by
 rw[af3]
 exact Int.sign_neg_iff
set_option maxHeartbeats 1000000 in
theorem R7 (hB:vK l P A L) (hA:Good l A) (hI:Ids A) (hl:∀ d,d∈l->bp d=0) (he:0<=b8 o/\b8 o<=1000) {i:Nat} {d:aa} (hd:l[i]? =some d): qL (o,l,L,ref) (i:Int)=some ((bS o l i d A).1,()):=by
 have hL:L.length=A.length:=by rw[hB.len,(eE A).length_eq]
 obtain⟨_,_,_,hk,_,_,hu⟩:=bH (hl d (aeW hd))
 obtain⟨uq,_⟩:=dH hu
 have huses:=Je hk
 unfold qL
 dsimp only
 rw[bG hd,afO,wZ hB hI.len l,afO,huses]
 dsimp only
 cases hf:lS d.2.2.2.2.1 A with
 | none=>
  obtain⟨hfl,_⟩:=Az hf
  dsimp only
  rw[show decide ((-1:Int)<0)=true from rfl,af2,af2,af2]
  by_cases k1:aD d=1
  ·rw[show (d.2.2.2.1==1)=true by simpa using k1]
   rw[show (!(true==true))=false from rfl,af1,afO]
   have hz:bS o l i d A=if 500<=A.length then (16,A) else if fW d<bZ o then (1,A) else (0,A++[fD i d]):=by
    unfold bS
    rw[age k1,show ef (cO d) A=none from hfl]
   rw[hz,hL]
   by_cases c1:500<=A.length
   ·rw[age c1,af6 (show (A.length:Int)>=500 by omega),af2]
   ·rw[agd c1,af4 (show ¬(A.length:Int)>=500 by omega),af1,afO]
    rw[show usU d.2.2.2.1=true by rw[show d.2.2.2.1=1 from k1];rfl,af2,afO]
    by_cases c2:fW d<bZ o
    ·rw[age c2,af6 (show d.2.2.2.2.2.2.2.2.2.1<o.2.2.2.1 from c2),af2]
    ·rw[agd c2,af4 (show ¬d.2.2.2.2.2.2.2.2.2.1<o.2.2.2.1 from c2),af1]
  ·rw[cL k1]
   rw[show (!(true==false))=true from rfl,af2,Ft k1 hfl]
 | some k=>
  obtain⟨x,j,hx,hxn,hfl,hxj⟩:=vX hI hf
  obtain⟨y,hy,hr⟩:=hB.get hx
  obtain⟨hx1,hx2⟩:=hA.sound.line x (aeW hxj)
  have b0:=hx1.ret0;have b1:=hx1.retr;have b2:=hx1.rcvs;have b3:=hx1.shp1;have b4:=hx1.jt;have b5:=hx1.ord1
  obtain⟨p1,p2⟩:=Zh hx1
  dsimp only
  rw[af4 (show ¬(k:Int)<0 by omega),af1,af1,af1]
  by_cases k1:aD d=1
  ·rw[show (d.2.2.2.1==1)=true by simpa using k1]
   have hz:bS o l i d A=(7,A):=by
    unfold bS
    rw[age k1,show ef (cO d) A=some j from hfl]
   rw[hz];rfl
  rw[cL k1,show (!(false==false))=false from rfl,af1,afO,af1,afO,Ig k1 hfl hxj,bG hy,afO]
  obtain⟨day,byy,no,kind,line,art,q,unit,p,un,to⟩:=d
  dsimp only at hk k1 uq huses hf hfl ⊢
  obtain⟨ys,yw,yo,ye⟩:=y
  have r1:=hr.st;have r2:=hr.wish;have r3:=hr.off0;have r4:=hr.off1
  dsimp only at r1 r2 r3 r4
  subst r1;subst r2
  have k1':kind≠1:=k1
  have hk':1<=kind/\kind<=11:=hk
  have h11:kind=2\/kind=3\/kind=4\/kind=5\/kind=6\/kind=7\/kind=8\/kind=9\/kind=10\/kind=11:=by omega
  rcases h11 with rfl | rfl | rfl | rfl | rfl | rfl | rfl | rfl | rfl | rfl
  all_goals simp only[Int.reduceBEq,af2,af1,aR,show usU 2=false from rfl,show usU 3=true from rfl,show usU 4=false from rfl,show usU 5=false from rfl,show usU 6=false from rfl,show usU 7=true from rfl,show usU 8=false from rfl,show usU 9=false from rfl,show usU 10=false from rfl,show usU 11=false from rfl]
  ·rw[afO,af1]
   by_cases h:0<=x.wish
   ·rw[af6 (show x.wish>=0 from h),af2];simp[aY,qV,aD,h]
   ·rw[af4 (show ¬x.wish>=0 from h),af1];simp[aY,qV,aD,h]
  ·rw[afO]
   by_cases c:un<bZ o
   ·rw[af6 (show un<o.2.2.2.1 from c),af2];simp[aY,qV,aD,fW,c]
   ·rw[af4 (show ¬un<o.2.2.2.1 from c),af1]
    by_cases h:0<=x.wish
    ·rw[af6 (show x.wish>=0 from h),af2];simp[aY,qV,aD,fW,c,h]
    ·rw[af4 (show ¬x.wish>=0 from h),af1];simp[aY,qV,aD,fW,c,h]
  ·rw[afO,af1]
   by_cases h:0<=x.wish
   ·rw[af6 (show x.wish>=0 from h),af2];simp[aY,qV,aD,h]
   ·rw[af4 (show ¬x.wish>=0 from h),af1];simp[aY,qV,aD,h]
  ·rw[afO,af1]
   by_cases h:x.wish<0
   ·rw[af6 h,af2];simp[aY,bO,aD,h]
   ·rw[af4 h,af1]
    obtain⟨w,hw1,hw2⟩:=hx2.kind (by omega)
    obtain⟨_,_,_,_,_,_,hwu⟩:=bH (hl w (aeW hw1))
    have hwq:=(dH hwu).1
    rw[FM (by omega) hw1,afO]
    have hact:(aY o l i (day,byy,no,5,line,art,q,unit,p,un,to) x).1=(bO l (day,byy,no,5,line,art,q,unit,p,un,to) x).1:=by
     unfold aY
     rw[agd (show ¬(5:Int)<=4 by omega),age (show (5:Int)<=6 by omega)]
     split
     ·rename_i h0;rw[h0]
     ·rfl
    rw[hact]
    unfold bO
    rw[agd h,qo hw1]
    by_cases e:dNo w=to
    ·rw[show (w.2.2.1 != to)=false by simpa using e,af1,agd (show ¬dNo w≠to from fun h=>h e),age (show (5:Int)=5 from rfl),afO]
     by_cases k2:aD w=2
     ·rw[show (w.2.2.2.1==2)=true by simpa using k2,af2,afO,age k2]
      have hm:=oe (hwq (by rw[k2];rfl))
      have ha:=PT hx1
      unfold bV at ha ⊢
      dsimp only at ha ⊢
      rw[ha,afO]
      dsimp only
      rw[wS hm (cU (n:=x.shp - x.ret) (by omega)),afO,afO,abF]
      by_cases c:aL (dQ w)<x.shp - x.ret
      ·rw[age c,af6 (by omega),af2]
      ·rw[agd c,af4 (by omega),af1]
     ·rw[cL k2,af1,afO,agd k2]
      by_cases k3:aD w=1
      ·rw[age k3];rfl
      ·rw[agd k3]
       split<;>rfl
    ·rw[show (w.2.2.1 != to)=true by simpa using e,af2,age (show dNo w≠to from e)]
  ·rw[afO,af1]
   by_cases h:x.wish<0
   ·rw[af6 h,af2];simp[aY,bO,aD,h]
   ·rw[af4 h,af1]
    obtain⟨w,hw1,hw2⟩:=hx2.kind (by omega)
    rw[FM (by omega) hw1,afO]
    have hact:(aY o l i (day,byy,no,6,line,art,q,unit,p,un,to) x).1=(bO l (day,byy,no,6,line,art,q,unit,p,un,to) x).1:=by
     unfold aY
     rw[agd (show ¬(6:Int)<=4 by omega),age (show (6:Int)<=6 by omega)]
     split
     ·rename_i h0;rw[h0]
     ·rfl
    rw[hact]
    unfold bO
    rw[agd h,qo hw1]
    by_cases e:dNo w=to
    ·rw[show (w.2.2.1 != to)=false by simpa using e,af1,agd (show ¬dNo w≠to from fun h=>h e),agd (show ¬(6:Int)=5 by omega)];rfl
    ·rw[show (w.2.2.1 != to)=true by simpa using e,af2,age (show dNo w≠to from e)]
  ·rw[afO]
   have hact:(aY o l i (day,byy,no,7,line,art,q,unit,p,un,to) x).1=jX (bZ o) (day,byy,no,7,line,art,q,unit,p,un,to) x:=by
    unfold aY
    rw[agd (show ¬(7:Int)<=4 by omega),agd (show ¬(7:Int)<=6 by omega),age (show (7:Int)=7 from rfl)]
    split
    ·rename_i h0;rw[h0]
    ·rfl
   rw[hact]
   unfold jX
   by_cases c:un<bZ o
   ·rw[af6 (show un<o.2.2.2.1 from c),af2,age (show un<bZ o from c)]
   ·rw[af4 (show ¬un<o.2.2.2.1 from c),af1,agd (show ¬un<bZ o from c)]
    by_cases h:0<=x.wish
    ·rw[af6 (show x.wish>=0 from h),af2,age (Or.inl h)]
    ·rw[af4 (show ¬x.wish>=0 from h),af1]
     have hs:=(FH 3 x.opn).2
     by_cases h0:x.opn=0
     ·rw[age (Or.inr h0),show ((bV x).2.2.2.2.2.2.2.2.2.1==0)=true from (show (((few 3 x.opn).1==(0:Int))=true) by simpa using hs.2 h0),af2]
     ·rw[agd (fun e=>e.elim h h0),cL (show ¬(bV x).2.2.2.2.2.2.2.2.2.1=0 from fun e=>h0 (hs.1 e)),af1]
      have hm:=oe (show qOk q false=true from uq rfl)
      have:=wS hm (cU (n:=x.opn) (by omega))
      unfold bE at this
      unfold bV bE
      dsimp only at this ⊢
      rw[this,afO,PN]
      by_cases c:x.opn<aL q
      ·rw[age (show x.opn<aL (dQ (day,byy,no,7,line,art,q,unit,p,un,to)) from c),af6 (by omega),af2]
      ·rw[agd (show ¬x.opn<aL (dQ (day,byy,no,7,line,art,q,unit,p,un,to)) from c),af4 (by omega),af1]
  ·rw[afO,af1]
   have hact:(aY o l i (day,byy,no,8,line,art,q,unit,p,un,to) x).1=(AN (day,byy,no,8,line,art,q,unit,p,un,to) x).1:=by
    unfold aY
    rw[agd (show ¬(8:Int)<=4 by omega),agd (show ¬(8:Int)<=6 by omega),agd (show ¬(8:Int)=7 by omega),age (show (8:Int)=8 from rfl)]
   rw[hact]
   unfold AN
   by_cases h:0<=x.wish
   ·rw[af6 (show x.wish>=0 from h),af2,age h]
   ·rw[af4 (show ¬x.wish>=0 from h),af1,agd h]
    by_cases h0:x.ono=0
    ·rw[age (Or.inl h0),r3 h0];rfl
    ·obtain⟨jo,dd,e1,e2,e3,_⟩:=r4 h0
     rw[e1,af4 (show ¬(jo:Int)<0 by omega),af1,bG e2,afO]
     by_cases e:x.ono=to
     ·rw[show (dd.2.2.1 != to)=false by have:dd.2.2.1=to:=e3.trans e
                                        simpa using this,af1,agd (fun h'=>h'.elim h0 fun h''=>h'' e)]
     ·rw[show (dd.2.2.1 != to)=true by have:¬dd.2.2.1=to:=fun h'=>e (e3.symm.trans h')
                                       simpa using this,af2,age (Or.inr (show x.ono≠to from e))]
  ·rw[afO,af1]
   have hq:qOk q false=true:=uq rfl
   have hm:=oe hq
   obtain⟨q0,q1,_⟩:=jz hq
   have hact:(aY o l i (day,byy,no,9,line,art,q,unit,p,un,to) x).1=(cC (b8 o) (day,byy,no,9,line,art,q,unit,p,un,to) x).1:=by
    unfold aY
    rw[agd (show ¬(9:Int)<=4 by omega),agd (show ¬(9:Int)<=6 by omega),agd (show ¬(9:Int)=7 by omega),agd (show ¬(9:Int)=8 by omega),age (show (9:Int)=9 from rfl)]
    split
    ·rename_i h0;rw[h0]
    ·rfl
   rw[hact]
   have ha:=PT hx1
   have hmo:=XI (o:=o) (l:=l) (L:=L) (ref:=ref) hx1 he.1 he.2
   have m0:0<=x.ord*b8 o:=adB b4 he.1
   have m1:x.ord*b8 o<=x.ord*1000:=adA he.2 b4
   generalize hM:x.ord+x.ord*b8 o / 1000=M at hmo
   have hs:=qj (cU (n:=x.shp) (by omega))
   unfold cC
   rw[age (show (9:Int)=9 from rfl),hM]
   unfold bV at ha hmo ⊢
   dsimp only at ha hmo hs hq hm q0 q1 ⊢
   rw[ha,afO]
   dsimp only
   rw[qj (cU (n:=x.shp - x.ret) (by omega)),afO,qj hm,afO,hmo,afO]
   dsimp only
   rw[aA (n:=x.shp - x.ret+aL q) (by omega) (by omega)]
   by_cases c:M<x.shp - x.ret+aL q
   ·rw[af6 (show x.shp - x.ret+aL q>M from c),af2,age c]
   ·rw[af4 (show ¬x.shp - x.ret+aL q>M from c),af1,agd c,hs,afO,afO]
    dsimp only
    rw[aA (n:=x.shp+aL q) (by omega) (by omega)]
    by_cases c2:1000000000000000<x.shp+aL q
    ·rw[af6 (show x.shp+aL q>1000000000000000 from c2),af2,age c2]
    ·rw[af4 (show ¬x.shp+aL q>1000000000000000 from c2),af1,agd c2]
  ·rw[afO,af1]
   have hq:qOk q false=true:=uq rfl
   have hm:=oe hq
   obtain⟨q0,q1,_⟩:=jz hq
   have hact:(aY o l i (day,byy,no,10,line,art,q,unit,p,un,to) x).1=(cC (b8 o) (day,byy,no,10,line,art,q,unit,p,un,to) x).1:=by
    unfold aY
    rw[agd (show ¬(10:Int)<=4 by omega),agd (show ¬(10:Int)<=6 by omega),agd (show ¬(10:Int)=7 by omega),agd (show ¬(10:Int)=8 by omega),agd (show ¬(10:Int)=9 by omega)]
   rw[hact]
   unfold cC
   rw[agd (show ¬(10:Int)=9 by omega),age (show (10:Int)=10 from rfl)]
   unfold bV
   dsimp only at hq hm q0 q1 ⊢
   rw[pF (cU (n:=x.rcv) (by omega)) hm,afO]
   dsimp only
   rw[wS (cU (n:=x.rcv+aL q) (by omega)) (cU (n:=x.shp) (by omega)),afO,PN]
   by_cases c:x.shp<x.rcv+aL q
   ·rw[age c,af6 (by omega),af2]
   ·rw[agd c,af4 (by omega),af1]
  ·rw[afO,af1]
   have hq:qOk q false=true:=uq rfl
   have hm:=oe hq
   obtain⟨q0,q1,_⟩:=jz hq
   have hact:(aY o l i (day,byy,no,11,line,art,q,unit,p,un,to) x).1=(cC (b8 o) (day,byy,no,11,line,art,q,unit,p,un,to) x).1:=by
    unfold aY
    rw[agd (show ¬(11:Int)<=4 by omega),agd (show ¬(11:Int)<=6 by omega),agd (show ¬(11:Int)=7 by omega),agd (show ¬(11:Int)=8 by omega),agd (show ¬(11:Int)=9 by omega)]
   rw[hact]
   unfold cC
   rw[agd (show ¬(11:Int)=9 by omega),agd (show ¬(11:Int)=10 by omega)]
   unfold bV
   dsimp only at hq hm q0 q1 ⊢
   rw[pF (cU (n:=x.ret) (by omega)) hm,afO]
   dsimp only
   rw[wS (cU (n:=x.ret+aL q) (by omega)) (cU (n:=x.rcv) (by omega)),afO,PN]
   by_cases c:x.rcv<x.ret+aL q
   ·rw[age c,af6 (by omega),af2]
   ·rw[agd c,af4 (by omega),af1]
end Go.Md
set_option linter.all false
namespace Go.Md
open Go.Dn
theorem bs {α β:Type} {e:Option α} {f:α->Option β} {r:α} {z:Option β} (h:e=some r) (h2:f r=z):Option.bind e f=z:=by rw[h];exact h2
theorem bR (l:List ay) (hl:l.length<=2000):gz l=some (l,()):=by
 have lZ:maxLen=9223372036854775807:=rfl
 have hc:(decide ((0+(List.length l))*152<=140737488355328)&&decide (0+(List.length l)<=maxLen))=true:=by
  rw[adf];exact⟨af6 (by omega),af6 (by omega)⟩
 unfold gz
 rw[cA hc]
 cases l with
 | nil=>simp[both]
 | cons x r=>rfl
theorem jO {x:ak} (hx:LOk x) (v:ah):nx (x.no,x.art,x.unit,bE x.ord,dK x.price,x.due,bE x.shp,bE x.rcv,bE x.ret,v)=some (bV x,()):=by
 have b0:=hx.ret0;have b1:=hx.retr;have b2:=hx.rcvs;have b3:=hx.shp1;have b4:=hx.jt;have b5:=hx.ord1
 exact PG (s:=(x.no,x.art,x.unit,bE x.ord,dK x.price,x.due,bE x.shp,bE x.rcv,bE x.ret,v)) (cU (n:=x.ord) (by omega)) (cU (n:=x.shp) (by omega)) (cU (n:=x.ret) (by omega)) (by omega)
abbrev BkT:Type:=aj×(List aa)×(List an)×(List ah)×Unit
theorem Z8 {o:aj} {l:List aa} {ref:List ah} {L1:List an} {k:Nat} {y:an} {x:ak} {v:ah} (hk:L1[k]? =some y)
 (hs:y.1=(x.no,x.art,x.unit,bE x.ord,dK x.price,x.due,bE x.shp,bE x.rcv,bE x.ret,v)) (hx:LOk x) (hev:y.2.2.2.length<=2000) (i:Int):
 (Option.bind (L1[k]?) fun y37=>Option.bind (nx y37.1) fun r38=>Option.bind (L1[k]?) fun y39=>Option.bind ((List.set L1 k (r38.1,y39.2))[k]?) fun y40=>
   Option.bind (gz y40.2.2.2) fun r41=>Option.bind ((List.set L1 k (r38.1,y39.2))[k]?) fun y42=>
   chk (decide (((r41.1.length)+1)*152<=140737488355328)&&decide ((r41.1.length)+1<=maxLen)) <|
   Option.bind ((List.set L1 k (r38.1,y39.2))[k]?) fun y43=>
   some (((o,l,List.set (List.set L1 k (r38.1,y39.2)) k (y43.1,y43.2.1,y43.2.2.1,r41.1++[(i,y42.1)]),ref,()):BkT),()))=
 some (((o,l,L1.set k (bV x,y.2.1,y.2.2.1,y.2.2.2++[(i,bV x)]),ref,()):BkT),()):=by
 have hlt:=(aej.1 hk).1
 have lZ:maxLen=9223372036854775807:=rfl
 have hr:=jO hx v
 rw[<- hs] at hr
 rw[hk,afO,hr,afO,afO]
 dsimp only
 have hg:(List.set L1 k (bV x,y.2))[k]? =some (bV x,y.2):=by rw[aep hlt]
 rw[hg,afO,bR y.2.2.2 hev,afO,afO]
 dsimp only
 rw[cA (by rw[adf];exact⟨af6 (by omega),af6 (by omega)⟩),afO,ae9]
theorem SW {l:List aa} {L:List an} {k:Nat} {y:an} {w:aa} (hk:L[k]? =some y) (hw:idx l y.2.1=some w) (hf:bp w=0) (h4:aD w<=4): ga l L k=some (L.set k (if aD w<=2 then (y.1.1,y.1.2.1,y.1.2.2.1,bE (aL (dQ w)),y.1.2.2.2.2) else if aD w=3 then (y.1.1,y.1.2.1,y.1.2.2.1,y.1.2.2.2.1,y.1.2.2.2.2.1,fW w,y.1.2.2.2.2.2.2) else (y.1.1,y.1.2.1,y.1.2.2.1,y.1.2.2.2.1,dK (Et w),y.1.2.2.2.2.2), -1,y.2.2)):=by
 obtain⟨_,_,_,hkd,_,_,hu⟩:=bH hf
 obtain⟨uq,up,_⟩:=dH hu
 have hlt:=(aej.1 hk).1
 unfold ga iX
 rw[hk,afO,hw,afO]
 obtain⟨day,byy,no,kind,line,art,q,unit,p,un,to⟩:=w
 dsimp only at hkd h4 uq up ⊢
 have hkk:kind=1\/kind=2\/kind=3\/kind=4:=by
  have h1:1<=kind:=hkd.1
  have h2:kind<=4:=h4
  omega
 rcases hkk with rfl | rfl | rfl | rfl
 ·rw[DT (uq rfl)]
  simp only[Int.reduceBEq,af2,af1,afO,aep hlt,ae9]
  rfl
 ·rw[DT (uq rfl)]
  simp only[Int.reduceBEq,af2,af1,afO,aep hlt,ae9]
  rfl
 ·simp only[Int.reduceBEq,af2,af1,afO,aep hlt,ae9]
  rfl
 ·rw[DS (up rfl)]
  simp only[Int.reduceBEq,af2,af1,afO,aep hlt,ae9]
  rfl
end Go.Md
set_option linter.all false
namespace Go.Md
open Go.Dn
def acu (l:List aa) (x:ak) (off:Int):Prop:=
 (x.ono=0->off= -1)/\(x.ono≠0->∃ (j:Nat) (d:aa),off=(j:Int)/\l[j]? =some d/\dNo d=x.ono/\aL (dQ d)=x.oq/\fW d=x.ount/\aD d=7)
variable {o:aj} {l:List aa} {A:List ak} {L:List an} {ref:List ah} {P:Int->List ay}
theorem zR {β:Type} {n:Nat} {x y:Option β} (h:n<=2000) (e:x=y):chk (decide ((n+1)*152<=140737488355328)&&decide (n+1<=maxLen)) x=y:=by
 have lZ:maxLen=9223372036854775807:=rfl
 rw[cA (by rw[adf];exact⟨af6 (by omega),af6 (by omega)⟩),e]
theorem Lp {o:aj} {l:List aa} {i:Nat} {d:aa} {x:ak} (hk:aD d<=4) (h0:(aY o l i d x).1=0):(aY o l i d x).2={ x with wish:=(i:Int) }:=by
 unfold aY qV at h0 ⊢
 rw[age hk] at h0 ⊢
 split at h0
 ·cases h0
 ·rename_i h1
  rw[agd h1]
  split at h0
  ·cases h0
  ·rename_i h2
   rw[agd h2]
theorem abL {o:aj} {l:List aa} {i:Nat} {d:aa} {x:ak} (hk:aD d=6) (h0:(aY o l i d x).1=0):(aY o l i d x).2=({ x with wish:= -1 }:ak).clr:=by
 unfold aY at h0 ⊢
 rw[agd (show ¬aD d<=4 by omega),age (show aD d<=6 by omega)] at h0 ⊢
 have h0':(bO l d x).1=0:=by
  split at h0
  ·rename_i h;exact h
  ·exact h0
 rw[age h0']
 unfold bO at h0' ⊢
 split at h0'
 ·cases h0'
 ·rename_i h1
  rw[agd h1]
  split at h0'
  ·cases h0'
  ·rename_i h2
   rw[agd h2,agd (show ¬aD d=5 by omega)]
theorem aaZ {o:aj} {l:List aa} {i:Nat} {d w:aa} {x:ak} (hw:l[x.wish.toNat]? =some w) (hw4:1<=aD w/\aD w<=4) (hk:aD d=5) (h0:(aY o l i d x).1=0): (aY o l i d x).2=(if aD w<=2 then ({ x with ord:=aL (dQ w),wish:= -1 }:ak) else if aD w=3 then { x with due:=fW w,wish:= -1 } else { x with price:=Et w,wish:= -1 }).clr:=by
 unfold aY at h0 ⊢
 rw[agd (show ¬aD d<=4 by omega),age (show aD d<=6 by omega)] at h0 ⊢
 have h0':(bO l d x).1=0:=by
  split at h0
  ·rename_i h;exact h
  ·exact h0
 rw[age h0']
 unfold bO at h0' ⊢
 rw[qo hw] at h0' ⊢
 split at h0'
 ·cases h0'
 ·rename_i h1
  rw[agd h1]
  split at h0'
  ·cases h0'
  ·rename_i h2
   rw[agd h2,age hk]
   by_cases k2:aD w=2
   ·rw[age k2] at h0' ⊢
    rw[age (show aD w<=2 by omega)]
    split at h0'
    ·cases h0'
    ·rename_i h3
     rw[agd h3]
   ·rw[agd k2]
    by_cases k3:aD w=1
    ·rw[age k3,age (show aD w<=2 by omega)]
    ·rw[agd k3,agd (show ¬aD w<=2 by omega)]
     by_cases k4:aD w=3
     ·rw[age k4,age k4]
     ·rw[agd k4,agd k4]
theorem aaP {o:aj} {l:List aa} {i:Nat} {d:aa} {x:ak} (hk:aD d=5) (h0:(aY o l i d x).1=0):0<=x.wish:=by
 unfold aY at h0
 rw[agd (show ¬aD d<=4 by omega),age (show aD d<=6 by omega)] at h0
 have h0':(bO l d x).1=0:=by
  split at h0
  ·rename_i h;exact h
  ·exact h0
 unfold bO at h0'
 split at h0'
 ·cases h0'
 ·omega
theorem X9 {o:aj} {l:List aa} {i:Nat} {d:aa} {x:ak} (hk:aD d=7) (h0:(aY o l i d x).1=0):(aY o l i d x).2={ x with ono:=dNo d,oq:=aL (dQ d),ount:=fW d }:=by
 unfold aY at h0 ⊢
 rw[agd (show ¬aD d<=4 by omega),agd (show ¬aD d<=6 by omega),age hk] at h0 ⊢
 split at h0
 ·rename_i h;rw[age h]
 ·rename_i h;exact absurd h0 h
theorem ZG {o:aj} {l:List aa} {i:Nat} {d:aa} {x:ak} (hk:aD d=8) (h0:(aY o l i d x).1=0):x.ono≠0/\(aY o l i d x).2={ x with ord:=x.shp - x.ret+x.oq,due:=x.ount,ono:=0,oq:=0,ount:=0 }:=by
 unfold aY AN at h0 ⊢
 rw[agd (show ¬aD d<=4 by omega),agd (show ¬aD d<=6 by omega),agd (show ¬aD d=7 by omega),age hk] at h0 ⊢
 split at h0
 ·cases h0
 ·rename_i h1
  rw[agd h1]
  split at h0
  ·cases h0
  ·rename_i h2
   rw[agd h2]
   exact⟨fun e=>h2 (Or.inl e),rfl⟩
theorem ZF {o:aj} {l:List aa} {i:Nat} {d:aa} {x:ak} (hk:aD d=9) (h0:(aY o l i d x).1=0):(aY o l i d x).2=({ x with shp:=x.shp+aL (dQ d) }:ak).clr:=by
 unfold aY at h0 ⊢
 rw[agd (show ¬aD d<=4 by omega),agd (show ¬aD d<=6 by omega),agd (show ¬aD d=7 by omega),agd (show ¬aD d=8 by omega),age hk] at h0 ⊢
 have h0':(cC (b8 o) d x).1=0:=by
  split at h0
  ·rename_i h;exact h
  ·exact h0
 rw[age h0']
 unfold cC at h0' ⊢
 rw[age hk] at h0' ⊢
 split at h0'
 ·cases h0'
 ·rename_i h1
  rw[agd h1]
  split at h0'
  ·cases h0'
  ·rename_i h2
   rw[agd h2]
theorem ZD {o:aj} {l:List aa} {i:Nat} {d:aa} {x:ak} (hk:aD d=10) (h0:(aY o l i d x).1=0):(aY o l i d x).2={ x with rcv:=x.rcv+aL (dQ d) }:=by
 unfold aY cC at h0 ⊢
 rw[agd (show ¬aD d<=4 by omega),agd (show ¬aD d<=6 by omega),agd (show ¬aD d=7 by omega),agd (show ¬aD d=8 by omega),agd (show ¬aD d=9 by omega),agd (show ¬aD d=9 by omega),age hk] at h0 ⊢
 split at h0
 ·cases h0
 ·rename_i h1
  rw[agd h1]
theorem ZE {o:aj} {l:List aa} {i:Nat} {d:aa} {x:ak} (hk:aD d=11) (h0:(aY o l i d x).1=0):(aY o l i d x).2={ x with ret:=x.ret+aL (dQ d) }:=by
 unfold aY cC at h0 ⊢
 rw[agd (show ¬aD d<=4 by omega),agd (show ¬aD d<=6 by omega),agd (show ¬aD d=7 by omega),agd (show ¬aD d=8 by omega),agd (show ¬aD d=9 by omega),agd (show ¬aD d=9 by omega),agd (show ¬aD d=10 by omega)] at h0 ⊢
 split at h0
 ·cases h0
 ·rename_i h1
  rw[agd h1]
theorem aad {kind byy:Int} (h1:1<=kind/\kind<=11) (h2:1<=byy/\byy<=2) (h3:(kind=5\/kind=6\/kind=7\/kind=9)↔byy=2) (k1:kind≠1):(kind=2/\byy=1)\/(kind=3/\byy=1)\/(kind=4/\byy=1)\/(kind=5/\byy=2)\/(kind=6/\byy=2)\/(kind=7/\byy=2)\/(kind=8/\byy=1)\/(kind=9/\byy=2)\/(kind=10/\byy=1)\/(kind=11/\byy=1):=by omega
set_option maxHeartbeats 2000000 in
theorem WV (hB:vK l P A L) (hA:Good l A) (hI:Ids A) (hl:∀ d,d∈l->bp d=0) (he:0<=b8 o/\b8 o<=1000) {i:Nat} {d:aa} (hd:l[i]? =some d) {k:Nat} {x:ak} {y:an} (hf:lS (cO d) A=some k) (hx:(bD A)[k]? =some x) (hy:L[k]? =some y) (hr:OH l P x y) (hev:(P x.no).length<=2000) (hx1:LOk x) (hx2:WOk l x) (hx':LOk (aY o l i d x).2) (k1:aD d≠1) (h0:(aY o l i d x).1=0): ∃ off,jc (o,l,L,ref,()) (i:Int)=some ((o,l,L.set k (bV (aY o l i d x).2,(aY o l i d x).2.wish,off,P x.no++[((i:Int),bV (aY o l i d x).2)]),ref,()),())/\acu l (aY o l i d x).2 off:=by
 obtain⟨_,hb2,hno,hk,hby,_,hu⟩:=bH (hl d (aeW hd))
 obtain⟨uq,_⟩:=dH hu
 have b0:=hx1.ret0;have b1:=hx1.retr;have b2:=hx1.rcvs;have b3:=hx1.shp1;have b4:=hx1.jt;have b5:=hx1.ord1
 have hlt:=(aej.1 hy).1
 unfold jc
 dsimp only
 rw[bG hd,afO,show ((o,l,L,ref):ew)=(o,l,L,ref) from rfl,wZ hB hI.len l,afO,show lS d.2.2.2.2.1 A=some k from hf]
 dsimp only
 rw[af4 (show ¬(k:Int)<0 by omega),af1,aR]
 dsimp only
 rw[cA (by rw[adf];exact⟨af6 (by omega),af6 (by omega)⟩),adN]
 obtain⟨day,byy,no,kind,line,art,q,unit,p,un,to⟩:=d
 dsimp only at hk k1 uq hby hb2 hno hf ⊢
 obtain⟨ys,yw,yo,ye⟩:=y
 have r1:=hr.st;have r2:=hr.wish;have r3:=hr.off0;have r4:=hr.off1;have r5:=hr.ev
 dsimp only at r1 r2 r3 r4 r5
 subst r1;subst r2;subst r5
 have k1':kind≠1:=k1
 have hk':1<=kind/\kind<=11:=hk
 have h11:=aad hk' hb2 hby k1'
 rcases h11 with ⟨rfl,rfl⟩ | ⟨rfl,rfl⟩ | ⟨rfl,rfl⟩ | ⟨rfl,rfl⟩ | ⟨rfl,rfl⟩ | ⟨rfl,rfl⟩ | ⟨rfl,rfl⟩ | ⟨rfl,rfl⟩ | ⟨rfl,rfl⟩ | ⟨rfl,rfl⟩
 all_goals simp only[Int.reduceBEq,af2,af1,aR,hy,afO,aep hlt,ae9]
 ·have e:(aY o l i (day,1,no,2,line,art,q,unit,p,un,to) x).2={ x with wish:=(i:Int) }:=Lp (by show (2:Int)<=4;omega) h0
  rw[e] at hx' ⊢
  exact⟨yo,bs (jO hx' (bE x.opn)) (bs (bR _ hev) (zR hev rfl)),r3,r4⟩
 ·have e:(aY o l i (day,1,no,3,line,art,q,unit,p,un,to) x).2={ x with wish:=(i:Int) }:=Lp (by show (3:Int)<=4;omega) h0
  rw[e] at hx' ⊢
  exact⟨yo,bs (jO hx' (bE x.opn)) (bs (bR _ hev) (zR hev rfl)),r3,r4⟩
 ·have e:(aY o l i (day,1,no,4,line,art,q,unit,p,un,to) x).2={ x with wish:=(i:Int) }:=Lp (by show (4:Int)<=4;omega) h0
  rw[e] at hx' ⊢
  exact⟨yo,bs (jO hx' (bE x.opn)) (bs (bR _ hev) (zR hev rfl)),r3,r4⟩
 ·have hwi:=aaP rfl h0
  obtain⟨w,hw1,hw2⟩:=hx2.kind hwi
  have hwf:=hl w (aeW hw1)
  obtain⟨_,_,_,hwk,_⟩:=bH hwf
  have e:=aaZ hw1 ⟨hwk.1,hw2⟩ rfl h0
  rw[e] at hx' ⊢
  have hg:(L.set k (bV x,x.wish, -1,P x.no))[k]? =some (bV x,x.wish, -1,P x.no):=aep hlt
  rw[SW hg (FM hwi hw1) hwf hw2,afO,aR]
  simp only[ae9,aep hlt,afO]
  refine⟨-1, ?_,fun _=> ?_,fun h=>absurd ?_ h⟩
  ·by_cases c2:aD w<=2
   ·simp only[age c2] at hx' ⊢
    exact bs (jO hx' (bE x.opn)) (bs (bR _ hev) (zR hev rfl))
   ·by_cases c3:aD w=3
    ·simp only[agd c2,age c3] at hx' ⊢
     exact bs (jO hx' (bE x.opn)) (bs (bR _ hev) (zR hev rfl))
    ·simp only[agd c2,agd c3] at hx' ⊢
     exact bs (jO hx' (bE x.opn)) (bs (bR _ hev) (zR hev rfl))
  ·rfl
  ·rfl
 ·have e:=abL rfl h0
  rw[e] at hx' ⊢
  exact⟨-1,bs (jO hx' (bE x.opn)) (bs (bR _ hev) (zR hev rfl)),fun _=>rfl,fun h=>absurd rfl h⟩
 ·have e:=X9 rfl h0
  rw[e] at hx' ⊢
  exact⟨i,bs (jO hx' (bE x.opn)) (bs (bR _ hev) (zR hev rfl)),fun h=>absurd h (by show ¬no=0;omega),fun _=>⟨i,_,rfl,hd,rfl,rfl,rfl,rfl⟩⟩
 ·obtain⟨hne,e⟩:=ZG rfl h0
  rw[e] at hx' ⊢
  obtain⟨jo,dd,e1,e2,e3,e4,e5,e6⟩:=r4 hne
  subst e1
  obtain⟨_,_,_,_,_,_,hdu⟩:=bH (hl dd (aeW e2))
  have hdq:qOk (dQ dd) (aD dd==2)=true:=(dH hdu).1 (by rw[e6];rfl)
  have hp:jN (bE (x.shp - x.ret)) (dQ dd)=some (bE (x.shp - x.ret+x.oq),()):=by
   rw[<- e4];exact pF (cU (n:=x.shp - x.ret) (by omega)) (oe hdq)
  rw[PT hx1,afO,bG e2,afO]
  simp only[afO]
  rw[hp,afO,aR]
  simp only[ae9,aep hlt,afO]
  have e5':dd.2.2.2.2.2.2.2.2.2.1=x.ount:=e5
  rw[e5']
  exact⟨-1,bs (jO hx' (bE x.opn)) (bs (bR _ hev) (zR hev rfl)),fun _=>rfl,fun h=>absurd rfl h⟩
 ·have e:=ZF rfl h0
  rw[e] at hx' ⊢
  have hp:jN (bV x).2.2.2.2.2.2.1 (q.1,q.2)=some (bE (x.shp+aL q),()):=pF (cU (n:=x.shp) (by omega)) (oe (show qOk q false=true from uq rfl))
  rw[hp,afO,aR]
  simp only[ae9,aep hlt,afO]
  exact⟨-1,bs (jO hx' (bE x.opn)) (bs (bR _ hev) (zR hev rfl)),fun _=>rfl,fun h=>absurd rfl h⟩
 ·have e:=ZD rfl h0
  rw[e] at hx' ⊢
  have hp:jN (bV x).2.2.2.2.2.2.2.1 (q.1,q.2)=some (bE (x.rcv+aL q),()):=pF (cU (n:=x.rcv) (by omega)) (oe (show qOk q false=true from uq rfl))
  rw[hp,afO,aR]
  simp only[ae9,aep hlt,afO]
  exact⟨yo,bs (jO hx' (bE x.opn)) (bs (bR _ hev) (zR hev rfl)),r3,r4⟩
 ·have e:=ZE rfl h0
  rw[e] at hx' ⊢
  have hp:jN (bV x).2.2.2.2.2.2.2.2.1 (q.1,q.2)=some (bE (x.ret+aL q),()):=pF (cU (n:=x.ret) (by omega)) (oe (show qOk q false=true from uq rfl))
  rw[hp,afO,aR]
  simp only[ae9,aep hlt,afO]
  exact⟨yo,bs (jO hx' (bE x.opn)) (bs (bR _ hev) (zR hev rfl)),r3,r4⟩
end Go.Md
set_option linter.all false
namespace Go.Md
open Go.Dn
variable {o:aj} {l:List aa} {A:List ak} {L:List an} {ref:List ah} {P:Int->List ay}
theorem Pr {α:Type} (l:List α) {p:Nat} (v:α) (h:p<=l.length):(l.take p++(v::l.drop p))[p]? =some v:=by
 rw[aed (by rw[aeH];omega),aeH,show p - min p l.length=0 by omega];rfl
theorem abk {α:Type} (l:List α) {p:Nat} (v v':α) (h:p<=l.length):(l.take p++(v::l.drop p)).set p v'=l.take p++(v'::l.drop p):=by
 rw[List.set_append_right _ _ (by rw[aeH];omega),aeH,show p - min p l.length=0 by omega];rfl
theorem Sy:bE 0=(0,0):=by unfold bE;rw[LY];rfl
theorem Xq (i:Nat) (d:aa):LOk (fD i d):=⟨by show (0:Int)<=0;omega,by show (0:Int)<=0;omega,by show (0:Int)<=0;omega,by show (0:Int)<=_;omega,by show (0:Int)<=0;omega,by show (0:Int)<=_;omega,fun e=>absurd rfl e⟩
theorem WX {M:List ak} (hlen:L.length=M.length) (hst:∀ (k:Nat) x y,M[k]? =some x->L[k]? =some y->y.1=bV x) (hM:M.length<=500) (n:Nat) (hn:M.length<n) {a b c e e9 f g i2 j2 k2 p2 q2 r2:Int} {u v w s t:Bys} {no:Int} {z1:List ai}: iter (X:=kC) (β:=nJ) n (a,0,b,c,e,f,no,u,g,i2,v,j2,k2,p2,q2,w,s,t,r2,e9,z1,l,L,ref,()) nI= some (Sum.inr (a,(fL no M:Int),b,c,e,f,no,u,g,i2,v,j2,k2,p2,q2,w,s,t,r2,e9,z1,l,L,ref,())):=by
 have hp:=JU no M
 refine cG (Inv:=fun i X=>X=((a,(i:Int),b,c,e,f,no,u,g,i2,v,j2,k2,p2,q2,w,s,t,r2,e9,z1,l,L,ref,()):kC)) (fL no M) (fun z=>z=some (Sum.inr (a,(fL no M:Int),b,c,e,f,no,u,g,i2,v,j2,k2,p2,q2,w,s,t,r2,e9,z1,l,L,ref,()))) ?_ ?_ n 0 _ rfl (afN _) (by omega)
 ·rintro i X again hi rfl hag
  unfold nI
  dsimp only
  have hi2:i<M.length:=by omega
  have hy:L[i]? =some L[i]:=aeh (by omega)
  have hs:=hst i _ _ (aeh hi2) hy
  rw[af6 (show (i:Int)<(L.length:Int) by omega),af2]
  rw[cA (by rw[adf];exact⟨af6 (by omega),rfl⟩),adN,hy,afO,afO,hs]
  have hlt:=Wc no M i _ hi (aeh hi2)
  dsimp only
  rw[af6 (show (bV M[i]).1<no from hlt),af2,aA (n:=(i:Int)+1) (by omega) (by omega)]
  exact hag _ rfl
 ·rintro X again rfl
  unfold nI
  dsimp only
  by_cases h:fL no M<M.length
  ·have hy:L[fL no M]? =some (L[fL no M]'(by omega)):=aeh (by omega)
   have hs:=hst _ _ _ (aeh h) hy
   rw[af6 (show ((fL no M:Nat):Int)<(L.length:Int) by omega),af2]
   rw[cA (by rw[adf];exact⟨af6 (by omega),rfl⟩),adN,hy,afO,afO,hs]
   have hge:=Wb no M _ (aeh h)
   dsimp only
   rw[af4 (show ¬(bV M[fL no M]).1<no from hge),af1]
  ·rw[af4 (show ¬((fL no M:Nat):Int)<(L.length:Int) by omega),af1]
   rfl
set_option maxHeartbeats 1000000 in
theorem WW (hB:vK l P A L) (hI:Ids A) (hl:∀ d,d∈l->bp d=0) {i:Nat} {d:aa} (hd:l[i]? =some d) (hf:lS (cO d) A=none) (k1:aD d=1): jc (o,l,L,ref,()) (i:Int)=some ((o,l,L.take (fL (cO d) (bD A))++((bV (fD i d),(i:Int), -1,[((i:Int),bV (fD i d))])::L.drop (fL (cO d) (bD A))),ref,()),()):=by
 obtain⟨_,hb2,hno,hk,hby,_,hu⟩:=bH (hl d (aeW hd))
 obtain⟨_,up,_⟩:=dH hu
 have hlen:=hI.len
 have hsl:(bD A).length=A.length:=(eE A).length_eq
 have hL:=hB.len
 have hps:=JU (cO d) (bD A)
 unfold jc
 dsimp only
 rw[bG hd,afO,wZ hB hI.len l,afO,show lS d.2.2.2.2.1 A=none from hf]
 dsimp only
 rw[af6 (show (-1:Int)<0 by omega),af2]
 rw[WX (M:=bD A) hB.len (fun k x y hx hy=>(hB.rel k x y hx hy).st) (by omega) _ (by omega),aR]
 dsimp only
 obtain⟨day,byy,no,kind,line,art,q,unit,p,un,to⟩:=d
 dsimp only at hk k1 up hby hb2 hno hf ⊢
 have hps:fL line (bD A)<=(bD A).length:=hps
 have k1':kind=1:=k1
 subst k1'
 have hb1:byy=1:=by omega
 subst hb1
 rw[show fM (p.1,p.2)=some (dK p,()) from DS (up rfl),afO]
 dsimp only
 have hins:∀ v,gf L (fL line (bD A):Int) [v]=some (L.take (fL line (bD A))++(v::L.drop (fL line (bD A))),()):=by
  intro v
  show (bif _ then _ else _)=_
  rw[show (decide (0<=((fL line (bD A):Nat):Int))&&(decide (((fL line (bD A):Nat):Int)<=(L.length:Int))&&(decide (0<[v].length)&&(decide ((L.length+[v].length)*184<=140737488355328)&&decide (L.length+[v].length<=4611686018427387904)))))=true by
   simp only[adf,af7,aeG];omega,af2,adN]
  rfl
 rw[hins,afO,aR]
 dsimp only
 have hpl:fL line (bD A)<=L.length:=by omega
 rw[cA (by rw[adf];exact⟨af6 (by omega),af6 (by simp;omega)⟩),adN]
 simp only[Int.reduceBEq,af2,af1,aR]
 generalize hV:((((line,art,unit,(0,0),dK p,un,(0,0),(0,0),(0,0),0,0):dD),(i:Int), -1,[]):an)=v
 have hget:=Pr L v hpl
 have hset:=fun v'=>abk L v v' hpl
 subst hV
 refine (Z8 (x:=fD i (day,1,no,1,line,art,q,unit,p,un,to)) (v:=(0,0)) hget ?_ (Xq _ _) (by show 0<=2000;omega) (i:Int)).trans ?_
 ·show _=(line,art,unit,bE 0,dK p,un,bE 0,bE 0,bE 0,(0,0))
  rw[Sy]
 ·rw[hset];rfl
end Go.Md
set_option linter.all false
namespace Go.Md
open Go.Dn
theorem ace {M:List ak} (hs:M.Pairwise fun x y=>x.no<y.no) {m k:Nat} {a b:ak} (ha:M[m]? =some a) (hb:M[k]? =some b) (h:a.no=b.no):m=k:=by
 obtain⟨hm,rfl⟩:=aej.1 ha
 obtain⟨hk,rfl⟩:=aej.1 hb
 rw[ae6] at hs
 rcases afB m k with c | c | c
 ·have:=hs m k hm hk c;omega
 ·exact c
 ·have:=hs k m hk hm c;omega
variable {o:aj} {l:List aa} {A:List ak} {L:List an} {ref:List ah} {P:Int->List ay}
theorem abC {M:List ak} (p:Nat) (hp:p<=M.length) (hL:L.length=M.length) {P':Int->List ay} {x:ak} {y:an} (hr:∀ (k:Nat) a b,M[k]? =some a->L[k]? =some b->OH l P' a b) (hxy:OH l P' x y): ∀ (k:Nat) a b,(M.take p++x::M.drop p)[k]? =some a->(L.take p++y::L.drop p)[k]? =some b->OH l P' a b:=by
 intro k a b ha hb
 rcases afB k p with c | c | c
 ·rw[aec (by rw[aeH];omega),aer c] at ha hb
  exact hr k a b ha hb
 ·subst c
  rw[Pr M x hp] at ha
  rw[Pr L y (by omega)] at hb
  cases ha;cases hb;exact hxy
 ·rw[aed (by rw[aeH];omega),aeH,show k - min p M.length=(k - p - 1)+1 by omega,aee,aeg] at ha
  rw[aed (by rw[aeH];omega),aeH,show k - min p L.length=(k - p - 1)+1 by omega,aee,aeg] at hb
  exact hr _ a b ha hb
theorem follow_eq (hB:vK l P A L) (hA:Good l A) (hI:Ids A) (hl:∀ d,d∈l->bp d=0) (he:0<=b8 o/\b8 o<=1000) (hP:∀ wt,(P wt).length<=2000) (hN:∀ wt,(∀ x,x∈A->x.no≠wt)->P wt=[]) {i:Nat} {d:aa} (hd:l[i]? =some d) (h0:(bS o l i d A).1=0): ∃ L',jc (o,l,L,ref,()) (i:Int)=some ((o,l,L',ref,()),())/\vK l (fun wt=>nv wt i d (bS o l i d A).2 (P wt)) (bS o l i d A).2 L':=by
 have hA':=vQ (o:=o) hA hl hd
 by_cases k1:aD d=1
 ·cases hf:lS (cO d) A with
  | some k=>
   obtain⟨x,j,_,_,hfl,_⟩:=vX hI hf
   unfold bS at h0
   rw[age k1,hfl] at h0
   cases h0
  | none=>
   obtain⟨hfl,hne⟩:=Az hf
   have hz:(bS o l i d A).2=A++[fD i d]:=by
    unfold bS at h0 ⊢
    rw[age k1,hfl] at h0 ⊢
    dsimp only at h0 ⊢
    split at h0
    ·cases h0
    ·rename_i c1
     rw[agd c1]
     split at h0
     ·cases h0
     ·rename_i c2
      rw[agd c2]
   refine⟨_,WW hB hI hl hd hf k1, ?_⟩
   rw[hz]
   have hs:=aaH hI (y:=fD i d) hne
   have hs':bD (A++[fD i d])=(bD A).take (fL (cO d) (bD A))++fD i d::(bD A).drop (fL (cO d) (bD A)):=hs
   have hps:=JU (cO d) (bD A)
   have hlen:=hB.len
   have hlL:kI (cO d) (A++[fD i d])=some (fD i d):=by
    refine sM (k:=A.length) ?_ (by rw[aed (aft _),Nat.sub_self];rfl)
    unfold ef
    rw[Ax,show cc (cO d) 0 A=none from hfl,Option.none_or,age (show cO d=(fD i d).no from rfl),afM]
   refine⟨?_, ?_⟩
   ·rw[hs']
    simp only[aev,aeH,aew,aex]
    omega
   ·rw[hs']
    refine abC _ hps hlen (fun k a b ha hb=> ?_) ?_
    ·obtain⟨r1,r2,r3,r4,r5⟩:=hB.rel k a b ha hb
     have:cO d≠a.no:=fun e=>hne a ((eE A).mem_iff.1 (aeW ha)) e.symm
     exact⟨r1,r2,r3,r4,by rw[r5];unfold nv;rw[agd this]⟩
    ·refine⟨rfl,rfl,fun _=>rfl,fun h=>absurd rfl h, ?_⟩
     show [((i:Int),bV (fD i d))]=nv (cO d) i d (A++[fD i d]) (P (cO d))
     unfold nv
     rw[age rfl,hlL,hN (cO d) hne]
     rfl
 ·cases hf:lS (cO d) A with
  | none=>
   obtain⟨hfl,_⟩:=Az hf
   rw[Ft k1 hfl] at h0
   cases h0
  | some k=>
   obtain⟨x,j,hx,hxn,hfl,hxj⟩:=vX hI hf
   obtain⟨y,hy,hr⟩:=hB.get hx
   obtain⟨hx1,hx2⟩:=hA.sound.line x (aeW hxj)
   rw[Ig k1 hfl hxj] at h0 hA' ⊢
   dsimp only at h0 hA' ⊢
   obtain⟨hx1',_,hno,_⟩:=AS (o:=o) hx1 hx2 hl hd
   obtain⟨off,hfo,hoff⟩:=WV (ref:=ref) hB hA hI hl he hd hf hx hy hr (hP _) hx1 hx2 hx1' k1 h0
   refine⟨_,hfo, ?_⟩
   have hs:=aaI hI (y:=(aY o l i d x).2) hxj hx hno
   have hkl:=(aej.1 hx).1
   have hky:=(aej.1 hy).1
   have hlL:kI (cO d) (A.set j (aY o l i d x).2)=some (aY o l i d x).2:=by
    refine sM (k:=j) ?_ (aep (aej.1 hxj).1)
    have:ef (cO d) (A.set j (aY o l i d x).2)=ef (cO d) A:=FJ A 0 (fun z hz=>by rw[hxj] at hz;cases hz;exact hno)
    rw[this];exact hfl
   refine⟨by rw[hs,aeF,aeF];exact hB.len,fun m a b ha hb=> ?_⟩
   rw[hs] at ha
   by_cases c:k=m
   ·subst c
    rw[aep hkl] at ha
    rw[aep hky] at hb
    cases ha;cases hb
    refine⟨rfl,rfl,hoff.1,hoff.2, ?_⟩
    show P x.no++[((i:Int),bV (aY o l i d x).2)]=nv (aY o l i d x).2.no i d _ (P (aY o l i d x).2.no)
    unfold nv
    rw[hno,age hxn.symm,hlL]
   ·rw[aeo c] at ha hb
    obtain⟨r1,r2,r3,r4,r5⟩:=hB.rel m a b ha hb
    have:cO d≠a.no:=fun e=>c (ace (PR hI) hx ha (by rw[hxn];exact e))
    exact⟨r1,r2,r3,r4,by rw[r5];unfold nv;rw[agd this]⟩
end Go.Md
set_option linter.all false
namespace Go.Md
open Go.Dn
theorem NT {n:Int} {A:List ak} (h:∀ x,x∈A->x.no≠n):kI n A=none:=by
 unfold kI
 rw[show ef n A=none from DJ h];rfl
theorem vG {o:aj} {l:List aa} {wt day:Int}:∀ (r:List aa) (i:Nat) (A:List ak) (ref:List (Int×Int)) (pts:List ay),(∀ d,d∈r->day<d.1)->eZ o l wt day r i A ref pts=(A,ref,pts)
 | [],_,_,_,_,_=>rfl
 | d::r,i,A,ref,pts,h=>by simp only[eZ];rw[age (h d (by simp))]
theorem Zs {o1 o2 o3:Bys} {o4 o5:Int} {o6:List ai} {l:List aa} {day:Int} (he:0<=o5/\o5<=1000) (hl:∀ d,d∈l->bp d=0) (hlen:l.length<=2000) (hs:l.Pairwise fun a b=>a.1<=b.1): ∀ (r:List aa) (i n:Nat) (A:List ak) (L:List an) (ref:List (Int×Int)) (P:Int->List ay),l.drop i=r->i<=l.length->Good l A->Ids A->vK l P A L->(∀ wt,(P wt).length<=i)->(∀ wt,kI wt A=none->P wt=[])->ref.length<=i->r.length<n-> ∃ L',iter (X:=CS) (β:=CR) n (day,l,(l.length:Int),(i:Int),o1,o2,o3,o4,o5,o6,l,L,ref,()) zA=some (Sum.inr (o1,o2,o3,o4,o5,o6,l,L',(eZ (o1,o2,o3,o4,o5,o6) l 0 day r i A ref []).2.1,()))/\ vK l (fun wt=>(eZ (o1,o2,o3,o4,o5,o6) l wt day r i A ref (P wt)).2.2) (eZ (o1,o2,o3,o4,o5,o6) l 0 day r i A ref []).1 L':=by
 intro r
 induction r with
 | nil=>
  intro i n A L ref P hd hi hA hI hB hp hN hr hn
  have:i=l.length:=by
   have:=congrArg List.length hd
   simp at this;omega
  subst this
  obtain⟨n,rfl⟩:∃ m,n=m+1:=⟨n - 1,by omega⟩
  refine⟨L, ?_,hB⟩
  rw[fk]
  unfold zA
  dsimp only
  rw[af4 (show ¬((l.length:Int)<(l.length:Int)) by omega),af1]
  rfl
 | cons d r ih=>
  intro i n A L ref P hdr hi hA hI hB hp hN hr hn
  have hd:l[i]? =some d:=by
   have:=congrArg (·[0]?) hdr
   simpa [aeg] using this
  have hr':l.drop (i+1)=r:=by
   have:=congrArg List.tail hdr
   simpa [afb] using this
  have hlt:i<l.length:=(aej.1 hd).1
  have hlate:∀ e,e∈r->d.1<=e.1:=by
   have h:=hs.sublist (List.drop_sublist i l)
   rw[hdr] at h
   exact fun e he=>(ae5.1 h).1 e he
  obtain⟨n,rfl⟩:∃ m,n=m+1:=⟨n - 1,by simp at hn;omega⟩
  rw[fk]
  generalize hag:(fun y=>iter n y zA)=again
  unfold zA
  dsimp only
  rw[af6 (show (i:Int)<(l.length:Int) by omega),af2,bG hd,afO,aA (n:=(i:Int)+1) (by omega) (by omega),show (i:Int)+1=((i+1:Nat):Int) by omega]
  have lZ:maxLen=9223372036854775807:=rfl
  by_cases hday:day<d.1
  ·rw[af6 (show d.1>day from hday),af2, <- hag]
   have hl1:∀ e,e∈d::r->day<e.1:=fun e he=>by
    rcases aeP.1 he with rfl | he
    ·exact hday
    ·have:=hlate e he;omega
   obtain⟨L',e1,e2⟩:=ih (i+1) n A L ref P hr' (by omega) hA hI hB (fun wt=>by have:=hp wt;omega) hN (by omega) (by simp at hn;omega)
   refine⟨L', ?_, ?_⟩
   ·refine e1.trans ?_
    rw[vG r _ _ _ _ (fun e he=>hl1 e (by simp[he])),vG (d::r) _ _ _ _ hl1]
   ·have w:∀ wt,eZ (o1,o2,o3,o4,o5,o6) l wt day (d::r) i A ref (P wt)=eZ (o1,o2,o3,o4,o5,o6) l wt day r (i+1) A ref (P wt):=fun wt=>by
     rw[vG r _ _ _ _ (fun e he=>hl1 e (by simp[he])),vG (d::r) _ _ _ _ hl1]
    have w0:eZ (o1,o2,o3,o4,o5,o6) l 0 day (d::r) i A ref []=eZ (o1,o2,o3,o4,o5,o6) l 0 day r (i+1) A ref []:=by
     rw[vG r _ _ _ _ (fun e he=>hl1 e (by simp[he])),vG (d::r) _ _ _ _ hl1]
    rw[w0]
    simp only[w]
    exact e2
  ·rw[af4 (show ¬d.1>day from hday),af1]
   have hrf:=R7 (o:=(o1,o2,o3,o4,o5,o6)) (ref:=ref) hB hA hI hl he hd
   rw[hrf,afO]
   dsimp only
   have hgood:=vQ (o:=(o1,o2,o3,o4,o5,o6)) hA hl hd
   have hids:=Qg (o:=(o1,o2,o3,o4,o5,o6)) hA hI hl hd
   simp only[eZ,agd hday]
   by_cases h0:(bS (o1,o2,o3,o4,o5,o6) l i d A).1=0
   ·simp only[agd (show ¬(bS (o1,o2,o3,o4,o5,o6) l i d A).1≠0 from fun h=>h h0)]
    rw[h0,zne,af1]
    obtain⟨L1,f1,f2⟩:=follow_eq (ref:=ref) hB hA hI hl he (fun wt=>by have:=hp wt;omega) (fun wt h=>hN wt (NT h)) hd h0
    rw[f1,afO]
    dsimp only
    rw[<- hag]
    have pl:∀ wt,(nv wt i d (bS (o1,o2,o3,o4,o5,o6) l i d A).2 (P wt)).length<=i+1:=fun wt=>by
     have:=hp wt
     unfold nv
     split
     ·split
      ·simp;omega
      ·omega
     ·omega
    have pn:∀ wt,kI wt (bS (o1,o2,o3,o4,o5,o6) l i d A).2=none->nv wt i d (bS (o1,o2,o3,o4,o5,o6) l i d A).2 (P wt)=[]:=fun wt h=>by
     by_cases e:cO d=wt
     ·subst e
      obtain⟨k,x,hk,hx⟩:=Dy hA.sound hl hd h0
      rw[sM hk hx] at h;cases h
     ·unfold nv
      rw[agd e]
      rw[Kz hA.sound hl hd e] at h
      exact hN wt h
    obtain⟨L',e1,e2⟩:=ih (i+1) n _ L1 ref _ hr' (by omega) hgood hids f2 pl pn (by omega) (by simp at hn;omega)
    have w:=JZ (o:=(o1,o2,o3,o4,o5,o6)) (l:=l) 0 0 day r (i+1) (bS (o1,o2,o3,o4,o5,o6) l i d A).2 ref (nv 0 i d (bS (o1,o2,o3,o4,o5,o6) l i d A).2 []) []
    rw[w.1,w.2]
    exact⟨L',e1,e2⟩
   ·simp only[age (show (bS (o1,o2,o3,o4,o5,o6) l i d A).1≠0 from h0)]
    rw[cr h0,af2]
    rw[cA (by rw[adf];exact⟨af6 (by omega),af6 (by omega)⟩)]
    rw[<- hag]
    have hsame:=(LO (o:=(o1,o2,o3,o4,o5,o6)) hA.sound hl hd).2 h0
    rw[hsame]
    exact ih (i+1) n A L _ P hr' (by omega) hA hI hB (fun wt=>by have:=hp wt;omega) hN (by simp;omega) (by simp at hn;omega)
theorem WQ {l:List aa} (h:eY l=0):l.Pairwise fun a b=>a.1<=b.1:=
 (WO h).1.imp fun {a b} h=>by
   have:=(VP a b).1 h
   unfold Lex at this
   omega
theorem Xi {o:aj} (ho:dP o=0) (l:List aa):vK l (fun _=>[]) (gm o) ((gm o).map fun x=>(bV x, -1, -1,[])):=by
 have hI:=IJ ho
 obtain⟨_,_,_,_,hgo,_⟩:=oI ho
 obtain⟨_,_,hpw⟩:=jY hgo
 have hs:bD (gm o)=gm o:=PS (List.Perm.refl _) (by rw[ae7];exact hpw)
 refine⟨by rw[hs,aeA],fun k x y hx hy=> ?_⟩
 rw[hs] at hx
 rw[aek,hx] at hy
 cases hy
 obtain⟨q,_,rfl⟩:=aeV.1 (aeW hx)
 exact⟨rfl,rfl,fun _=>rfl,fun h=>absurd rfl h,rfl⟩
theorem Xj {o1 o2 o3:Bys} {o4 o5:Int} {o6:List ai} (ho:dP (o1,o2,o3,o4,o5,o6)=0) (l:List aa) (day:Int) (n:Nat) (hn:o6.length<n): iter (X:=zB) (β:=CQ) n (l,day,o6,(o6.length:Int),0,o1,o2,o3,o4,o5,o6,l,[],[],()) CP=some (Sum.inr (l,day,o1,o2,o3,o4,o5,o6,l,(gm (o1,o2,o3,o4,o5,o6)).map (fun x=>(bV x, -1, -1,[])),[],())):=by
 obtain⟨_,_,hl5,_,hgo,_⟩:=oI ho
 obtain⟨hln,_,_⟩:=jY hgo
 have hg:=wk ho l
 have hl5:o6.length<=500:=hl5
 have lZ:maxLen=9223372036854775807:=rfl
 refine cG (Inv:=fun i X=>X=((l,day,o6,(o6.length:Int),(i:Int),o1,o2,o3,o4,o5,o6,l,((o6.take i).map jq).map (fun x=>(bV x, -1, -1,[])),[],()):zB)) o6.length (fun z=>z=some (Sum.inr (l,day,o1,o2,o3,o4,o5,o6,l,(gm (o1,o2,o3,o4,o5,o6)).map (fun x=>(bV x, -1, -1,[])),[],()))) ?_ ?_ n 0 _ rfl (afN _) (by omega)
 ·rintro i X again hi rfl hag
  unfold CP
  dsimp only
  have hx:o6[i]? =some o6[i]:=aeh hi
  obtain⟨_,h2,_,h4,_⟩:=hln _ (aeW hx)
  have hok:=(hg.sound.line (jq o6[i]) (aeV.2 ⟨_,aeW hx,rfl⟩)).1
  rw[af6 (show (i:Int)<(o6.length:Int) by omega),af2,bG hx,afO,DT h2,afO,DS h4,afO]
  have hre:=jO hok (0,0)
  have e0:bE (jq o6[i]).shp=(0,0):=Sy
  have e1:bE (jq o6[i]).rcv=(0,0):=Sy
  have e2:bE (jq o6[i]).ret=(0,0):=Sy
  rw[e0,e1,e2] at hre
  refine bs hre ?_
  dsimp only
  rw[cA (by rw[adf];exact⟨af6 (by simp;omega),af6 (by simp;omega)⟩),aA (n:=(i:Int)+1) (by omega) (by omega)]
  refine hag _ ?_
  rw[mX hx,aeI,aeI]
  rfl
 ·rintro X again rfl
  unfold CP
  dsimp only
  rw[af4 (show ¬(o6.length:Int)<(o6.length:Int) by omega),af1,afg]
theorem QS {o:aj} {l:List aa} (h:dV o l=0) (day:Int): ∃ L,Jd o l day=some ((o,l,L,(ez o l 0 day).2.1,()),())/\vK l (fun wt=>(ez o l wt day).2.2) (ez o l 0 day).1 L:=by
 obtain⟨h1,h2⟩:=yV h
 obtain⟨h3,h4⟩:=nh h2
 obtain⟨o1,o2,o3,o4,o5,o6⟩:=o
 obtain⟨L,e1,e2⟩:=Zs (o1:=o1) (o2:=o2) (o3:=o3) (o4:=o4) (o6:=o6) (day:=day) (oI h1).2.1 h4 h3 (WQ h2) l 0 (Int.natAbs day+(List.length l+(Int.natAbs ((List.length l:Int))+(Int.natAbs (0:Int)+(List.length o1+(List.length o2+(List.length o3+(Int.natAbs o4+(Int.natAbs o5+(List.length o6+(List.length l+(List.length ((gm (o1,o2,o3,o4,o5,o6)).map (fun x=>((bV x, -1, -1,[]):an)))+(List.length ([]:List ah)+2))))))))))))) _ _ [] _ rfl (afN _) (wk h1 l) (IJ h1) (Xi h1 l) (fun _=>afN _) (fun _ _=>rfl) (afN _) (by omega)
 refine⟨L, ?_,e2⟩
 unfold Jd
 dsimp only
 rw[Xj h1 l day _ (by omega),aR]
 dsimp only
 rw[show ((0:Nat):Int)=0 from rfl] at e1
 rw[e1,aR]
 rfl
end Go.Md
set_option linter.all false
namespace Go.Md
open Go.Dn
theorem QO (o:aj) (l:List aa) (tx:∀ d,d∈l->Txt d):Ja o l=some (dV o l,()):=by
 unfold Ja dV
 rw[uZ,afO]
 dsimp only
 by_cases h:dP o=0
 ·rw[agd (show ¬dP o≠0 from fun e=>e h),h,zne,af1,BW l tx,afO]
 ·rw[cr h,af2,age h]
end Go.Md
set_option linter.all false
namespace Go.Md
open Go.Dn
theorem Uy {l:List aa} {P:Int->List ay} {A:List ak} {L:List an} (h:vK l P A L):L.map (fun y=>y.1)=(bD A).map bV:=by
 refine ad6 fun i=> ?_
 rw[aek,aek]
 by_cases hi:i<L.length
 ·have hx:=aeh (l:=bD A) (i:=i) (by rw[<- h.len];exact hi)
  have hy:=aeh hi
  rw[hx,hy,afU,afU,(h.rel i _ _ hx hy).st]
 ·rw[aei (by omega),aei (by rw[<- h.len];omega)]
  rfl
end Go.Md
set_option linter.all false
namespace Go.Md
open Go.Dn
end Go.Md
set_option linter.all false
namespace Go.Md
open Go.Dn
end Go.Md
set_option linter.all false
namespace Go.Md
open Go.Dn
theorem Ub {o:aj} {l l2:List aa} {P:Int->List ay} {A:List ak} {L:List an} {ref:List ah} (h:vK l P A L) (hI:Ids A):sZ (o,l2,L,ref)=some ((bD A).map bV,()):=by
 have lZ:maxLen=9223372036854775807:=rfl
 have hL:L.length<=500:=by rw[h.len,(eE A).length_eq];exact hI.len
 unfold sZ
 dsimp only
 have loop:∀ n,L.length<n->iter (X:=kE) (β:=nN) n ([],L,(L.length:Int),0,()) nM=some (Sum.inr (L.map (fun y=>y.1),())):=by
  intro n hn
  refine cG (Inv:=fun i X=>X=(((L.take i).map (fun y=>y.1),L,(L.length:Int),(i:Int),()):kE)) L.length (fun z=>z=some (Sum.inr (L.map (fun y=>y.1),()))) ?_ ?_ n 0 _ rfl (afN _) (by omega)
  ·rintro i X again hi rfl hag
   unfold nM
   dsimp only
   have hy:L[i]? =some L[i]:=aeh hi
   have hlen:((L.take i).map (fun y=>y.1)).length=i:=by rw[aeA,aeH];omega
   rw[af6 (show (i:Int)<(L.length:Int) by omega),af2,bG hy,afO,hlen,cA (by rw[adf];exact⟨af6 (by omega),af6 (by omega)⟩),aA (n:=(i:Int)+1) (by omega) (by omega)]
   have e:(L.take i).map (fun y=>y.1)++[(L[i]).1]=(L.take (i+1)).map (fun y=>y.1):=by rw[mX hy,aeI];rfl
   rw[e]
   exact hag _ rfl
  ·rintro X again rfl
   unfold nM
   dsimp only
   rw[af4 (show ¬(L.length:Int)<(L.length:Int) by omega),af1,afg]
 rw[loop _ (by omega),aR,Uy h]
theorem Xh {A:List ak} (hI:Ids A) (n:Int):kI n A=(lS n A).bind fun k=>(bD A)[k]? :=by
 cases h:lS n A with
 | none=>rw[NT (Az h).2];rfl
 | some k=>
  obtain⟨x,j,hx,_,hf,hj⟩:=vX hI h
  rw[sM hf hj,afO,hx]
end Go.Md
