/-
  Plain facts: the book of the reference. No condition.
-/
import Derived.Test.YtilaijcbckgmmabGreatDoorYu
import Derived.Test.YtilaijcbckgmmabGreatDoorYx
import Derived.Test.YtilaijcbckgmmabGreatDoorYt
import Derived.Test.YtilaijcbckgmmabGreatDoorYq
import Derived.Test.YtilaijcbckgmmabGreatDoorYr
set_option linter.all false
set_option linter.all false
namespace Go.Md
open Go.Dn
structure Tc (l:List aa) (P:Int->List aL) (x:ak) (y:au):Prop where
 st:y.1=bM x
 wish:y.2.1=x.wish
 off0:x.ono=0->y.2.2.1= -1
 off1:x.ono≠0->∃ (j:Nat) (d:aa),y.2.2.1=(j:Int)/\l[j]? =some d/\dNo d=x.ono/\aW (dQ d)=x.oq/\gU d=x.ount/\aM d=7
 ev:y.2.2.2=P x.no
structure AR (l:List aa) (P:Int->List aL) (A:List ak) (L:List au):Prop where
 len:L.length=(bT A).length
 rel:∀ (k:Nat) x y,(bT A)[k]? =some x->L[k]? =some y->Tc l P x y
theorem AR.get {l:List aa} {P:Int->List aL} {A:List ak} {L:List au} (h:AR l P A L) {k:Nat} {x:ak} (hx:(bT A)[k]? =some x):∃ y,L[k]? =some y/\Tc l P x y:=by
 have hlt:=(agW.1 hx).1
 have:k<L.length:=by rw[h.len];exact hlt
 exact⟨_,agU this,h.rel k x _ hx (agU this)⟩
def sQ (no:Int) (A:List ak):Option Nat:=(bT A).findIdx? fun x=>decide (x.no=no)
theorem KG {no:Int} {A:List ak} (hI:Ids A) {k:Nat} (h:sQ no A=some k):∃ x j,(bT A)[k]? =some x/\x.no=no/\eF no A=some j/\A[j]? =some x:=by
 obtain⟨h1,h2,_⟩:=agM.1 h
 have hx:(bT A)[k]? =some (bT A)[k]:=agU h1
 have hno:(bT A)[k].no=no:=aiS h2
 obtain⟨j,hj,hjx⟩:=Vm hI (ahu hx)
 rw[hno] at hj
 exact⟨_,j,hx,hno,hj,hjx⟩
theorem KF {no:Int} {A:List ak} (h:sQ no A=none):eF no A=none/\∀ x,x∈A->x.no≠no:=by
 have hn:∀ x,x∈A->x.no≠no:=fun x hx e=>by
  have:=agL.1 h x ((eL A).mem_iff.2 hx)
  rw[aiD e] at this;cases this
 refine⟨?_,hn⟩
 cases hf:eF no A with
 | none=>rfl
 | some k=>
  obtain⟨x,hx,hxn⟩:=xw hf
  exact absurd hxn (hn x (ahu hx))
variable {o:aj} {l:List aa} {A:List ak} {L:List au} {ref:List ah} {P:Int->List aL}
theorem GD (hB:AR l P A L) (hlen:A.length<=500) (l2:List aa) (no:Int):rZ (o,l2,L,ref) no=some (match sQ no A with | some k=>(k:Int) | none=> -1,()):=by
 have hL:L.length=A.length:=by rw[hB.len,(eL A).length_eq]
 unfold rZ
 dsimp only
 have:∀ m,L.length<m->iter (X:=mS) (β:=rf) m (no,L,(L.length:Int),0,()) q9=some (match sQ no A with | some i=>Sum.inl ((i:Int),()) | none=>Sum.inr ()):=by
  intro m hm
  refine cx (Inv:=fun i X=>X=((no,L,(L.length:Int),(i:Int),()):mS)/\∀ j,j<i->∀ x,(bT A)[j]? =some x->¬x.no=no) L.length (fun z=>z=some (match sQ no A with | some i=>Sum.inl ((i:Int),()) | none=>Sum.inr ())) ?_ ?_ m 0 _ ⟨rfl,fun j hj=>absurd hj (aie _)⟩ (aik _) (by omega)
  ·rintro i X again hi ⟨rfl,hno⟩ hag
   unfold q9
   dsimp only
   have hi2:i<(bT A).length:=by rw[<- hB.len];exact hi
   have hx:(bT A)[i]? =some (bT A)[i]:=agU hi2
   obtain⟨y,hy,hr⟩:=hB.get hx
   rw[aiD (show (i:Int)<(L.length:Int) by omega),aiz,cF hy,aim,hr.st]
   show (bif (bT A)[i].no==no then _ else _)=_
   by_cases e:(bT A)[i].no=no
   ·rw[show ((bT A)[i].no==no)=true by simpa using e,aiz]
    have:sQ no A=some i:=agM.2 ⟨hi2,aiD e,fun j hj=>by
     have:=hno j hj _ (agU (by omega))
     simpa using this⟩
    rw[this]
   ·rw[cY e,aiy,ax (n:=(i:Int)+1) (by omega) (by omega)]
    refine hag _ ⟨rfl,fun j hj x hjx=> ?_⟩
    by_cases c:j=i
    ·subst c;rw[hx] at hjx;cases hjx;exact e
    ·exact hno j (by omega) x hjx
  ·rintro X again ⟨rfl,hno⟩
   unfold q9
   dsimp only
   rw[aiB (show ¬(L.length:Int)<(L.length:Int) by omega),aiy]
   have:sQ no A=none:=agL.2 fun x hx=>by
    obtain⟨j,hj⟩:=ahr.1 hx
    have:=hno j (by rw[hB.len];exact (agW.1 hj).1) x hj
    simpa using this
   rw[this]
 rw[this _ (by omega)]
 cases sQ no A<;>rfl
theorem aaK {x:ak} (hx:LOk x) (he0:0<=cm o) (he1:cm o<=1000):BA (o,l,L,ref) (bM x)=some (x.ord+x.ord*cm o / 1000,()):=by
 have b4:=hx.uO;have b5:=hx.ord1
 have m0:0<=x.ord*cm o:=agd b4 he0
 have m1:x.ord*cm o<=x.ord*1000:=agc he1 b4
 have d0:0<=x.ord*cm o / 1000:=Int.ediv_nonneg m0 (by omega)
 have d1:x.ord*cm o / 1000<=x.ord:=by omega
 unfold BA
 dsimp only
 rw[show (bM x).2.2.2.1=bQ x.ord from rfl,uE (cV (n:=x.ord) (by omega)),aim]
 dsimp only
 rw[show o.2.2.2.2.1=cm o from rfl,ax (n:=x.ord*cm o) (by omega) (by omega),ago m0]
 first
  | rw[ax (n:=x.ord*cm o / 1000) (by omega) (by omega),ax (n:=x.ord+x.ord*cm o / 1000) (by omega) (by omega)]
  | rw[ax (n:=x.ord+x.ord*cm o / 1000) (by omega) (by omega)]
theorem Ux {x:ak} (hx:LOk x):AA (bM x)=some (bQ (x.shp - x.ret),()):=by
 have:=hx.ret0;have:=hx.retr;have:=hx.rcvs;have:=hx.shp1
 exact SG (s:=bM x) (cV (n:=x.shp) (by omega)) (cV (n:=x.ret) (by omega))
theorem Us {z:Int}:decide (z.sign>0)=decide (0<z):=by
 rw[aiA]
 exact Int.sign_pos_iff
theorem aeu {z:Int}:decide (z.sign<0)=decide (z<0):=by
 rw[aiA]
 exact Int.sign_neg_iff
set_option maxHeartbeats 1000000 in
theorem V5 (hB:AR l P A L) (hA:Good l A) (hI:Ids A) (hl:∀ d,d∈l->bH d=0) (he:0<=cm o/\cm o<=1000) {i:Nat} {d:aa} (hd:l[i]? =some d): vk (o,l,L,ref) (i:Int)=some ((cB o l i d A).1,()):=by
 have hL:L.length=A.length:=by rw[hB.len,(eL A).length_eq]
 obtain⟨_,_,_,hk,_,_,hu⟩:=bW (hl d (ahu hd))
 obtain⟨uq,_⟩:=dM hu
 have huses:=NU hk
 unfold vk
 dsimp only
 rw[cF hd,aim,GD hB hI.len l,aim,huses]
 dsimp only
 cases hf:sQ d.2.2.2.2.1 A with
 | none=>
  obtain⟨hfl,_⟩:=KF hf
  dsimp only
  rw[show decide ((-1:Int)<0)=true from rfl,aiz,aiz,aiz]
  by_cases k1:aM d=1
  ·rw[show (d.2.2.2.1==1)=true by simpa using k1]
   rw[show (!(true==true))=false from rfl,aiy,aim]
   have hz:cB o l i d A=if 500<=A.length then (16,A) else if gU d<dw o then (1,A) else (0,A++[gx i d]):=by
    unfold cB
    rw[aiM k1,show eF (dx d) A=none from hfl]
   rw[hz,hL]
   by_cases c1:500<=A.length
   ·rw[aiM c1,aiD (show (A.length:Int)>=500 by omega),aiz]
   ·rw[aiL c1,aiB (show ¬(A.length:Int)>=500 by omega),aiy,aim]
    rw[show usU d.2.2.2.1=true by rw[show d.2.2.2.1=1 from k1];rfl,aiz,aim]
    by_cases c2:gU d<dw o
    ·rw[aiM c2,aiD (show d.2.2.2.2.2.2.2.2.2.1<o.2.2.2.1 from c2),aiz]
    ·rw[aiL c2,aiB (show ¬d.2.2.2.2.2.2.2.2.2.1<o.2.2.2.1 from c2),aiy]
  ·rw[cY k1]
   rw[show (!(true==false))=true from rfl,aiz,Kp k1 hfl]
 | some k=>
  obtain⟨x,j,hx,hxn,hfl,hxj⟩:=KG hI hf
  obtain⟨y,hy,hr⟩:=hB.get hx
  obtain⟨hx1,hx2⟩:=hA.sound.line x (ahu hxj)
  have b0:=hx1.ret0;have b1:=hx1.retr;have b2:=hx1.rcvs;have b3:=hx1.shp1;have b4:=hx1.uO;have b5:=hx1.ord1
  obtain⟨p1,p2⟩:=ace hx1
  dsimp only
  rw[aiB (show ¬(k:Int)<0 by omega),aiy,aiy,aiy]
  by_cases k1:aM d=1
  ·rw[show (d.2.2.2.1==1)=true by simpa using k1]
   have hz:cB o l i d A=(7,A):=by
    unfold cB
    rw[aiM k1,show eF (dx d) A=some j from hfl]
   rw[hz];rfl
  rw[cY k1,show (!(false==false))=false from rfl,aiy,aim,aiy,aim,MT k1 hfl hxj,cF hy,aim]
  obtain⟨day,byy,no,kind,line,art,q,unit,p,un,to⟩:=d
  dsimp only at hk k1 uq huses hf hfl ⊢
  obtain⟨ys,yw,yo,ye⟩:=y
  have r1:=hr.st;have r2:=hr.wish;have r3:=hr.off0;have r4:=hr.off1
  dsimp only at r1 r2 r3 r4
  subst r1;subst r2
  have k1':kind≠1:=k1
  have hk':1<=kind/\kind<=11:=hk
  have h11:kind=2\/kind=3\/kind=4\/kind=5\/kind=6\/kind=7\/kind=8\/kind=9\/kind=10\/kind=11:=by omega
  rcases h11 with rfl | rfl | rfl | rfl | rfl | rfl | rfl | rfl | rfl | rfl
  all_goals simp only[Int.reduceBEq,aiz,aiy,aR,show usU 2=false from rfl,show usU 3=true from rfl,show usU 4=false from rfl,show usU 5=false from rfl,show usU 6=false from rfl,show usU 7=true from rfl,show usU 8=false from rfl,show usU 9=false from rfl,show usU 10=false from rfl,show usU 11=false from rfl]
  ·rw[aim,aiy]
   by_cases h:0<=x.wish
   ·rw[aiD (show x.wish>=0 from h),aiz];simp[bA,vC,aM,h]
   ·rw[aiB (show ¬x.wish>=0 from h),aiy];simp[bA,vC,aM,h]
  ·rw[aim]
   by_cases c:un<dw o
   ·rw[aiD (show un<o.2.2.2.1 from c),aiz];simp[bA,vC,aM,gU,c]
   ·rw[aiB (show ¬un<o.2.2.2.1 from c),aiy]
    by_cases h:0<=x.wish
    ·rw[aiD (show x.wish>=0 from h),aiz];simp[bA,vC,aM,gU,c,h]
    ·rw[aiB (show ¬x.wish>=0 from h),aiy];simp[bA,vC,aM,gU,c,h]
  ·rw[aim,aiy]
   by_cases h:0<=x.wish
   ·rw[aiD (show x.wish>=0 from h),aiz];simp[bA,vC,aM,h]
   ·rw[aiB (show ¬x.wish>=0 from h),aiy];simp[bA,vC,aM,h]
  ·rw[aim,aiy]
   by_cases h:x.wish<0
   ·rw[aiD h,aiz];simp[bA,b8,aM,h]
   ·rw[aiB h,aiy]
    obtain⟨w,hw1,hw2⟩:=hx2.kind (by omega)
    obtain⟨_,_,_,_,_,_,hwu⟩:=bW (hl w (ahu hw1))
    have hwq:=(dM hwu).1
    rw[KJ (by omega) hw1,aim]
    have hact:(bA o l i (day,byy,no,5,line,art,q,unit,p,un,to) x).1=(b8 l (day,byy,no,5,line,art,q,unit,p,un,to) x).1:=by
     unfold bA
     rw[aiL (show ¬(5:Int)<=4 by omega),aiM (show (5:Int)<=6 by omega)]
     split
     ·rename_i h0;rw[h0]
     ·rfl
    rw[hact]
    unfold b8
    rw[aiL h,uI hw1]
    by_cases e:dNo w=to
    ·rw[show (w.2.2.1 != to)=false by simpa using e,aiy,aiL (show ¬dNo w≠to from fun h=>h e),aiM (show (5:Int)=5 from rfl),aim]
     by_cases k2:aM w=2
     ·rw[show (w.2.2.2.1==2)=true by simpa using k2,aiz,aim,aiM k2]
      have hm:=rN (hwq (by rw[k2];rfl))
      have ha:=Ux hx1
      unfold bM at ha ⊢
      dsimp only at ha ⊢
      rw[ha,aim]
      dsimp only
      rw[BE hm (cV (n:=x.shp - x.ret) (by omega)),aim,aim,aeu]
      by_cases c:aW (dQ w)<x.shp - x.ret
      ·rw[aiM c,aiD (by omega),aiz]
      ·rw[aiL c,aiB (by omega),aiy]
     ·rw[cY k2,aiy,aim,aiL k2]
      by_cases k3:aM w=1
      ·rw[aiM k3];rfl
      ·rw[aiL k3]
       split<;>rfl
    ·rw[show (w.2.2.1 != to)=true by simpa using e,aiz,aiM (show dNo w≠to from e)]
  ·rw[aim,aiy]
   by_cases h:x.wish<0
   ·rw[aiD h,aiz];simp[bA,b8,aM,h]
   ·rw[aiB h,aiy]
    obtain⟨w,hw1,hw2⟩:=hx2.kind (by omega)
    rw[KJ (by omega) hw1,aim]
    have hact:(bA o l i (day,byy,no,6,line,art,q,unit,p,un,to) x).1=(b8 l (day,byy,no,6,line,art,q,unit,p,un,to) x).1:=by
     unfold bA
     rw[aiL (show ¬(6:Int)<=4 by omega),aiM (show (6:Int)<=6 by omega)]
     split
     ·rename_i h0;rw[h0]
     ·rfl
    rw[hact]
    unfold b8
    rw[aiL h,uI hw1]
    by_cases e:dNo w=to
    ·rw[show (w.2.2.1 != to)=false by simpa using e,aiy,aiL (show ¬dNo w≠to from fun h=>h e),aiL (show ¬(6:Int)=5 by omega)];rfl
    ·rw[show (w.2.2.1 != to)=true by simpa using e,aiz,aiM (show dNo w≠to from e)]
  ·rw[aim]
   have hact:(bA o l i (day,byy,no,7,line,art,q,unit,p,un,to) x).1=mI (dw o) (day,byy,no,7,line,art,q,unit,p,un,to) x:=by
    unfold bA
    rw[aiL (show ¬(7:Int)<=4 by omega),aiL (show ¬(7:Int)<=6 by omega),aiM (show (7:Int)=7 from rfl)]
    split
    ·rename_i h0;rw[h0]
    ·rfl
   rw[hact]
   unfold mI
   by_cases c:un<dw o
   ·rw[aiD (show un<o.2.2.2.1 from c),aiz,aiM (show un<dw o from c)]
   ·rw[aiB (show ¬un<o.2.2.2.1 from c),aiy,aiL (show ¬un<dw o from c)]
    by_cases h:0<=x.wish
    ·rw[aiD (show x.wish>=0 from h),aiz,aiM (Or.inl h)]
    ·rw[aiB (show ¬x.wish>=0 from h),aiy]
     have hs:=(QA 3 x.opn).2
     by_cases h0:x.opn=0
     ·rw[aiM (Or.inr h0),show ((bM x).2.2.2.2.2.2.2.2.2.1==0)=true from (show (((few 3 x.opn).1==(0:Int))=true) by simpa using hs.2 h0),aiz]
     ·rw[aiL (fun e=>e.elim h h0),cY (show ¬(bM x).2.2.2.2.2.2.2.2.2.1=0 from fun e=>h0 (hs.1 e)),aiy]
      have hm:=rN (show qOk q false=true from uq rfl)
      have:=BE hm (cV (n:=x.opn) (by omega))
      unfold bQ at this
      unfold bM bQ
      dsimp only at this ⊢
      rw[this,aim,Us]
      by_cases c:x.opn<aW q
      ·rw[aiM (show x.opn<aW (dQ (day,byy,no,7,line,art,q,unit,p,un,to)) from c),aiD (by omega),aiz]
      ·rw[aiL (show ¬x.opn<aW (dQ (day,byy,no,7,line,art,q,unit,p,un,to)) from c),aiB (by omega),aiy]
  ·rw[aim,aiy]
   have hact:(bA o l i (day,byy,no,8,line,art,q,unit,p,un,to) x).1=(Fb (day,byy,no,8,line,art,q,unit,p,un,to) x).1:=by
    unfold bA
    rw[aiL (show ¬(8:Int)<=4 by omega),aiL (show ¬(8:Int)<=6 by omega),aiL (show ¬(8:Int)=7 by omega),aiM (show (8:Int)=8 from rfl)]
   rw[hact]
   unfold Fb
   by_cases h:0<=x.wish
   ·rw[aiD (show x.wish>=0 from h),aiz,aiM h]
   ·rw[aiB (show ¬x.wish>=0 from h),aiy,aiL h]
    by_cases h0:x.ono=0
    ·rw[aiM (Or.inl h0),r3 h0];rfl
    ·obtain⟨jo,dd,e1,e2,e3,_⟩:=r4 h0
     rw[e1,aiB (show ¬(jo:Int)<0 by omega),aiy,cF e2,aim]
     by_cases e:x.ono=to
     ·rw[show (dd.2.2.1 != to)=false by have:dd.2.2.1=to:=e3.trans e
                                        simpa using this,aiy,aiL (fun h'=>h'.elim h0 fun h''=>h'' e)]
     ·rw[show (dd.2.2.1 != to)=true by have:¬dd.2.2.1=to:=fun h'=>e (e3.symm.trans h')
                                       simpa using this,aiz,aiM (Or.inr (show x.ono≠to from e))]
  ·rw[aim,aiy]
   have hq:qOk q false=true:=uq rfl
   have hm:=rN hq
   obtain⟨q0,q1,_⟩:=lV hq
   have hact:(bA o l i (day,byy,no,9,line,art,q,unit,p,un,to) x).1=(cL (cm o) (day,byy,no,9,line,art,q,unit,p,un,to) x).1:=by
    unfold bA
    rw[aiL (show ¬(9:Int)<=4 by omega),aiL (show ¬(9:Int)<=6 by omega),aiL (show ¬(9:Int)=7 by omega),aiL (show ¬(9:Int)=8 by omega),aiM (show (9:Int)=9 from rfl)]
    split
    ·rename_i h0;rw[h0]
    ·rfl
   rw[hact]
   have ha:=Ux hx1
   have hmo:=aaK (o:=o) (l:=l) (L:=L) (ref:=ref) hx1 he.1 he.2
   have m0:0<=x.ord*cm o:=agd b4 he.1
   have m1:x.ord*cm o<=x.ord*1000:=agc he.2 b4
   generalize hM:x.ord+x.ord*cm o / 1000=M at hmo
   have hs:=uE (cV (n:=x.shp) (by omega))
   unfold cL
   rw[aiM (show (9:Int)=9 from rfl),hM]
   unfold bM at ha hmo ⊢
   dsimp only at ha hmo hs hq hm q0 q1 ⊢
   rw[ha,aim]
   dsimp only
   rw[uE (cV (n:=x.shp - x.ret) (by omega)),aim,uE hm,aim,hmo,aim]
   dsimp only
   rw[ax (n:=x.shp - x.ret+aW q) (by omega) (by omega)]
   by_cases c:M<x.shp - x.ret+aW q
   ·rw[aiD (show x.shp - x.ret+aW q>M from c),aiz,aiM c]
   ·rw[aiB (show ¬x.shp - x.ret+aW q>M from c),aiy,aiL c,hs,aim,aim]
    dsimp only
    rw[ax (n:=x.shp+aW q) (by omega) (by omega)]
    by_cases c2:1000000000000000<x.shp+aW q
    ·rw[aiD (show x.shp+aW q>1000000000000000 from c2),aiz,aiM c2]
    ·rw[aiB (show ¬x.shp+aW q>1000000000000000 from c2),aiy,aiL c2]
  ·rw[aim,aiy]
   have hq:qOk q false=true:=uq rfl
   have hm:=rN hq
   obtain⟨q0,q1,_⟩:=lV hq
   have hact:(bA o l i (day,byy,no,10,line,art,q,unit,p,un,to) x).1=(cL (cm o) (day,byy,no,10,line,art,q,unit,p,un,to) x).1:=by
    unfold bA
    rw[aiL (show ¬(10:Int)<=4 by omega),aiL (show ¬(10:Int)<=6 by omega),aiL (show ¬(10:Int)=7 by omega),aiL (show ¬(10:Int)=8 by omega),aiL (show ¬(10:Int)=9 by omega)]
   rw[hact]
   unfold cL
   rw[aiL (show ¬(10:Int)=9 by omega),aiM (show (10:Int)=10 from rfl)]
   unfold bM
   dsimp only at hq hm q0 q1 ⊢
   rw[tr (cV (n:=x.rcv) (by omega)) hm,aim]
   dsimp only
   rw[BE (cV (n:=x.rcv+aW q) (by omega)) (cV (n:=x.shp) (by omega)),aim,Us]
   by_cases c:x.shp<x.rcv+aW q
   ·rw[aiM c,aiD (by omega),aiz]
   ·rw[aiL c,aiB (by omega),aiy]
  ·rw[aim,aiy]
   have hq:qOk q false=true:=uq rfl
   have hm:=rN hq
   obtain⟨q0,q1,_⟩:=lV hq
   have hact:(bA o l i (day,byy,no,11,line,art,q,unit,p,un,to) x).1=(cL (cm o) (day,byy,no,11,line,art,q,unit,p,un,to) x).1:=by
    unfold bA
    rw[aiL (show ¬(11:Int)<=4 by omega),aiL (show ¬(11:Int)<=6 by omega),aiL (show ¬(11:Int)=7 by omega),aiL (show ¬(11:Int)=8 by omega),aiL (show ¬(11:Int)=9 by omega)]
   rw[hact]
   unfold cL
   rw[aiL (show ¬(11:Int)=9 by omega),aiL (show ¬(11:Int)=10 by omega)]
   unfold bM
   dsimp only at hq hm q0 q1 ⊢
   rw[tr (cV (n:=x.ret) (by omega)) hm,aim]
   dsimp only
   rw[BE (cV (n:=x.ret+aW q) (by omega)) (cV (n:=x.rcv) (by omega)),aim,Us]
   by_cases c:x.rcv<x.ret+aW q
   ·rw[aiM c,aiD (by omega),aiz]
   ·rw[aiL c,aiB (by omega),aiy]
end Go.Md
set_option linter.all false
namespace Go.Md
open Go.Dn
theorem bs {α β:Type} {e:Option α} {f:α->Option β} {r:α} {z:Option β} (h:e=some r) (h2:f r=z):Option.bind e f=z:=by rw[h];exact h2
theorem cg (l:List aL) (hl:l.length<=2000):iK l=some (l,()):=by
 have oY:maxLen=9223372036854775807:=rfl
 have hc:(decide ((0+(List.length l))*152<=140737488355328)&&decide (0+(List.length l)<=maxLen))=true:=by
  rw[afP];exact⟨aiD (by omega),aiD (by omega)⟩
 unfold iK
 rw[eW hc]
 cases l with
 | nil=>simp[both]
 | cons x r=>rfl
theorem mA {x:ak} (hx:LOk x) (v:ah):qM (x.no,x.art,x.unit,bQ x.ord,pY x.price,x.due,bQ x.shp,bQ x.rcv,bQ x.ret,v)=some (bM x,()):=by
 have b0:=hx.ret0;have b1:=hx.retr;have b2:=hx.rcvs;have b3:=hx.shp1;have b4:=hx.uO;have b5:=hx.ord1
 exact Uk (s:=(x.no,x.art,x.unit,bQ x.ord,pY x.price,x.due,bQ x.shp,bQ x.rcv,bQ x.ret,v)) (cV (n:=x.ord) (by omega)) (cV (n:=x.shp) (by omega)) (cV (n:=x.ret) (by omega)) (by omega)
abbrev BkT:Type:=aj×(List aa)×(List au)×(List ah)×Unit
theorem acZ {o:aj} {l:List aa} {ref:List ah} {L1:List au} {k:Nat} {y:au} {x:ak} {v:ah} (hk:L1[k]? =some y)
 (hs:y.1=(x.no,x.art,x.unit,bQ x.ord,pY x.price,x.due,bQ x.shp,bQ x.rcv,bQ x.ret,v)) (hx:LOk x) (hev:y.2.2.2.length<=2000) (i:Int):
 (Option.bind (L1[k]?) fun y37=>Option.bind (qM y37.1) fun r38=>Option.bind (L1[k]?) fun y39=>Option.bind ((List.set L1 k (r38.1,y39.2))[k]?) fun y40=>
   Option.bind (iK y40.2.2.2) fun r41=>Option.bind ((List.set L1 k (r38.1,y39.2))[k]?) fun y42=>
   chk (decide (((r41.1.length)+1)*152<=140737488355328)&&decide ((r41.1.length)+1<=maxLen)) <|
   Option.bind ((List.set L1 k (r38.1,y39.2))[k]?) fun y43=>
   some (((o,l,List.set (List.set L1 k (r38.1,y39.2)) k (y43.1,y43.2.1,y43.2.2.1,r41.1++[(i,y42.1)]),ref,()):BkT),()))=
 some (((o,l,L1.set k (bM x,y.2.1,y.2.2.1,y.2.2.2++[(i,bM x)]),ref,()):BkT),()):=by
 have hlt:=(agW.1 hk).1
 have oY:maxLen=9223372036854775807:=rfl
 have hr:=mA hx v
 rw[<- hs] at hr
 rw[hk,aim,hr,aim,aim]
 dsimp only
 have hg:(List.set L1 k (bM x,y.2))[k]? =some (bM x,y.2):=by rw[ag2 hlt]
 rw[hg,aim,cg y.2.2.2 hev,aim,aim]
 dsimp only
 rw[eW (by rw[afP];exact⟨aiD (by omega),aiD (by omega)⟩),aim,ahE]
theorem WC {l:List aa} {L:List au} {k:Nat} {y:au} {w:aa} (hk:L[k]? =some y) (hw:idx l y.2.1=some w) (hf:bH w=0) (h4:aM w<=4): gX l L k=some (L.set k (if aM w<=2 then (y.1.1,y.1.2.1,y.1.2.2.1,bQ (aW (dQ w)),y.1.2.2.2.2) else if aM w=3 then (y.1.1,y.1.2.1,y.1.2.2.1,y.1.2.2.2.1,y.1.2.2.2.2.1,gU w,y.1.2.2.2.2.2.2) else (y.1.1,y.1.2.1,y.1.2.2.1,y.1.2.2.2.1,pY (Jn w),y.1.2.2.2.2.2), -1,y.2.2)):=by
 obtain⟨_,_,_,hkd,_,_,hu⟩:=bW hf
 obtain⟨uq,up,_⟩:=dM hu
 have hlt:=(agW.1 hk).1
 unfold gX kL
 rw[hk,aim,hw,aim]
 obtain⟨day,byy,no,kind,line,art,q,unit,p,un,to⟩:=w
 dsimp only at hkd h4 uq up ⊢
 have hkk:kind=1\/kind=2\/kind=3\/kind=4:=by
  have h1:1<=kind:=hkd.1
  have h2:kind<=4:=h4
  omega
 rcases hkk with rfl | rfl | rfl | rfl
 ·rw[IM (uq rfl)]
  simp only[Int.reduceBEq,aiz,aiy,aim,ag2 hlt,ahE]
  rfl
 ·rw[IM (uq rfl)]
  simp only[Int.reduceBEq,aiz,aiy,aim,ag2 hlt,ahE]
  rfl
 ·simp only[Int.reduceBEq,aiz,aiy,aim,ag2 hlt,ahE]
  rfl
 ·rw[IL (up rfl)]
  simp only[Int.reduceBEq,aiz,aiy,aim,ag2 hlt,ahE]
  rfl
end Go.Md
set_option linter.all false
namespace Go.Md
open Go.Dn
def ae9 (l:List aa) (x:ak) (off:Int):Prop:=
 (x.ono=0->off= -1)/\(x.ono≠0->∃ (j:Nat) (d:aa),off=(j:Int)/\l[j]? =some d/\dNo d=x.ono/\aW (dQ d)=x.oq/\gU d=x.ount/\aM d=7)
variable {o:aj} {l:List aa} {A:List ak} {L:List au} {ref:List ah} {P:Int->List aL}
theorem D7 {β:Type} {n:Nat} {x y:Option β} (h:n<=2000) (e:x=y):chk (decide ((n+1)*152<=140737488355328)&&decide (n+1<=maxLen)) x=y:=by
 have oY:maxLen=9223372036854775807:=rfl
 rw[eW (by rw[afP];exact⟨aiD (by omega),aiD (by omega)⟩),e]
theorem PY {o:aj} {l:List aa} {i:Nat} {d:aa} {x:ak} (hk:aM d<=4) (h0:(bA o l i d x).1=0):(bA o l i d x).2={ x with wish:=(i:Int) }:=by
 unfold bA vC at h0 ⊢
 rw[aiM hk] at h0 ⊢
 split at h0
 ·cases h0
 ·rename_i h1
  rw[aiL h1]
  split at h0
  ·cases h0
  ·rename_i h2
   rw[aiL h2]
theorem aez {o:aj} {l:List aa} {i:Nat} {d:aa} {x:ak} (hk:aM d=6) (h0:(bA o l i d x).1=0):(bA o l i d x).2=({ x with wish:= -1 }:ak).clr:=by
 unfold bA at h0 ⊢
 rw[aiL (show ¬aM d<=4 by omega),aiM (show aM d<=6 by omega)] at h0 ⊢
 have h0':(b8 l d x).1=0:=by
  split at h0
  ·rename_i h;exact h
  ·exact h0
 rw[aiM h0']
 unfold b8 at h0' ⊢
 split at h0'
 ·cases h0'
 ·rename_i h1
  rw[aiL h1]
  split at h0'
  ·cases h0'
  ·rename_i h2
   rw[aiL h2,aiL (show ¬aM d=5 by omega)]
theorem adM {o:aj} {l:List aa} {i:Nat} {d w:aa} {x:ak} (hw:l[x.wish.toNat]? =some w) (hw4:1<=aM w/\aM w<=4) (hk:aM d=5) (h0:(bA o l i d x).1=0): (bA o l i d x).2=(if aM w<=2 then ({ x with ord:=aW (dQ w),wish:= -1 }:ak) else if aM w=3 then { x with due:=gU w,wish:= -1 } else { x with price:=Jn w,wish:= -1 }).clr:=by
 unfold bA at h0 ⊢
 rw[aiL (show ¬aM d<=4 by omega),aiM (show aM d<=6 by omega)] at h0 ⊢
 have h0':(b8 l d x).1=0:=by
  split at h0
  ·rename_i h;exact h
  ·exact h0
 rw[aiM h0']
 unfold b8 at h0' ⊢
 rw[uI hw] at h0' ⊢
 split at h0'
 ·cases h0'
 ·rename_i h1
  rw[aiL h1]
  split at h0'
  ·cases h0'
  ·rename_i h2
   rw[aiL h2,aiM hk]
   by_cases k2:aM w=2
   ·rw[aiM k2] at h0' ⊢
    rw[aiM (show aM w<=2 by omega)]
    split at h0'
    ·cases h0'
    ·rename_i h3
     rw[aiL h3]
   ·rw[aiL k2]
    by_cases k3:aM w=1
    ·rw[aiM k3,aiM (show aM w<=2 by omega)]
    ·rw[aiL k3,aiL (show ¬aM w<=2 by omega)]
     by_cases k4:aM w=3
     ·rw[aiM k4,aiM k4]
     ·rw[aiL k4,aiL k4]
theorem adu {o:aj} {l:List aa} {i:Nat} {d:aa} {x:ak} (hk:aM d=5) (h0:(bA o l i d x).1=0):0<=x.wish:=by
 unfold bA at h0
 rw[aiL (show ¬aM d<=4 by omega),aiM (show aM d<=6 by omega)] at h0
 have h0':(b8 l d x).1=0:=by
  split at h0
  ·rename_i h;exact h
  ·exact h0
 unfold b8 at h0'
 split at h0'
 ·cases h0'
 ·omega
theorem aa3 {o:aj} {l:List aa} {i:Nat} {d:aa} {x:ak} (hk:aM d=7) (h0:(bA o l i d x).1=0):(bA o l i d x).2={ x with ono:=dNo d,oq:=aW (dQ d),ount:=gU d }:=by
 unfold bA at h0 ⊢
 rw[aiL (show ¬aM d<=4 by omega),aiL (show ¬aM d<=6 by omega),aiM hk] at h0 ⊢
 split at h0
 ·rename_i h;rw[aiM h]
 ·rename_i h;exact absurd h0 h
theorem acL {o:aj} {l:List aa} {i:Nat} {d:aa} {x:ak} (hk:aM d=8) (h0:(bA o l i d x).1=0):x.ono≠0/\(bA o l i d x).2={ x with ord:=x.shp - x.ret+x.oq,due:=x.ount,ono:=0,oq:=0,ount:=0 }:=by
 unfold bA Fb at h0 ⊢
 rw[aiL (show ¬aM d<=4 by omega),aiL (show ¬aM d<=6 by omega),aiL (show ¬aM d=7 by omega),aiM hk] at h0 ⊢
 split at h0
 ·cases h0
 ·rename_i h1
  rw[aiL h1]
  split at h0
  ·cases h0
  ·rename_i h2
   rw[aiL h2]
   exact⟨fun e=>h2 (Or.inl e),rfl⟩
theorem acK {o:aj} {l:List aa} {i:Nat} {d:aa} {x:ak} (hk:aM d=9) (h0:(bA o l i d x).1=0):(bA o l i d x).2=({ x with shp:=x.shp+aW (dQ d) }:ak).clr:=by
 unfold bA at h0 ⊢
 rw[aiL (show ¬aM d<=4 by omega),aiL (show ¬aM d<=6 by omega),aiL (show ¬aM d=7 by omega),aiL (show ¬aM d=8 by omega),aiM hk] at h0 ⊢
 have h0':(cL (cm o) d x).1=0:=by
  split at h0
  ·rename_i h;exact h
  ·exact h0
 rw[aiM h0']
 unfold cL at h0' ⊢
 rw[aiM hk] at h0' ⊢
 split at h0'
 ·cases h0'
 ·rename_i h1
  rw[aiL h1]
  split at h0'
  ·cases h0'
  ·rename_i h2
   rw[aiL h2]
theorem acI {o:aj} {l:List aa} {i:Nat} {d:aa} {x:ak} (hk:aM d=10) (h0:(bA o l i d x).1=0):(bA o l i d x).2={ x with rcv:=x.rcv+aW (dQ d) }:=by
 unfold bA cL at h0 ⊢
 rw[aiL (show ¬aM d<=4 by omega),aiL (show ¬aM d<=6 by omega),aiL (show ¬aM d=7 by omega),aiL (show ¬aM d=8 by omega),aiL (show ¬aM d=9 by omega),aiL (show ¬aM d=9 by omega),aiM hk] at h0 ⊢
 split at h0
 ·cases h0
 ·rename_i h1
  rw[aiL h1]
theorem acJ {o:aj} {l:List aa} {i:Nat} {d:aa} {x:ak} (hk:aM d=11) (h0:(bA o l i d x).1=0):(bA o l i d x).2={ x with ret:=x.ret+aW (dQ d) }:=by
 unfold bA cL at h0 ⊢
 rw[aiL (show ¬aM d<=4 by omega),aiL (show ¬aM d<=6 by omega),aiL (show ¬aM d=7 by omega),aiL (show ¬aM d=8 by omega),aiL (show ¬aM d=9 by omega),aiL (show ¬aM d=9 by omega),aiL (show ¬aM d=10 by omega)] at h0 ⊢
 split at h0
 ·cases h0
 ·rename_i h1
  rw[aiL h1]
theorem ac4 {kind byy:Int} (h1:1<=kind/\kind<=11) (h2:1<=byy/\byy<=2) (h3:(kind=5\/kind=6\/kind=7\/kind=9)↔byy=2) (k1:kind≠1):(kind=2/\byy=1)\/(kind=3/\byy=1)\/(kind=4/\byy=1)\/(kind=5/\byy=2)\/(kind=6/\byy=2)\/(kind=7/\byy=2)\/(kind=8/\byy=1)\/(kind=9/\byy=2)\/(kind=10/\byy=1)\/(kind=11/\byy=1):=by omega
set_option maxHeartbeats 2000000 in
theorem aai (hB:AR l P A L) (hA:Good l A) (hI:Ids A) (hl:∀ d,d∈l->bH d=0) (he:0<=cm o/\cm o<=1000) {i:Nat} {d:aa} (hd:l[i]? =some d) {k:Nat} {x:ak} {y:au} (hf:sQ (dx d) A=some k) (hx:(bT A)[k]? =some x) (hy:L[k]? =some y) (hr:Tc l P x y) (hev:(P x.no).length<=2000) (hx1:LOk x) (hx2:WOk l x) (hx':LOk (bA o l i d x).2) (k1:aM d≠1) (h0:(bA o l i d x).1=0): ∃ off,kV (o,l,L,ref,()) (i:Int)=some ((o,l,L.set k (bM (bA o l i d x).2,(bA o l i d x).2.wish,off,P x.no++[((i:Int),bM (bA o l i d x).2)]),ref,()),())/\ae9 l (bA o l i d x).2 off:=by
 obtain⟨_,hb2,hno,hk,hby,_,hu⟩:=bW (hl d (ahu hd))
 obtain⟨uq,_⟩:=dM hu
 have b0:=hx1.ret0;have b1:=hx1.retr;have b2:=hx1.rcvs;have b3:=hx1.shp1;have b4:=hx1.uO;have b5:=hx1.ord1
 have hlt:=(agW.1 hy).1
 unfold kV
 dsimp only
 rw[cF hd,aim,show ((o,l,L,ref):eN)=(o,l,L,ref) from rfl,GD hB hI.len l,aim,show sQ d.2.2.2.2.1 A=some k from hf]
 dsimp only
 rw[aiB (show ¬(k:Int)<0 by omega),aiy,aR]
 dsimp only
 rw[eW (by rw[afP];exact⟨aiD (by omega),aiD (by omega)⟩),agq]
 obtain⟨day,byy,no,kind,line,art,q,unit,p,un,to⟩:=d
 dsimp only at hk k1 uq hby hb2 hno hf ⊢
 obtain⟨ys,yw,yo,ye⟩:=y
 have r1:=hr.st;have r2:=hr.wish;have r3:=hr.off0;have r4:=hr.off1;have r5:=hr.ev
 dsimp only at r1 r2 r3 r4 r5
 subst r1;subst r2;subst r5
 have k1':kind≠1:=k1
 have hk':1<=kind/\kind<=11:=hk
 have h11:=ac4 hk' hb2 hby k1'
 rcases h11 with ⟨rfl,rfl⟩ | ⟨rfl,rfl⟩ | ⟨rfl,rfl⟩ | ⟨rfl,rfl⟩ | ⟨rfl,rfl⟩ | ⟨rfl,rfl⟩ | ⟨rfl,rfl⟩ | ⟨rfl,rfl⟩ | ⟨rfl,rfl⟩ | ⟨rfl,rfl⟩
 all_goals simp only[Int.reduceBEq,aiz,aiy,aR,hy,aim,ag2 hlt,ahE]
 ·have e:(bA o l i (day,1,no,2,line,art,q,unit,p,un,to) x).2={ x with wish:=(i:Int) }:=PY (by show (2:Int)<=4;omega) h0
  rw[e] at hx' ⊢
  exact⟨yo,bs (mA hx' (bQ x.opn)) (bs (cg _ hev) (D7 hev rfl)),r3,r4⟩
 ·have e:(bA o l i (day,1,no,3,line,art,q,unit,p,un,to) x).2={ x with wish:=(i:Int) }:=PY (by show (3:Int)<=4;omega) h0
  rw[e] at hx' ⊢
  exact⟨yo,bs (mA hx' (bQ x.opn)) (bs (cg _ hev) (D7 hev rfl)),r3,r4⟩
 ·have e:(bA o l i (day,1,no,4,line,art,q,unit,p,un,to) x).2={ x with wish:=(i:Int) }:=PY (by show (4:Int)<=4;omega) h0
  rw[e] at hx' ⊢
  exact⟨yo,bs (mA hx' (bQ x.opn)) (bs (cg _ hev) (D7 hev rfl)),r3,r4⟩
 ·have hwi:=adu rfl h0
  obtain⟨w,hw1,hw2⟩:=hx2.kind hwi
  have hwf:=hl w (ahu hw1)
  obtain⟨_,_,_,hwk,_⟩:=bW hwf
  have e:=adM hw1 ⟨hwk.1,hw2⟩ rfl h0
  rw[e] at hx' ⊢
  have hg:(L.set k (bM x,x.wish, -1,P x.no))[k]? =some (bM x,x.wish, -1,P x.no):=ag2 hlt
  rw[WC hg (KJ hwi hw1) hwf hw2,aim,aR]
  simp only[ahE,ag2 hlt,aim]
  refine⟨-1, ?_,fun _=> ?_,fun h=>absurd ?_ h⟩
  ·by_cases c2:aM w<=2
   ·simp only[aiM c2] at hx' ⊢
    exact bs (mA hx' (bQ x.opn)) (bs (cg _ hev) (D7 hev rfl))
   ·by_cases c3:aM w=3
    ·simp only[aiL c2,aiM c3] at hx' ⊢
     exact bs (mA hx' (bQ x.opn)) (bs (cg _ hev) (D7 hev rfl))
    ·simp only[aiL c2,aiL c3] at hx' ⊢
     exact bs (mA hx' (bQ x.opn)) (bs (cg _ hev) (D7 hev rfl))
  ·rfl
  ·rfl
 ·have e:=aez rfl h0
  rw[e] at hx' ⊢
  exact⟨-1,bs (mA hx' (bQ x.opn)) (bs (cg _ hev) (D7 hev rfl)),fun _=>rfl,fun h=>absurd rfl h⟩
 ·have e:=aa3 rfl h0
  rw[e] at hx' ⊢
  exact⟨i,bs (mA hx' (bQ x.opn)) (bs (cg _ hev) (D7 hev rfl)),fun h=>absurd h (by show ¬no=0;omega),fun _=>⟨i,_,rfl,hd,rfl,rfl,rfl,rfl⟩⟩
 ·obtain⟨hne,e⟩:=acL rfl h0
  rw[e] at hx' ⊢
  obtain⟨jo,dd,e1,e2,e3,e4,e5,e6⟩:=r4 hne
  subst e1
  obtain⟨_,_,_,_,_,_,hdu⟩:=bW (hl dd (ahu e2))
  have hdq:qOk (dQ dd) (aM dd==2)=true:=(dM hdu).1 (by rw[e6];rfl)
  have hp:mz (bQ (x.shp - x.ret)) (dQ dd)=some (bQ (x.shp - x.ret+x.oq),()):=by
   rw[<- e4];exact tr (cV (n:=x.shp - x.ret) (by omega)) (rN hdq)
  rw[Ux hx1,aim,cF e2,aim]
  simp only[aim]
  rw[hp,aim,aR]
  simp only[ahE,ag2 hlt,aim]
  have e5':dd.2.2.2.2.2.2.2.2.2.1=x.ount:=e5
  rw[e5']
  exact⟨-1,bs (mA hx' (bQ x.opn)) (bs (cg _ hev) (D7 hev rfl)),fun _=>rfl,fun h=>absurd rfl h⟩
 ·have e:=acK rfl h0
  rw[e] at hx' ⊢
  have hp:mz (bM x).2.2.2.2.2.2.1 (q.1,q.2)=some (bQ (x.shp+aW q),()):=tr (cV (n:=x.shp) (by omega)) (rN (show qOk q false=true from uq rfl))
  rw[hp,aim,aR]
  simp only[ahE,ag2 hlt,aim]
  exact⟨-1,bs (mA hx' (bQ x.opn)) (bs (cg _ hev) (D7 hev rfl)),fun _=>rfl,fun h=>absurd rfl h⟩
 ·have e:=acI rfl h0
  rw[e] at hx' ⊢
  have hp:mz (bM x).2.2.2.2.2.2.2.1 (q.1,q.2)=some (bQ (x.rcv+aW q),()):=tr (cV (n:=x.rcv) (by omega)) (rN (show qOk q false=true from uq rfl))
  rw[hp,aim,aR]
  simp only[ahE,ag2 hlt,aim]
  exact⟨yo,bs (mA hx' (bQ x.opn)) (bs (cg _ hev) (D7 hev rfl)),r3,r4⟩
 ·have e:=acJ rfl h0
  rw[e] at hx' ⊢
  have hp:mz (bM x).2.2.2.2.2.2.2.2.1 (q.1,q.2)=some (bQ (x.ret+aW q),()):=tr (cV (n:=x.ret) (by omega)) (rN (show qOk q false=true from uq rfl))
  rw[hp,aim,aR]
  simp only[ahE,ag2 hlt,aim]
  exact⟨yo,bs (mA hx' (bQ x.opn)) (bs (cg _ hev) (D7 hev rfl)),r3,r4⟩
end Go.Md
set_option linter.all false
namespace Go.Md
open Go.Dn
variable {o:aj} {l:List aa} {A:List ak} {L:List au} {ref:List ah} {P:Int->List aL}
theorem TY {α:Type} (l:List α) {p:Nat} (v:α) (h:p<=l.length):(l.take p++(v::l.drop p))[p]? =some v:=by
 rw[agQ (by rw[ahe];omega),ahe,show p - min p l.length=0 by omega];rfl
theorem ad4 {α:Type} (l:List α) {p:Nat} (v v':α) (h:p<=l.length):(l.take p++(v::l.drop p)).set p v'=l.take p++(v'::l.drop p):=by
 rw[List.set_append_right _ _ (by rw[ahe];omega),ahe,show p - min p l.length=0 by omega];rfl
theorem Wn:bQ 0=(0,0):=by unfold bQ;rw[QB];rfl
theorem aaB (i:Nat) (d:aa):LOk (gx i d):=⟨by show (0:Int)<=0;omega,by show (0:Int)<=0;omega,by show (0:Int)<=0;omega,by show (0:Int)<=_;omega,by show (0:Int)<=0;omega,by show (0:Int)<=_;omega,fun e=>absurd rfl e⟩
theorem aak {M:List ak} (hlen:L.length=M.length) (hst:∀ (k:Nat) x y,M[k]? =some x->L[k]? =some y->y.1=bM x) (hM:M.length<=500) (n:Nat) (hn:M.length<n) {a b c e e9 f g i2 j2 k2 p2 q2 r2:Int} {u v w s t:Bys} {no:Int} {z1:List aF}: iter (X:=mR) (β:=q8) n (a,0,b,c,e,f,no,u,g,i2,v,j2,k2,p2,q2,w,s,t,r2,e9,z1,l,L,ref,()) q7= some (Sum.inr (a,(gF no M:Int),b,c,e,f,no,u,g,i2,v,j2,k2,p2,q2,w,s,t,r2,e9,z1,l,L,ref,())):=by
 have hp:=Ox no M
 refine cx (Inv:=fun i X=>X=((a,(i:Int),b,c,e,f,no,u,g,i2,v,j2,k2,p2,q2,w,s,t,r2,e9,z1,l,L,ref,()):mR)) (gF no M) (fun z=>z=some (Sum.inr (a,(gF no M:Int),b,c,e,f,no,u,g,i2,v,j2,k2,p2,q2,w,s,t,r2,e9,z1,l,L,ref,()))) ?_ ?_ n 0 _ rfl (aik _) (by omega)
 ·rintro i X again hi rfl hag
  unfold q7
  dsimp only
  have hi2:i<M.length:=by omega
  have hy:L[i]? =some L[i]:=agU (by omega)
  have hs:=hst i _ _ (agU hi2) hy
  rw[aiD (show (i:Int)<(L.length:Int) by omega),aiz]
  rw[eW (by rw[afP];exact⟨aiD (by omega),rfl⟩),agq,hy,aim,aim,hs]
  have hlt:=ZL no M i _ hi (agU hi2)
  dsimp only
  rw[aiD (show (bM M[i]).1<no from hlt),aiz,ax (n:=(i:Int)+1) (by omega) (by omega)]
  exact hag _ rfl
 ·rintro X again rfl
  unfold q7
  dsimp only
  by_cases h:gF no M<M.length
  ·have hy:L[gF no M]? =some (L[gF no M]'(by omega)):=agU (by omega)
   have hs:=hst _ _ _ (agU h) hy
   rw[aiD (show ((gF no M:Nat):Int)<(L.length:Int) by omega),aiz]
   rw[eW (by rw[afP];exact⟨aiD (by omega),rfl⟩),agq,hy,aim,aim,hs]
   have hge:=ZK no M _ (agU h)
   dsimp only
   rw[aiB (show ¬(bM M[gF no M]).1<no from hge),aiy]
  ·rw[aiB (show ¬((gF no M:Nat):Int)<(L.length:Int) by omega),aiy]
   rfl
set_option maxHeartbeats 1000000 in
theorem aaj (hB:AR l P A L) (hI:Ids A) (hl:∀ d,d∈l->bH d=0) {i:Nat} {d:aa} (hd:l[i]? =some d) (hf:sQ (dx d) A=none) (k1:aM d=1): kV (o,l,L,ref,()) (i:Int)=some ((o,l,L.take (gF (dx d) (bT A))++((bM (gx i d),(i:Int), -1,[((i:Int),bM (gx i d))])::L.drop (gF (dx d) (bT A))),ref,()),()):=by
 obtain⟨_,hb2,hno,hk,hby,_,hu⟩:=bW (hl d (ahu hd))
 obtain⟨_,up,_⟩:=dM hu
 have hlen:=hI.len
 have hsl:(bT A).length=A.length:=(eL A).length_eq
 have hL:=hB.len
 have hps:=Ox (dx d) (bT A)
 unfold kV
 dsimp only
 rw[cF hd,aim,GD hB hI.len l,aim,show sQ d.2.2.2.2.1 A=none from hf]
 dsimp only
 rw[aiD (show (-1:Int)<0 by omega),aiz]
 rw[aak (M:=bT A) hB.len (fun k x y hx hy=>(hB.rel k x y hx hy).st) (by omega) _ (by omega),aR]
 dsimp only
 obtain⟨day,byy,no,kind,line,art,q,unit,p,un,to⟩:=d
 dsimp only at hk k1 up hby hb2 hno hf ⊢
 have hps:gF line (bT A)<=(bT A).length:=hps
 have k1':kind=1:=k1
 subst k1'
 have hb1:byy=1:=by omega
 subst hb1
 rw[show eY (p.1,p.2)=some (pY p,()) from IL (up rfl),aim]
 dsimp only
 have hins:∀ v,gY L (gF line (bT A):Int) [v]=some (L.take (gF line (bT A))++(v::L.drop (gF line (bT A))),()):=by
  intro v
  show (bif _ then _ else _)=_
  rw[show (decide (0<=((gF line (bT A):Nat):Int))&&(decide (((gF line (bT A):Nat):Int)<=(L.length:Int))&&(decide (0<[v].length)&&(decide ((L.length+[v].length)*184<=140737488355328)&&decide (L.length+[v].length<=4611686018427387904)))))=true by
   simp only[afP,aiE,List.length_singleton];omega,aiz,agq]
  rfl
 rw[hins,aim,aR]
 dsimp only
 have hpl:gF line (bT A)<=L.length:=by omega
 rw[eW (by rw[afP];exact⟨aiD (by omega),aiD (by simp;omega)⟩),agq]
 simp only[Int.reduceBEq,aiz,aiy,aR]
 generalize hV:((((line,art,unit,(0,0),pY p,un,(0,0),(0,0),(0,0),0,0):aq),(i:Int), -1,[]):au)=v
 have hget:=TY L v hpl
 have hset:=fun v'=>ad4 L v v' hpl
 subst hV
 refine (acZ (x:=gx i (day,1,no,1,line,art,q,unit,p,un,to)) (v:=(0,0)) hget ?_ (aaB _ _) (by show 0<=2000;omega) (i:Int)).trans ?_
 ·show _=(line,art,unit,bQ 0,pY p,un,bQ 0,bQ 0,bQ 0,(0,0))
  rw[Wn]
 ·rw[hset];rfl
end Go.Md
set_option linter.all false
namespace Go.Md
open Go.Dn
theorem aeQ {M:List ak} (hs:M.Pairwise fun x y=>x.no<y.no) {m k:Nat} {a b:ak} (ha:M[m]? =some a) (hb:M[k]? =some b) (h:a.no=b.no):m=k:=by
 obtain⟨hm,rfl⟩:=agW.1 ha
 obtain⟨hk,rfl⟩:=agW.1 hb
 rw[ahA] at hs
 rcases ah8 m k with c | c | c
 ·have:=hs m k hm hk c;omega
 ·exact c
 ·have:=hs k m hk hm c;omega
variable {o:aj} {l:List aa} {A:List ak} {L:List au} {ref:List ah} {P:Int->List aL}
theorem aer {M:List ak} (p:Nat) (hp:p<=M.length) (hL:L.length=M.length) {P':Int->List aL} {x:ak} {y:au} (hr:∀ (k:Nat) a b,M[k]? =some a->L[k]? =some b->Tc l P' a b) (hxy:Tc l P' x y): ∀ (k:Nat) a b,(M.take p++x::M.drop p)[k]? =some a->(L.take p++y::L.drop p)[k]? =some b->Tc l P' a b:=by
 intro k a b ha hb
 rcases ah8 k p with c | c | c
 ·rw[agP (by rw[ahe];omega),ag4 c] at ha hb
  exact hr k a b ha hb
 ·subst c
  rw[TY M x hp] at ha
  rw[TY L y (by omega)] at hb
  cases ha;cases hb;exact hxy
 ·rw[agQ (by rw[ahe];omega),ahe,show k - min p M.length=(k - p - 1)+1 by omega,agR,agT] at ha
  rw[agQ (by rw[ahe];omega),ahe,show k - min p L.length=(k - p - 1)+1 by omega,agR,agT] at hb
  exact hr _ a b ha hb
theorem follow_eq (hB:AR l P A L) (hA:Good l A) (hI:Ids A) (hl:∀ d,d∈l->bH d=0) (he:0<=cm o/\cm o<=1000) (hP:∀ wt,(P wt).length<=2000) (hN:∀ wt,(∀ x,x∈A->x.no≠wt)->P wt=[]) {i:Nat} {d:aa} (hd:l[i]? =some d) (h0:(cB o l i d A).1=0): ∃ L',kV (o,l,L,ref,()) (i:Int)=some ((o,l,L',ref,()),())/\AR l (fun wt=>wz wt i d (cB o l i d A).2 (P wt)) (cB o l i d A).2 L':=by
 have hA':=EN (o:=o) hA hl hd
 by_cases k1:aM d=1
 ·cases hf:sQ (dx d) A with
  | some k=>
   obtain⟨x,j,_,_,hfl,_⟩:=KG hI hf
   unfold cB at h0
   rw[aiM k1,hfl] at h0
   cases h0
  | none=>
   obtain⟨hfl,hne⟩:=KF hf
   have hz:(cB o l i d A).2=A++[gx i d]:=by
    unfold cB at h0 ⊢
    rw[aiM k1,hfl] at h0 ⊢
    dsimp only at h0 ⊢
    split at h0
    ·cases h0
    ·rename_i c1
     rw[aiL c1]
     split at h0
     ·cases h0
     ·rename_i c2
      rw[aiL c2]
   refine⟨_,aaj hB hI hl hd hf k1, ?_⟩
   rw[hz]
   have hs:=adp hI (y:=gx i d) hne
   have hs':bT (A++[gx i d])=(bT A).take (gF (dx d) (bT A))++gx i d::(bT A).drop (gF (dx d) (bT A)):=hs
   have hps:=Ox (dx d) (bT A)
   have hlen:=hB.len
   have hlL:pZ (dx d) (A++[gx i d])=some (gx i d):=by
    refine EX (k:=A.length) ?_ (by rw[agQ (ahY _),Nat.sub_self];rfl)
    unfold eF
    rw[EU,show cw (dx d) 0 A=none from hfl,Option.none_or,aiM (show dx d=(gx i d).no from rfl),aij]
   refine⟨?_, ?_⟩
   ·rw[hs']
    simp only[ag7,ahe,ag8,ag9]
    omega
   ·rw[hs']
    refine aer _ hps hlen (fun k a b ha hb=> ?_) ?_
    ·obtain⟨r1,r2,r3,r4,r5⟩:=hB.rel k a b ha hb
     have:dx d≠a.no:=fun e=>hne a ((eL A).mem_iff.1 (ahu ha)) e.symm
     exact⟨r1,r2,r3,r4,by rw[r5];unfold wz;rw[aiL this]⟩
    ·refine⟨rfl,rfl,fun _=>rfl,fun h=>absurd rfl h, ?_⟩
     show [((i:Int),bM (gx i d))]=wz (dx d) i d (A++[gx i d]) (P (dx d))
     unfold wz
     rw[aiM rfl,hlL,hN (dx d) hne]
     rfl
 ·cases hf:sQ (dx d) A with
  | none=>
   obtain⟨hfl,_⟩:=KF hf
   rw[Kp k1 hfl] at h0
   cases h0
  | some k=>
   obtain⟨x,j,hx,hxn,hfl,hxj⟩:=KG hI hf
   obtain⟨y,hy,hr⟩:=hB.get hx
   obtain⟨hx1,hx2⟩:=hA.sound.line x (ahu hxj)
   rw[MT k1 hfl hxj] at h0 hA' ⊢
   dsimp only at h0 hA' ⊢
   obtain⟨hx1',_,hno,_⟩:=Fi (o:=o) hx1 hx2 hl hd
   obtain⟨off,hfo,hoff⟩:=aai (ref:=ref) hB hA hI hl he hd hf hx hy hr (hP _) hx1 hx2 hx1' k1 h0
   refine⟨_,hfo, ?_⟩
   have hs:=adq hI (y:=(bA o l i d x).2) hxj hx hno
   have hkl:=(agW.1 hx).1
   have hky:=(agW.1 hy).1
   have hlL:pZ (dx d) (A.set j (bA o l i d x).2)=some (bA o l i d x).2:=by
    refine EX (k:=j) ?_ (ag2 (agW.1 hxj).1)
    have:eF (dx d) (A.set j (bA o l i d x).2)=eF (dx d) A:=KE A 0 (fun z hz=>by rw[hxj] at hz;cases hz;exact hno)
    rw[this];exact hfl
   refine⟨by rw[hs,ahd,ahd];exact hB.len,fun m a b ha hb=> ?_⟩
   rw[hs] at ha
   by_cases c:k=m
   ·subst c
    rw[ag2 hkl] at ha
    rw[ag2 hky] at hb
    cases ha;cases hb
    refine⟨rfl,rfl,hoff.1,hoff.2, ?_⟩
    show P x.no++[((i:Int),bM (bA o l i d x).2)]=wz (bA o l i d x).2.no i d _ (P (bA o l i d x).2.no)
    unfold wz
    rw[hno,aiM hxn.symm,hlL]
   ·rw[ag1 c] at ha hb
    obtain⟨r1,r2,r3,r4,r5⟩:=hB.rel m a b ha hb
    have:dx d≠a.no:=fun e=>c (aeQ (Uu hI) hx ha (by rw[hxn];exact e))
    exact⟨r1,r2,r3,r4,by rw[r5];unfold wz;rw[aiL this]⟩
end Go.Md
set_option linter.all false
namespace Go.Md
open Go.Dn
theorem aav {n:Int} {A:List ak} (h:∀ x,x∈A->x.no≠n):pZ n A=none:=by
 unfold pZ
 rw[show eF n A=none from ID h];rfl
theorem AD {o:aj} {l:List aa} {wt day:Int}:∀ (r:List aa) (i:Nat) (A:List ak) (ref:List (Int×Int)) (pts:List aL),(∀ d,d∈r->day<d.1)->ja o l wt day r i A ref pts=(A,ref,pts)
 | [],_,_,_,_,_=>rfl
 | d::r,i,A,ref,pts,h=>by simp only[ja];rw[aiM (h d (by simp))]
theorem acq {o1 o2 o3:Bys} {o4 o5:Int} {o6:List aF} {l:List aa} {day:Int} (he:0<=o5/\o5<=1000) (hl:∀ d,d∈l->bH d=0) (hlen:l.length<=2000) (hs:l.Pairwise fun a b=>a.1<=b.1): ∀ (r:List aa) (i n:Nat) (A:List ak) (L:List au) (ref:List (Int×Int)) (P:Int->List aL),l.drop i=r->i<=l.length->Good l A->Ids A->AR l P A L->(∀ wt,(P wt).length<=i)->(∀ wt,pZ wt A=none->P wt=[])->ref.length<=i->r.length<n-> ∃ L',iter (X:=HO) (β:=HN) n (day,l,(l.length:Int),(i:Int),o1,o2,o3,o4,o5,o6,l,L,ref,()) DJ=some (Sum.inr (o1,o2,o3,o4,o5,o6,l,L',(ja (o1,o2,o3,o4,o5,o6) l 0 day r i A ref []).2.1,()))/\ AR l (fun wt=>(ja (o1,o2,o3,o4,o5,o6) l wt day r i A ref (P wt)).2.2) (ja (o1,o2,o3,o4,o5,o6) l 0 day r i A ref []).1 L':=by
 intro r
 induction r with
 | nil=>
  intro i n A L ref P hd hi hA hI hB hp hN hr hn
  have:i=l.length:=by
   have:=congrArg List.length hd
   simp at this;omega
  subst this
  obtain⟨n,rfl⟩:∃ m,n=m+1:=⟨n - 1,by omega⟩
  refine⟨L, ?_,hB⟩
  rw[aX]
  unfold DJ
  dsimp only
  rw[aiB (show ¬((l.length:Int)<(l.length:Int)) by omega),aiy]
  rfl
 | cons d r ih=>
  intro i n A L ref P hdr hi hA hI hB hp hN hr hn
  have hd:l[i]? =some d:=by
   have:=congrArg (·[0]?) hdr
   simpa [agT] using this
  have hr':l.drop (i+1)=r:=by
   have:=congrArg List.tail hdr
   simpa [ahG] using this
  have hlt:i<l.length:=(agW.1 hd).1
  have hlate:∀ e,e∈r->d.1<=e.1:=by
   have h:=hs.sublist (List.drop_sublist i l)
   rw[hdr] at h
   exact fun e he=>(ahz.1 h).1 e he
  obtain⟨n,rfl⟩:∃ m,n=m+1:=⟨n - 1,by simp at hn;omega⟩
  rw[aX]
  generalize hag:(fun y=>iter n y DJ)=again
  unfold DJ
  dsimp only
  rw[aiD (show (i:Int)<(l.length:Int) by omega),aiz,cF hd,aim,ax (n:=(i:Int)+1) (by omega) (by omega),show (i:Int)+1=((i+1:Nat):Int) by omega]
  have oY:maxLen=9223372036854775807:=rfl
  by_cases hday:day<d.1
  ·rw[aiD (show d.1>day from hday),aiz, <- hag]
   have hl1:∀ e,e∈d::r->day<e.1:=fun e he=>by
    rcases ahn.1 he with rfl | he
    ·exact hday
    ·have:=hlate e he;omega
   obtain⟨L',e1,e2⟩:=ih (i+1) n A L ref P hr' (by omega) hA hI hB (fun wt=>by have:=hp wt;omega) hN (by omega) (by simp at hn;omega)
   refine⟨L', ?_, ?_⟩
   ·refine e1.trans ?_
    rw[AD r _ _ _ _ (fun e he=>hl1 e (by simp[he])),AD (d::r) _ _ _ _ hl1]
   ·have w:∀ wt,ja (o1,o2,o3,o4,o5,o6) l wt day (d::r) i A ref (P wt)=ja (o1,o2,o3,o4,o5,o6) l wt day r (i+1) A ref (P wt):=fun wt=>by
     rw[AD r _ _ _ _ (fun e he=>hl1 e (by simp[he])),AD (d::r) _ _ _ _ hl1]
    have w0:ja (o1,o2,o3,o4,o5,o6) l 0 day (d::r) i A ref []=ja (o1,o2,o3,o4,o5,o6) l 0 day r (i+1) A ref []:=by
     rw[AD r _ _ _ _ (fun e he=>hl1 e (by simp[he])),AD (d::r) _ _ _ _ hl1]
    rw[w0]
    simp only[w]
    exact e2
  ·rw[aiB (show ¬d.1>day from hday),aiy]
   have hrf:=V5 (o:=(o1,o2,o3,o4,o5,o6)) (ref:=ref) hB hA hI hl he hd
   rw[hrf,aim]
   dsimp only
   have hgood:=EN (o:=(o1,o2,o3,o4,o5,o6)) hA hl hd
   have hids:=UN (o:=(o1,o2,o3,o4,o5,o6)) hA hI hl hd
   simp only[ja,aiL hday]
   by_cases h0:(cB (o1,o2,o3,o4,o5,o6) l i d A).1=0
   ·simp only[aiL (show ¬(cB (o1,o2,o3,o4,o5,o6) l i d A).1≠0 from fun h=>h h0)]
    rw[h0,zne,aiy]
    obtain⟨L1,f1,f2⟩:=follow_eq (ref:=ref) hB hA hI hl he (fun wt=>by have:=hp wt;omega) (fun wt h=>hN wt (aav h)) hd h0
    rw[f1,aim]
    dsimp only
    rw[<- hag]
    have pl:∀ wt,(wz wt i d (cB (o1,o2,o3,o4,o5,o6) l i d A).2 (P wt)).length<=i+1:=fun wt=>by
     have:=hp wt
     unfold wz
     split
     ·split
      ·simp;omega
      ·omega
     ·omega
    have pn:∀ wt,pZ wt (cB (o1,o2,o3,o4,o5,o6) l i d A).2=none->wz wt i d (cB (o1,o2,o3,o4,o5,o6) l i d A).2 (P wt)=[]:=fun wt h=>by
     by_cases e:dx d=wt
     ·subst e
      obtain⟨k,x,hk,hx⟩:=Pk hA.sound hl hd h0
      rw[EX hk hx] at h;cases h
     ·unfold wz
      rw[aiL e]
      rw[Ys hA.sound hl hd e] at h
      exact hN wt h
    obtain⟨L',e1,e2⟩:=ih (i+1) n _ L1 ref _ hr' (by omega) hgood hids f2 pl pn (by omega) (by simp at hn;omega)
    have w:=Up (o:=(o1,o2,o3,o4,o5,o6)) (l:=l) 0 0 day r (i+1) (cB (o1,o2,o3,o4,o5,o6) l i d A).2 ref (wz 0 i d (cB (o1,o2,o3,o4,o5,o6) l i d A).2 []) []
    rw[w.1,w.2]
    exact⟨L',e1,e2⟩
   ·simp only[aiM (show (cB (o1,o2,o3,o4,o5,o6) l i d A).1≠0 from h0)]
    rw[bR h0,aiz]
    rw[eW (by rw[afP];exact⟨aiD (by omega),aiD (by omega)⟩)]
    rw[<- hag]
    have hsame:=(WV (o:=(o1,o2,o3,o4,o5,o6)) hA.sound hl hd).2 h0
    rw[hsame]
    exact ih (i+1) n A L _ P hr' (by omega) hA hI hB (fun wt=>by have:=hp wt;omega) hN (by simp;omega) (by simp at hn;omega)
theorem aab {l:List aa} (h:lG l=0):l.Pairwise fun a b=>a.1<=b.1:=
 (aaa h).1.imp fun {a b} h=>by
   have:=(Zu a b).1 h
   unfold Lex at this
   omega
theorem aaw {o:aj} (ho:jt o=0) (l:List aa):AR l (fun _=>[]) (jW o) ((jW o).map fun x=>(bM x, -1, -1,[])):=by
 have hI:=NA ho
 obtain⟨_,_,_,_,hgo,_⟩:=wg ho
 obtain⟨_,_,hpw⟩:=pe hgo
 have hs:bT (jW o)=jW o:=Uv (List.Perm.refl _) (by rw[ahB];exact hpw)
 refine⟨by rw[hs,aha],fun k x y hx hy=> ?_⟩
 rw[hs] at hx
 rw[agX,hx] at hy
 cases hy
 obtain⟨q,_,rfl⟩:=ahs.1 (ahu hx)
 exact⟨rfl,rfl,fun _=>rfl,fun h=>absurd rfl h,rfl⟩
theorem aax {o1 o2 o3:Bys} {o4 o5:Int} {o6:List aF} (ho:jt (o1,o2,o3,o4,o5,o6)=0) (l:List aa) (day:Int) (n:Nat) (hn:o6.length<n): iter (X:=DK) (β:=HM) n (l,day,o6,(o6.length:Int),0,o1,o2,o3,o4,o5,o6,l,[],[],()) HL=some (Sum.inr (l,day,o1,o2,o3,o4,o5,o6,l,(jW (o1,o2,o3,o4,o5,o6)).map (fun x=>(bM x, -1, -1,[])),[],())):=by
 obtain⟨_,_,hl5,_,hgo,_⟩:=wg ho
 obtain⟨hln,_,_⟩:=pe hgo
 have hg:=EY ho l
 have hl5:o6.length<=500:=hl5
 have oY:maxLen=9223372036854775807:=rfl
 refine cx (Inv:=fun i X=>X=((l,day,o6,(o6.length:Int),(i:Int),o1,o2,o3,o4,o5,o6,l,((o6.take i).map lJ).map (fun x=>(bM x, -1, -1,[])),[],()):DK)) o6.length (fun z=>z=some (Sum.inr (l,day,o1,o2,o3,o4,o5,o6,l,(jW (o1,o2,o3,o4,o5,o6)).map (fun x=>(bM x, -1, -1,[])),[],()))) ?_ ?_ n 0 _ rfl (aik _) (by omega)
 ·rintro i X again hi rfl hag
  unfold HL
  dsimp only
  have hx:o6[i]? =some o6[i]:=agU hi
  obtain⟨_,h2,_,h4,_⟩:=hln _ (ahu hx)
  have hok:=(hg.sound.line (lJ o6[i]) (ahs.2 ⟨_,ahu hx,rfl⟩)).1
  rw[aiD (show (i:Int)<(o6.length:Int) by omega),aiz,cF hx,aim,IM h2,aim,IL h4,aim]
  have hre:=mA hok (0,0)
  have e0:bQ (lJ o6[i]).shp=(0,0):=Wn
  have e1:bQ (lJ o6[i]).rcv=(0,0):=Wn
  have e2:bQ (lJ o6[i]).ret=(0,0):=Wn
  rw[e0,e1,e2] at hre
  refine bs hre ?_
  dsimp only
  rw[eW (by rw[afP];exact⟨aiD (by simp;omega),aiD (by simp;omega)⟩),ax (n:=(i:Int)+1) (by omega) (by omega)]
  refine hag _ ?_
  rw[tC hx,ahf,ahf]
  rfl
 ·rintro X again rfl
  unfold HL
  dsimp only
  rw[aiB (show ¬(o6.length:Int)<(o6.length:Int) by omega),aiy,ahM]
theorem acm {o:aj} {l:List aa} (h:dD o l=0) (day:Int): ∃ L,SJ o l day=some ((o,l,L,(uJ o l 0 day).2.1,()),())/\AR l (fun wt=>(uJ o l wt day).2.2) (uJ o l 0 day).1 L:=by
 obtain⟨h1,h2⟩:=Hu h
 obtain⟨h3,h4⟩:=CN h2
 obtain⟨o1,o2,o3,o4,o5,o6⟩:=o
 obtain⟨L,e1,e2⟩:=acq (o1:=o1) (o2:=o2) (o3:=o3) (o4:=o4) (o6:=o6) (day:=day) (wg h1).2.1 h4 h3 (aab h2) l 0 (Int.natAbs day+(List.length l+(Int.natAbs ((List.length l:Int))+(Int.natAbs (0:Int)+(List.length o1+(List.length o2+(List.length o3+(Int.natAbs o4+(Int.natAbs o5+(List.length o6+(List.length l+(List.length ((jW (o1,o2,o3,o4,o5,o6)).map (fun x=>((bM x, -1, -1,[]):au)))+(List.length ([]:List ah)+2))))))))))))) _ _ [] _ rfl (aik _) (EY h1 l) (NA h1) (aaw h1 l) (fun _=>aik _) (fun _ _=>rfl) (aik _) (by omega)
 refine⟨L, ?_,e2⟩
 unfold SJ
 dsimp only
 rw[aax h1 l day _ (by omega),aR]
 dsimp only
 rw[show ((0:Nat):Int)=0 from rfl] at e1
 rw[e1,aR]
 rfl
end Go.Md
set_option linter.all false
namespace Go.Md
open Go.Dn
theorem ack (o:aj) (l:List aa) (tx:∀ d,d∈l->Txt d):SF o l=some (dD o l,()):=by
 unfold SF dD
 rw[GB,aim]
 dsimp only
 by_cases h:jt o=0
 ·rw[aiL (show ¬jt o≠0 from fun e=>e h),h,zne,aiy,GA l tx,aim]
 ·rw[bR h,aiz,aiM h]
end Go.Md
set_option linter.all false
namespace Go.Md
open Go.Dn
theorem Yb {l:List aa} {P:Int->List aL} {A:List ak} {L:List au} (h:AR l P A L):L.map (fun y=>y.1)=(bT A).map bM:=by
 refine agJ fun i=> ?_
 rw[agX,agX]
 by_cases hi:i<L.length
 ·have hx:=agU (l:=bT A) (i:=i) (by rw[<- h.len];exact hi)
  have hy:=agU hi
  rw[hx,hy,ais,ais,(h.rel i _ _ hx hy).st]
 ·rw[agV (by omega),agV (by rw[<- h.len];omega)]
  rfl
end Go.Md
set_option linter.all false
namespace Go.Md
open Go.Dn
end Go.Md
set_option linter.all false
namespace Go.Md
open Go.Dn
end Go.Md
set_option linter.all false
namespace Go.Md
open Go.Dn
theorem XF (o:aj) (l:List aa) (day:Int) (tx:∀ d,d∈l->Txt d):HJ o l day=some (lnF o l day,()):=by
 unfold HJ lnF
 rw[ack o l tx,aim]
 dsimp only
 by_cases h:dD o l=0
 ·rw[aiL (show ¬dD o l≠0 from fun e=>e h),h,zne,aiy,uD,aim]
  dsimp only
  by_cases hd:1<=day/\day<=3652059
  ·rw[aiM hd,aiD hd];rfl
  ·rw[aiL hd,aiB hd];rfl
 ·rw[bR h,aiz,aiM h]
theorem XH {o:aj} {l l2:List aa} {P:Int->List aL} {A:List ak} {L:List au} {ref:List ah} (h:AR l P A L) (hI:Ids A):xR (o,l2,L,ref)=some ((bT A).map bM,()):=by
 have oY:maxLen=9223372036854775807:=rfl
 have hL:L.length<=500:=by rw[h.len,(eL A).length_eq];exact hI.len
 unfold xR
 dsimp only
 have loop:∀ n,L.length<n->iter (X:=mT) (β:=rj) n ([],L,(L.length:Int),0,()) ri=some (Sum.inr (L.map (fun y=>y.1),())):=by
  intro n hn
  refine cx (Inv:=fun i X=>X=(((L.take i).map (fun y=>y.1),L,(L.length:Int),(i:Int),()):mT)) L.length (fun z=>z=some (Sum.inr (L.map (fun y=>y.1),()))) ?_ ?_ n 0 _ rfl (aik _) (by omega)
  ·rintro i X again hi rfl hag
   unfold ri
   dsimp only
   have hy:L[i]? =some L[i]:=agU hi
   have hlen:((L.take i).map (fun y=>y.1)).length=i:=by rw[aha,ahe];omega
   rw[aiD (show (i:Int)<(L.length:Int) by omega),aiz,cF hy,aim,hlen,eW (by rw[afP];exact⟨aiD (by omega),aiD (by omega)⟩),ax (n:=(i:Int)+1) (by omega) (by omega)]
   have e:(L.take i).map (fun y=>y.1)++[(L[i]).1]=(L.take (i+1)).map (fun y=>y.1):=by rw[tC hy,ahf];rfl
   rw[e]
   exact hag _ rfl
  ·rintro X again rfl
   unfold ri
   dsimp only
   rw[aiB (show ¬(L.length:Int)<(L.length:Int) by omega),aiy,ahM]
 rw[loop _ (by omega),aR,Yb h]
theorem V4 (o:aj) (l:List aa) (day:Int) (tx:∀ d,d∈l->Txt d):tq o l day=some (if lnF o l day=0 then (bT (uJ o l 0 day).1).map bM else [],lnF o l day,()):=by
 unfold tq
 rw[XF o l day tx,aim]
 dsimp only
 by_cases h:lnF o l day=0
 ·obtain⟨h1,_⟩:=ac9 h
  obtain⟨L,e1,e2⟩:=acm h1 day
  rw[aiM h,h,zne,aiy,e1,aim]
  dsimp only
  rw[XH e2 (Fy h1 0 day).2,aim]
 ·rw[bR h,aiz,aiL h]
end Go.Md
set_option linter.all false
namespace Go.Md
open Go.Dn
variable {l:List aa} {A:List ak}
end Go.Md
set_option linter.all false
namespace Go.Md.SL
open Go.Dn Go.Md
section
variable {k:Option Nat->Int} {ar:List bf} {ok:Option Nat->Prop}
end
end Go.Md.SL
set_option linter.all false
namespace Go.Md
open Go.Dn
variable {l:List aa} {A:List ak}
end Go.Md
set_option linter.all false
namespace Go.Md
open Go.Dn
end Go.Md
set_option linter.all false
namespace Go.Md
open Go.Dn
theorem IT (l:List dh) (hl:l.length<=2001):mC l l=some (true,()):=by
 unfold mC
 rw[show ((l.length:Int) != (l.length:Int))=false by simp,aiy]
 have:∀ n,l.length<n->iter (X:=gG) (β:=jS) n (l,l,(l.length:Int),0,()) jR=some (Sum.inr ()):=by
  intro n hn
  refine cx (Inv:=fun i X=>X=((l,l,(l.length:Int),(i:Int),()):gG)) l.length (fun z=>z=some (Sum.inr ())) ?_ ?_ n 0 _ rfl (aik _) (by omega)
  ·rintro i X again hi rfl hag
   unfold jR
   dsimp only
   have hy:l[i]? =some l[i]:=agU hi
   rw[aiD (show (i:Int)<(l.length:Int) by omega),aiz,cF hy,aim,aim]
   simp only[aiw,afR,af2,aiy]
   rw[ax (n:=(i:Int)+1) (by omega) (by omega)]
   exact hag _ rfl
  ·rintro X again rfl
   unfold jR
   dsimp only
   rw[aiB (show ¬(l.length:Int)<(l.length:Int) by omega),aiy]
 rw[this _ (by omega),aR]
end Go.Md
