/-
  Plain facts: the book of the reference; the plain law is true of all data. No condition.
-/
import Derived.Test.YtcndcnfjdanbeaaGreatDoorXu
import Derived.Test.YtcndcnfjdanbeaaGreatDoorXx
import Derived.Test.YtcndcnfjdanbeaaGreatDoorXt
import Derived.Test.YtcndcnfjdanbeaaGreatDoorXq
import Derived.Test.YtcndcnfjdanbeaaGreatDoorXr
set_option linter.all false
set_option linter.all false
namespace Go.Md
open Go.Dn
structure TP (l:List aa) (P:Int→List ay) (x:ai) (y:ak):Prop where
 st:y.1=aW x
 wish:y.2.1=x.wish
 off0:x.ono=0→y.2.2.1= -1
 off1:x.ono≠0→∃ (j:Nat) (d:aa),y.2.2.1=(j:Int)∧l[j]? =some d∧dNo d=x.ono∧aD (dQ d)=x.oq∧fU d=x.ount∧aI d=7
 ev:y.2.2.2=P x.no
structure um (l:List aa) (P:Int→List ay) (A:List ai) (L:List ak):Prop where
 len:L.length=(bA A).length
 rel:∀ (k:Nat) x y,(bA A)[k]? =some x→L[k]? =some y→TP l P x y
theorem um.get {l:List aa} {P:Int→List ay} {A:List ai} {L:List ak} (h:um l P A L) {k:Nat} {x:ai} (hx:(bA A)[k]? =some x):∃ y,L[k]? =some y∧TP l P x y:=by
 have hlt:=(ahx.1 hx).1
 have:k<L.length:=by rw[h.len];exact hlt
 exact⟨_,ahv this,h.rel k x _ hx (ahv this)⟩
def sH (no:Int) (A:List ai):Option Nat:=(bA A).findIdx? fun x=>decide (x.no=no)
theorem KG {no:Int} {A:List ai} (hI:Ids A) {k:Nat} (h:sH no A=some k):∃ x j,(bA A)[k]? =some x∧x.no=no∧eU no A=some j∧A[j]? =some x:=by
 obtain⟨h1,h2,_⟩:=List.findIdx?_eq_some_iff_getElem.1 h
 have hx:(bA A)[k]? =some (bA A)[k]:=ahv h1
 have hno:(bA A)[k].no=no:=ajv h2
 obtain⟨j,hj,hjx⟩:=OI hI (ah7 hx)
 rw[hno] at hj
 exact⟨_,j,hx,hno,hj,hjx⟩
theorem KF {no:Int} {A:List ai} (h:sH no A=none):eU no A=none∧∀ x,x∈A→x.no≠no:=by
 have hn:∀ x,x∈A→x.no≠no:=fun x hx e=>by
  have:=List.findIdx?_eq_none_iff.1 h x ((dn A).mem_iff.2 hx)
  rw[ajh e] at this;cases this
 refine⟨?_,hn⟩
 cases hf:eU no A with
 | none=>rfl
 | some k=>
  obtain⟨x,hx,hxn⟩:=wG hf
  exact absurd hxn (hn x (ah7 hx))
variable {o:aj} {l:List aa} {A:List ai} {L:List ak} {ref:List ah} {P:Int→List ay}
theorem Gt (hB:um l P A L) (hlen:A.length≤500) (l2:List aa) (no:Int):rK (o,l2,L,ref) no=some (match sH no A with | some k=>(k:Int) | none=> -1,()):=by
 have hL:L.length=A.length:=by rw[hB.len,(dn A).length_eq]
 unfold rK
 dsimp only
 have:∀ m,L.length<m→iter (X:=ni) (β:=qY) m (no,L,(L.length:Int),0,()) qX=some (match sH no A with | some i=>Sum.inl ((i:Int),()) | none=>Sum.inr ()):=by
  intro m hm
  refine cO (Inv:=fun i X=>X=((no,L,(L.length:Int),(i:Int),()):ni)∧∀ j,j<i→∀ x,(bA A)[j]? =some x→¬x.no=no) L.length (fun z=>z=some (match sH no A with | some i=>Sum.inl ((i:Int),()) | none=>Sum.inr ())) ?_ ?_ m 0 _ ⟨rfl,fun j hj=>absurd hj (aiS _)⟩ (aiY _) (by omega)
  ·rintro i X again hi ⟨rfl,hno⟩ hag
   unfold qX
   dsimp only
   have hi2:i<(bA A).length:=by rw[← hB.len];exact hi
   have hx:(bA A)[i]? =some (bA A)[i]:=ahv hi2
   obtain⟨y,hy,hr⟩:=hB.get hx
   rw[ajh (show (i:Int)<(L.length:Int) by omega),ajd,bZ hy,ai1,hr.st]
   show (bif (bA A)[i].no==no then _ else _)=_
   by_cases e:(bA A)[i].no=no
   ·rw[show ((bA A)[i].no==no)=true by simpa using e,ajd]
    have:sH no A=some i:=List.findIdx?_eq_some_iff_getElem.2 ⟨hi2,ajh e,fun j hj=>by
     have:=hno j hj _ (ahv (by omega))
     simpa using this⟩
    rw[this]
   ·rw[cJ e,ajc,av (n:=(i:Int)+1) (by omega) (by omega)]
    refine hag _ ⟨rfl,fun j hj x hjx=> ?_⟩
    by_cases c:j=i
    ·subst c;rw[hx] at hjx;cases hjx;exact e
    ·exact hno j (by omega) x hjx
  ·rintro X again ⟨rfl,hno⟩
   unfold qX
   dsimp only
   rw[ajf (show ¬(L.length:Int)<(L.length:Int) by omega),ajc]
   have:sH no A=none:=List.findIdx?_eq_none_iff.2 fun x hx=>by
    obtain⟨j,hj⟩:=ah5.1 hx
    have:=hno j (by rw[hB.len];exact (ahx.1 hj).1) x hj
    simpa using this
   rw[this]
 rw[this _ (by omega)]
 cases sH no A<;>rfl
theorem abr {x:ai} (hx:LOk x) (he0:0≤b8 o) (he1:b8 o≤1000):AQ (o,l,L,ref) (aW x)=some (x.ord+x.ord*b8 o / 1000,()):=by
 have b4:=hx.uz;have b5:=hx.ord1
 have m0:0≤x.ord*b8 o:=agS b4 he0
 have m1:x.ord*b8 o≤x.ord*1000:=agR he1 b4
 have d0:0≤x.ord*b8 o / 1000:=Int.ediv_nonneg m0 (by omega)
 have d1:x.ord*b8 o / 1000≤x.ord:=by omega
 unfold AQ
 dsimp only
 rw[show (aW x).2.2.2.1=bq x.ord from rfl,ug (cq (n:=x.ord) (by omega)),ai1]
 dsimp only
 rw[show o.2.2.2.2.1=b8 o from rfl,av (n:=x.ord*b8 o) (by omega) (by omega),ag0 m0]
 first
  | rw[av (n:=x.ord*b8 o / 1000) (by omega) (by omega),av (n:=x.ord+x.ord*b8 o / 1000) (by omega) (by omega)]
  | rw[av (n:=x.ord+x.ord*b8 o / 1000) (by omega) (by omega)]
theorem US {x:ai} (hx:LOk x):zP (aW x)=some (bq (x.shp - x.ret),()):=by
 have:=hx.ret0;have:=hx.retr;have:=hx.rcvs;have:=hx.shp1
 exact Tu (s:=aW x) (cq (n:=x.shp) (by omega)) (cq (n:=x.ret) (by omega))
theorem Ka {z:Int}:decide (z.sign>0)=decide (0<z):=by
 rw[aje]
 exact Int.sign_pos_iff
theorem afa {z:Int}:decide (z.sign<0)=decide (z<0):=by
 rw[aje]
 exact Int.sign_neg_iff
set_option maxHeartbeats 1000000 in
theorem Wu (hB:um l P A L) (hA:Good l A) (hI:Ids A) (hl:∀ d,d∈l→br d=0) (he:0≤b8 o∧b8 o≤1000) {i:Nat} {d:aa} (hd:l[i]? =some d):
 uR (o,l,L,ref) (i:Int)=some ((cg o l i d A).1,()):=by
 have hL:L.length=A.length:=by rw[hB.len,(dn A).length_eq]
 obtain⟨_,_,_,hk,_,_,hu⟩:=bJ (hl d (ah7 hd))
 obtain⟨uq,_⟩:=cZ hu
 have huses:=OD hk
 unfold uR
 dsimp only
 rw[bZ hd,ai1,Gt hB hI.len l,ai1,huses]
 dsimp only
 cases hf:sH d.2.2.2.2.1 A with
 | none=>
  obtain⟨hfl,_⟩:=KF hf
  dsimp only
  rw[show decide ((-1:Int)<0)=true from rfl,ajd,ajd,ajd]
  by_cases k1:aI d=1
  ·rw[show (d.2.2.2.1==1)=true by simpa using k1]
   rw[show (!(true==true))=false from rfl,ajc,ai1]
   have hz:cg o l i d A=if 500≤A.length then (16,A) else if fU d<cN o then (1,A) else (0,A++[gf i d]):=by
    unfold cg
    rw[ajp k1,show eU (dx d) A=none from hfl]
   rw[hz,hL]
   by_cases c1:500≤A.length
   ·rw[ajp c1,ajh (show (A.length:Int)≥500 by omega),ajd]
   ·rw[ajo c1,ajf (show ¬(A.length:Int)≥500 by omega),ajc,ai1]
    rw[show usU d.2.2.2.1=true by rw[show d.2.2.2.1=1 from k1];rfl,ajd,ai1]
    by_cases c2:fU d<cN o
    ·rw[ajp c2,ajh (show d.2.2.2.2.2.2.2.2.2.1<o.2.2.2.1 from c2),ajd]
    ·rw[ajo c2,ajf (show ¬d.2.2.2.2.2.2.2.2.2.1<o.2.2.2.1 from c2),ajc]
  ·rw[cJ k1]
   rw[show (!(true==false))=true from rfl,ajd,Kn k1 hfl]
 | some k=>
  obtain⟨x,j,hx,hxn,hfl,hxj⟩:=KG hI hf
  obtain⟨y,hy,hr⟩:=hB.get hx
  obtain⟨hx1,hx2⟩:=hA.sound.line x (ah7 hxj)
  have b0:=hx1.ret0;have b1:=hx1.retr;have b2:=hx1.rcvs;have b3:=hx1.shp1;have b4:=hx1.uz;have b5:=hx1.ord1
  obtain⟨p1,p2⟩:=On hx1
  dsimp only
  rw[ajf (show ¬(k:Int)<0 by omega),ajc,ajc,ajc]
  by_cases k1:aI d=1
  ·rw[show (d.2.2.2.1==1)=true by simpa using k1]
   have hz:cg o l i d A=(7,A):=by
    unfold cg
    rw[ajp k1,show eU (dx d) A=some j from hfl]
   rw[hz];rfl
  rw[cJ k1,show (!(false==false))=false from rfl,ajc,ai1,ajc,ai1,Nn k1 hfl hxj,bZ hy,ai1]
  obtain⟨day,byy,no,kind,line,art,q,unit,p,un,to⟩:=d
  dsimp only at hk k1 uq huses hf hfl ⊢
  obtain⟨ys,yw,yo,ye⟩:=y
  have r1:=hr.st;have r2:=hr.wish;have r3:=hr.off0;have r4:=hr.off1
  dsimp only at r1 r2 r3 r4
  subst r1;subst r2
  have k1':kind≠1:=k1
  have hk':1≤kind∧kind≤11:=hk
  have h11:kind=2∨kind=3∨kind=4∨kind=5∨kind=6∨kind=7∨kind=8∨kind=9∨kind=10∨kind=11:=by omega
  rcases h11 with rfl | rfl | rfl | rfl | rfl | rfl | rfl | rfl | rfl | rfl
  all_goals simp only[Int.reduceBEq,ajd,ajc,aM,show usU 2=false from rfl,show usU 3=true from rfl,show usU 4=false from rfl,show usU 5=false from rfl,show usU 6=false from rfl,show usU 7=true from rfl,show usU 8=false from rfl,show usU 9=false from rfl,show usU 10=false from rfl,show usU 11=false from rfl]
  ·rw[ai1,ajc]
   by_cases h:0≤x.wish
   ·rw[ajh (show x.wish≥0 from h),ajd];simp[bn,td,aI,h]
   ·rw[ajf (show ¬x.wish≥0 from h),ajc];simp[bn,td,aI,h]
  ·rw[ai1]
   by_cases c:un<cN o
   ·rw[ajh (show un<o.2.2.2.1 from c),ajd];simp[bn,td,aI,fU,c]
   ·rw[ajf (show ¬un<o.2.2.2.1 from c),ajc]
    by_cases h:0≤x.wish
    ·rw[ajh (show x.wish≥0 from h),ajd];simp[bn,td,aI,fU,c,h]
    ·rw[ajf (show ¬x.wish≥0 from h),ajc];simp[bn,td,aI,fU,c,h]
  ·rw[ai1,ajc]
   by_cases h:0≤x.wish
   ·rw[ajh (show x.wish≥0 from h),ajd];simp[bn,td,aI,h]
   ·rw[ajf (show ¬x.wish≥0 from h),ajc];simp[bn,td,aI,h]
  ·rw[ai1,ajc]
   by_cases h:x.wish<0
   ·rw[ajh h,ajd];simp[bn,bN,aI,h]
   ·rw[ajf h,ajc]
    obtain⟨w,hw1,hw2⟩:=hx2.kind (by omega)
    obtain⟨_,_,_,_,_,_,hwu⟩:=bJ (hl w (ah7 hw1))
    have hwq:=(cZ hwu).1
    rw[KO (by omega) hw1,ai1]
    have hact:(bn o l i (day,byy,no,5,line,art,q,unit,p,un,to) x).1=(bN l (day,byy,no,5,line,art,q,unit,p,un,to) x).1:=by
     unfold bn
     rw[ajo (show ¬(5:Int)≤4 by omega),ajp (show (5:Int)≤6 by omega)]
     split
     ·rename_i h0;rw[h0]
     ·rfl
    rw[hact]
    unfold bN
    rw[ajo h,lN hw1]
    by_cases e:dNo w=to
    ·rw[show (w.2.2.1 != to)=false by simpa using e,ajc,ajo (show ¬dNo w≠to from fun h=>h e),ajp (show (5:Int)=5 from rfl),ai1]
     by_cases k2:aI w=2
     ·rw[show (w.2.2.2.1==2)=true by simpa using k2,ajd,ai1,ajp k2]
      have hm:=pg (hwq (by rw[k2];rfl))
      have ha:=US hx1
      unfold aW at ha ⊢
      dsimp only at ha ⊢
      rw[ha,ai1]
      dsimp only
      rw[vQ hm (cq (n:=x.shp - x.ret) (by omega)),ai1,ai1,afa]
      by_cases c:aD (dQ w)<x.shp - x.ret
      ·rw[ajp c,ajh (by omega),ajd]
      ·rw[ajo c,ajf (by omega),ajc]
     ·rw[cJ k2,ajc,ai1,ajo k2]
      by_cases k3:aI w=1
      ·rw[ajp k3];rfl
      ·rw[ajo k3]
       split<;>rfl
    ·rw[show (w.2.2.1 != to)=true by simpa using e,ajd,ajp (show dNo w≠to from e)]
  ·rw[ai1,ajc]
   by_cases h:x.wish<0
   ·rw[ajh h,ajd];simp[bn,bN,aI,h]
   ·rw[ajf h,ajc]
    obtain⟨w,hw1,hw2⟩:=hx2.kind (by omega)
    rw[KO (by omega) hw1,ai1]
    have hact:(bn o l i (day,byy,no,6,line,art,q,unit,p,un,to) x).1=(bN l (day,byy,no,6,line,art,q,unit,p,un,to) x).1:=by
     unfold bn
     rw[ajo (show ¬(6:Int)≤4 by omega),ajp (show (6:Int)≤6 by omega)]
     split
     ·rename_i h0;rw[h0]
     ·rfl
    rw[hact]
    unfold bN
    rw[ajo h,lN hw1]
    by_cases e:dNo w=to
    ·rw[show (w.2.2.1 != to)=false by simpa using e,ajc,ajo (show ¬dNo w≠to from fun h=>h e),ajo (show ¬(6:Int)=5 by omega)];rfl
    ·rw[show (w.2.2.1 != to)=true by simpa using e,ajd,ajp (show dNo w≠to from e)]
  ·rw[ai1]
   have hact:(bn o l i (day,byy,no,7,line,art,q,unit,p,un,to) x).1=kU (cN o) (day,byy,no,7,line,art,q,unit,p,un,to) x:=by
    unfold bn
    rw[ajo (show ¬(7:Int)≤4 by omega),ajo (show ¬(7:Int)≤6 by omega),ajp (show (7:Int)=7 from rfl)]
    split
    ·rename_i h0;rw[h0]
    ·rfl
   rw[hact]
   unfold kU
   by_cases c:un<cN o
   ·rw[ajh (show un<o.2.2.2.1 from c),ajd,ajp (show un<cN o from c)]
   ·rw[ajf (show ¬un<o.2.2.2.1 from c),ajc,ajo (show ¬un<cN o from c)]
    by_cases h:0≤x.wish
    ·rw[ajh (show x.wish≥0 from h),ajd,ajp (Or.inl h)]
    ·rw[ajf (show ¬x.wish≥0 from h),ajc]
     have hs:=(KC 3 x.opn).2
     by_cases h0:x.opn=0
     ·rw[ajp (Or.inr h0),show ((aW x).2.2.2.2.2.2.2.2.2.1==0)=true from (show (((few 3 x.opn).1==(0:Int))=true) by simpa using hs.2 h0),ajd]
     ·rw[ajo (fun e=>e.elim h h0),cJ (show ¬(aW x).2.2.2.2.2.2.2.2.2.1=0 from fun e=>h0 (hs.1 e)),ajc]
      have hm:=pg (show qOk q false=true from uq rfl)
      have:=vQ hm (cq (n:=x.opn) (by omega))
      unfold bq at this
      unfold aW bq
      dsimp only at this ⊢
      rw[this,ai1,Ka]
      by_cases c:x.opn<aD q
      ·rw[ajp (show x.opn<aD (dQ (day,byy,no,7,line,art,q,unit,p,un,to)) from c),ajh (by omega),ajd]
      ·rw[ajo (show ¬x.opn<aD (dQ (day,byy,no,7,line,art,q,unit,p,un,to)) from c),ajf (by omega),ajc]
  ·rw[ai1,ajc]
   have hact:(bn o l i (day,byy,no,8,line,art,q,unit,p,un,to) x).1=(CG (day,byy,no,8,line,art,q,unit,p,un,to) x).1:=by
    unfold bn
    rw[ajo (show ¬(8:Int)≤4 by omega),ajo (show ¬(8:Int)≤6 by omega),ajo (show ¬(8:Int)=7 by omega),ajp (show (8:Int)=8 from rfl)]
   rw[hact]
   unfold CG
   by_cases h:0≤x.wish
   ·rw[ajh (show x.wish≥0 from h),ajd,ajp h]
   ·rw[ajf (show ¬x.wish≥0 from h),ajc,ajo h]
    by_cases h0:x.ono=0
    ·rw[ajp (Or.inl h0),r3 h0];rfl
    ·obtain⟨jo,dd,e1,e2,e3,_⟩:=r4 h0
     rw[e1,ajf (show ¬(jo:Int)<0 by omega),ajc,bZ e2,ai1]
     by_cases e:x.ono=to
     ·rw[show (dd.2.2.1 != to)=false by have:dd.2.2.1=to:=e3.trans e
                                        simpa using this,ajc,ajo (fun h'=>h'.elim h0 fun h''=>h'' e)]
     ·rw[show (dd.2.2.1 != to)=true by have:¬dd.2.2.1=to:=fun h'=>e (e3.symm.trans h')
                                       simpa using this,ajd,ajp (Or.inr (show x.ono≠to from e))]
  ·rw[ai1,ajc]
   have hq:qOk q false=true:=uq rfl
   have hm:=pg hq
   obtain⟨q0,q1,_⟩:=iF hq
   have hact:(bn o l i (day,byy,no,9,line,art,q,unit,p,un,to) x).1=(cy (b8 o) (day,byy,no,9,line,art,q,unit,p,un,to) x).1:=by
    unfold bn
    rw[ajo (show ¬(9:Int)≤4 by omega),ajo (show ¬(9:Int)≤6 by omega),ajo (show ¬(9:Int)=7 by omega),ajo (show ¬(9:Int)=8 by omega),ajp (show (9:Int)=9 from rfl)]
    split
    ·rename_i h0;rw[h0]
    ·rfl
   rw[hact]
   have ha:=US hx1
   have hmo:=abr (o:=o) (l:=l) (L:=L) (ref:=ref) hx1 he.1 he.2
   have m0:0≤x.ord*b8 o:=agS b4 he.1
   have m1:x.ord*b8 o≤x.ord*1000:=agR he.2 b4
   generalize hM:x.ord+x.ord*b8 o / 1000=M at hmo
   have hs:=ug (cq (n:=x.shp) (by omega))
   unfold cy
   rw[ajp (show (9:Int)=9 from rfl),hM]
   unfold aW at ha hmo ⊢
   dsimp only at ha hmo hs hq hm q0 q1 ⊢
   rw[ha,ai1]
   dsimp only
   rw[ug (cq (n:=x.shp - x.ret) (by omega)),ai1,ug hm,ai1,hmo,ai1]
   dsimp only
   rw[av (n:=x.shp - x.ret+aD q) (by omega) (by omega)]
   by_cases c:M<x.shp - x.ret+aD q
   ·rw[ajh (show x.shp - x.ret+aD q>M from c),ajd,ajp c]
   ·rw[ajf (show ¬x.shp - x.ret+aD q>M from c),ajc,ajo c,hs,ai1,ai1]
    dsimp only
    rw[av (n:=x.shp+aD q) (by omega) (by omega)]
    by_cases c2:1000000000000000<x.shp+aD q
    ·rw[ajh (show x.shp+aD q>1000000000000000 from c2),ajd,ajp c2]
    ·rw[ajf (show ¬x.shp+aD q>1000000000000000 from c2),ajc,ajo c2]
  ·rw[ai1,ajc]
   have hq:qOk q false=true:=uq rfl
   have hm:=pg hq
   obtain⟨q0,q1,_⟩:=iF hq
   have hact:(bn o l i (day,byy,no,10,line,art,q,unit,p,un,to) x).1=(cy (b8 o) (day,byy,no,10,line,art,q,unit,p,un,to) x).1:=by
    unfold bn
    rw[ajo (show ¬(10:Int)≤4 by omega),ajo (show ¬(10:Int)≤6 by omega),ajo (show ¬(10:Int)=7 by omega),ajo (show ¬(10:Int)=8 by omega),ajo (show ¬(10:Int)=9 by omega)]
   rw[hact]
   unfold cy
   rw[ajo (show ¬(10:Int)=9 by omega),ajp (show (10:Int)=10 from rfl)]
   unfold aW
   dsimp only at hq hm q0 q1 ⊢
   rw[sU (cq (n:=x.rcv) (by omega)) hm,ai1]
   dsimp only
   rw[vQ (cq (n:=x.rcv+aD q) (by omega)) (cq (n:=x.shp) (by omega)),ai1,Ka]
   by_cases c:x.shp<x.rcv+aD q
   ·rw[ajp c,ajh (by omega),ajd]
   ·rw[ajo c,ajf (by omega),ajc]
  ·rw[ai1,ajc]
   have hq:qOk q false=true:=uq rfl
   have hm:=pg hq
   obtain⟨q0,q1,_⟩:=iF hq
   have hact:(bn o l i (day,byy,no,11,line,art,q,unit,p,un,to) x).1=(cy (b8 o) (day,byy,no,11,line,art,q,unit,p,un,to) x).1:=by
    unfold bn
    rw[ajo (show ¬(11:Int)≤4 by omega),ajo (show ¬(11:Int)≤6 by omega),ajo (show ¬(11:Int)=7 by omega),ajo (show ¬(11:Int)=8 by omega),ajo (show ¬(11:Int)=9 by omega)]
   rw[hact]
   unfold cy
   rw[ajo (show ¬(11:Int)=9 by omega),ajo (show ¬(11:Int)=10 by omega)]
   unfold aW
   dsimp only at hq hm q0 q1 ⊢
   rw[sU (cq (n:=x.ret) (by omega)) hm,ai1]
   dsimp only
   rw[vQ (cq (n:=x.ret+aD q) (by omega)) (cq (n:=x.rcv) (by omega)),ai1,Ka]
   by_cases c:x.rcv<x.ret+aD q
   ·rw[ajp c,ajh (by omega),ajd]
   ·rw[ajo c,ajf (by omega),ajc]
end Go.Md
set_option linter.all false
namespace Go.Md
open Go.Dn
theorem bs {α β:Type} {e:Option α} {f:α→Option β} {r:α} {z:Option β} (h:e=some r) (h2:f r=z):Option.bind e f=z:=by rw[h];exact h2
theorem bX (l:List ay) (hl:l.length≤2000):iS l=some (l,()):=by
 have sI:maxLen=9223372036854775807:=rfl
 have hc:(decide ((0+(List.length l))*152≤140737488355328)&&decide (0+(List.length l)≤maxLen))=true:=by
  rw[agx];exact⟨ajh (by omega),ajh (by omega)⟩
 unfold iS
 rw[cw hc]
 cases l with
 | nil=>simp[both]
 | cons x r=>rfl
theorem mI {x:ai} (hx:LOk x) (v:ah):qF (x.no,x.art,x.unit,bq x.ord,mX x.price,x.due,bq x.shp,bq x.rcv,bq x.ret,v)=some (aW x,()):=by
 have b0:=hx.ret0;have b1:=hx.retr;have b2:=hx.rcvs;have b3:=hx.shp1;have b4:=hx.uz;have b5:=hx.ord1
 exact UK (s:=(x.no,x.art,x.unit,bq x.ord,mX x.price,x.due,bq x.shp,bq x.rcv,bq x.ret,v)) (cq (n:=x.ord) (by omega)) (cq (n:=x.shp) (by omega)) (cq (n:=x.ret) (by omega)) (by omega)
abbrev BkT:Type:=aj×(List aa)×(List ak)×(List ah)×Unit
theorem adD {o:aj} {l:List aa} {ref:List ah} {L1:List ak} {k:Nat} {y:ak} {x:ai} {v:ah} (hk:L1[k]? =some y)
 (hs:y.1=(x.no,x.art,x.unit,bq x.ord,mX x.price,x.due,bq x.shp,bq x.rcv,bq x.ret,v)) (hx:LOk x) (hev:y.2.2.2.length≤2000) (i:Int):
 (Option.bind (L1[k]?) fun y37=>Option.bind (qF y37.1) fun r38=>Option.bind (L1[k]?) fun y39=>Option.bind ((List.set L1 k (r38.1,y39.2))[k]?) fun y40=>
   Option.bind (iS y40.2.2.2) fun r41=>Option.bind ((List.set L1 k (r38.1,y39.2))[k]?) fun y42=>
   chk (decide (((r41.1.length)+1)*152≤140737488355328)&&decide ((r41.1.length)+1≤maxLen)) <|
   Option.bind ((List.set L1 k (r38.1,y39.2))[k]?) fun y43=>
   some (((o,l,List.set (List.set L1 k (r38.1,y39.2)) k (y43.1,y43.2.1,y43.2.2.1,r41.1++[(i,y42.1)]),ref,()):BkT),()))=
 some (((o,l,L1.set k (aW x,y.2.1,y.2.2.1,y.2.2.2++[(i,aW x)]),ref,()):BkT),()):=by
 have hlt:=(ahx.1 hk).1
 have sI:maxLen=9223372036854775807:=rfl
 have hr:=mI hx v
 rw[← hs] at hr
 rw[hk,ai1,hr,ai1,ai1]
 dsimp only
 have hg:(List.set L1 k (aW x,y.2))[k]? =some (aW x,y.2):=by rw[ahC hlt]
 rw[hg,ai1,bX y.2.2.2 hev,ai1,ai1]
 dsimp only
 rw[cw (by rw[agx];exact⟨ajh (by omega),ajh (by omega)⟩),ai1,ail]
theorem Xb {l:List aa} {L:List ak} {k:Nat} {y:ak} {w:aa} (hk:L[k]? =some y) (hw:idx l y.2.1=some w) (hf:br w=0) (h4:aI w≤4):
 iA l L k=some (L.set k
  (if aI w≤2 then (y.1.1,y.1.2.1,y.1.2.2.1,bq (aD (dQ w)),y.1.2.2.2.2)
   else if aI w=3 then (y.1.1,y.1.2.1,y.1.2.2.1,y.1.2.2.2.1,y.1.2.2.2.2.1,fU w,y.1.2.2.2.2.2.2)
   else (y.1.1,y.1.2.1,y.1.2.2.1,y.1.2.2.2.1,mX (Ju w),y.1.2.2.2.2.2), -1,y.2.2)):=by
 obtain⟨_,_,_,hkd,_,_,hu⟩:=bJ hf
 obtain⟨uq,up,_⟩:=cZ hu
 have hlt:=(ahx.1 hk).1
 unfold iA kP
 rw[hk,ai1,hw,ai1]
 obtain⟨day,byy,no,kind,line,art,q,unit,p,un,to⟩:=w
 dsimp only at hkd h4 uq up ⊢
 have hkk:kind=1∨kind=2∨kind=3∨kind=4:=by
  have h1:1≤kind:=hkd.1
  have h2:kind≤4:=h4
  omega
 rcases hkk with rfl | rfl | rfl | rfl
 ·rw[II (uq rfl)]
  simp only[Int.reduceBEq,ajd,ajc,ai1,ahC hlt,ail]
  rfl
 ·rw[II (uq rfl)]
  simp only[Int.reduceBEq,ajd,ajc,ai1,ahC hlt,ail]
  rfl
 ·simp only[Int.reduceBEq,ajd,ajc,ai1,ahC hlt,ail]
  rfl
 ·rw[IG (up rfl)]
  simp only[Int.reduceBEq,ajd,ajc,ai1,ahC hlt,ail]
  rfl
end Go.Md
set_option linter.all false
namespace Go.Md
open Go.Dn
def afQ (l:List aa) (x:ai) (off:Int):Prop:=
 (x.ono=0→off= -1)∧(x.ono≠0→∃ (j:Nat) (d:aa),off=(j:Int)∧l[j]? =some d∧dNo d=x.ono∧aD (dQ d)=x.oq∧fU d=x.ount∧aI d=7)
variable {o:aj} {l:List aa} {A:List ai} {L:List ak} {ref:List ah} {P:Int→List ay}
theorem DK {β:Type} {n:Nat} {x y:Option β} (h:n≤2000) (e:x=y):chk (decide ((n+1)*152≤140737488355328)&&decide (n+1≤maxLen)) x=y:=by
 have sI:maxLen=9223372036854775807:=rfl
 rw[cw (by rw[agx];exact⟨ajh (by omega),ajh (by omega)⟩),e]
theorem QJ {o:aj} {l:List aa} {i:Nat} {d:aa} {x:ai} (hk:aI d≤4) (h0:(bn o l i d x).1=0):(bn o l i d x).2={ x with wish:=(i:Int) }:=by
 unfold bn td at h0 ⊢
 rw[ajp hk] at h0 ⊢
 split at h0
 ·cases h0
 ·rename_i h1
  rw[ajo h1]
  split at h0
  ·cases h0
  ·rename_i h2
   rw[ajo h2]
theorem afi {o:aj} {l:List aa} {i:Nat} {d:aa} {x:ai} (hk:aI d=6) (h0:(bn o l i d x).1=0):(bn o l i d x).2=({ x with wish:= -1 }:ai).clr:=by
 unfold bn at h0 ⊢
 rw[ajo (show ¬aI d≤4 by omega),ajp (show aI d≤6 by omega)] at h0 ⊢
 have h0':(bN l d x).1=0:=by
  split at h0
  ·rename_i h;exact h
  ·exact h0
 rw[ajp h0']
 unfold bN at h0' ⊢
 split at h0'
 ·cases h0'
 ·rename_i h1
  rw[ajo h1]
  split at h0'
  ·cases h0'
  ·rename_i h2
   rw[ajo h2,ajo (show ¬aI d=5 by omega)]
theorem aeu {o:aj} {l:List aa} {i:Nat} {d w:aa} {x:ai} (hw:l[x.wish.toNat]? =some w) (hw4:1≤aI w∧aI w≤4) (hk:aI d=5) (h0:(bn o l i d x).1=0):
 (bn o l i d x).2=(if aI w≤2 then ({ x with ord:=aD (dQ w),wish:= -1 }:ai) else if aI w=3 then { x with due:=fU w,wish:= -1 } else { x with price:=Ju w,wish:= -1 }).clr:=by
 unfold bn at h0 ⊢
 rw[ajo (show ¬aI d≤4 by omega),ajp (show aI d≤6 by omega)] at h0 ⊢
 have h0':(bN l d x).1=0:=by
  split at h0
  ·rename_i h;exact h
  ·exact h0
 rw[ajp h0']
 unfold bN at h0' ⊢
 rw[lN hw] at h0' ⊢
 split at h0'
 ·cases h0'
 ·rename_i h1
  rw[ajo h1]
  split at h0'
  ·cases h0'
  ·rename_i h2
   rw[ajo h2,ajp hk]
   by_cases k2:aI w=2
   ·rw[ajp k2] at h0' ⊢
    rw[ajp (show aI w≤2 by omega)]
    split at h0'
    ·cases h0'
    ·rename_i h3
     rw[ajo h3]
   ·rw[ajo k2]
    by_cases k3:aI w=1
    ·rw[ajp k3,ajp (show aI w≤2 by omega)]
    ·rw[ajo k3,ajo (show ¬aI w≤2 by omega)]
     by_cases k4:aI w=3
     ·rw[ajp k4,ajp k4]
     ·rw[ajo k4,ajo k4]
theorem aeg {o:aj} {l:List aa} {i:Nat} {d:aa} {x:ai} (hk:aI d=5) (h0:(bn o l i d x).1=0):0≤x.wish:=by
 unfold bn at h0
 rw[ajo (show ¬aI d≤4 by omega),ajp (show aI d≤6 by omega)] at h0
 have h0':(bN l d x).1=0:=by
  split at h0
  ·rename_i h;exact h
  ·exact h0
 unfold bN at h0'
 split at h0'
 ·cases h0'
 ·omega
theorem abI {o:aj} {l:List aa} {i:Nat} {d:aa} {x:ai} (hk:aI d=7) (h0:(bn o l i d x).1=0):(bn o l i d x).2={ x with ono:=dNo d,oq:=aD (dQ d),ount:=fU d }:=by
 unfold bn at h0 ⊢
 rw[ajo (show ¬aI d≤4 by omega),ajo (show ¬aI d≤6 by omega),ajp hk] at h0 ⊢
 split at h0
 ·rename_i h;rw[ajp h]
 ·rename_i h;exact absurd h0 h
theorem adr {o:aj} {l:List aa} {i:Nat} {d:aa} {x:ai} (hk:aI d=8) (h0:(bn o l i d x).1=0):x.ono≠0∧(bn o l i d x).2={ x with ord:=x.shp - x.ret+x.oq,due:=x.ount,ono:=0,oq:=0,ount:=0 }:=by
 unfold bn CG at h0 ⊢
 rw[ajo (show ¬aI d≤4 by omega),ajo (show ¬aI d≤6 by omega),ajo (show ¬aI d=7 by omega),ajp hk] at h0 ⊢
 split at h0
 ·cases h0
 ·rename_i h1
  rw[ajo h1]
  split at h0
  ·cases h0
  ·rename_i h2
   rw[ajo h2]
   exact⟨fun e=>h2 (Or.inl e),rfl⟩
theorem adq {o:aj} {l:List aa} {i:Nat} {d:aa} {x:ai} (hk:aI d=9) (h0:(bn o l i d x).1=0):(bn o l i d x).2=({ x with shp:=x.shp+aD (dQ d) }:ai).clr:=by
 unfold bn at h0 ⊢
 rw[ajo (show ¬aI d≤4 by omega),ajo (show ¬aI d≤6 by omega),ajo (show ¬aI d=7 by omega),ajo (show ¬aI d=8 by omega),ajp hk] at h0 ⊢
 have h0':(cy (b8 o) d x).1=0:=by
  split at h0
  ·rename_i h;exact h
  ·exact h0
 rw[ajp h0']
 unfold cy at h0' ⊢
 rw[ajp hk] at h0' ⊢
 split at h0'
 ·cases h0'
 ·rename_i h1
  rw[ajo h1]
  split at h0'
  ·cases h0'
  ·rename_i h2
   rw[ajo h2]
theorem ado {o:aj} {l:List aa} {i:Nat} {d:aa} {x:ai} (hk:aI d=10) (h0:(bn o l i d x).1=0):(bn o l i d x).2={ x with rcv:=x.rcv+aD (dQ d) }:=by
 unfold bn cy at h0 ⊢
 rw[ajo (show ¬aI d≤4 by omega),ajo (show ¬aI d≤6 by omega),ajo (show ¬aI d=7 by omega),ajo (show ¬aI d=8 by omega),ajo (show ¬aI d=9 by omega),ajo (show ¬aI d=9 by omega),ajp hk] at h0 ⊢
 split at h0
 ·cases h0
 ·rename_i h1
  rw[ajo h1]
theorem adp {o:aj} {l:List aa} {i:Nat} {d:aa} {x:ai} (hk:aI d=11) (h0:(bn o l i d x).1=0):(bn o l i d x).2={ x with ret:=x.ret+aD (dQ d) }:=by
 unfold bn cy at h0 ⊢
 rw[ajo (show ¬aI d≤4 by omega),ajo (show ¬aI d≤6 by omega),ajo (show ¬aI d=7 by omega),ajo (show ¬aI d=8 by omega),ajo (show ¬aI d=9 by omega),ajo (show ¬aI d=9 by omega),ajo (show ¬aI d=10 by omega)] at h0 ⊢
 split at h0
 ·cases h0
 ·rename_i h1
  rw[ajo h1]
theorem adK {kind byy:Int} (h1:1≤kind∧kind≤11) (h2:1≤byy∧byy≤2) (h3:(kind=5∨kind=6∨kind=7∨kind=9)↔byy=2) (k1:kind≠1):(kind=2∧byy=1)∨(kind=3∧byy=1)∨(kind=4∧byy=1)∨(kind=5∧byy=2)∨(kind=6∧byy=2)∨(kind=7∧byy=2)∨(kind=8∧byy=1)∨(kind=9∧byy=2)∨(kind=10∧byy=1)∨(kind=11∧byy=1):=by omega
set_option maxHeartbeats 2000000 in
theorem aaO (hB:um l P A L) (hA:Good l A) (hI:Ids A) (hl:∀ d,d∈l→br d=0) (he:0≤b8 o∧b8 o≤1000) {i:Nat} {d:aa} (hd:l[i]? =some d)
 {k:Nat} {x:ai} {y:ak} (hf:sH (dx d) A=some k) (hx:(bA A)[k]? =some x) (hy:L[k]? =some y) (hr:TP l P x y) (hev:(P x.no).length≤2000)
 (hx1:LOk x) (hx2:WOk l x) (hx':LOk (bn o l i d x).2) (k1:aI d≠1) (h0:(bn o l i d x).1=0):
 ∃ off,kX (o,l,L,ref,()) (i:Int)=some ((o,l,L.set k (aW (bn o l i d x).2,(bn o l i d x).2.wish,off,P x.no++[((i:Int),aW (bn o l i d x).2)]),ref,()),())∧afQ l (bn o l i d x).2 off:=by
 obtain⟨_,hb2,hno,hk,hby,_,hu⟩:=bJ (hl d (ah7 hd))
 obtain⟨uq,_⟩:=cZ hu
 have b0:=hx1.ret0;have b1:=hx1.retr;have b2:=hx1.rcvs;have b3:=hx1.shp1;have b4:=hx1.uz;have b5:=hx1.ord1
 have hlt:=(ahx.1 hy).1
 unfold kX
 dsimp only
 rw[bZ hd,ai1,show ((o,l,L,ref):dU)=(o,l,L,ref) from rfl,Gt hB hI.len l,ai1,show sH d.2.2.2.2.1 A=some k from hf]
 dsimp only
 rw[ajf (show ¬(k:Int)<0 by omega),ajc,aM]
 dsimp only
 rw[cw (by rw[agx];exact⟨ajh (by omega),ajh (by omega)⟩),ag2]
 obtain⟨day,byy,no,kind,line,art,q,unit,p,un,to⟩:=d
 dsimp only at hk k1 uq hby hb2 hno hf ⊢
 obtain⟨ys,yw,yo,ye⟩:=y
 have r1:=hr.st;have r2:=hr.wish;have r3:=hr.off0;have r4:=hr.off1;have r5:=hr.ev
 dsimp only at r1 r2 r3 r4 r5
 subst r1;subst r2;subst r5
 have k1':kind≠1:=k1
 have hk':1≤kind∧kind≤11:=hk
 have h11:=adK hk' hb2 hby k1'
 rcases h11 with ⟨rfl,rfl⟩ | ⟨rfl,rfl⟩ | ⟨rfl,rfl⟩ | ⟨rfl,rfl⟩ | ⟨rfl,rfl⟩ | ⟨rfl,rfl⟩ | ⟨rfl,rfl⟩ | ⟨rfl,rfl⟩ | ⟨rfl,rfl⟩ | ⟨rfl,rfl⟩
 all_goals simp only[Int.reduceBEq,ajd,ajc,aM,hy,ai1,ahC hlt,ail]
 ·have e:(bn o l i (day,1,no,2,line,art,q,unit,p,un,to) x).2={ x with wish:=(i:Int) }:=QJ (by show (2:Int)≤4;omega) h0
  rw[e] at hx' ⊢
  exact⟨yo,bs (mI hx' (bq x.opn)) (bs (bX _ hev) (DK hev rfl)),r3,r4⟩
 ·have e:(bn o l i (day,1,no,3,line,art,q,unit,p,un,to) x).2={ x with wish:=(i:Int) }:=QJ (by show (3:Int)≤4;omega) h0
  rw[e] at hx' ⊢
  exact⟨yo,bs (mI hx' (bq x.opn)) (bs (bX _ hev) (DK hev rfl)),r3,r4⟩
 ·have e:(bn o l i (day,1,no,4,line,art,q,unit,p,un,to) x).2={ x with wish:=(i:Int) }:=QJ (by show (4:Int)≤4;omega) h0
  rw[e] at hx' ⊢
  exact⟨yo,bs (mI hx' (bq x.opn)) (bs (bX _ hev) (DK hev rfl)),r3,r4⟩
 ·have hwi:=aeg rfl h0
  obtain⟨w,hw1,hw2⟩:=hx2.kind hwi
  have hwf:=hl w (ah7 hw1)
  obtain⟨_,_,_,hwk,_⟩:=bJ hwf
  have e:=aeu hw1 ⟨hwk.1,hw2⟩ rfl h0
  rw[e] at hx' ⊢
  have hg:(L.set k (aW x,x.wish, -1,P x.no))[k]? =some (aW x,x.wish, -1,P x.no):=ahC hlt
  rw[Xb hg (KO hwi hw1) hwf hw2,ai1,aM]
  simp only[ail,ahC hlt,ai1]
  refine⟨-1, ?_,fun _=> ?_,fun h=>absurd ?_ h⟩
  ·by_cases c2:aI w≤2
   ·simp only[ajp c2] at hx' ⊢
    exact bs (mI hx' (bq x.opn)) (bs (bX _ hev) (DK hev rfl))
   ·by_cases c3:aI w=3
    ·simp only[ajo c2,ajp c3] at hx' ⊢
     exact bs (mI hx' (bq x.opn)) (bs (bX _ hev) (DK hev rfl))
    ·simp only[ajo c2,ajo c3] at hx' ⊢
     exact bs (mI hx' (bq x.opn)) (bs (bX _ hev) (DK hev rfl))
  ·rfl
  ·rfl
 ·have e:=afi rfl h0
  rw[e] at hx' ⊢
  exact⟨-1,bs (mI hx' (bq x.opn)) (bs (bX _ hev) (DK hev rfl)),fun _=>rfl,fun h=>absurd rfl h⟩
 ·have e:=abI rfl h0
  rw[e] at hx' ⊢
  exact⟨i,bs (mI hx' (bq x.opn)) (bs (bX _ hev) (DK hev rfl)),fun h=>absurd h (by show ¬no=0;omega),fun _=>⟨i,_,rfl,hd,rfl,rfl,rfl,rfl⟩⟩
 ·obtain⟨hne,e⟩:=adr rfl h0
  rw[e] at hx' ⊢
  obtain⟨jo,dd,e1,e2,e3,e4,e5,e6⟩:=r4 hne
  subst e1
  obtain⟨_,_,_,_,_,_,hdu⟩:=bJ (hl dd (ah7 e2))
  have hdq:qOk (dQ dd) (aI dd==2)=true:=(cZ hdu).1 (by rw[e6];rfl)
  have hp:mH (bq (x.shp - x.ret)) (dQ dd)=some (bq (x.shp - x.ret+x.oq),()):=by
   rw[← e4];exact sU (cq (n:=x.shp - x.ret) (by omega)) (pg hdq)
  rw[US hx1,ai1,bZ e2,ai1]
  simp only[ai1]
  rw[hp,ai1,aM]
  simp only[ail,ahC hlt,ai1]
  have e5':dd.2.2.2.2.2.2.2.2.2.1=x.ount:=e5
  rw[e5']
  exact⟨-1,bs (mI hx' (bq x.opn)) (bs (bX _ hev) (DK hev rfl)),fun _=>rfl,fun h=>absurd rfl h⟩
 ·have e:=adq rfl h0
  rw[e] at hx' ⊢
  have hp:mH (aW x).2.2.2.2.2.2.1 (q.1,q.2)=some (bq (x.shp+aD q),()):=sU (cq (n:=x.shp) (by omega)) (pg (show qOk q false=true from uq rfl))
  rw[hp,ai1,aM]
  simp only[ail,ahC hlt,ai1]
  exact⟨-1,bs (mI hx' (bq x.opn)) (bs (bX _ hev) (DK hev rfl)),fun _=>rfl,fun h=>absurd rfl h⟩
 ·have e:=ado rfl h0
  rw[e] at hx' ⊢
  have hp:mH (aW x).2.2.2.2.2.2.2.1 (q.1,q.2)=some (bq (x.rcv+aD q),()):=sU (cq (n:=x.rcv) (by omega)) (pg (show qOk q false=true from uq rfl))
  rw[hp,ai1,aM]
  simp only[ail,ahC hlt,ai1]
  exact⟨yo,bs (mI hx' (bq x.opn)) (bs (bX _ hev) (DK hev rfl)),r3,r4⟩
 ·have e:=adp rfl h0
  rw[e] at hx' ⊢
  have hp:mH (aW x).2.2.2.2.2.2.2.2.1 (q.1,q.2)=some (bq (x.ret+aD q),()):=sU (cq (n:=x.ret) (by omega)) (pg (show qOk q false=true from uq rfl))
  rw[hp,ai1,aM]
  simp only[ail,ahC hlt,ai1]
  exact⟨yo,bs (mI hx' (bq x.opn)) (bs (bX _ hev) (DK hev rfl)),r3,r4⟩
end Go.Md
set_option linter.all false
namespace Go.Md
open Go.Dn
variable {o:aj} {l:List aa} {A:List ai} {L:List ak} {ref:List ah} {P:Int→List ay}
theorem Uo {α:Type} (l:List α) {p:Nat} (v:α) (h:p≤l.length):(l.take p++(v::l.drop p))[p]? =some v:=by
 rw[ahr (by rw[ahR];omega),ahR,show p - min p l.length=0 by omega];rfl
theorem aeN {α:Type} (l:List α) {p:Nat} (v v':α) (h:p≤l.length):(l.take p++(v::l.drop p)).set p v'=l.take p++(v'::l.drop p):=by
 rw[List.set_append_right _ _ (by rw[ahR];omega),ahR,show p - min p l.length=0 by omega];rfl
theorem WS:bq 0=(0,0):=by unfold bq;rw[Q7];rfl
theorem aa8 (i:Nat) (d:aa):LOk (gf i d):=⟨by show (0:Int)≤0;omega,by show (0:Int)≤0;omega,by show (0:Int)≤0;omega,by show (0:Int)≤_;omega,by show (0:Int)≤0;omega,by show (0:Int)≤_;omega,fun e=>absurd rfl e⟩
theorem aaQ {M:List ai} (hlen:L.length=M.length) (hst:∀ (k:Nat) x y,M[k]? =some x→L[k]? =some y→y.1=aW x) (hM:M.length≤500) (n:Nat) (hn:M.length<n) {a b c e e9 f g i2 j2 k2 p2 q2 r2:Int} {u v w s t:Bys} {no:Int} {z1:List aK}:
 iter (X:=nh) (β:=qW) n (a,0,b,c,e,f,no,u,g,i2,v,j2,k2,p2,q2,w,s,t,r2,e9,z1,l,L,ref,()) qV=
  some (Sum.inr (a,(gT no M:Int),b,c,e,f,no,u,g,i2,v,j2,k2,p2,q2,w,s,t,r2,e9,z1,l,L,ref,())):=by
 have hp:=Pk no M
 refine cO (Inv:=fun i X=>X=((a,(i:Int),b,c,e,f,no,u,g,i2,v,j2,k2,p2,q2,w,s,t,r2,e9,z1,l,L,ref,()):nh)) (gT no M) (fun z=>z=some (Sum.inr (a,(gT no M:Int),b,c,e,f,no,u,g,i2,v,j2,k2,p2,q2,w,s,t,r2,e9,z1,l,L,ref,()))) ?_ ?_ n 0 _ rfl (aiY _) (by omega)
 ·rintro i X again hi rfl hag
  unfold qV
  dsimp only
  have hi2:i<M.length:=by omega
  have hy:L[i]? =some L[i]:=ahv (by omega)
  have hs:=hst i _ _ (ahv hi2) hy
  rw[ajh (show (i:Int)<(L.length:Int) by omega),ajd]
  rw[cw (by rw[agx];exact⟨ajh (by omega),rfl⟩),ag2,hy,ai1,ai1,hs]
  have hlt:=aaj no M i _ hi (ahv hi2)
  dsimp only
  rw[ajh (show (aW M[i]).1<no from hlt),ajd,av (n:=(i:Int)+1) (by omega) (by omega)]
  exact hag _ rfl
 ·rintro X again rfl
  unfold qV
  dsimp only
  by_cases h:gT no M<M.length
  ·have hy:L[gT no M]? =some (L[gT no M]'(by omega)):=ahv (by omega)
   have hs:=hst _ _ _ (ahv h) hy
   rw[ajh (show ((gT no M:Nat):Int)<(L.length:Int) by omega),ajd]
   rw[cw (by rw[agx];exact⟨ajh (by omega),rfl⟩),ag2,hy,ai1,ai1,hs]
   have hge:=aai no M _ (ahv h)
   dsimp only
   rw[ajf (show ¬(aW M[gT no M]).1<no from hge),ajc]
  ·rw[ajf (show ¬((gT no M:Nat):Int)<(L.length:Int) by omega),ajc]
   rfl
set_option maxHeartbeats 1000000 in
theorem aaP (hB:um l P A L) (hI:Ids A) (hl:∀ d,d∈l→br d=0) {i:Nat} {d:aa} (hd:l[i]? =some d) (hf:sH (dx d) A=none) (k1:aI d=1):
 kX (o,l,L,ref,()) (i:Int)=some ((o,l,L.take (gT (dx d) (bA A))++((aW (gf i d),(i:Int), -1,[((i:Int),aW (gf i d))])::L.drop (gT (dx d) (bA A))),ref,()),()):=by
 obtain⟨_,hb2,hno,hk,hby,_,hu⟩:=bJ (hl d (ah7 hd))
 obtain⟨_,up,_⟩:=cZ hu
 have hlen:=hI.len
 have hsl:(bA A).length=A.length:=(dn A).length_eq
 have hL:=hB.len
 have hps:=Pk (dx d) (bA A)
 unfold kX
 dsimp only
 rw[bZ hd,ai1,Gt hB hI.len l,ai1,show sH d.2.2.2.2.1 A=none from hf]
 dsimp only
 rw[ajh (show (-1:Int)<0 by omega),ajd]
 rw[aaQ (M:=bA A) hB.len (fun k x y hx hy=>(hB.rel k x y hx hy).st) (by omega) _ (by omega),aM]
 dsimp only
 obtain⟨day,byy,no,kind,line,art,q,unit,p,un,to⟩:=d
 dsimp only at hk k1 up hby hb2 hno hf ⊢
 have hps:gT line (bA A)≤(bA A).length:=hps
 have k1':kind=1:=k1
 subst k1'
 have hb1:byy=1:=by omega
 subst hb1
 rw[show fZ (p.1,p.2)=some (mX p,()) from IG (up rfl),ai1]
 dsimp only
 have hins:∀ v,iC L (gT line (bA A):Int) [v]=some (L.take (gT line (bA A))++(v::L.drop (gT line (bA A))),()):=by
  intro v
  show (bif _ then _ else _)=_
  rw[show (decide (0≤((gT line (bA A):Nat):Int))&&(decide (((gT line (bA A):Nat):Int)≤(L.length:Int))&&(decide (0<[v].length)&&(decide ((L.length+[v].length)*184≤140737488355328)&&decide (L.length+[v].length≤4611686018427387904)))))=true by
   simp only[agx,aji,List.length_singleton];omega,ajd,ag2]
  rfl
 rw[hins,ai1,aM]
 dsimp only
 have hpl:gT line (bA A)≤L.length:=by omega
 rw[cw (by rw[agx];exact⟨ajh (by omega),ajh (by simp;omega)⟩),ag2]
 simp only[Int.reduceBEq,ajd,ajc,aM]
 generalize hV:((((line,art,unit,(0,0),mX p,un,(0,0),(0,0),(0,0),0,0):aT),(i:Int), -1,[]):ak)=v
 have hget:=Uo L v hpl
 have hset:=fun v'=>aeN L v v' hpl
 subst hV
 refine (adD (x:=gf i (day,1,no,1,line,art,q,unit,p,un,to)) (v:=(0,0)) hget ?_ (aa8 _ _) (by show 0≤2000;omega) (i:Int)).trans ?_
 ·show _=(line,art,unit,bq 0,mX p,un,bq 0,bq 0,bq 0,(0,0))
  rw[WS]
 ·rw[hset];rfl
end Go.Md
set_option linter.all false
namespace Go.Md
open Go.Dn
theorem afB {M:List ai} (hs:M.Pairwise fun x y=>x.no<y.no) {m k:Nat} {a b:ai} (ha:M[m]? =some a) (hb:M[k]? =some b) (h:a.no=b.no):m=k:=by
 obtain⟨hm,rfl⟩:=ahx.1 ha
 obtain⟨hk,rfl⟩:=ahx.1 hb
 rw[aif] at hs
 rcases aiM m k with c | c | c
 ·have:=hs m k hm hk c;omega
 ·exact c
 ·have:=hs k m hk hm c;omega
variable {o:aj} {l:List aa} {A:List ai} {L:List ak} {ref:List ah} {P:Int→List ay}
theorem ae6 {M:List ai} (p:Nat) (hp:p≤M.length) (hL:L.length=M.length) {P':Int→List ay} {x:ai} {y:ak} (hr:∀ (k:Nat) a b,M[k]? =some a→L[k]? =some b→TP l P' a b) (hxy:TP l P' x y):
 ∀ (k:Nat) a b,(M.take p++x::M.drop p)[k]? =some a→(L.take p++y::L.drop p)[k]? =some b→TP l P' a b:=by
 intro k a b ha hb
 rcases aiM k p with c | c | c
 ·rw[ahq (by rw[ahR];omega),ahE c] at ha hb
  exact hr k a b ha hb
 ·subst c
  rw[Uo M x hp] at ha
  rw[Uo L y (by omega)] at hb
  cases ha;cases hb;exact hxy
 ·rw[ahr (by rw[ahR];omega),ahR,show k - min p M.length=(k - p - 1)+1 by omega,ahs,ahu] at ha
  rw[ahr (by rw[ahR];omega),ahR,show k - min p L.length=(k - p - 1)+1 by omega,ahs,ahu] at hb
  exact hr _ a b ha hb
theorem follow_eq (hB:um l P A L) (hA:Good l A) (hI:Ids A) (hl:∀ d,d∈l→br d=0) (he:0≤b8 o∧b8 o≤1000) (hP:∀ wt,(P wt).length≤2000) (hN:∀ wt,(∀ x,x∈A→x.no≠wt)→P wt=[])
 {i:Nat} {d:aa} (hd:l[i]? =some d) (h0:(cg o l i d A).1=0):
 ∃ L',kX (o,l,L,ref,()) (i:Int)=some ((o,l,L',ref,()),())∧um l (fun wt=>vO wt i d (cg o l i d A).2 (P wt)) (cg o l i d A).2 L':=by
 have hA':=Al (o:=o) hA hl hd
 by_cases k1:aI d=1
 ·cases hf:sH (dx d) A with
  | some k=>
   obtain⟨x,j,_,_,hfl,_⟩:=KG hI hf
   unfold cg at h0
   rw[ajp k1,hfl] at h0
   cases h0
  | none=>
   obtain⟨hfl,hne⟩:=KF hf
   have hz:(cg o l i d A).2=A++[gf i d]:=by
    unfold cg at h0 ⊢
    rw[ajp k1,hfl] at h0 ⊢
    dsimp only at h0 ⊢
    split at h0
    ·cases h0
    ·rename_i c1
     rw[ajo c1]
     split at h0
     ·cases h0
     ·rename_i c2
      rw[ajo c2]
   refine⟨_,aaP hB hI hl hd hf k1, ?_⟩
   rw[hz]
   have hs:=aeb hI (y:=gf i d) hne
   have hs':bA (A++[gf i d])=(bA A).take (gT (dx d) (bA A))++gf i d::(bA A).drop (gT (dx d) (bA A)):=hs
   have hps:=Pk (dx d) (bA A)
   have hlen:=hB.len
   have hlL:oP (dx d) (A++[gf i d])=some (gf i d):=by
    refine EG (k:=A.length) ?_ (by rw[ahr (aiF _),Nat.sub_self];rfl)
    unfold eU
    rw[Ey,show cm (dx d) 0 A=none from hfl,Option.none_or,ajp (show dx d=(gf i d).no from rfl),aiX]
   refine⟨?_, ?_⟩
   ·rw[hs']
    simp only[ahH,ahR,ahI,ahJ]
    omega
   ·rw[hs']
    refine ae6 _ hps hlen (fun k a b ha hb=> ?_) ?_
    ·obtain⟨r1,r2,r3,r4,r5⟩:=hB.rel k a b ha hb
     have:dx d≠a.no:=fun e=>hne a ((dn A).mem_iff.1 (ah7 ha)) e.symm
     exact⟨r1,r2,r3,r4,by rw[r5];unfold vO;rw[ajo this]⟩
    ·refine⟨rfl,rfl,fun _=>rfl,fun h=>absurd rfl h, ?_⟩
     show [((i:Int),aW (gf i d))]=vO (dx d) i d (A++[gf i d]) (P (dx d))
     unfold vO
     rw[ajp rfl,hlL,hN (dx d) hne]
     rfl
 ·cases hf:sH (dx d) A with
  | none=>
   obtain⟨hfl,_⟩:=KF hf
   rw[Kn k1 hfl] at h0
   cases h0
  | some k=>
   obtain⟨x,j,hx,hxn,hfl,hxj⟩:=KG hI hf
   obtain⟨y,hy,hr⟩:=hB.get hx
   obtain⟨hx1,hx2⟩:=hA.sound.line x (ah7 hxj)
   rw[Nn k1 hfl hxj] at h0 hA' ⊢
   dsimp only at h0 hA' ⊢
   obtain⟨hx1',_,hno,_⟩:=EZ (o:=o) hx1 hx2 hl hd
   obtain⟨off,hfo,hoff⟩:=aaO (ref:=ref) hB hA hI hl he hd hf hx hy hr (hP _) hx1 hx2 hx1' k1 h0
   refine⟨_,hfo, ?_⟩
   have hs:=aec hI (y:=(bn o l i d x).2) hxj hx hno
   have hkl:=(ahx.1 hx).1
   have hky:=(ahx.1 hy).1
   have hlL:oP (dx d) (A.set j (bn o l i d x).2)=some (bn o l i d x).2:=by
    refine EG (k:=j) ?_ (ahC (ahx.1 hxj).1)
    have:eU (dx d) (A.set j (bn o l i d x).2)=eU (dx d) A:=KE A 0 (fun z hz=>by rw[hxj] at hz;cases hz;exact hno)
    rw[this];exact hfl
   refine⟨by rw[hs,ahQ,ahQ];exact hB.len,fun m a b ha hb=> ?_⟩
   rw[hs] at ha
   by_cases c:k=m
   ·subst c
    rw[ahC hkl] at ha
    rw[ahC hky] at hb
    cases ha;cases hb
    refine⟨rfl,rfl,hoff.1,hoff.2, ?_⟩
    show P x.no++[((i:Int),aW (bn o l i d x).2)]=vO (bn o l i d x).2.no i d _ (P (bn o l i d x).2.no)
    unfold vO
    rw[hno,ajp hxn.symm,hlL]
   ·rw[ahB c] at ha hb
    obtain⟨r1,r2,r3,r4,r5⟩:=hB.rel m a b ha hb
    have:dx d≠a.no:=fun e=>c (afB (UQ hI) hx ha (by rw[hxn];exact e))
    exact⟨r1,r2,r3,r4,by rw[r5];unfold vO;rw[ajo this]⟩
end Go.Md
set_option linter.all false
namespace Go.Md
open Go.Dn
theorem aa2 {n:Int} {A:List ai} (h:∀ x,x∈A→x.no≠n):oP n A=none:=by
 unfold oP
 rw[show eU n A=none from Ic h];rfl
theorem zR {o:aj} {l:List aa} {wt day:Int}:∀ (r:List aa) (i:Nat) (A:List ai) (ref:List (Int×Int)) (pts:List ay),(∀ d,d∈r→day<d.1)→iB o l wt day r i A ref pts=(A,ref,pts)
 | [],_,_,_,_,_=>rfl
 | d::r,i,A,ref,pts,h=>by simp only[iB];rw[ajp (h d (by simp))]
theorem ac9 {o1 o2 o3:Bys} {o4 o5:Int} {o6:List aK} {l:List aa} {day:Int} (he:0≤o5∧o5≤1000) (hl:∀ d,d∈l→br d=0) (hlen:l.length≤2000) (hs:l.Pairwise fun a b=>a.1≤b.1):
 ∀ (r:List aa) (i n:Nat) (A:List ai) (L:List ak) (ref:List (Int×Int)) (P:Int→List ay),l.drop i=r→i≤l.length→Good l A→Ids A→um l P A L→(∀ wt,(P wt).length≤i)→(∀ wt,oP wt A=none→P wt=[])→ref.length≤i→r.length<n→
  ∃ L',iter (X:=HP) (β:=HO) n (day,l,(l.length:Int),(i:Int),o1,o2,o3,o4,o5,o6,l,L,ref,()) DB=some (Sum.inr (o1,o2,o3,o4,o5,o6,l,L',(iB (o1,o2,o3,o4,o5,o6) l 0 day r i A ref []).2.1,()))∧
   um l (fun wt=>(iB (o1,o2,o3,o4,o5,o6) l wt day r i A ref (P wt)).2.2) (iB (o1,o2,o3,o4,o5,o6) l 0 day r i A ref []).1 L':=by
 intro r
 induction r with
 | nil=>
  intro i n A L ref P hd hi hA hI hB hp hN hr hn
  have:i=l.length:=by
   have:=congrArg List.length hd
   simp at this;omega
  subst this
  obtain⟨n,rfl⟩:∃ m,n=m+1:=⟨n - 1,by omega⟩
  refine⟨L, ?_,hB⟩
  rw[bH]
  unfold DB
  dsimp only
  rw[ajf (show ¬((l.length:Int)<(l.length:Int)) by omega),ajc]
  rfl
 | cons d r ih=>
  intro i n A L ref P hdr hi hA hI hB hp hN hr hn
  have hd:l[i]? =some d:=by
   have:=congrArg (·[0]?) hdr
   simpa [ahu] using this
  have hr':l.drop (i+1)=r:=by
   have:=congrArg List.tail hdr
   simpa [ain] using this
  have hlt:i<l.length:=(ahx.1 hd).1
  have hlate:∀ e,e∈r→d.1≤e.1:=by
   have h:=hs.sublist (List.drop_sublist i l)
   rw[hdr] at h
   exact fun e he=>(aie.1 h).1 e he
  obtain⟨n,rfl⟩:∃ m,n=m+1:=⟨n - 1,by simp at hn;omega⟩
  rw[bH]
  generalize hag:(fun y=>iter n y DB)=again
  unfold DB
  dsimp only
  rw[ajh (show (i:Int)<(l.length:Int) by omega),ajd,bZ hd,ai1,av (n:=(i:Int)+1) (by omega) (by omega),show (i:Int)+1=((i+1:Nat):Int) by omega]
  have sI:maxLen=9223372036854775807:=rfl
  by_cases hday:day<d.1
  ·rw[ajh (show d.1>day from hday),ajd, ← hag]
   have hl1:∀ e,e∈d::r→day<e.1:=fun e he=>by
    rcases ah0.1 he with rfl | he
    ·exact hday
    ·have:=hlate e he;omega
   obtain⟨L',e1,e2⟩:=ih (i+1) n A L ref P hr' (by omega) hA hI hB (fun wt=>by have:=hp wt;omega) hN (by omega) (by simp at hn;omega)
   refine⟨L', ?_, ?_⟩
   ·refine e1.trans ?_
    rw[zR r _ _ _ _ (fun e he=>hl1 e (by simp[he])),zR (d::r) _ _ _ _ hl1]
   ·have w:∀ wt,iB (o1,o2,o3,o4,o5,o6) l wt day (d::r) i A ref (P wt)=iB (o1,o2,o3,o4,o5,o6) l wt day r (i+1) A ref (P wt):=fun wt=>by
     rw[zR r _ _ _ _ (fun e he=>hl1 e (by simp[he])),zR (d::r) _ _ _ _ hl1]
    have w0:iB (o1,o2,o3,o4,o5,o6) l 0 day (d::r) i A ref []=iB (o1,o2,o3,o4,o5,o6) l 0 day r (i+1) A ref []:=by
     rw[zR r _ _ _ _ (fun e he=>hl1 e (by simp[he])),zR (d::r) _ _ _ _ hl1]
    rw[w0]
    simp only[w]
    exact e2
  ·rw[ajf (show ¬d.1>day from hday),ajc]
   have hrf:=Wu (o:=(o1,o2,o3,o4,o5,o6)) (ref:=ref) hB hA hI hl he hd
   rw[hrf,ai1]
   dsimp only
   have hgood:=Al (o:=(o1,o2,o3,o4,o5,o6)) hA hl hd
   have hids:=Vh (o:=(o1,o2,o3,o4,o5,o6)) hA hI hl hd
   simp only[iB,ajo hday]
   by_cases h0:(cg (o1,o2,o3,o4,o5,o6) l i d A).1=0
   ·simp only[ajo (show ¬(cg (o1,o2,o3,o4,o5,o6) l i d A).1≠0 from fun h=>h h0)]
    rw[h0,zne,ajc]
    obtain⟨L1,f1,f2⟩:=follow_eq (ref:=ref) hB hA hI hl he (fun wt=>by have:=hp wt;omega) (fun wt h=>hN wt (aa2 h)) hd h0
    rw[f1,ai1]
    dsimp only
    rw[← hag]
    have pl:∀ wt,(vO wt i d (cg (o1,o2,o3,o4,o5,o6) l i d A).2 (P wt)).length≤i+1:=fun wt=>by
     have:=hp wt
     unfold vO
     split
     ·split
      ·simp;omega
      ·omega
     ·omega
    have pn:∀ wt,oP wt (cg (o1,o2,o3,o4,o5,o6) l i d A).2=none→vO wt i d (cg (o1,o2,o3,o4,o5,o6) l i d A).2 (P wt)=[]:=fun wt h=>by
     by_cases e:dx d=wt
     ·subst e
      obtain⟨k,x,hk,hx⟩:=Qj hA.sound hl hd h0
      rw[EG hk hx] at h;cases h
     ·unfold vO
      rw[ajo e]
      rw[YP hA.sound hl hd e] at h
      exact hN wt h
    obtain⟨L',e1,e2⟩:=ih (i+1) n _ L1 ref _ hr' (by omega) hgood hids f2 pl pn (by omega) (by simp at hn;omega)
    have w:=UM (o:=(o1,o2,o3,o4,o5,o6)) (l:=l) 0 0 day r (i+1) (cg (o1,o2,o3,o4,o5,o6) l i d A).2 ref (vO 0 i d (cg (o1,o2,o3,o4,o5,o6) l i d A).2 []) []
    rw[w.1,w.2]
    exact⟨L',e1,e2⟩
   ·simp only[ajp (show (cg (o1,o2,o3,o4,o5,o6) l i d A).1≠0 from h0)]
    rw[fY h0,ajd]
    rw[cw (by rw[agx];exact⟨ajh (by omega),ajh (by omega)⟩)]
    rw[← hag]
    have hsame:=(Xe (o:=(o1,o2,o3,o4,o5,o6)) hA.sound hl hd).2 h0
    rw[hsame]
    exact ih (i+1) n A L _ P hr' (by omega) hA hI hB (fun wt=>by have:=hp wt;omega) hN (by simp;omega) (by simp at hn;omega)
theorem aaE {l:List aa} (h:nZ l=0):l.Pairwise fun a b=>a.1≤b.1:=
 (aaD h).1.imp fun {a b} h=>by
   have:=(ZY a b).1 h
   unfold Lex at this
   omega
theorem aa3 {o:aj} (ho:lT o=0) (l:List aa):um l (fun _=>[]) (jl o) ((jl o).map fun x=>(aW x, -1, -1,[])):=by
 have hI:=N6 ho
 obtain⟨_,_,_,_,hgo,_⟩:=qa ho
 obtain⟨_,_,hpw⟩:=mS hgo
 have hs:bA (jl o)=jl o:=UR (List.Perm.refl _) (by rw[aih];exact hpw)
 refine⟨by rw[hs,ahL],fun k x y hx hy=> ?_⟩
 rw[hs] at hx
 rw[ahy,hx] at hy
 cases hy
 obtain⟨q,_,rfl⟩:=ah6.1 (ah7 hx)
 exact⟨rfl,rfl,fun _=>rfl,fun h=>absurd rfl h,rfl⟩
theorem aa4 {o1 o2 o3:Bys} {o4 o5:Int} {o6:List aK} (ho:lT (o1,o2,o3,o4,o5,o6)=0) (l:List aa) (day:Int) (n:Nat) (hn:o6.length<n):
 iter (X:=DC) (β:=HN) n (l,day,o6,(o6.length:Int),0,o1,o2,o3,o4,o5,o6,l,[],[],()) HM=some (Sum.inr (l,day,o1,o2,o3,o4,o5,o6,l,(jl (o1,o2,o3,o4,o5,o6)).map (fun x=>(aW x, -1, -1,[])),[],())):=by
 obtain⟨_,_,hl5,_,hgo,_⟩:=qa ho
 obtain⟨hln,_,_⟩:=mS hgo
 have hg:=Aw ho l
 have hl5:o6.length≤500:=hl5
 have sI:maxLen=9223372036854775807:=rfl
 refine cO (Inv:=fun i X=>X=((l,day,o6,(o6.length:Int),(i:Int),o1,o2,o3,o4,o5,o6,l,((o6.take i).map lR).map (fun x=>(aW x, -1, -1,[])),[],()):DC)) o6.length (fun z=>z=some (Sum.inr (l,day,o1,o2,o3,o4,o5,o6,l,(jl (o1,o2,o3,o4,o5,o6)).map (fun x=>(aW x, -1, -1,[])),[],()))) ?_ ?_ n 0 _ rfl (aiY _) (by omega)
 ·rintro i X again hi rfl hag
  unfold HM
  dsimp only
  have hx:o6[i]? =some o6[i]:=ahv hi
  obtain⟨_,h2,_,h4,_⟩:=hln _ (ah7 hx)
  have hok:=(hg.sound.line (lR o6[i]) (ah6.2 ⟨_,ah7 hx,rfl⟩)).1
  rw[ajh (show (i:Int)<(o6.length:Int) by omega),ajd,bZ hx,ai1,II h2,ai1,IG h4,ai1]
  have hre:=mI hok (0,0)
  have e0:bq (lR o6[i]).shp=(0,0):=WS
  have e1:bq (lR o6[i]).rcv=(0,0):=WS
  have e2:bq (lR o6[i]).ret=(0,0):=WS
  rw[e0,e1,e2] at hre
  refine bs hre ?_
  dsimp only
  rw[cw (by rw[agx];exact⟨ajh (by simp;omega),ajh (by simp;omega)⟩),av (n:=(i:Int)+1) (by omega) (by omega)]
  refine hag _ ?_
  rw[fq hx,ahS,ahS]
  rfl
 ·rintro X again rfl
  unfold HM
  dsimp only
  rw[ajf (show ¬(o6.length:Int)<(o6.length:Int) by omega),ajc,air]
theorem ac4 {o:aj} {l:List aa} (h:mO o l=0) (day:Int):
 ∃ L,Tx o l day=some ((o,l,L,(nX o l 0 day).2.1,()),())∧um l (fun wt=>(nX o l wt day).2.2) (nX o l 0 day).1 L:=by
 obtain⟨h1,h2⟩:=CS h
 obtain⟨h3,h4⟩:=xM h2
 obtain⟨o1,o2,o3,o4,o5,o6⟩:=o
 obtain⟨L,e1,e2⟩:=ac9 (o1:=o1) (o2:=o2) (o3:=o3) (o4:=o4) (o6:=o6) (day:=day) (qa h1).2.1 h4 h3 (aaE h2) l 0 (Int.natAbs day+(List.length l+(Int.natAbs ((List.length l:Int))+(Int.natAbs (0:Int)+(List.length o1+(List.length o2+(List.length o3+(Int.natAbs o4+(Int.natAbs o5+(List.length o6+(List.length l+(List.length ((jl (o1,o2,o3,o4,o5,o6)).map (fun x=>((aW x, -1, -1,[]):ak)))+(List.length ([]:List ah)+2))))))))))))) _ _ [] _ rfl (aiY _) (Aw h1 l) (N6 h1) (aa3 h1 l) (fun _=>aiY _) (fun _ _=>rfl) (aiY _) (by omega)
 refine⟨L, ?_,e2⟩
 unfold Tx
 dsimp only
 rw[aa4 h1 l day _ (by omega),aM]
 dsimp only
 rw[show ((0:Nat):Int)=0 from rfl] at e1
 rw[e1,aM]
 rfl
end Go.Md
set_option linter.all false
namespace Go.Md
open Go.Dn
theorem ac2 (o:aj) (l:List aa) (tx:∀ d,d∈l→Txt d):Tt o l=some (mO o l,()):=by
 unfold Tt mO
 rw[RA,ai1]
 dsimp only
 by_cases h:lT o=0
 ·rw[ajo (show ¬lT o≠0 from fun e=>e h),h,zne,ajc,Rz l tx,ai1]
 ·rw[fY h,ajd,ajp h]
end Go.Md
set_option linter.all false
namespace Go.Md
open Go.Dn
def rH {α:Type} (k:α→Int) (v:Int):List α→Nat
 | []=>0
 | y::r=>if v<k y then rH k v r else r.length+1
theorem JZ {α:Type} (k:α→Int) (v:Int):∀ r:List α,rH k v r≤r.length
 | []=>aiF _
 | y::r=>by
  have:=JZ k v r
  simp only[rH,ahI]
  split<;>omega
theorem Tq {α:Type} (k:α→Int) (v:Int):∀ r:List α,(∀ y,y∈r.take (r.length - rH k v r)→v<k y)∧(r.Pairwise (fun a b=>k b≤k a)→∀ y,y∈r.drop (r.length - rH k v r)→k y≤v)
 | []=>⟨fun y hy=>by simp at hy,fun _ y hy=>by simp at hy⟩
 | x::r=>by
  obtain⟨h1,h2⟩:=Tq k v r
  have hle:=JZ k v r
  simp only[rH,ahI]
  split
  ·rename_i c
   rw[show r.length+1 - rH k v r=(r.length - rH k v r)+1 by omega]
   refine⟨fun y hy=> ?_,fun hp y hy=> ?_⟩
   ·rw[ait] at hy
    rcases ah0.1 hy with rfl | hy
    ·exact c
    ·exact h1 y hy
   ·rw[List.drop_succ_cons] at hy
    exact h2 (aie.1 hp).2 y hy
  ·rename_i c
   rw[Nat.sub_self]
   refine⟨fun y hy=>by simp at hy,fun hp y hy=> ?_⟩
   rw[ahh] at hy
   rcases ah0.1 hy with rfl | hy
   ·omega
   ·have:=(aie.1 hp).1 y hy;omega
def NP {α:Type} (k:α→Int) (x:α) (out:List α):List α:=out.take (rH k (k x) out.reverse)++x::out.drop (rH k (k x) out.reverse)
theorem adG {α:Type} (k:α→Int) (x:α) (out:List α):(NP k x out).length=out.length+1:=by
 have:=JZ k (k x) out.reverse
 rw[ahP] at this
 unfold NP
 simp only[ahH,ahR,ahI,ahJ]
 omega
theorem adH {α:Type} {k:α→Int} {x:α} {out:List α} (h:Srt k out):Srt k (NP k x out)∧bM k (out++[x]) (NP k x out):=by
 obtain⟨h1,h2⟩:=Tq k (k x) out.reverse
 have hle:=JZ k (k x) out.reverse
 have h2:=h2 (by rw[List.pairwise_reverse];exact h)
 unfold NP
 generalize rH k (k x) out.reverse=p at h1 h2 hle
 rw[ahP] at h1 h2 hle
 have e1:∀ y,y∈out.take p→k y≤k x:=fun y hy=>h2 y (by
  rw[List.drop_reverse,show out.length - (out.length - p)=p by omega]
  simpa using hy)
 have e2:∀ y,y∈out.drop p→k x<k y:=fun y hy=>h1 y (by
  rw[List.take_reverse,show out.length - (out.length - p)=p by omega]
  simpa using hy)
 have hs:Srt k (out.take p++out.drop p):=by rw[aio];exact h
 refine⟨?_, ?_⟩
 ·refine Srt.append hs.left (aie.2 ⟨fun y hy=>Int.le_of_lt (e2 y hy),hs.right⟩) fun a ha b hb=> ?_
  rcases ah0.1 hb with rfl | hb
  ·exact e1 a ha
  ·exact hs.Km a ha b hb
 ·have:bM k (out.take p++(out.drop p++[x])) (out.take p++([x]++out.drop p)):=(bM.refl k _).append (bM.swap fun a ha b hb=>by
   simp only[aib] at hb;subst hb
   have:=e2 a ha;omega)
  rw[← ag8,aio] at this
  exact this
def mW {α:Type} (k:α→Int) (l out:List α):List α:=l.foldl (fun out x=>NP k x out) out
theorem aaZ {α:Type} (k:α→Int) (l out:List α):(mW k l out).length=out.length+l.length:=by
 unfold mW
 induction l generalizing out with
 | nil=>rfl
 | cons x l ih=>rw[List.foldl_cons,ih,adG,ahI];omega
theorem SP {α:Type} {k:α→Int} (l:List α):∀ {out:List α},Srt k out→Srt k (mW k l out)∧bM k (out++l) (mW k l out):=by
 unfold mW
 induction l with
 | nil=>intro out h;rw[ag9];exact⟨h,bM.refl _ _⟩
 | cons x l ih=>
  intro out h
  obtain⟨h1,h2⟩:=adH (x:=x) h
  obtain⟨h3,h4⟩:=ih h1
  refine⟨h3, ?_⟩
  have:=(h2.append (bM.refl k l)).trans h4
  rw[ag8] at this
  exact this
theorem Srt.N8 {α β:Type} {k:β→Int} {f:α→β} {l:List α} (h:Srt (fun x=>k (f x)) l):Srt k (l.map f):=by
 unfold Srt
 rw[aih];exact h
theorem bM.N8 {α β:Type} {k:β→Int} {f:α→β} {l l':List α} (h:bM (fun x=>k (f x)) l l'):bM k (l.map f) (l'.map f):=
 ⟨h.perm.map f,fun v=>by
   rw[List.filter_map,List.filter_map]
   exact congrArg (List.map f) (h.keys v)⟩
theorem YM {l:List aa} {P:Int→List ay} {A:List ai} {L:List ak} (h:um l P A L):L.map (fun y=>y.1)=(bA A).map aW:=by
 refine ahk fun i=> ?_
 rw[ahy,ahy]
 by_cases hi:i<L.length
 ·have hx:=ahv (l:=bA A) (i:=i) (by rw[← h.len];exact hi)
  have hy:=ahv hi
  rw[hx,hy,ai7,ai7,(h.rel i _ _ hx hy).st]
 ·rw[ahw (by omega),ahw (by rw[← h.len];omega)]
  rfl
end Go.Md
set_option linter.all false
namespace Go.Md
open Go.Dn
end Go.Md
set_option linter.all false
namespace Go.Md
open Go.Dn
end Go.Md
set_option linter.all false
namespace Go.Md
open Go.Dn
theorem Yp (o:aj) (l:List aa) (day:Int) (tx:∀ d,d∈l→Txt d):HK o l day=some (lnF o l day,()):=by
 unfold HK lnF
 rw[ac2 o l tx,ai1]
 dsimp only
 by_cases h:mO o l=0
 ·rw[ajo (show ¬mO o l≠0 from fun e=>e h),h,zne,ajc,Cl,ai1]
  dsimp only
  by_cases hd:1≤day∧day≤3652059
  ·rw[ajp hd,ajh hd];rfl
  ·rw[ajo hd,ajf hd];rfl
 ·rw[fY h,ajd,ajp h]
theorem Ys {o:aj} {l l2:List aa} {P:Int→List ay} {A:List ai} {L:List ak} {ref:List ah} (h:um l P A L) (hI:Ids A):wZ (o,l2,L,ref)=some ((bA A).map aW,()):=by
 have sI:maxLen=9223372036854775807:=rfl
 have hL:L.length≤500:=by rw[h.len,(dn A).length_eq];exact hI.len
 unfold wZ
 dsimp only
 have loop:∀ n,L.length<n→iter (X:=nj) (β:=q7) n ([],L,(L.length:Int),0,()) qZ=some (Sum.inr (L.map (fun y=>y.1),())):=by
  intro n hn
  refine cO (Inv:=fun i X=>X=(((L.take i).map (fun y=>y.1),L,(L.length:Int),(i:Int),()):nj)) L.length (fun z=>z=some (Sum.inr (L.map (fun y=>y.1),()))) ?_ ?_ n 0 _ rfl (aiY _) (by omega)
  ·rintro i X again hi rfl hag
   unfold qZ
   dsimp only
   have hy:L[i]? =some L[i]:=ahv hi
   have hlen:((L.take i).map (fun y=>y.1)).length=i:=by rw[ahL,ahR];omega
   rw[ajh (show (i:Int)<(L.length:Int) by omega),ajd,bZ hy,ai1,hlen,cw (by rw[agx];exact⟨ajh (by omega),ajh (by omega)⟩),av (n:=(i:Int)+1) (by omega) (by omega)]
   have e:(L.take i).map (fun y=>y.1)++[(L[i]).1]=(L.take (i+1)).map (fun y=>y.1):=by rw[fq hy,ahS];rfl
   rw[e]
   exact hag _ rfl
  ·rintro X again rfl
   unfold qZ
   dsimp only
   rw[ajf (show ¬(L.length:Int)<(L.length:Int) by omega),ajc,air]
 rw[loop _ (by omega),aM,YM h]
end Go.Md
set_option linter.all false
namespace Go.Md
open Go.Dn
variable {l:List aa} {A:List ai}
end Go.Md
