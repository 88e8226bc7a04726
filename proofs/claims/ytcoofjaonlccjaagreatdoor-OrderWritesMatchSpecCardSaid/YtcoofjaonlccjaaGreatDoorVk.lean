/-
  Plain facts: the book of the reference; the plain law is true of all data. No condition.
-/
import Derived.Test.YtcoofjaonlccjaaGreatDoorVu
import Derived.Test.YtcoofjaonlccjaaGreatDoorVx
import Derived.Test.YtcoofjaonlccjaaGreatDoorVt
set_option linter.all false
set_option linter.all false
namespace Go.Md
open Go.Dn
structure OF (l:List aa) (P:Int→List aB) (x:aj) (y:ak):Prop where
 st:y.1=bY x
 wish:y.2.1=x.wish
 off0:x.ono=0→y.2.2.1= -1
 off1:x.ono≠0→∃ (j:Nat) (d:aa),y.2.2.1=(j:Int)∧l[j]? =some d∧dNo d=x.ono∧aN (dQ d)=x.oq∧eU d=x.ount∧aG d=7
 ev:y.2.2.2=P x.no
structure AE (l:List aa) (P:Int→List aB) (A:List aj) (L:List ak):Prop where
 len:L.length=(cI A).length
 rel:∀ (k:Nat) x y,(cI A)[k]? =some x→L[k]? =some y→OF l P x y
theorem AE.get {l:List aa} {P:Int→List aB} {A:List aj} {L:List ak} (h:AE l P A L) {k:Nat} {x:aj} (hx:(cI A)[k]? =some x):∃ y,L[k]? =some y∧OF l P x y:=by
 have hlt:=(List.getElem?_eq_some_iff.1 hx).1
 have:k<L.length:=by rw [h.len];exact hlt
 exact ⟨_,List.getElem?_eq_getElem this,h.rel k x _ hx (List.getElem?_eq_getElem this)⟩
def pF (no:Int) (A:List aj):Option Nat:=(cI A).findIdx? fun x=>decide (x.no=no)
theorem GI {no:Int} {A:List aj} (hI:Ids A) {k:Nat} (h:pF no A=some k):∃ x j,(cI A)[k]? =some x∧x.no=no∧fD no A=some j∧A[j]? =some x:=by
 obtain ⟨h1,h2,_⟩:=List.findIdx?_eq_some_iff_getElem.1 h
 have hx:(cI A)[k]? =some (cI A)[k]:=List.getElem?_eq_getElem h1
 have hno:(cI A)[k].no=no:=abU h2
 obtain ⟨j,hj,hjx⟩:=WN hI (List.mem_of_getElem? hx)
 rw [hno] at hj
 exact ⟨_,j,hx,hno,hj,hjx⟩
theorem GH {no:Int} {A:List aj} (h:pF no A=none):fD no A=none∧∀ x,x∈A→x.no≠no:=by
 have hn:∀ x,x∈A→x.no≠no:=fun x hx e=>by
  have:=List.findIdx?_eq_none_iff.1 h x ((iK A).mem_iff.2 hx)
  rw [decide_eq_true e] at this;cases this
 refine ⟨?_,hn⟩
 cases hf:fD no A with
 | none=>rfl
 | some k=>
  obtain ⟨x,hx,hxn⟩:=s6 hf
  exact absurd hxn (hn x (List.mem_of_getElem? hx))
variable {o:ai} {l:List aa} {A:List aj} {L:List ak} {ref:List ah} {P:Int→List aB}
theorem C1 (hB:AE l P A L) (hlen:A.length≤500) (l2:List aa) (no:Int):oG (o,l2,L,ref) no=some (match pF no A with | some k=>(k:Int) | none=> -1,()):=by
 have hL:L.length=A.length:=by rw [hB.len,(iK A).length_eq]
 unfold oG
 dsimp only
 have:∀ m,L.length<m→iter (X:=kH) (β:=nY) m (no,L,(L.length:Int),0,()) nX=some (match pF no A with | some i=>Sum.inl ((i:Int),()) | none=>Sum.inr ()):=by
  intro m hm
  refine de (Inv:=fun i X=>X=((no,L,(L.length:Int),(i:Int),()):kH)∧∀ j,j<i→∀ x,(cI A)[j]? =some x→¬x.no=no) L.length (fun z=>z=some (match pF no A with | some i=>Sum.inl ((i:Int),()) | none=>Sum.inr ())) ?_ ?_ m 0 _ ⟨rfl,fun j hj=>absurd hj (abo _)⟩ (abv _) (by omega)
  ·rintro i X again hi ⟨rfl,hno⟩ hag
   unfold nX
   dsimp only
   have hi2:i<(cI A).length:=by rw [← hB.len];exact hi
   have hx:(cI A)[i]? =some (cI A)[i]:=List.getElem?_eq_getElem hi2
   obtain ⟨y,hy,hr⟩:=hB.get hx
   rw [decide_eq_true (show (i:Int)<(L.length:Int) by omega),cond_true,bQ hy,Option.bind_some,hr.st]
   show (bif (cI A)[i].no==no then _ else _)=_
   by_cases e:(cI A)[i].no=no
   ·rw [show ((cI A)[i].no==no)=true by simpa using e,cond_true]
    have:pF no A=some i:=List.findIdx?_eq_some_iff_getElem.2 ⟨hi2,decide_eq_true e,fun j hj=>by
     have:=hno j hj _ (List.getElem?_eq_getElem (by omega))
     simpa using this⟩
    rw [this]
   ·rw [bU e,cond_false,aD (n:=(i:Int)+1) (by omega) (by omega)]
    refine hag _ ⟨rfl,fun j hj x hjx=> ?_⟩
    by_cases c:j=i
    ·subst c;rw [hx] at hjx;cases hjx;exact e
    ·exact hno j (by omega) x hjx
  ·rintro X again ⟨rfl,hno⟩
   unfold nX
   dsimp only
   rw [abH (show ¬(L.length:Int)<(L.length:Int) by omega),cond_false]
   have:pF no A=none:=List.findIdx?_eq_none_iff.2 fun x hx=>by
    obtain ⟨j,hj⟩:=aaK.1 hx
    have:=hno j (by rw [hB.len];exact (List.getElem?_eq_some_iff.1 hj).1) x hj
    simpa using this
   rw [this]
 rw [this _ (by omega)]
 cases pF no A<;>rfl
theorem Vp {x:aj} (hx:LOk x) (he0:0≤bM o) (he1:bM o≤1000):xF (o,l,L,ref) (bY x)=some (x.ord+x.ord*bM o / 1000,()):=by
 have b4:=hx.qO;have b5:=hx.ord1
 have m0:0≤x.ord*bM o:=ZO b4 he0
 have m1:x.ord*bM o≤x.ord*1000:=ZN he1 b4
 have d0:0≤x.ord*bM o / 1000:=Int.ediv_nonneg m0 (by omega)
 have d1:x.ord*bM o / 1000≤x.ord:=by omega
 unfold xF
 dsimp only
 rw [show (bY x).2.2.2.1=bF x.ord from rfl,qG (cA (n:=x.ord) (by omega)),Option.bind_some]
 dsimp only
 rw [show o.2.2.2.2.1=bM o from rfl,aD (n:=x.ord*bM o) (by omega) (by omega),ZW m0]
 first
  | rw [aD (n:=x.ord*bM o / 1000) (by omega) (by omega),aD (n:=x.ord+x.ord*bM o / 1000) (by omega) (by omega)]
  | rw [aD (n:=x.ord+x.ord*bM o / 1000) (by omega) (by omega)]
theorem PF {x:aj} (hx:LOk x):wk (bY x)=some (bF (x.shp - x.ret),()):=by
 have:=hx.ret0;have:=hx.retr;have:=hx.rcvs;have:=hx.shp1
 exact Oi (s:=bY x) (cA (n:=x.shp) (by omega)) (cA (n:=x.ret) (by omega))
theorem PB {z:Int}:decide (z.sign>0)=decide (0<z):=by
 rw [abG]
 exact Int.sign_pos_iff
theorem Ys {z:Int}:decide (z.sign<0)=decide (z<0):=by
 rw [abG]
 exact Int.sign_neg_iff
set_option maxHeartbeats 1000000 in
theorem Re (hB:AE l P A L) (hA:Good l A) (hI:Ids A) (hl:∀ d,d∈l→aY d=0) (he:0≤bM o∧bM o≤1000) {i:Nat} {d:aa} (hd:l[i]? =some d):
 ri (o,l,L,ref) (i:Int)=some ((bg o l i d A).1,()):=by
 have hL:L.length=A.length:=by rw [hB.len,(iK A).length_eq]
 obtain ⟨_,_,_,hk,_,_,hu⟩:=bz (hl d (List.mem_of_getElem? hd))
 obtain ⟨uq,_⟩:=cW hu
 have huses:=Kp hk
 unfold ri
 dsimp only
 rw [bQ hd,Option.bind_some,C1 hB hI.len l,Option.bind_some,huses]
 dsimp only
 cases hf:pF d.2.2.2.2.1 A with
 | none=>
  obtain ⟨hfl,_⟩:=GH hf
  dsimp only
  rw [show decide ((-1:Int)<0)=true from rfl,cond_true,cond_true,cond_true]
  by_cases k1:aG d=1
  ·rw [show (d.2.2.2.1==1)=true by simpa using k1]
   rw [show (!(true==true))=false from rfl,cond_false,Option.bind_some]
   have hz:bg o l i d A=if 500≤A.length then (16,A) else if eU d<cu o then (1,A) else (0,A++[eN i d]):=by
    unfold bg
    rw [if_pos k1,show fD (cD d) A=none from hfl]
   rw [hz,hL]
   by_cases c1:500≤A.length
   ·rw [if_pos c1,decide_eq_true (show (A.length:Int)≥500 by omega),cond_true]
   ·rw [if_neg c1,abH (show ¬(A.length:Int)≥500 by omega),cond_false,Option.bind_some]
    rw [show usU d.2.2.2.1=true by rw [show d.2.2.2.1=1 from k1];rfl,cond_true,Option.bind_some]
    by_cases c2:eU d<cu o
    ·rw [if_pos c2,decide_eq_true (show d.2.2.2.2.2.2.2.2.2.1<o.2.2.2.1 from c2),cond_true]
    ·rw [if_neg c2,abH (show ¬d.2.2.2.2.2.2.2.2.2.1<o.2.2.2.1 from c2),cond_false]
  ·rw [bU k1]
   rw [show (!(true==false))=true from rfl,cond_true,Gq k1 hfl]
 | some k=>
  obtain ⟨x,j,hx,hxn,hfl,hxj⟩:=GI hI hf
  obtain ⟨y,hy,hr⟩:=hB.get hx
  obtain ⟨hx1,hx2⟩:=hA.sound.line x (List.mem_of_getElem? hxj)
  have b0:=hx1.ret0;have b1:=hx1.retr;have b2:=hx1.rcvs;have b3:=hx1.shp1;have b4:=hx1.qO;have b5:=hx1.ord1
  obtain ⟨p1,p2⟩:=Wy hx1
  dsimp only
  rw [abH (show ¬(k:Int)<0 by omega),cond_false,cond_false,cond_false]
  by_cases k1:aG d=1
  ·rw [show (d.2.2.2.1==1)=true by simpa using k1]
   have hz:bg o l i d A=(7,A):=by
    unfold bg
    rw [if_pos k1,show fD (cD d) A=some j from hfl]
   rw [hz];rfl
  rw [bU k1,show (!(false==false))=false from rfl,cond_false,Option.bind_some,cond_false,Option.bind_some,Jf k1 hfl hxj,bQ hy,Option.bind_some]
  obtain ⟨day,byy,no,kind,line,art,q,unit,p,un,to⟩:=d
  dsimp only at hk k1 uq huses hf hfl ⊢
  obtain ⟨ys,yw,yo,ye⟩:=y
  have r1:=hr.st;have r2:=hr.wish;have r3:=hr.off0;have r4:=hr.off1
  dsimp only at r1 r2 r3 r4
  subst r1;subst r2
  have k1':kind≠1:=k1
  have hk':1≤kind∧kind≤11:=hk
  have h11:kind=2∨kind=3∨kind=4∨kind=5∨kind=6∨kind=7∨kind=8∨kind=9∨kind=10∨kind=11:=by omega
  rcases h11 with rfl | rfl | rfl | rfl | rfl | rfl | rfl | rfl | rfl | rfl
  all_goals simp only [Int.reduceBEq,cond_true,cond_false,aZ,show usU 2=false from rfl,show usU 3=true from rfl,show usU 4=false from rfl,show usU 5=false from rfl,show usU 6=false from rfl,show usU 7=true from rfl,show usU 8=false from rfl,show usU 9=false from rfl,show usU 10=false from rfl,show usU 11=false from rfl]
  ·rw [Option.bind_some,cond_false]
   by_cases h:0≤x.wish
   ·rw [decide_eq_true (show x.wish≥0 from h),cond_true];simp [aV,rB,aG,h]
   ·rw [abH (show ¬x.wish≥0 from h),cond_false];simp [aV,rB,aG,h]
  ·rw [Option.bind_some]
   by_cases c:un<cu o
   ·rw [decide_eq_true (show un<o.2.2.2.1 from c),cond_true];simp [aV,rB,aG,eU,c]
   ·rw [abH (show ¬un<o.2.2.2.1 from c),cond_false]
    by_cases h:0≤x.wish
    ·rw [decide_eq_true (show x.wish≥0 from h),cond_true];simp [aV,rB,aG,eU,c,h]
    ·rw [abH (show ¬x.wish≥0 from h),cond_false];simp [aV,rB,aG,eU,c,h]
  ·rw [Option.bind_some,cond_false]
   by_cases h:0≤x.wish
   ·rw [decide_eq_true (show x.wish≥0 from h),cond_true];simp [aV,rB,aG,h]
   ·rw [abH (show ¬x.wish≥0 from h),cond_false];simp [aV,rB,aG,h]
  ·rw [Option.bind_some,cond_false]
   by_cases h:x.wish<0
   ·rw [decide_eq_true h,cond_true];simp [aV,bA,aG,h]
   ·rw [abH h,cond_false]
    obtain ⟨w,hw1,hw2⟩:=hx2.kind (by omega)
    obtain ⟨_,_,_,_,_,_,hwu⟩:=bz (hl w (List.mem_of_getElem? hw1))
    have hwq:=(cW hwu).1
    rw [GQ (by omega) hw1,Option.bind_some]
    have hact:(aV o l i (day,byy,no,5,line,art,q,unit,p,un,to) x).1=(bA l (day,byy,no,5,line,art,q,unit,p,un,to) x).1:=by
     unfold aV
     rw [if_neg (show ¬(5:Int)≤4 by omega),if_pos (show (5:Int)≤6 by omega)]
     split
     ·rename_i h0;rw [h0]
     ·rfl
    rw [hact]
    unfold bA
    rw [if_neg h,k5 hw1]
    by_cases e:dNo w=to
    ·rw [show (w.2.2.1 != to)=false by simpa using e,cond_false,if_neg (show ¬dNo w≠to from fun h=>h e),if_pos (show (5:Int)=5 from rfl),Option.bind_some]
     by_cases k2:aG w=2
     ·rw [show (w.2.2.2.1==2)=true by simpa using k2,cond_true,Option.bind_some,if_pos k2]
      have hm:=ou (hwq (by rw [k2];rfl))
      have ha:=PF hx1
      unfold bY at ha ⊢
      dsimp only at ha ⊢
      rw [ha,Option.bind_some]
      dsimp only
      rw [xH hm (cA (n:=x.shp - x.ret) (by omega)),Option.bind_some,Option.bind_some,Ys]
      by_cases c:aN (dQ w)<x.shp - x.ret
      ·rw [if_pos c,decide_eq_true (by omega),cond_true]
      ·rw [if_neg c,abH (by omega),cond_false]
     ·rw [bU k2,cond_false,Option.bind_some,if_neg k2]
      by_cases k3:aG w=1
      ·rw [if_pos k3];rfl
      ·rw [if_neg k3]
       split<;>rfl
    ·rw [show (w.2.2.1 != to)=true by simpa using e,cond_true,if_pos (show dNo w≠to from e)]
  ·rw [Option.bind_some,cond_false]
   by_cases h:x.wish<0
   ·rw [decide_eq_true h,cond_true];simp [aV,bA,aG,h]
   ·rw [abH h,cond_false]
    obtain ⟨w,hw1,hw2⟩:=hx2.kind (by omega)
    rw [GQ (by omega) hw1,Option.bind_some]
    have hact:(aV o l i (day,byy,no,6,line,art,q,unit,p,un,to) x).1=(bA l (day,byy,no,6,line,art,q,unit,p,un,to) x).1:=by
     unfold aV
     rw [if_neg (show ¬(6:Int)≤4 by omega),if_pos (show (6:Int)≤6 by omega)]
     split
     ·rename_i h0;rw [h0]
     ·rfl
    rw [hact]
    unfold bA
    rw [if_neg h,k5 hw1]
    by_cases e:dNo w=to
    ·rw [show (w.2.2.1 != to)=false by simpa using e,cond_false,if_neg (show ¬dNo w≠to from fun h=>h e),if_neg (show ¬(6:Int)=5 by omega)];rfl
    ·rw [show (w.2.2.1 != to)=true by simpa using e,cond_true,if_pos (show dNo w≠to from e)]
  ·rw [Option.bind_some]
   have hact:(aV o l i (day,byy,no,7,line,art,q,unit,p,un,to) x).1=kr (cu o) (day,byy,no,7,line,art,q,unit,p,un,to) x:=by
    unfold aV
    rw [if_neg (show ¬(7:Int)≤4 by omega),if_neg (show ¬(7:Int)≤6 by omega),if_pos (show (7:Int)=7 from rfl)]
    split
    ·rename_i h0;rw [h0]
    ·rfl
   rw [hact]
   unfold kr
   by_cases c:un<cu o
   ·rw [decide_eq_true (show un<o.2.2.2.1 from c),cond_true,if_pos (show un<cu o from c)]
   ·rw [abH (show ¬un<o.2.2.2.1 from c),cond_false,if_neg (show ¬un<cu o from c)]
    by_cases h:0≤x.wish
    ·rw [decide_eq_true (show x.wish≥0 from h),cond_true,if_pos (Or.inl h)]
    ·rw [abH (show ¬x.wish≥0 from h),cond_false]
     have hs:=(Ms 3 x.opn).2
     by_cases h0:x.opn=0
     ·rw [if_pos (Or.inr h0),show ((bY x).2.2.2.2.2.2.2.2.2.1==0)=true from (show (((few 3 x.opn).1==(0:Int))=true) by simpa using hs.2 h0),cond_true]
     ·rw [if_neg (fun e=>e.elim h h0),bU (show ¬(bY x).2.2.2.2.2.2.2.2.2.1=0 from fun e=>h0 (hs.1 e)),cond_false]
      have hm:=ou (show qOk q false=true from uq rfl)
      have:=xH hm (cA (n:=x.opn) (by omega))
      unfold bF at this
      unfold bY bF
      dsimp only at this ⊢
      rw [this,Option.bind_some,PB]
      by_cases c:x.opn<aN q
      ·rw [if_pos (show x.opn<aN (dQ (day,byy,no,7,line,art,q,unit,p,un,to)) from c),decide_eq_true (by omega),cond_true]
      ·rw [if_neg (show ¬x.opn<aN (dQ (day,byy,no,7,line,art,q,unit,p,un,to)) from c),abH (by omega),cond_false]
  ·rw [Option.bind_some,cond_false]
   have hact:(aV o l i (day,byy,no,8,line,art,q,unit,p,un,to) x).1=(BI (day,byy,no,8,line,art,q,unit,p,un,to) x).1:=by
    unfold aV
    rw [if_neg (show ¬(8:Int)≤4 by omega),if_neg (show ¬(8:Int)≤6 by omega),if_neg (show ¬(8:Int)=7 by omega),if_pos (show (8:Int)=8 from rfl)]
   rw [hact]
   unfold BI
   by_cases h:0≤x.wish
   ·rw [decide_eq_true (show x.wish≥0 from h),cond_true,if_pos h]
   ·rw [abH (show ¬x.wish≥0 from h),cond_false,if_neg h]
    by_cases h0:x.ono=0
    ·rw [if_pos (Or.inl h0),r3 h0];rfl
    ·obtain ⟨jo,dd,e1,e2,e3,_⟩:=r4 h0
     rw [e1,abH (show ¬(jo:Int)<0 by omega),cond_false,bQ e2,Option.bind_some]
     by_cases e:x.ono=to
     ·rw [show (dd.2.2.1 != to)=false by have:dd.2.2.1=to:=e3.trans e
                                         simpa using this,cond_false,if_neg (fun h'=>h'.elim h0 fun h''=>h'' e)]
     ·rw [show (dd.2.2.1 != to)=true by have:¬dd.2.2.1=to:=fun h'=>e (e3.symm.trans h')
                                        simpa using this,cond_true,if_pos (Or.inr (show x.ono≠to from e))]
  ·rw [Option.bind_some,cond_false]
   have hq:qOk q false=true:=uq rfl
   have hm:=ou hq
   obtain ⟨q0,q1,_⟩:=jD hq
   have hact:(aV o l i (day,byy,no,9,line,art,q,unit,p,un,to) x).1=(bW (bM o) (day,byy,no,9,line,art,q,unit,p,un,to) x).1:=by
    unfold aV
    rw [if_neg (show ¬(9:Int)≤4 by omega),if_neg (show ¬(9:Int)≤6 by omega),if_neg (show ¬(9:Int)=7 by omega),if_neg (show ¬(9:Int)=8 by omega),if_pos (show (9:Int)=9 from rfl)]
    split
    ·rename_i h0;rw [h0]
    ·rfl
   rw [hact]
   have ha:=PF hx1
   have hmo:=Vp (o:=o) (l:=l) (L:=L) (ref:=ref) hx1 he.1 he.2
   have m0:0≤x.ord*bM o:=ZO b4 he.1
   have m1:x.ord*bM o≤x.ord*1000:=ZN he.2 b4
   generalize hM:x.ord+x.ord*bM o / 1000=M at hmo
   have hs:=qG (cA (n:=x.shp) (by omega))
   unfold bW
   rw [if_pos (show (9:Int)=9 from rfl),hM]
   unfold bY at ha hmo ⊢
   dsimp only at ha hmo hs hq hm q0 q1 ⊢
   rw [ha,Option.bind_some]
   dsimp only
   rw [qG (cA (n:=x.shp - x.ret) (by omega)),Option.bind_some,qG hm,Option.bind_some,hmo,Option.bind_some]
   dsimp only
   rw [aD (n:=x.shp - x.ret+aN q) (by omega) (by omega)]
   by_cases c:M<x.shp - x.ret+aN q
   ·rw [decide_eq_true (show x.shp - x.ret+aN q>M from c),cond_true,if_pos c]
   ·rw [abH (show ¬x.shp - x.ret+aN q>M from c),cond_false,if_neg c,hs,Option.bind_some,Option.bind_some]
    dsimp only
    rw [aD (n:=x.shp+aN q) (by omega) (by omega)]
    by_cases c2:1000000000000000<x.shp+aN q
    ·rw [decide_eq_true (show x.shp+aN q>1000000000000000 from c2),cond_true,if_pos c2]
    ·rw [abH (show ¬x.shp+aN q>1000000000000000 from c2),cond_false,if_neg c2]
  ·rw [Option.bind_some,cond_false]
   have hq:qOk q false=true:=uq rfl
   have hm:=ou hq
   obtain ⟨q0,q1,_⟩:=jD hq
   have hact:(aV o l i (day,byy,no,10,line,art,q,unit,p,un,to) x).1=(bW (bM o) (day,byy,no,10,line,art,q,unit,p,un,to) x).1:=by
    unfold aV
    rw [if_neg (show ¬(10:Int)≤4 by omega),if_neg (show ¬(10:Int)≤6 by omega),if_neg (show ¬(10:Int)=7 by omega),if_neg (show ¬(10:Int)=8 by omega),if_neg (show ¬(10:Int)=9 by omega)]
   rw [hact]
   unfold bW
   rw [if_neg (show ¬(10:Int)=9 by omega),if_pos (show (10:Int)=10 from rfl)]
   unfold bY
   dsimp only at hq hm q0 q1 ⊢
   rw [pQ (cA (n:=x.rcv) (by omega)) hm,Option.bind_some]
   dsimp only
   rw [xH (cA (n:=x.rcv+aN q) (by omega)) (cA (n:=x.shp) (by omega)),Option.bind_some,PB]
   by_cases c:x.shp<x.rcv+aN q
   ·rw [if_pos c,decide_eq_true (by omega),cond_true]
   ·rw [if_neg c,abH (by omega),cond_false]
  ·rw [Option.bind_some,cond_false]
   have hq:qOk q false=true:=uq rfl
   have hm:=ou hq
   obtain ⟨q0,q1,_⟩:=jD hq
   have hact:(aV o l i (day,byy,no,11,line,art,q,unit,p,un,to) x).1=(bW (bM o) (day,byy,no,11,line,art,q,unit,p,un,to) x).1:=by
    unfold aV
    rw [if_neg (show ¬(11:Int)≤4 by omega),if_neg (show ¬(11:Int)≤6 by omega),if_neg (show ¬(11:Int)=7 by omega),if_neg (show ¬(11:Int)=8 by omega),if_neg (show ¬(11:Int)=9 by omega)]
   rw [hact]
   unfold bW
   rw [if_neg (show ¬(11:Int)=9 by omega),if_neg (show ¬(11:Int)=10 by omega)]
   unfold bY
   dsimp only at hq hm q0 q1 ⊢
   rw [pQ (cA (n:=x.ret) (by omega)) hm,Option.bind_some]
   dsimp only
   rw [xH (cA (n:=x.ret+aN q) (by omega)) (cA (n:=x.rcv) (by omega)),Option.bind_some,PB]
   by_cases c:x.rcv<x.ret+aN q
   ·rw [if_pos c,decide_eq_true (by omega),cond_true]
   ·rw [if_neg c,abH (by omega),cond_false]
end Go.Md
set_option linter.all false
namespace Go.Md
open Go.Dn
theorem bs {α β:Type} {e:Option α} {f:α→Option β} {r:α} {z:Option β} (h:e=some r) (h2:f r=z):Option.bind e f=z:=by rw [h];exact h2
theorem bJ (l:List aB) (hl:l.length≤2000):gd l=some (l,()):=by
 have wZ:maxLen=9223372036854775807:=rfl
 have hc:(decide ((0+(List.length l))*152≤140737488355328)&&decide (0+(List.length l)≤maxLen))=true:=by
  rw [Zv];exact ⟨decide_eq_true (by omega),decide_eq_true (by omega)⟩
 unfold gd
 rw [dA hc]
 cases l with
 | nil=>simp [both]
 | cons x r=>rfl
theorem jV {x:aj} (hx:LOk x) (v:ah):nH (x.no,x.art,x.unit,bF x.ord,mU x.price,x.due,bF x.shp,bF x.rcv,bF x.ret,v)=some (bY x,()):=by
 have b0:=hx.ret0;have b1:=hx.retr;have b2:=hx.rcvs;have b3:=hx.shp1;have b4:=hx.qO;have b5:=hx.ord1
 exact Pw (s:=(x.no,x.art,x.unit,bF x.ord,mU x.price,x.due,bF x.shp,bF x.rcv,bF x.ret,v)) (cA (n:=x.ord) (by omega)) (cA (n:=x.shp) (by omega)) (cA (n:=x.ret) (by omega)) (by omega)
abbrev BkT:Type:=ai×(List aa)×(List ak)×(List ah)×Unit
theorem Xb {o:ai} {l:List aa} {ref:List ah} {L1:List ak} {k:Nat} {y:ak} {x:aj} {v:ah} (hk:L1[k]? =some y)
 (hs:y.1=(x.no,x.art,x.unit,bF x.ord,mU x.price,x.due,bF x.shp,bF x.rcv,bF x.ret,v)) (hx:LOk x) (hev:y.2.2.2.length≤2000) (i:Int):
 (Option.bind (L1[k]?) fun y37=>Option.bind (nH y37.1) fun r38=>Option.bind (L1[k]?) fun y39=>Option.bind ((List.set L1 k (r38.1,y39.2))[k]?) fun y40=>
   Option.bind (gd y40.2.2.2) fun r41=>Option.bind ((List.set L1 k (r38.1,y39.2))[k]?) fun y42=>
   chk (decide (((r41.1.length)+1)*152≤140737488355328)&&decide ((r41.1.length)+1≤maxLen)) <|
   Option.bind ((List.set L1 k (r38.1,y39.2))[k]?) fun y43=>
   some (((o,l,List.set (List.set L1 k (r38.1,y39.2)) k (y43.1,y43.2.1,y43.2.2.1,r41.1++[(i,y42.1)]),ref,()):BkT),()))=
 some (((o,l,L1.set k (bY x,y.2.1,y.2.2.1,y.2.2.2++[(i,bY x)]),ref,()):BkT),()):=by
 have hlt:=(List.getElem?_eq_some_iff.1 hk).1
 have wZ:maxLen=9223372036854775807:=rfl
 have hr:=jV hx v
 rw [← hs] at hr
 rw [hk,Option.bind_some,hr,Option.bind_some,Option.bind_some]
 dsimp only
 have hg:(List.set L1 k (bY x,y.2))[k]? =some (bY x,y.2):=by rw [aap hlt]
 rw [hg,Option.bind_some,bJ y.2.2.2 hev,Option.bind_some,Option.bind_some]
 dsimp only
 rw [dA (by rw [Zv];exact ⟨decide_eq_true (by omega),decide_eq_true (by omega)⟩),Option.bind_some,aaU]
theorem RR {l:List aa} {L:List ak} {k:Nat} {y:ak} {w:aa} (hk:L[k]? =some y) (hw:idx l y.2.1=some w) (hf:aY w=0) (h4:aG w≤4):
 fK l L k=some (L.set k
  (if aG w≤2 then (y.1.1,y.1.2.1,y.1.2.2.1,bF (aN (dQ w)),y.1.2.2.2.2)
   else if aG w=3 then (y.1.1,y.1.2.1,y.1.2.2.1,y.1.2.2.2.1,y.1.2.2.2.2.1,eU w,y.1.2.2.2.2.2.2)
   else (y.1.1,y.1.2.1,y.1.2.2.1,y.1.2.2.2.1,mU (FA w),y.1.2.2.2.2.2), -1,y.2.2)):=by
 obtain ⟨_,_,_,hkd,_,_,hu⟩:=bz hf
 obtain ⟨uq,up,_⟩:=cW hu
 have hlt:=(List.getElem?_eq_some_iff.1 hk).1
 unfold fK iR
 rw [hk,Option.bind_some,hw,Option.bind_some]
 obtain ⟨day,byy,no,kind,line,art,q,unit,p,un,to⟩:=w
 dsimp only at hkd h4 uq up ⊢
 have hkk:kind=1∨kind=2∨kind=3∨kind=4:=by
  have h1:1≤kind:=hkd.1
  have h2:kind≤4:=h4
  omega
 rcases hkk with rfl | rfl | rfl | rfl
 ·rw [ES (uq rfl)]
  simp only [Int.reduceBEq,cond_true,cond_false,Option.bind_some,aap hlt,aaU]
  rfl
 ·rw [ES (uq rfl)]
  simp only [Int.reduceBEq,cond_true,cond_false,Option.bind_some,aap hlt,aaU]
  rfl
 ·simp only [Int.reduceBEq,cond_true,cond_false,Option.bind_some,aap hlt,aaU]
  rfl
 ·rw [ER (up rfl)]
  simp only [Int.reduceBEq,cond_true,cond_false,Option.bind_some,aap hlt,aaU]
  rfl
end Go.Md
set_option linter.all false
namespace Go.Md
open Go.Dn
def YX (l:List aa) (x:aj) (off:Int):Prop:=
 (x.ono=0→off= -1)∧(x.ono≠0→∃ (j:Nat) (d:aa),off=(j:Int)∧l[j]? =some d∧dNo d=x.ono∧aN (dQ d)=x.oq∧eU d=x.ount∧aG d=7)
variable {o:ai} {l:List aa} {A:List aj} {L:List ak} {ref:List ah} {P:Int→List aB}
theorem AI {β:Type} {n:Nat} {x y:Option β} (h:n≤2000) (e:x=y):chk (decide ((n+1)*152≤140737488355328)&&decide (n+1≤maxLen)) x=y:=by
 have wZ:maxLen=9223372036854775807:=rfl
 rw [dA (by rw [Zv];exact ⟨decide_eq_true (by omega),decide_eq_true (by omega)⟩),e]
theorem Mb {o:ai} {l:List aa} {i:Nat} {d:aa} {x:aj} (hk:aG d≤4) (h0:(aV o l i d x).1=0):(aV o l i d x).2={ x with wish:=(i:Int) }:=by
 unfold aV rB at h0 ⊢
 rw [if_pos hk] at h0 ⊢
 split at h0
 ·cases h0
 ·rename_i h1
  rw [if_neg h1]
  split at h0
  ·cases h0
  ·rename_i h2
   rw [if_neg h2]
theorem Yz {o:ai} {l:List aa} {i:Nat} {d:aa} {x:aj} (hk:aG d=6) (h0:(aV o l i d x).1=0):(aV o l i d x).2=({ x with wish:= -1 }:aj).clr:=by
 unfold aV at h0 ⊢
 rw [if_neg (show ¬aG d≤4 by omega),if_pos (show aG d≤6 by omega)] at h0 ⊢
 have h0':(bA l d x).1=0:=by
  split at h0
  ·rename_i h;exact h
  ·exact h0
 rw [if_pos h0']
 unfold bA at h0' ⊢
 split at h0'
 ·cases h0'
 ·rename_i h1
  rw [if_neg h1]
  split at h0'
  ·cases h0'
  ·rename_i h2
   rw [if_neg h2,if_neg (show ¬aG d=5 by omega)]
theorem XS {o:ai} {l:List aa} {i:Nat} {d w:aa} {x:aj} (hw:l[x.wish.toNat]? =some w) (hw4:1≤aG w∧aG w≤4) (hk:aG d=5) (h0:(aV o l i d x).1=0):
 (aV o l i d x).2=(if aG w≤2 then ({ x with ord:=aN (dQ w),wish:= -1 }:aj) else if aG w=3 then { x with due:=eU w,wish:= -1 } else { x with price:=FA w,wish:= -1 }).clr:=by
 unfold aV at h0 ⊢
 rw [if_neg (show ¬aG d≤4 by omega),if_pos (show aG d≤6 by omega)] at h0 ⊢
 have h0':(bA l d x).1=0:=by
  split at h0
  ·rename_i h;exact h
  ·exact h0
 rw [if_pos h0']
 unfold bA at h0' ⊢
 rw [k5 hw] at h0' ⊢
 split at h0'
 ·cases h0'
 ·rename_i h1
  rw [if_neg h1]
  split at h0'
  ·cases h0'
  ·rename_i h2
   rw [if_neg h2,if_pos hk]
   by_cases k2:aG w=2
   ·rw [if_pos k2] at h0' ⊢
    rw [if_pos (show aG w≤2 by omega)]
    split at h0'
    ·cases h0'
    ·rename_i h3
     rw [if_neg h3]
   ·rw [if_neg k2]
    by_cases k3:aG w=1
    ·rw [if_pos k3,if_pos (show aG w≤2 by omega)]
    ·rw [if_neg k3,if_neg (show ¬aG w≤2 by omega)]
     by_cases k4:aG w=3
     ·rw [if_pos k4,if_pos k4]
     ·rw [if_neg k4,if_neg k4]
theorem XJ {o:ai} {l:List aa} {i:Nat} {d:aa} {x:aj} (hk:aG d=5) (h0:(aV o l i d x).1=0):0≤x.wish:=by
 unfold aV at h0
 rw [if_neg (show ¬aG d≤4 by omega),if_pos (show aG d≤6 by omega)] at h0
 have h0':(bA l d x).1=0:=by
  split at h0
  ·rename_i h;exact h
  ·exact h0
 unfold bA at h0'
 split at h0'
 ·cases h0'
 ·omega
theorem VD {o:ai} {l:List aa} {i:Nat} {d:aa} {x:aj} (hk:aG d=7) (h0:(aV o l i d x).1=0):(aV o l i d x).2={ x with ono:=dNo d,oq:=aN (dQ d),ount:=eU d }:=by
 unfold aV at h0 ⊢
 rw [if_neg (show ¬aG d≤4 by omega),if_neg (show ¬aG d≤6 by omega),if_pos hk] at h0 ⊢
 split at h0
 ·rename_i h;rw [if_pos h]
 ·rename_i h;exact absurd h0 h
theorem WY {o:ai} {l:List aa} {i:Nat} {d:aa} {x:aj} (hk:aG d=8) (h0:(aV o l i d x).1=0):x.ono≠0∧(aV o l i d x).2={ x with ord:=x.shp - x.ret+x.oq,due:=x.ount,ono:=0,oq:=0,ount:=0 }:=by
 unfold aV BI at h0 ⊢
 rw [if_neg (show ¬aG d≤4 by omega),if_neg (show ¬aG d≤6 by omega),if_neg (show ¬aG d=7 by omega),if_pos hk] at h0 ⊢
 split at h0
 ·cases h0
 ·rename_i h1
  rw [if_neg h1]
  split at h0
  ·cases h0
  ·rename_i h2
   rw [if_neg h2]
   exact ⟨fun e=>h2 (Or.inl e),rfl⟩
theorem WX {o:ai} {l:List aa} {i:Nat} {d:aa} {x:aj} (hk:aG d=9) (h0:(aV o l i d x).1=0):(aV o l i d x).2=({ x with shp:=x.shp+aN (dQ d) }:aj).clr:=by
 unfold aV at h0 ⊢
 rw [if_neg (show ¬aG d≤4 by omega),if_neg (show ¬aG d≤6 by omega),if_neg (show ¬aG d=7 by omega),if_neg (show ¬aG d=8 by omega),if_pos hk] at h0 ⊢
 have h0':(bW (bM o) d x).1=0:=by
  split at h0
  ·rename_i h;exact h
  ·exact h0
 rw [if_pos h0']
 unfold bW at h0' ⊢
 rw [if_pos hk] at h0' ⊢
 split at h0'
 ·cases h0'
 ·rename_i h1
  rw [if_neg h1]
  split at h0'
  ·cases h0'
  ·rename_i h2
   rw [if_neg h2]
theorem WV {o:ai} {l:List aa} {i:Nat} {d:aa} {x:aj} (hk:aG d=10) (h0:(aV o l i d x).1=0):(aV o l i d x).2={ x with rcv:=x.rcv+aN (dQ d) }:=by
 unfold aV bW at h0 ⊢
 rw [if_neg (show ¬aG d≤4 by omega),if_neg (show ¬aG d≤6 by omega),if_neg (show ¬aG d=7 by omega),if_neg (show ¬aG d=8 by omega),if_neg (show ¬aG d=9 by omega),if_neg (show ¬aG d=9 by omega),if_pos hk] at h0 ⊢
 split at h0
 ·cases h0
 ·rename_i h1
  rw [if_neg h1]
theorem WW {o:ai} {l:List aa} {i:Nat} {d:aa} {x:aj} (hk:aG d=11) (h0:(aV o l i d x).1=0):(aV o l i d x).2={ x with ret:=x.ret+aN (dQ d) }:=by
 unfold aV bW at h0 ⊢
 rw [if_neg (show ¬aG d≤4 by omega),if_neg (show ¬aG d≤6 by omega),if_neg (show ¬aG d=7 by omega),if_neg (show ¬aG d=8 by omega),if_neg (show ¬aG d=9 by omega),if_neg (show ¬aG d=9 by omega),if_neg (show ¬aG d=10 by omega)] at h0 ⊢
 split at h0
 ·cases h0
 ·rename_i h1
  rw [if_neg h1]
theorem Xf {kind byy:Int} (h1:1≤kind∧kind≤11) (h2:1≤byy∧byy≤2) (h3:(kind=5∨kind=6∨kind=7∨kind=9)↔byy=2) (k1:kind≠1):(kind=2∧byy=1)∨(kind=3∧byy=1)∨(kind=4∧byy=1)∨(kind=5∧byy=2)∨(kind=6∧byy=2)∨(kind=7∧byy=2)∨(kind=8∧byy=1)∨(kind=9∧byy=2)∨(kind=10∧byy=1)∨(kind=11∧byy=1):=by omega
set_option maxHeartbeats 2000000 in
theorem US (hB:AE l P A L) (hA:Good l A) (hI:Ids A) (hl:∀ d,d∈l→aY d=0) (he:0≤bM o∧bM o≤1000) {i:Nat} {d:aa} (hd:l[i]? =some d)
 {k:Nat} {x:aj} {y:ak} (hf:pF (cD d) A=some k) (hx:(cI A)[k]? =some x) (hy:L[k]? =some y) (hr:OF l P x y) (hev:(P x.no).length≤2000)
 (hx1:LOk x) (hx2:WOk l x) (hx':LOk (aV o l i d x).2) (k1:aG d≠1) (h0:(aV o l i d x).1=0):
 ∃ off,iX (o,l,L,ref,()) (i:Int)=some ((o,l,L.set k (bY (aV o l i d x).2,(aV o l i d x).2.wish,off,P x.no++[((i:Int),bY (aV o l i d x).2)]),ref,()),())∧YX l (aV o l i d x).2 off:=by
 obtain ⟨_,hb2,hno,hk,hby,_,hu⟩:=bz (hl d (List.mem_of_getElem? hd))
 obtain ⟨uq,_⟩:=cW hu
 have b0:=hx1.ret0;have b1:=hx1.retr;have b2:=hx1.rcvs;have b3:=hx1.shp1;have b4:=hx1.qO;have b5:=hx1.ord1
 have hlt:=(List.getElem?_eq_some_iff.1 hy).1
 unfold iX
 dsimp only
 rw [bQ hd,Option.bind_some,show ((o,l,L,ref):dY)=(o,l,L,ref) from rfl,C1 hB hI.len l,Option.bind_some,show pF d.2.2.2.2.1 A=some k from hf]
 dsimp only
 rw [abH (show ¬(k:Int)<0 by omega),cond_false,aZ]
 dsimp only
 rw [dA (by rw [Zv];exact ⟨decide_eq_true (by omega),decide_eq_true (by omega)⟩),ZY]
 obtain ⟨day,byy,no,kind,line,art,q,unit,p,un,to⟩:=d
 dsimp only at hk k1 uq hby hb2 hno hf ⊢
 obtain ⟨ys,yw,yo,ye⟩:=y
 have r1:=hr.st;have r2:=hr.wish;have r3:=hr.off0;have r4:=hr.off1;have r5:=hr.ev
 dsimp only at r1 r2 r3 r4 r5
 subst r1;subst r2;subst r5
 have k1':kind≠1:=k1
 have hk':1≤kind∧kind≤11:=hk
 have h11:=Xf hk' hb2 hby k1'
 rcases h11 with ⟨rfl,rfl⟩ | ⟨rfl,rfl⟩ | ⟨rfl,rfl⟩ | ⟨rfl,rfl⟩ | ⟨rfl,rfl⟩ | ⟨rfl,rfl⟩ | ⟨rfl,rfl⟩ | ⟨rfl,rfl⟩ | ⟨rfl,rfl⟩ | ⟨rfl,rfl⟩
 all_goals simp only [Int.reduceBEq,cond_true,cond_false,aZ,hy,Option.bind_some,aap hlt,aaU]
 ·have e:(aV o l i (day,1,no,2,line,art,q,unit,p,un,to) x).2={ x with wish:=(i:Int) }:=Mb (by show (2:Int)≤4;omega) h0
  rw [e] at hx' ⊢
  exact ⟨yo,bs (jV hx' (bF x.opn)) (bs (bJ _ hev) (AI hev rfl)),r3,r4⟩
 ·have e:(aV o l i (day,1,no,3,line,art,q,unit,p,un,to) x).2={ x with wish:=(i:Int) }:=Mb (by show (3:Int)≤4;omega) h0
  rw [e] at hx' ⊢
  exact ⟨yo,bs (jV hx' (bF x.opn)) (bs (bJ _ hev) (AI hev rfl)),r3,r4⟩
 ·have e:(aV o l i (day,1,no,4,line,art,q,unit,p,un,to) x).2={ x with wish:=(i:Int) }:=Mb (by show (4:Int)≤4;omega) h0
  rw [e] at hx' ⊢
  exact ⟨yo,bs (jV hx' (bF x.opn)) (bs (bJ _ hev) (AI hev rfl)),r3,r4⟩
 ·have hwi:=XJ rfl h0
  obtain ⟨w,hw1,hw2⟩:=hx2.kind hwi
  have hwf:=hl w (List.mem_of_getElem? hw1)
  obtain ⟨_,_,_,hwk,_⟩:=bz hwf
  have e:=XS hw1 ⟨hwk.1,hw2⟩ rfl h0
  rw [e] at hx' ⊢
  have hg:(L.set k (bY x,x.wish, -1,P x.no))[k]? =some (bY x,x.wish, -1,P x.no):=aap hlt
  rw [RR hg (GQ hwi hw1) hwf hw2,Option.bind_some,aZ]
  simp only [aaU,aap hlt,Option.bind_some]
  refine ⟨-1, ?_,fun _=> ?_,fun h=>absurd ?_ h⟩
  ·by_cases c2:aG w≤2
   ·simp only [if_pos c2] at hx' ⊢
    exact bs (jV hx' (bF x.opn)) (bs (bJ _ hev) (AI hev rfl))
   ·by_cases c3:aG w=3
    ·simp only [if_neg c2,if_pos c3] at hx' ⊢
     exact bs (jV hx' (bF x.opn)) (bs (bJ _ hev) (AI hev rfl))
    ·simp only [if_neg c2,if_neg c3] at hx' ⊢
     exact bs (jV hx' (bF x.opn)) (bs (bJ _ hev) (AI hev rfl))
  ·rfl
  ·rfl
 ·have e:=Yz rfl h0
  rw [e] at hx' ⊢
  exact ⟨-1,bs (jV hx' (bF x.opn)) (bs (bJ _ hev) (AI hev rfl)),fun _=>rfl,fun h=>absurd rfl h⟩
 ·have e:=VD rfl h0
  rw [e] at hx' ⊢
  exact ⟨i,bs (jV hx' (bF x.opn)) (bs (bJ _ hev) (AI hev rfl)),fun h=>absurd h (by show ¬no=0;omega),fun _=>⟨i,_,rfl,hd,rfl,rfl,rfl,rfl⟩⟩
 ·obtain ⟨hne,e⟩:=WY rfl h0
  rw [e] at hx' ⊢
  obtain ⟨jo,dd,e1,e2,e3,e4,e5,e6⟩:=r4 hne
  subst e1
  obtain ⟨_,_,_,_,_,_,hdu⟩:=bz (hl dd (List.mem_of_getElem? e2))
  have hdq:qOk (dQ dd) (aG dd==2)=true:=(cW hdu).1 (by rw [e6];rfl)
  have hp:jU (bF (x.shp - x.ret)) (dQ dd)=some (bF (x.shp - x.ret+x.oq),()):=by
   rw [← e4];exact pQ (cA (n:=x.shp - x.ret) (by omega)) (ou hdq)
  rw [PF hx1,Option.bind_some,bQ e2,Option.bind_some]
  simp only [Option.bind_some]
  rw [hp,Option.bind_some,aZ]
  simp only [aaU,aap hlt,Option.bind_some]
  have e5':dd.2.2.2.2.2.2.2.2.2.1=x.ount:=e5
  rw [e5']
  exact ⟨-1,bs (jV hx' (bF x.opn)) (bs (bJ _ hev) (AI hev rfl)),fun _=>rfl,fun h=>absurd rfl h⟩
 ·have e:=WX rfl h0
  rw [e] at hx' ⊢
  have hp:jU (bY x).2.2.2.2.2.2.1 (q.1,q.2)=some (bF (x.shp+aN q),()):=pQ (cA (n:=x.shp) (by omega)) (ou (show qOk q false=true from uq rfl))
  rw [hp,Option.bind_some,aZ]
  simp only [aaU,aap hlt,Option.bind_some]
  exact ⟨-1,bs (jV hx' (bF x.opn)) (bs (bJ _ hev) (AI hev rfl)),fun _=>rfl,fun h=>absurd rfl h⟩
 ·have e:=WV rfl h0
  rw [e] at hx' ⊢
  have hp:jU (bY x).2.2.2.2.2.2.2.1 (q.1,q.2)=some (bF (x.rcv+aN q),()):=pQ (cA (n:=x.rcv) (by omega)) (ou (show qOk q false=true from uq rfl))
  rw [hp,Option.bind_some,aZ]
  simp only [aaU,aap hlt,Option.bind_some]
  exact ⟨yo,bs (jV hx' (bF x.opn)) (bs (bJ _ hev) (AI hev rfl)),r3,r4⟩
 ·have e:=WW rfl h0
  rw [e] at hx' ⊢
  have hp:jU (bY x).2.2.2.2.2.2.2.2.1 (q.1,q.2)=some (bF (x.ret+aN q),()):=pQ (cA (n:=x.ret) (by omega)) (ou (show qOk q false=true from uq rfl))
  rw [hp,Option.bind_some,aZ]
  simp only [aaU,aap hlt,Option.bind_some]
  exact ⟨yo,bs (jV hx' (bF x.opn)) (bs (bJ _ hev) (AI hev rfl)),r3,r4⟩
end Go.Md
set_option linter.all false
namespace Go.Md
open Go.Dn
variable {o:ai} {l:List aa} {A:List aj} {L:List ak} {ref:List ah} {P:Int→List aB}
theorem O7 {α:Type} (l:List α) {p:Nat} (v:α) (h:p≤l.length):(l.take p++(v::l.drop p))[p]? =some v:=by
 rw [aai (by rw [aaA];omega),aaA,show p - min p l.length=0 by omega];rfl
theorem X9 {α:Type} (l:List α) {p:Nat} (v v':α) (h:p≤l.length):(l.take p++(v::l.drop p)).set p v'=l.take p++(v'::l.drop p):=by
 rw [List.set_append_right _ _ (by rw [aaA];omega),aaA,show p - min p l.length=0 by omega];rfl
theorem RC:bF 0=(0,0):=by unfold bF;rw [Mt];rfl
theorem U8 (i:Nat) (d:aa):LOk (eN i d):=⟨by show (0:Int)≤0;omega,by show (0:Int)≤0;omega,by show (0:Int)≤0;omega,by show (0:Int)≤_;omega,by show (0:Int)≤0;omega,by show (0:Int)≤_;omega,fun e=>absurd rfl e⟩
theorem UU {M:List aj} (hlen:L.length=M.length) (hst:∀ (k:Nat) x y,M[k]? =some x→L[k]? =some y→y.1=bY x) (hM:M.length≤500) (n:Nat) (hn:M.length<n) {a b c e e9 f g i2 j2 k2 p2 q2 r2:Int} {u v w s t:List UInt8} {no:Int} {z1:List aI}:
 iter (X:=kG) (β:=nW) n (a,0,b,c,e,f,no,u,g,i2,v,j2,k2,p2,q2,w,s,t,r2,e9,z1,l,L,ref,()) nV=
  some (Sum.inr (a,(fe no M:Int),b,c,e,f,no,u,g,i2,v,j2,k2,p2,q2,w,s,t,r2,e9,z1,l,L,ref,())):=by
 have hp:=KS no M
 refine de (Inv:=fun i X=>X=((a,(i:Int),b,c,e,f,no,u,g,i2,v,j2,k2,p2,q2,w,s,t,r2,e9,z1,l,L,ref,()):kG)) (fe no M) (fun z=>z=some (Sum.inr (a,(fe no M:Int),b,c,e,f,no,u,g,i2,v,j2,k2,p2,q2,w,s,t,r2,e9,z1,l,L,ref,()))) ?_ ?_ n 0 _ rfl (abv _) (by omega)
 ·rintro i X again hi rfl hag
  unfold nV
  dsimp only
  have hi2:i<M.length:=by omega
  have hy:L[i]? =some L[i]:=List.getElem?_eq_getElem (by omega)
  have hs:=hst i _ _ (List.getElem?_eq_getElem hi2) hy
  rw [decide_eq_true (show (i:Int)<(L.length:Int) by omega),cond_true]
  rw [dA (by rw [Zv];exact ⟨decide_eq_true (by omega),rfl⟩),ZY,hy,Option.bind_some,Option.bind_some,hs]
  have hlt:=Uu no M i _ hi (List.getElem?_eq_getElem hi2)
  dsimp only
  rw [decide_eq_true (show (bY M[i]).1<no from hlt),cond_true,aD (n:=(i:Int)+1) (by omega) (by omega)]
  exact hag _ rfl
 ·rintro X again rfl
  unfold nV
  dsimp only
  by_cases h:fe no M<M.length
  ·have hy:L[fe no M]? =some (L[fe no M]'(by omega)):=List.getElem?_eq_getElem (by omega)
   have hs:=hst _ _ _ (List.getElem?_eq_getElem h) hy
   rw [decide_eq_true (show ((fe no M:Nat):Int)<(L.length:Int) by omega),cond_true]
   rw [dA (by rw [Zv];exact ⟨decide_eq_true (by omega),rfl⟩),ZY,hy,Option.bind_some,Option.bind_some,hs]
   have hge:=Ut no M _ (List.getElem?_eq_getElem h)
   dsimp only
   rw [abH (show ¬(bY M[fe no M]).1<no from hge),cond_false]
  ·rw [abH (show ¬((fe no M:Nat):Int)<(L.length:Int) by omega),cond_false]
   rfl
set_option maxHeartbeats 1000000 in
theorem UT (hB:AE l P A L) (hI:Ids A) (hl:∀ d,d∈l→aY d=0) {i:Nat} {d:aa} (hd:l[i]? =some d) (hf:pF (cD d) A=none) (k1:aG d=1):
 iX (o,l,L,ref,()) (i:Int)=some ((o,l,L.take (fe (cD d) (cI A))++((bY (eN i d),(i:Int), -1,[((i:Int),bY (eN i d))])::L.drop (fe (cD d) (cI A))),ref,()),()):=by
 obtain ⟨_,hb2,hno,hk,hby,_,hu⟩:=bz (hl d (List.mem_of_getElem? hd))
 obtain ⟨_,up,_⟩:=cW hu
 have hlen:=hI.len
 have hsl:(cI A).length=A.length:=(iK A).length_eq
 have hL:=hB.len
 have hps:=KS (cD d) (cI A)
 unfold iX
 dsimp only
 rw [bQ hd,Option.bind_some,C1 hB hI.len l,Option.bind_some,show pF d.2.2.2.2.1 A=none from hf]
 dsimp only
 rw [decide_eq_true (show (-1:Int)<0 by omega),cond_true]
 rw [UU (M:=cI A) hB.len (fun k x y hx hy=>(hB.rel k x y hx hy).st) (by omega) _ (by omega),aZ]
 dsimp only
 obtain ⟨day,byy,no,kind,line,art,q,unit,p,un,to⟩:=d
 dsimp only at hk k1 up hby hb2 hno hf ⊢
 have hps:fe line (cI A)≤(cI A).length:=hps
 have k1':kind=1:=k1
 subst k1'
 have hb1:byy=1:=by omega
 subst hb1
 rw [show ff (p.1,p.2)=some (mU p,()) from ER (up rfl),Option.bind_some]
 dsimp only
 have hins:∀ v,fL L (fe line (cI A):Int) [v]=some (L.take (fe line (cI A))++(v::L.drop (fe line (cI A))),()):=by
  intro v
  show (bif _ then _ else _)=_
  rw [show (decide (0≤((fe line (cI A):Nat):Int))&&(decide (((fe line (cI A):Nat):Int)≤(L.length:Int))&&(decide (0<[v].length)&&(decide ((L.length+[v].length)*184≤140737488355328)&&decide (L.length+[v].length≤4611686018427387904)))))=true by
   simp only [Zv,abJ,List.length_singleton];omega,cond_true,ZY]
  rfl
 rw [hins,Option.bind_some,aZ]
 dsimp only
 have hpl:fe line (cI A)≤L.length:=by omega
 rw [dA (by rw [Zv];exact ⟨decide_eq_true (by omega),decide_eq_true (by simp;omega)⟩),ZY]
 simp only [Int.reduceBEq,cond_true,cond_false,aZ]
 generalize hV:((((line,art,unit,(0,0),mU p,un,(0,0),(0,0),(0,0),0,0):fU),(i:Int), -1,[]):ak)=v
 have hget:=O7 L v hpl
 have hset:=fun v'=>X9 L v v' hpl
 subst hV
 refine (Xb (x:=eN i (day,1,no,1,line,art,q,unit,p,un,to)) (v:=(0,0)) hget ?_ (U8 _ _) (by show 0≤2000;omega) (i:Int)).trans ?_
 ·show _=(line,art,unit,bF 0,mU p,un,bF 0,bF 0,bF 0,(0,0))
  rw [RC]
 ·rw [hset];rfl
end Go.Md
set_option linter.all false
namespace Go.Md
open Go.Dn
theorem YL {M:List aj} (hs:M.Pairwise fun x y=>x.no<y.no) {m k:Nat} {a b:aj} (ha:M[m]? =some a) (hb:M[k]? =some b) (h:a.no=b.no):m=k:=by
 obtain ⟨hm,rfl⟩:=List.getElem?_eq_some_iff.1 ha
 obtain ⟨hk,rfl⟩:=List.getElem?_eq_some_iff.1 hb
 rw [aaS] at hs
 rcases abi m k with c | c | c
 ·have:=hs m k hm hk c;omega
 ·exact c
 ·have:=hs k m hk hm c;omega
variable {o:ai} {l:List aa} {A:List aj} {L:List ak} {ref:List ah} {P:Int→List aB}
theorem Yp {M:List aj} (p:Nat) (hp:p≤M.length) (hL:L.length=M.length) {P':Int→List aB} {x:aj} {y:ak} (hr:∀ (k:Nat) a b,M[k]? =some a→L[k]? =some b→OF l P' a b) (hxy:OF l P' x y):
 ∀ (k:Nat) a b,(M.take p++x::M.drop p)[k]? =some a→(L.take p++y::L.drop p)[k]? =some b→OF l P' a b:=by
 intro k a b ha hb
 rcases abi k p with c | c | c
 ·rw [aah (by rw [aaA];omega),aar c] at ha hb
  exact hr k a b ha hb
 ·subst c
  rw [O7 M x hp] at ha
  rw [O7 L y (by omega)] at hb
  cases ha;cases hb;exact hxy
 ·rw [aai (by rw [aaA];omega),aaA,show k - min p M.length=(k - p - 1)+1 by omega,aaj,aal] at ha
  rw [aai (by rw [aaA];omega),aaA,show k - min p L.length=(k - p - 1)+1 by omega,aaj,aal] at hb
  exact hr _ a b ha hb
theorem follow_eq (hB:AE l P A L) (hA:Good l A) (hI:Ids A) (hl:∀ d,d∈l→aY d=0) (he:0≤bM o∧bM o≤1000) (hP:∀ wt,(P wt).length≤2000) (hN:∀ wt,(∀ x,x∈A→x.no≠wt)→P wt=[])
 {i:Nat} {d:aa} (hd:l[i]? =some d) (h0:(bg o l i d A).1=0):
 ∃ L',iX (o,l,L,ref,()) (i:Int)=some ((o,l,L',ref,()),())∧AE l (fun wt=>pN wt i d (bg o l i d A).2 (P wt)) (bg o l i d A).2 L':=by
 have hA':=Gp (o:=o) hA hl hd
 by_cases k1:aG d=1
 ·cases hf:pF (cD d) A with
  | some k=>
   obtain ⟨x,j,_,_,hfl,_⟩:=GI hI hf
   unfold bg at h0
   rw [if_pos k1,hfl] at h0
   cases h0
  | none=>
   obtain ⟨hfl,hne⟩:=GH hf
   have hz:(bg o l i d A).2=A++[eN i d]:=by
    unfold bg at h0 ⊢
    rw [if_pos k1,hfl] at h0 ⊢
    dsimp only at h0 ⊢
    split at h0
    ·cases h0
    ·rename_i c1
     rw [if_neg c1]
     split at h0
     ·cases h0
     ·rename_i c2
      rw [if_neg c2]
   refine ⟨_,UT hB hI hl hd hf k1, ?_⟩
   rw [hz]
   have hs:=XF hI (y:=eN i d) hne
   have hs':cI (A++[eN i d])=(cI A).take (fe (cD d) (cI A))++eN i d::(cI A).drop (fe (cD d) (cI A)):=hs
   have hps:=KS (cD d) (cI A)
   have hlen:=hB.len
   have hlL:l7 (cD d) (A++[eN i d])=some (eN i d):=by
    refine Bx (k:=A.length) ?_ (by rw [aai (abb _),Nat.sub_self];rfl)
    unfold fD
    rw [Bq,show bR (cD d) 0 A=none from hfl,Option.none_or,if_pos (show cD d=(eN i d).no from rfl),abu]
   refine ⟨?_, ?_⟩
   ·rw [hs']
    simp only [aat,aaA,aau,aav]
    omega
   ·rw [hs']
    refine Yp _ hps hlen (fun k a b ha hb=> ?_) ?_
    ·obtain ⟨r1,r2,r3,r4,r5⟩:=hB.rel k a b ha hb
     have:cD d≠a.no:=fun e=>hne a ((iK A).mem_iff.1 (List.mem_of_getElem? ha)) e.symm
     exact ⟨r1,r2,r3,r4,by rw [r5];unfold pN;rw [if_neg this]⟩
    ·refine ⟨rfl,rfl,fun _=>rfl,fun h=>absurd rfl h, ?_⟩
     show [((i:Int),bY (eN i d))]=pN (cD d) i d (A++[eN i d]) (P (cD d))
     unfold pN
     rw [if_pos rfl,hlL,hN (cD d) hne]
     rfl
 ·cases hf:pF (cD d) A with
  | none=>
   obtain ⟨hfl,_⟩:=GH hf
   rw [Gq k1 hfl] at h0
   cases h0
  | some k=>
   obtain ⟨x,j,hx,hxn,hfl,hxj⟩:=GI hI hf
   obtain ⟨y,hy,hr⟩:=hB.get hx
   obtain ⟨hx1,hx2⟩:=hA.sound.line x (List.mem_of_getElem? hxj)
   rw [Jf k1 hfl hxj] at h0 hA' ⊢
   dsimp only at h0 hA' ⊢
   obtain ⟨hx1',_,hno,_⟩:=BN (o:=o) hx1 hx2 hl hd
   obtain ⟨off,hfo,hoff⟩:=US (ref:=ref) hB hA hI hl he hd hf hx hy hr (hP _) hx1 hx2 hx1' k1 h0
   refine ⟨_,hfo, ?_⟩
   have hs:=XG hI (y:=(aV o l i d x).2) hxj hx hno
   have hkl:=(List.getElem?_eq_some_iff.1 hx).1
   have hky:=(List.getElem?_eq_some_iff.1 hy).1
   have hlL:l7 (cD d) (A.set j (aV o l i d x).2)=some (aV o l i d x).2:=by
    refine Bx (k:=j) ?_ (aap (List.getElem?_eq_some_iff.1 hxj).1)
    have:fD (cD d) (A.set j (aV o l i d x).2)=fD (cD d) A:=GG A 0 (fun z hz=>by rw [hxj] at hz;cases hz;exact hno)
    rw [this];exact hfl
   refine ⟨by rw [hs,aaz,aaz];exact hB.len,fun m a b ha hb=> ?_⟩
   rw [hs] at ha
   by_cases c:k=m
   ·subst c
    rw [aap hkl] at ha
    rw [aap hky] at hb
    cases ha;cases hb
    refine ⟨rfl,rfl,hoff.1,hoff.2, ?_⟩
    show P x.no++[((i:Int),bY (aV o l i d x).2)]=pN (aV o l i d x).2.no i d _ (P (aV o l i d x).2.no)
    unfold pN
    rw [hno,if_pos hxn.symm,hlL]
   ·rw [aao c] at ha hb
    obtain ⟨r1,r2,r3,r4,r5⟩:=hB.rel m a b ha hb
    have:cD d≠a.no:=fun e=>c (YL (PD hI) hx ha (by rw [hxn];exact e))
    exact ⟨r1,r2,r3,r4,by rw [r5];unfold pN;rw [if_neg this]⟩
end Go.Md
set_option linter.all false
namespace Go.Md
open Go.Dn
theorem U4 {n:Int} {A:List aj} (h:∀ x,x∈A→x.no≠n):l7 n A=none:=by
 unfold l7
 rw [show fD n A=none from En h];rfl
theorem wo {o:ai} {l:List aa} {wt day:Int}:∀ (r:List aa) (i:Nat) (A:List aj) (ref:List (Int×Int)) (pts:List aB),(∀ d,d∈r→day<d.1)→eA o l wt day r i A ref pts=(A,ref,pts)
 | [],_,_,_,_,_=>rfl
 | d::r,i,A,ref,pts,h=>by simp only [eA];rw [if_pos (h d (by simp))]
theorem WH {o1 o2 o3:List UInt8} {o4 o5:Int} {o6:List aI} {l:List aa} {day:Int} (he:0≤o5∧o5≤1000) (hl:∀ d,d∈l→aY d=0) (hlen:l.length≤2000) (hs:l.Pairwise fun a b=>a.1≤b.1):
 ∀ (r:List aa) (i n:Nat) (A:List aj) (L:List ak) (ref:List (Int×Int)) (P:Int→List aB),l.drop i=r→i≤l.length→Good l A→Ids A→AE l P A L→(∀ wt,(P wt).length≤i)→(∀ wt,l7 wt A=none→P wt=[])→ref.length≤i→r.length<n→
  ∃ L',iter (X:=D6) (β:=D5) n (day,l,(l.length:Int),(i:Int),o1,o2,o3,o4,o5,o6,l,L,ref,()) Ay=some (Sum.inr (o1,o2,o3,o4,o5,o6,l,L',(eA (o1,o2,o3,o4,o5,o6) l 0 day r i A ref []).2.1,()))∧
   AE l (fun wt=>(eA (o1,o2,o3,o4,o5,o6) l wt day r i A ref (P wt)).2.2) (eA (o1,o2,o3,o4,o5,o6) l 0 day r i A ref []).1 L':=by
 intro r
 induction r with
 | nil=>
  intro i n A L ref P hd hi hA hI hB hp hN hr hn
  have:i=l.length:=by
   have:=congrArg List.length hd
   simp at this;omega
  subst this
  obtain ⟨n,rfl⟩:∃ m,n=m+1:=⟨n - 1,by omega⟩
  refine ⟨L, ?_,hB⟩
  rw [dK]
  unfold Ay
  dsimp only
  rw [abH (show ¬((l.length:Int)<(l.length:Int)) by omega),cond_false]
  rfl
 | cons d r ih=>
  intro i n A L ref P hdr hi hA hI hB hp hN hr hn
  have hd:l[i]? =some d:=by
   have:=congrArg (·[0]?) hdr
   simpa [aal] using this
  have hr':l.drop (i+1)=r:=by
   have:=congrArg List.tail hdr
   simpa [aaW] using this
  have hlt:i<l.length:=(List.getElem?_eq_some_iff.1 hd).1
  have hlate:∀ e,e∈r→d.1≤e.1:=by
   have h:=hs.sublist (List.drop_sublist i l)
   rw [hdr] at h
   exact fun e he=>(List.pairwise_cons.1 h).1 e he
  obtain ⟨n,rfl⟩:∃ m,n=m+1:=⟨n - 1,by simp at hn;omega⟩
  rw [dK]
  generalize hag:(fun y=>iter n y Ay)=again
  unfold Ay
  dsimp only
  rw [decide_eq_true (show (i:Int)<(l.length:Int) by omega),cond_true,bQ hd,Option.bind_some,aD (n:=(i:Int)+1) (by omega) (by omega),show (i:Int)+1=((i+1:Nat):Int) by omega]
  have wZ:maxLen=9223372036854775807:=rfl
  by_cases hday:day<d.1
  ·rw [decide_eq_true (show d.1>day from hday),cond_true, ← hag]
   have hl1:∀ e,e∈d::r→day<e.1:=fun e he=>by
    rcases aaH.1 he with rfl | he
    ·exact hday
    ·have:=hlate e he;omega
   obtain ⟨L',e1,e2⟩:=ih (i+1) n A L ref P hr' (by omega) hA hI hB (fun wt=>by have:=hp wt;omega) hN (by omega) (by simp at hn;omega)
   refine ⟨L', ?_, ?_⟩
   ·refine e1.trans ?_
    rw [wo r _ _ _ _ (fun e he=>hl1 e (by simp [he])),wo (d::r) _ _ _ _ hl1]
   ·have w:∀ wt,eA (o1,o2,o3,o4,o5,o6) l wt day (d::r) i A ref (P wt)=eA (o1,o2,o3,o4,o5,o6) l wt day r (i+1) A ref (P wt):=fun wt=>by
     rw [wo r _ _ _ _ (fun e he=>hl1 e (by simp [he])),wo (d::r) _ _ _ _ hl1]
    have w0:eA (o1,o2,o3,o4,o5,o6) l 0 day (d::r) i A ref []=eA (o1,o2,o3,o4,o5,o6) l 0 day r (i+1) A ref []:=by
     rw [wo r _ _ _ _ (fun e he=>hl1 e (by simp [he])),wo (d::r) _ _ _ _ hl1]
    rw [w0]
    simp only [w]
    exact e2
  ·rw [abH (show ¬d.1>day from hday),cond_false]
   have hrf:=Re (o:=(o1,o2,o3,o4,o5,o6)) (ref:=ref) hB hA hI hl he hd
   rw [hrf,Option.bind_some]
   dsimp only
   have hgood:=Gp (o:=(o1,o2,o3,o4,o5,o6)) hA hl hd
   have hids:=VX (o:=(o1,o2,o3,o4,o5,o6)) hA hI hl hd
   simp only [eA,if_neg hday]
   by_cases h0:(bg (o1,o2,o3,o4,o5,o6) l i d A).1=0
   ·simp only [if_neg (show ¬(bg (o1,o2,o3,o4,o5,o6) l i d A).1≠0 from fun h=>h h0)]
    rw [h0,show ((0:Int) != 0)=false from rfl,cond_false]
    obtain ⟨L1,f1,f2⟩:=follow_eq (ref:=ref) hB hA hI hl he (fun wt=>by have:=hp wt;omega) (fun wt h=>hN wt (U4 h)) hd h0
    rw [f1,Option.bind_some]
    dsimp only
    rw [← hag]
    have pl:∀ wt,(pN wt i d (bg (o1,o2,o3,o4,o5,o6) l i d A).2 (P wt)).length≤i+1:=fun wt=>by
     have:=hp wt
     unfold pN
     split
     ·split
      ·simp;omega
      ·omega
     ·omega
    have pn:∀ wt,l7 wt (bg (o1,o2,o3,o4,o5,o6) l i d A).2=none→pN wt i d (bg (o1,o2,o3,o4,o5,o6) l i d A).2 (P wt)=[]:=fun wt h=>by
     by_cases e:cD d=wt
     ·subst e
      obtain ⟨k,x,hk,hx⟩:=LK hA.sound hl hd h0
      rw [Bx hk hx] at h;cases h
     ·unfold pN
      rw [if_neg e]
      rw [Te hA.sound hl hd e] at h
      exact hN wt h
    obtain ⟨L',e1,e2⟩:=ih (i+1) n _ L1 ref _ hr' (by omega) hgood hids f2 pl pn (by omega) (by simp at hn;omega)
    have w:=Py (o:=(o1,o2,o3,o4,o5,o6)) (l:=l) 0 0 day r (i+1) (bg (o1,o2,o3,o4,o5,o6) l i d A).2 ref (pN 0 i d (bg (o1,o2,o3,o4,o5,o6) l i d A).2 []) []
    rw [w.1,w.2]
    exact ⟨L',e1,e2⟩
   ·simp only [if_pos (show (bg (o1,o2,o3,o4,o5,o6) l i d A).1≠0 from h0)]
    rw [cR h0,cond_true]
    rw [dA (by rw [Zv];exact ⟨decide_eq_true (by omega),decide_eq_true (by omega)⟩)]
    rw [← hag]
    have hsame:=(Mg (o:=(o1,o2,o3,o4,o5,o6)) hA.sound hl hd).2 h0
    rw [hsame]
    exact ih (i+1) n A L _ P hr' (by omega) hA hI hB (fun wt=>by have:=hp wt;omega) hN (by simp;omega) (by simp at hn;omega)
theorem UL {l:List aa} (h:eV l=0):l.Pairwise fun a b=>a.1≤b.1:=
 (UK h).1.imp fun {a b} h=>by
   have:=(Uf a b).1 h
   unfold Lex at this
   omega
theorem U5 {o:ai} (ho:iu o=0) (l:List aa):AE l (fun _=>[]) (ef o) ((ef o).map fun x=>(bY x, -1, -1,[])):=by
 have hI:=Qi ho
 obtain ⟨_,_,_,_,hgo,_⟩:=r0 ho
 obtain ⟨_,_,hpw⟩:=mz hgo
 have hs:cI (ef o)=ef o:=PE (List.Perm.refl _) (by rw [List.pairwise_map];exact hpw)
 refine ⟨by rw [hs,aaw],fun k x y hx hy=> ?_⟩
 rw [hs] at hx
 rw [List.getElem?_map,hx] at hy
 cases hy
 obtain ⟨q,_,rfl⟩:=aaL.1 (List.mem_of_getElem? hx)
 exact ⟨rfl,rfl,fun _=>rfl,fun h=>absurd rfl h,rfl⟩
theorem U6 {o1 o2 o3:List UInt8} {o4 o5:Int} {o6:List aI} (ho:iu (o1,o2,o3,o4,o5,o6)=0) (l:List aa) (day:Int) (n:Nat) (hn:o6.length<n):
 iter (X:=Az) (β:=D4) n (l,day,o6,(o6.length:Int),0,o1,o2,o3,o4,o5,o6,l,[],[],()) D3=some (Sum.inr (l,day,o1,o2,o3,o4,o5,o6,l,(ef (o1,o2,o3,o4,o5,o6)).map (fun x=>(bY x, -1, -1,[])),[],())):=by
 obtain ⟨_,_,hl5,_,hgo,_⟩:=r0 ho
 obtain ⟨hln,_,_⟩:=mz hgo
 have hg:=By ho l
 have hl5:o6.length≤500:=hl5
 have wZ:maxLen=9223372036854775807:=rfl
 refine de (Inv:=fun i X=>X=((l,day,o6,(o6.length:Int),(i:Int),o1,o2,o3,o4,o5,o6,l,((o6.take i).map ji).map (fun x=>(bY x, -1, -1,[])),[],()):Az)) o6.length (fun z=>z=some (Sum.inr (l,day,o1,o2,o3,o4,o5,o6,l,(ef (o1,o2,o3,o4,o5,o6)).map (fun x=>(bY x, -1, -1,[])),[],()))) ?_ ?_ n 0 _ rfl (abv _) (by omega)
 ·rintro i X again hi rfl hag
  unfold D3
  dsimp only
  have hx:o6[i]? =some o6[i]:=List.getElem?_eq_getElem hi
  obtain ⟨_,h2,_,h4,_⟩:=hln _ (List.mem_of_getElem? hx)
  have hok:=(hg.sound.line (ji o6[i]) (aaL.2 ⟨_,List.mem_of_getElem? hx,rfl⟩)).1
  rw [decide_eq_true (show (i:Int)<(o6.length:Int) by omega),cond_true,bQ hx,Option.bind_some,ES h2,Option.bind_some,ER h4,Option.bind_some]
  have hre:=jV hok (0,0)
  have e0:bF (ji o6[i]).shp=(0,0):=RC
  have e1:bF (ji o6[i]).rcv=(0,0):=RC
  have e2:bF (ji o6[i]).ret=(0,0):=RC
  rw [e0,e1,e2] at hre
  refine bs hre ?_
  dsimp only
  rw [dA (by rw [Zv];exact ⟨decide_eq_true (by simp;omega),decide_eq_true (by simp;omega)⟩),aD (n:=(i:Int)+1) (by omega) (by omega)]
  refine hag _ ?_
  rw [xS hx,aaB,aaB]
  rfl
 ·rintro X again rfl
  unfold D3
  dsimp only
  rw [abH (show ¬(o6.length:Int)<(o6.length:Int) by omega),cond_false,aa0]
theorem Qv {o:ai} {l:List aa} (h:fI o l=0) (day:Int):
 ∃ L,Ko o l day=some ((o,l,L,(ew o l 0 day).2.1,()),())∧AE l (fun wt=>(ew o l wt day).2.2) (ew o l 0 day).1 L:=by
 obtain ⟨h1,h2⟩:=vV h
 obtain ⟨h3,h4⟩:=gW h2
 obtain ⟨o1,o2,o3,o4,o5,o6⟩:=o
 obtain ⟨L,e1,e2⟩:=WH (o1:=o1) (o2:=o2) (o3:=o3) (o4:=o4) (o6:=o6) (day:=day) (r0 h1).2.1 h4 h3 (UL h2) l 0 (Int.natAbs day+(List.length l+(Int.natAbs ((List.length l:Int))+(Int.natAbs (0:Int)+(List.length o1+(List.length o2+(List.length o3+(Int.natAbs o4+(Int.natAbs o5+(List.length o6+(List.length l+(List.length ((ef (o1,o2,o3,o4,o5,o6)).map (fun x=>((bY x, -1, -1,[]):ak)))+(List.length ([]:List ah)+2))))))))))))) _ _ [] _ rfl (abv _) (By h1 l) (Qi h1) (U5 h1 l) (fun _=>abv _) (fun _ _=>rfl) (abv _) (by omega)
 refine ⟨L, ?_,e2⟩
 unfold Ko
 dsimp only
 rw [U6 h1 l day _ (by omega),aZ]
 dsimp only
 rw [show ((0:Nat):Int)=0 from rfl] at e1
 rw [e1,aZ]
 rfl
end Go.Md
set_option linter.all false
namespace Go.Md
open Go.Dn
theorem Qt (o:ai) (l:List aa) (tx:∀ d,d∈l→Txt d):Km o l=some (fI o l,()):=by
 unfold Km fI
 rw [MQ,Option.bind_some]
 dsimp only
 by_cases h:iu o=0
 ·rw [if_neg (show ¬iu o≠0 from fun e=>e h),h,show ((0:Int) != 0)=false from rfl,cond_false,CZ l tx,Option.bind_some]
 ·rw [cR h,cond_true,if_pos h]
theorem Xr (l:List aa) (b m:Int):nxt l b (w64 (m+1))=w64 (l.foldl (fun m d=>if d.2.1=b then d.2.2.1 else m) m+1):=by
 induction l generalizing m with
 | nil=>rfl
 | cons d r ih=>
  rw [Xq,List.foldl_cons]
  by_cases h:d.2.1=b
  ·rw [if_pos h,if_pos h];exact ih _
  ·rw [if_neg h,if_neg h];exact ih _
theorem Wr (l:List aa) (b:Int):w64 (mT b l+1)=G7 l b:=(Xr l b 0).symm
theorem OD {l out:List aa} {e:Int}:∀ (r ref:List ah) (i n:Nat),ref.drop i=r→i≤ref.length→ref.length≤2001→(∀ x,x∈r→x.1=(l.length:Int)→x.2=e)→r.length<n→
 iter (X:=xE) (β:=xD) n (l,out,(ref.length:Int),(i:Int),ref,()) sB=some (if (∃ x,x∈r∧x.1=(l.length:Int)) then Sum.inl ([],e,()) else Sum.inr (out,())):=by
 intro r
 induction r with
 | nil=>
  intro ref i n hd hi hl he hn
  have:i=ref.length:=by
   have:=congrArg List.length hd
   simp at this;omega
  subst this
  obtain ⟨n,rfl⟩:∃ m,n=m+1:=⟨n - 1,by omega⟩
  rw [dK]
  unfold sB
  dsimp only
  rw [abH (show ¬((ref.length:Int)<(ref.length:Int)) by omega),cond_false,if_neg (fun ⟨x,hx,_⟩=>by cases hx)]
 | cons x r ih=>
  intro ref i n hdr hi hl he hn
  have hd:ref[i]? =some x:=by
   have:=congrArg (·[0]?) hdr
   simpa [aal] using this
  have hr':ref.drop (i+1)=r:=by
   have:=congrArg List.tail hdr
   simpa [aaW] using this
  have hlt:i<ref.length:=(List.getElem?_eq_some_iff.1 hd).1
  obtain ⟨n,rfl⟩:∃ m,n=m+1:=⟨n - 1,by simp at hn;omega⟩
  rw [dK]
  generalize hag:(fun y=>iter n y sB)=again
  unfold sB
  dsimp only
  rw [decide_eq_true (show (i:Int)<(ref.length:Int) by omega),cond_true]
  rw [dA (by rw [Zv];exact ⟨decide_eq_true (by omega),rfl⟩),ZY,hd,Option.bind_some]
  by_cases h:x.1=(l.length:Int)
  ·rw [show (x.1==(l.length:Int))=true by simpa using h,cond_true,if_pos ⟨x,by simp,h⟩,he x (by simp) h]
  ·rw [bU h,cond_false,aD (n:=(i:Int)+1) (by omega) (by omega), ← hag,show (i:Int)+1=((i+1:Nat):Int) by omega]
   refine (ih ref (i+1) n hr' (by omega) hl (fun y hy=>he y (by simp [hy])) (by simp at hn;omega)).trans ?_
   have:(∃ y,y∈x::r∧y.1=(l.length:Int))↔(∃ y,y∈r∧y.1=(l.length:Int)):=⟨fun ⟨y,hy,e⟩=>by
    rcases aaH.1 hy with rfl | hy
    ·exact absurd e h
    ·exact ⟨y,hy,e⟩,fun ⟨y,hy,e⟩=>⟨y,by simp [hy],e⟩⟩
   by_cases c:∃ y,y∈r∧y.1=(l.length:Int)
   ·rw [if_pos c,if_pos (this.2 c)]
   ·rw [if_neg c,if_neg (fun h=>c (this.1 h))]
theorem Vo (o:ai) (l:List aa) (d:aa) (tx:∀ d,d∈l→Txt d) (td:Txt d):Hv o l d=some ((wrF o l d).1,(wrF o l d).2,()):=by
 unfold Hv wrF G6
 rw [Qt o l tx,Option.bind_some]
 dsimp only
 by_cases h:fI o l=0
 rotate_left
 ·rw [cR h,cond_true,if_pos h]
 rw [if_neg (show ¬fI o l≠0 from fun e=>e h),h,show ((0:Int) != 0)=false from rfl,cond_false]
 obtain ⟨h1,h2⟩:=vV h
 obtain ⟨h3,h4⟩:=gW h2
 by_cases hno:d.2.2.1=0
 rotate_left
 ·rw [cR hno,cond_true,if_pos hno]
 rw [if_neg (show ¬d.2.2.1≠0 from fun e=>e hno),show (d.2.2.1 != 0)=false by rw [hno];rfl,cond_false]
 rw [Kn d.2.1 l h3,Option.bind_some,xN l h3,Option.bind_some]
 dsimp only
 have wZ:maxLen=9223372036854775807:=rfl
 rw [dA (by rw [Zv];exact ⟨decide_eq_true (by omega),decide_eq_true (by omega)⟩),Wr]
 generalize hd':((d.1,d.2.1,G7 l d.2.1,d.2.2.2):aa)=d'
 have td':Txt d':=by rw [← hd'];exact td
 have tx':∀ e,e∈l++[d']→Txt e:=fun e he=>by
  rcases aaE.1 he with he | he
  ·exact tx e he
  ·simp only [aaP] at he;subst he;exact td'
 rw [CZ _ tx',Option.bind_some]
 dsimp only
 by_cases h5:eV (l++[d'])=0
 rotate_left
 ·rw [cR h5,cond_true,if_pos h5]
 rw [if_neg (show ¬eV (l++[d'])≠0 from fun e=>e h5),h5,show ((0:Int) != 0)=false from rfl,cond_false]
 have hc':fI o (l++[d'])=0:=by unfold fI;rw [if_neg (fun e=>e h1)];exact h5
 obtain ⟨L,e1,_⟩:=Qv hc' 3652059
 rw [e1,Option.bind_some]
 dsimp only
 obtain ⟨h6,h7⟩:=gW h5
 have hsn:=PT d' h (bz (h7 d' (by simp))).1.2 0
 have hri:∀ e,e∈(ew o l 0 3652059).2.1→e.1<(l.length:Int):=fun e he=>by
  have:=D9 (o:=o) (l:=l) (wt:=0) (day:=3652059) l 0 (ef o) [] [] (fun e he=>(nomatch he)) e he
  rwa [abu] at this
 obtain ⟨r1,_⟩:=C6 (o:=o) (l:=l) (wt:=0) (day:=3652059) l 0 (ef o) [] [] (abv _) (fun e he=>by cases he)
 change (ew o l 0 3652059).2.1.length≤_ at r1
 generalize hR:(ew o (l++[d']) 0 3652059).2.1=ref at*
 have hR2:ref=(BH o (l++[d']) 0 l.length d' (ew o l 0 3652059)).2.1:=by rw [← hR,hsn]
 clear hR hsn
 by_cases hD:(bg o (l++[d']) l.length d' (ew o l 0 3652059).1).1=0
 ·rw [if_neg (fun e=>e hD)]
  unfold BH at hR2
  rw [if_neg (fun e=>e hD)] at hR2
  change ref=(ew o l 0 3652059).2.1 at hR2
  have hno:∀ x,x∈ref→¬x.1=(l.length:Int):=fun x hx=>by
   have:=hri x (by rw [← hR2];exact hx)
   omega
  rw [show ((0:Int))=((0:Nat):Int) from rfl,OD (e:=0) ref ref 0 _ rfl (abv _) (by rw [hR2];omega) (fun x hx e=>absurd e (hno x hx)) (by omega),if_neg (fun ⟨x,hx,e⟩=>hno x hx e),aZ]
 ·rw [if_pos hD]
  unfold BH at hR2
  rw [if_pos hD] at hR2
  dsimp only at hR2
  have hl1:ref.length=(ew o l 0 3652059).2.1.length+1:=by rw [hR2];simp
  have hno:∀ x,x∈ref→x.1=(l.length:Int)→x.2=(bg o (l++[d']) l.length d' (ew o l 0 3652059).1).1:=fun x hx e=>by
   rw [hR2] at hx
   rcases aaE.1 hx with hx | hx
   ·have:=hri x hx;omega
   ·simp only [aaP] at hx;subst hx;rfl
  rw [show ((0:Int))=((0:Nat):Int) from rfl,OD (e:=(bg o (l++[d']) l.length d' (ew o l 0 3652059).1).1) ref ref 0 _ rfl (abv _) (by omega) hno (by omega),if_pos ⟨((l.length:Int),(bg o (l++[d']) l.length d' (ew o l 0 3652059).1).1),by rw [hR2];simp,rfl⟩]
  rfl
theorem Oh (o:ai) (l:List aa) (tx:∀ d,d∈l→Txt d):xC o l=some (if fI o l≠0 then [] else (ew o l 0 3652059).2.1,fI o l,()):=by
 unfold xC
 rw [Qt o l tx,Option.bind_some]
 dsimp only
 by_cases h:fI o l=0
 ·obtain ⟨L,e1,_⟩:=Qv h 3652059
  rw [if_neg (show ¬fI o l≠0 from fun e=>e h),h,show ((0:Int) != 0)=false from rfl,cond_false,e1,Option.bind_some]
 ·rw [cR h,cond_true,if_pos h]
theorem II {o:ai} {l:List aa} (h:fI o l≠0):jM o l=some ([],fI o l,()):=by
 unfold jM
 rw [Ij,if_pos h]
 unfold Rx
 dsimp only
 rw [cR h,cond_true]
theorem Yx (o:ai) (l:List aa) (d:aa):(wrF o l d).1.length≤2000:=by
 unfold wrF
 split
 ·exact abv _
 ·split
  ·exact abv _
  ·split
   ·exact abv _
   ·rename_i h
    split
    ·exact abv _
    ·exact (gW (ZJ.1 h)).1
theorem law_OrderWritesMatchSpec (o:ai) (l:List aa) (d:aa) (tx:∀ d,d∈l→Txt d) (td:Txt d):iM o l d=some (true,()):=by
 unfold iM
 rw [Q9,Option.bind_some,Vo o l d tx td,Option.bind_some]
 dsimp only
 rw [show ((wrF o l d).2 != (wrF o l d).2)=false by simp,cond_false,EW _ (Yx o l d),Option.bind_some,Bool.not_true,cond_false,Oh o l tx]
 have hw:∀ (x:List ah) (e:Int),x.length≤2001→(Option.bind (bif e==e then Option.bind (fk x x) fun r6=>bif r6.1 then Option.bind (GW) fun r7=>some (r7.1,()) else some (false,()) else some (false,())) fun v8=>some (v8.1,()))=some (true,()):=fun x e hx=>by
  rw [show (e==e)=true by simp,cond_true,BG x hx,Option.bind_some,cond_true,YB]
  rfl
 by_cases h:fI o l=0
 ·rw [J9 h,Option.bind_some,Option.bind_some,if_neg (show ¬fI o l≠0 from fun e=>e h),h]
  obtain ⟨r1,_⟩:=C6 (o:=o) (l:=l) (wt:=0) (day:=3652059) l 0 (ef o) [] [] (abv _) (fun e he=>by cases he)
  have h3:=(gW (vV h).2).1
  exact hw _ _ (by show (ew o l 0 3652059).2.1.length≤2001;change (ew o l 0 3652059).2.1.length≤_ at r1;omega)
 ·rw [II h,Option.bind_some,Option.bind_some,if_pos h]
  exact hw _ _ (abv _)
end Go.Md
