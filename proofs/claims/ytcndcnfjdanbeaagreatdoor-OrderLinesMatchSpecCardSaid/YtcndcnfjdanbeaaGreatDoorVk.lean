/-
  Plain facts: the book of the reference; the plain law is true of all data. No condition.
-/
import Derived.Test.YtcndcnfjdanbeaaGreatDoorVu
import Derived.Test.YtcndcnfjdanbeaaGreatDoorVx
import Derived.Test.YtcndcnfjdanbeaaGreatDoorVt
import Derived.Test.YtcndcnfjdanbeaaGreatDoorVq
import Derived.Test.YtcndcnfjdanbeaaGreatDoorVr
set_option linter.all false
set_option linter.all false
namespace Go.Md
open Go.Dn
structure RB (l:List ah) (P:Int→List ay) (x:aj) (y:ak):Prop where
 st:y.1=aT x
 wish:y.2.1=x.wish
 off0:x.ono=0→y.2.2.1= -1
 off1:x.ono≠0→∃ (j:Nat) (d:ah),y.2.2.1=(j:Int)∧l[j]? =some d∧dNo d=x.ono∧aO (dQ d)=x.oq∧ef d=x.ount∧aF d=7
 ev:y.2.2.2=P x.no
structure yO (l:List ah) (P:Int→List ay) (A:List aj) (L:List ak):Prop where
 len:L.length=(aH A).length
 rel:∀ (k:Nat) x y,(aH A)[k]? =some x→L[k]? =some y→RB l P x y
theorem yO.get {l:List ah} {P:Int→List ay} {A:List aj} {L:List ak} (h:yO l P A L) {k:Nat} {x:aj} (hx:(aH A)[k]? =some x):∃ y,L[k]? =some y∧RB l P x y:=by
 have hlt:=(List.getElem?_eq_some_iff.1 hx).1
 have:k<L.length:=by rw [h.len];exact hlt
 exact ⟨_,List.getElem?_eq_getElem this,h.rel k x _ hx (List.getElem?_eq_getElem this)⟩
def nr (no:Int) (A:List aj):Option Nat:=(aH A).findIdx? fun x=>decide (x.no=no)
theorem zq {no:Int} {A:List aj} (hI:Ids A) {k:Nat} (h:nr no A=some k):∃ x j,(aH A)[k]? =some x∧x.no=no∧dw no A=some j∧A[j]? =some x:=by
 obtain ⟨h1,h2,_⟩:=adU.1 h
 have hx:(aH A)[k]? =some (aH A)[k]:=List.getElem?_eq_getElem h1
 have hno:(aH A)[k].no=no:=afF h2
 obtain ⟨j,hj,hjx⟩:=TJ hI (List.mem_of_getElem? hx)
 rw [hno] at hj
 exact ⟨_,j,hx,hno,hj,hjx⟩
theorem Dq {no:Int} {A:List aj} (h:nr no A=none):dw no A=none∧∀ x,x∈A→x.no≠no:=by
 have hn:∀ x,x∈A→x.no≠no:=fun x hx e=>by
  have:=adT.1 h x ((cc A).mem_iff.2 hx)
  rw [decide_eq_true e] at this;cases this
 refine ⟨?_,hn⟩
 cases hf:dw no A with
 | none=>rfl
 | some k=>
  obtain ⟨x,hx,hxn⟩:=qM hf
  exact absurd hxn (hn x (List.mem_of_getElem? hx))
variable {o:ai} {l:List ah} {A:List aj} {L:List ak} {ref:List aa} {P:Int→List ay}
theorem zY (hB:yO l P A L) (hlen:A.length≤500) (l2:List ah) (no:Int):mq (o,l2,L,ref) no=some (match nr no A with | some k=>(k:Int) | none=> -1,()):=by
 have hL:L.length=A.length:=by rw [hB.len,(cc A).length_eq]
 unfold mq
 dsimp only
 have:∀ m,L.length<m→iter (X:=lH) (β:=pK) m (no,L,(L.length:Int),0,()) pJ=some (match nr no A with | some i=>Sum.inl ((i:Int),()) | none=>Sum.inr ()):=by
  intro m hm
  refine bQ (Inv:=fun i X=>X=((no,L,(L.length:Int),(i:Int),()):lH)∧∀ j,j<i→∀ x,(aH A)[j]? =some x→¬x.no=no) L.length (fun z=>z=some (match nr no A with | some i=>Sum.inl ((i:Int),()) | none=>Sum.inr ())) ?_ ?_ m 0 _ ⟨rfl,fun j hj=>absurd hj (afa _)⟩ (afg _) (by omega)
  ·rintro i X again hi ⟨rfl,hno⟩ hag
   unfold pJ
   dsimp only
   have hi2:i<(aH A).length:=by rw [← hB.len];exact hi
   have hx:(aH A)[i]? =some (aH A)[i]:=List.getElem?_eq_getElem hi2
   obtain ⟨y,hy,hr⟩:=hB.get hx
   rw [decide_eq_true (show (i:Int)<(L.length:Int) by omega),cond_true,bJ hy,Option.bind_some,hr.st]
   show (bif (aH A)[i].no==no then _ else _)=_
   by_cases e:(aH A)[i].no=no
   ·rw [show ((aH A)[i].no==no)=true by simpa using e,cond_true]
    have:nr no A=some i:=adU.2 ⟨hi2,decide_eq_true e,fun j hj=>by
     have:=hno j hj _ (List.getElem?_eq_getElem (by omega))
     simpa using this⟩
    rw [this]
   ·rw [cD e,cond_false,aA (n:=(i:Int)+1) (by omega) (by omega)]
    refine hag _ ⟨rfl,fun j hj x hjx=> ?_⟩
    by_cases c:j=i
    ·subst c;rw [hx] at hjx;cases hjx;exact e
    ·exact hno j (by omega) x hjx
  ·rintro X again ⟨rfl,hno⟩
   unfold pJ
   dsimp only
   rw [afs (show ¬(L.length:Int)<(L.length:Int) by omega),cond_false]
   have:nr no A=none:=adT.2 fun x hx=>by
    obtain ⟨j,hj⟩:=aet.1 hx
    have:=hno j (by rw [hB.len];exact (List.getElem?_eq_some_iff.1 hj).1) x hj
    simpa using this
   rw [this]
 rw [this _ (by omega)]
 cases nr no A<;>rfl
theorem YI {x:aj} (hx:LOk x) (he0:0≤bN o) (he1:bN o≤1000):zS (o,l,L,ref) (aT x)=some (x.ord+x.ord*bN o / 1000,()):=by
 have b4:=hx.pZ;have b5:=hx.ord1
 have m0:0≤x.ord*bN o:=ado b4 he0
 have m1:x.ord*bN o≤x.ord*1000:=adn he1 b4
 have d0:0≤x.ord*bN o / 1000:=Int.ediv_nonneg m0 (by omega)
 have d1:x.ord*bN o / 1000≤x.ord:=by omega
 unfold zS
 dsimp only
 rw [show (aT x).2.2.2.1=bz x.ord from rfl,sw (cK (n:=x.ord) (by omega)),Option.bind_some]
 dsimp only
 rw [show o.2.2.2.2.1=bN o from rfl,aA (n:=x.ord*bN o) (by omega) (by omega),ady m0]
 first
  | rw [aA (n:=x.ord*bN o / 1000) (by omega) (by omega),aA (n:=x.ord+x.ord*bN o / 1000) (by omega) (by omega)]
  | rw [aA (n:=x.ord+x.ord*bN o / 1000) (by omega) (by omega)]
theorem SJ {x:aj} (hx:LOk x):yH (aT x)=some (bz (x.shp - x.ret),()):=by
 have:=hx.ret0;have:=hx.retr;have:=hx.rcvs;have:=hx.shp1
 exact Rj (s:=aT x) (cK (n:=x.shp) (by omega)) (cK (n:=x.ret) (by omega))
theorem SF {z:Int}:decide (z.sign>0)=decide (0<z):=by
 rw [afr]
 exact Int.sign_pos_iff
theorem abI {z:Int}:decide (z.sign<0)=decide (z<0):=by
 rw [afr]
 exact Int.sign_neg_iff
set_option maxHeartbeats 1000000 in
theorem Uy (hB:yO l P A L) (hA:Good l A) (hI:Ids A) (hl:∀ d,d∈l→bn d=0) (he:0≤bN o∧bN o≤1000) {i:Nat} {d:ah} (hd:l[i]? =some d):
 s5 (o,l,L,ref) (i:Int)=some ((bS o l i d A).1,()):=by
 have hL:L.length=A.length:=by rw [hB.len,(cc A).length_eq]
 obtain ⟨_,_,_,hk,_,_,hu⟩:=bG (hl d (List.mem_of_getElem? hd))
 obtain ⟨uq,_⟩:=cG hu
 have huses:=MT hk
 unfold s5
 dsimp only
 rw [bJ hd,Option.bind_some,zY hB hI.len l,Option.bind_some,huses]
 dsimp only
 cases hf:nr d.2.2.2.2.1 A with
 | none=>
  obtain ⟨hfl,_⟩:=Dq hf
  dsimp only
  rw [show decide ((-1:Int)<0)=true from rfl,cond_true,cond_true,cond_true]
  by_cases k1:aF d=1
  ·rw [show (d.2.2.2.1==1)=true by simpa using k1]
   rw [show (!(true==true))=false from rfl,cond_false,Option.bind_some]
   have hz:bS o l i d A=if 500≤A.length then (16,A) else if ef d<cw o then (1,A) else (0,A++[eC i d]):=by
    unfold bS
    rw [if_pos k1,show dw (cH d) A=none from hfl]
   rw [hz,hL]
   by_cases c1:500≤A.length
   ·rw [if_pos c1,decide_eq_true (show (A.length:Int)≥500 by omega),cond_true]
   ·rw [if_neg c1,afs (show ¬(A.length:Int)≥500 by omega),cond_false,Option.bind_some]
    rw [show usU d.2.2.2.1=true by rw [show d.2.2.2.1=1 from k1];rfl,cond_true,Option.bind_some]
    by_cases c2:ef d<cw o
    ·rw [if_pos c2,decide_eq_true (show d.2.2.2.2.2.2.2.2.2.1<o.2.2.2.1 from c2),cond_true]
    ·rw [if_neg c2,afs (show ¬d.2.2.2.2.2.2.2.2.2.1<o.2.2.2.1 from c2),cond_false]
  ·rw [cD k1]
   rw [show (!(true==false))=true from rfl,cond_true,Jc k1 hfl]
 | some k=>
  obtain ⟨x,j,hx,hxn,hfl,hxj⟩:=zq hI hf
  obtain ⟨y,hy,hr⟩:=hB.get hx
  obtain ⟨hx1,hx2⟩:=hA.sound.line x (List.mem_of_getElem? hxj)
  have b0:=hx1.ret0;have b1:=hx1.retr;have b2:=hx1.rcvs;have b3:=hx1.shp1;have b4:=hx1.pZ;have b5:=hx1.ord1
  obtain ⟨p1,p2⟩:=V3 hx1
  dsimp only
  rw [afs (show ¬(k:Int)<0 by omega),cond_false,cond_false,cond_false]
  by_cases k1:aF d=1
  ·rw [show (d.2.2.2.1==1)=true by simpa using k1]
   have hz:bS o l i d A=(7,A):=by
    unfold bS
    rw [if_pos k1,show dw (cH d) A=some j from hfl]
   rw [hz];rfl
  rw [cD k1,show (!(false==false))=false from rfl,cond_false,Option.bind_some,cond_false,Option.bind_some,LO k1 hfl hxj,bJ hy,Option.bind_some]
  obtain ⟨day,byy,no,kind,line,art,q,unit,p,un,to⟩:=d
  dsimp only at hk k1 uq huses hf hfl ⊢
  obtain ⟨ys,yw,yo,ye⟩:=y
  have r1:=hr.st;have r2:=hr.wish;have r3:=hr.off0;have r4:=hr.off1
  dsimp only at r1 r2 r3 r4
  subst r1;subst r2
  have k1':kind≠1:=k1
  have hk':1≤kind∧kind≤11:=hk
  have h11:kind=2∨kind=3∨kind=4∨kind=5∨kind=6∨kind=7∨kind=8∨kind=9∨kind=10∨kind=11:=by omega
  rcases h11 with rfl | rfl | rfl | rfl | rfl | rfl | rfl | rfl | rfl | rfl
  all_goals simp only [Int.reduceBEq,cond_true,cond_false,aS,show usU 2=false from rfl,show usU 3=true from rfl,show usU 4=false from rfl,show usU 5=false from rfl,show usU 6=false from rfl,show usU 7=true from rfl,show usU 8=false from rfl,show usU 9=false from rfl,show usU 10=false from rfl,show usU 11=false from rfl]
  ·rw [Option.bind_some,cond_false]
   by_cases h:0≤x.wish
   ·rw [decide_eq_true (show x.wish≥0 from h),cond_true];simp [bg,rA,aF,h]
   ·rw [afs (show ¬x.wish≥0 from h),cond_false];simp [bg,rA,aF,h]
  ·rw [Option.bind_some]
   by_cases c:un<cw o
   ·rw [decide_eq_true (show un<o.2.2.2.1 from c),cond_true];simp [bg,rA,aF,ef,c]
   ·rw [afs (show ¬un<o.2.2.2.1 from c),cond_false]
    by_cases h:0≤x.wish
    ·rw [decide_eq_true (show x.wish≥0 from h),cond_true];simp [bg,rA,aF,ef,c,h]
    ·rw [afs (show ¬x.wish≥0 from h),cond_false];simp [bg,rA,aF,ef,c,h]
  ·rw [Option.bind_some,cond_false]
   by_cases h:0≤x.wish
   ·rw [decide_eq_true (show x.wish≥0 from h),cond_true];simp [bg,rA,aF,h]
   ·rw [afs (show ¬x.wish≥0 from h),cond_false];simp [bg,rA,aF,h]
  ·rw [Option.bind_some,cond_false]
   by_cases h:x.wish<0
   ·rw [decide_eq_true h,cond_true];simp [bg,bI,aF,h]
   ·rw [afs h,cond_false]
    obtain ⟨w,hw1,hw2⟩:=hx2.kind (by omega)
    obtain ⟨_,_,_,_,_,_,hwu⟩:=bG (hl w (List.mem_of_getElem? hw1))
    have hwq:=(cG hwu).1
    rw [JB (by omega) hw1,Option.bind_some]
    have hact:(bg o l i (day,byy,no,5,line,art,q,unit,p,un,to) x).1=(bI l (day,byy,no,5,line,art,q,unit,p,un,to) x).1:=by
     unfold bg
     rw [if_neg (show ¬(5:Int)≤4 by omega),if_pos (show (5:Int)≤6 by omega)]
     split
     ·rename_i h0;rw [h0]
     ·rfl
    rw [hact]
    unfold bI
    rw [if_neg h,jR hw1]
    by_cases e:dNo w=to
    ·rw [show (w.2.2.1 != to)=false by simpa using e,cond_false,if_neg (show ¬dNo w≠to from fun h=>h e),if_pos (show (5:Int)=5 from rfl),Option.bind_some]
     by_cases k2:aF w=2
     ·rw [show (w.2.2.2.1==2)=true by simpa using k2,cond_true,Option.bind_some,if_pos k2]
      have hm:=pV (hwq (by rw [k2];rfl))
      have ha:=SJ hx1
      unfold aT at ha ⊢
      dsimp only at ha ⊢
      rw [ha,Option.bind_some]
      dsimp only
      rw [zU hm (cK (n:=x.shp - x.ret) (by omega)),Option.bind_some,Option.bind_some,abI]
      by_cases c:aO (dQ w)<x.shp - x.ret
      ·rw [if_pos c,decide_eq_true (by omega),cond_true]
      ·rw [if_neg c,afs (by omega),cond_false]
     ·rw [cD k2,cond_false,Option.bind_some,if_neg k2]
      by_cases k3:aF w=1
      ·rw [if_pos k3];rfl
      ·rw [if_neg k3]
       split<;>rfl
    ·rw [show (w.2.2.1 != to)=true by simpa using e,cond_true,if_pos (show dNo w≠to from e)]
  ·rw [Option.bind_some,cond_false]
   by_cases h:x.wish<0
   ·rw [decide_eq_true h,cond_true];simp [bg,bI,aF,h]
   ·rw [afs h,cond_false]
    obtain ⟨w,hw1,hw2⟩:=hx2.kind (by omega)
    rw [JB (by omega) hw1,Option.bind_some]
    have hact:(bg o l i (day,byy,no,6,line,art,q,unit,p,un,to) x).1=(bI l (day,byy,no,6,line,art,q,unit,p,un,to) x).1:=by
     unfold bg
     rw [if_neg (show ¬(6:Int)≤4 by omega),if_pos (show (6:Int)≤6 by omega)]
     split
     ·rename_i h0;rw [h0]
     ·rfl
    rw [hact]
    unfold bI
    rw [if_neg h,jR hw1]
    by_cases e:dNo w=to
    ·rw [show (w.2.2.1 != to)=false by simpa using e,cond_false,if_neg (show ¬dNo w≠to from fun h=>h e),if_neg (show ¬(6:Int)=5 by omega)];rfl
    ·rw [show (w.2.2.1 != to)=true by simpa using e,cond_true,if_pos (show dNo w≠to from e)]
  ·rw [Option.bind_some]
   have hact:(bg o l i (day,byy,no,7,line,art,q,unit,p,un,to) x).1=jA (cw o) (day,byy,no,7,line,art,q,unit,p,un,to) x:=by
    unfold bg
    rw [if_neg (show ¬(7:Int)≤4 by omega),if_neg (show ¬(7:Int)≤6 by omega),if_pos (show (7:Int)=7 from rfl)]
    split
    ·rename_i h0;rw [h0]
    ·rfl
   rw [hact]
   unfold jA
   by_cases c:un<cw o
   ·rw [decide_eq_true (show un<o.2.2.2.1 from c),cond_true,if_pos (show un<cw o from c)]
   ·rw [afs (show ¬un<o.2.2.2.1 from c),cond_false,if_neg (show ¬un<cw o from c)]
    by_cases h:0≤x.wish
    ·rw [decide_eq_true (show x.wish≥0 from h),cond_true,if_pos (Or.inl h)]
    ·rw [afs (show ¬x.wish≥0 from h),cond_false]
     have hs:=(AP 3 x.opn).2
     by_cases h0:x.opn=0
     ·rw [if_pos (Or.inr h0),show ((aT x).2.2.2.2.2.2.2.2.2.1==0)=true from (show (((few 3 x.opn).1==(0:Int))=true) by simpa using hs.2 h0),cond_true]
     ·rw [if_neg (fun e=>e.elim h h0),cD (show ¬(aT x).2.2.2.2.2.2.2.2.2.1=0 from fun e=>h0 (hs.1 e)),cond_false]
      have hm:=pV (show qOk q false=true from uq rfl)
      have:=zU hm (cK (n:=x.opn) (by omega))
      unfold bz at this
      unfold aT bz
      dsimp only at this ⊢
      rw [this,Option.bind_some,SF]
      by_cases c:x.opn<aO q
      ·rw [if_pos (show x.opn<aO (dQ (day,byy,no,7,line,art,q,unit,p,un,to)) from c),decide_eq_true (by omega),cond_true]
      ·rw [if_neg (show ¬x.opn<aO (dQ (day,byy,no,7,line,art,q,unit,p,un,to)) from c),afs (by omega),cond_false]
  ·rw [Option.bind_some,cond_false]
   have hact:(bg o l i (day,byy,no,8,line,art,q,unit,p,un,to) x).1=(BH (day,byy,no,8,line,art,q,unit,p,un,to) x).1:=by
    unfold bg
    rw [if_neg (show ¬(8:Int)≤4 by omega),if_neg (show ¬(8:Int)≤6 by omega),if_neg (show ¬(8:Int)=7 by omega),if_pos (show (8:Int)=8 from rfl)]
   rw [hact]
   unfold BH
   by_cases h:0≤x.wish
   ·rw [decide_eq_true (show x.wish≥0 from h),cond_true,if_pos h]
   ·rw [afs (show ¬x.wish≥0 from h),cond_false,if_neg h]
    by_cases h0:x.ono=0
    ·rw [if_pos (Or.inl h0),r3 h0];rfl
    ·obtain ⟨jo,dd,e1,e2,e3,_⟩:=r4 h0
     rw [e1,afs (show ¬(jo:Int)<0 by omega),cond_false,bJ e2,Option.bind_some]
     by_cases e:x.ono=to
     ·rw [show (dd.2.2.1 != to)=false by have:dd.2.2.1=to:=e3.trans e
                                         simpa using this,cond_false,if_neg (fun h'=>h'.elim h0 fun h''=>h'' e)]
     ·rw [show (dd.2.2.1 != to)=true by have:¬dd.2.2.1=to:=fun h'=>e (e3.symm.trans h')
                                        simpa using this,cond_true,if_pos (Or.inr (show x.ono≠to from e))]
  ·rw [Option.bind_some,cond_false]
   have hq:qOk q false=true:=uq rfl
   have hm:=pV hq
   obtain ⟨q0,q1,_⟩:=kC hq
   have hact:(bg o l i (day,byy,no,9,line,art,q,unit,p,un,to) x).1=(bW (bN o) (day,byy,no,9,line,art,q,unit,p,un,to) x).1:=by
    unfold bg
    rw [if_neg (show ¬(9:Int)≤4 by omega),if_neg (show ¬(9:Int)≤6 by omega),if_neg (show ¬(9:Int)=7 by omega),if_neg (show ¬(9:Int)=8 by omega),if_pos (show (9:Int)=9 from rfl)]
    split
    ·rename_i h0;rw [h0]
    ·rfl
   rw [hact]
   have ha:=SJ hx1
   have hmo:=YI (o:=o) (l:=l) (L:=L) (ref:=ref) hx1 he.1 he.2
   have m0:0≤x.ord*bN o:=ado b4 he.1
   have m1:x.ord*bN o≤x.ord*1000:=adn he.2 b4
   generalize hM:x.ord+x.ord*bN o / 1000=M at hmo
   have hs:=sw (cK (n:=x.shp) (by omega))
   unfold bW
   rw [if_pos (show (9:Int)=9 from rfl),hM]
   unfold aT at ha hmo ⊢
   dsimp only at ha hmo hs hq hm q0 q1 ⊢
   rw [ha,Option.bind_some]
   dsimp only
   rw [sw (cK (n:=x.shp - x.ret) (by omega)),Option.bind_some,sw hm,Option.bind_some,hmo,Option.bind_some]
   dsimp only
   rw [aA (n:=x.shp - x.ret+aO q) (by omega) (by omega)]
   by_cases c:M<x.shp - x.ret+aO q
   ·rw [decide_eq_true (show x.shp - x.ret+aO q>M from c),cond_true,if_pos c]
   ·rw [afs (show ¬x.shp - x.ret+aO q>M from c),cond_false,if_neg c,hs,Option.bind_some,Option.bind_some]
    dsimp only
    rw [aA (n:=x.shp+aO q) (by omega) (by omega)]
    by_cases c2:1000000000000000<x.shp+aO q
    ·rw [decide_eq_true (show x.shp+aO q>1000000000000000 from c2),cond_true,if_pos c2]
    ·rw [afs (show ¬x.shp+aO q>1000000000000000 from c2),cond_false,if_neg c2]
  ·rw [Option.bind_some,cond_false]
   have hq:qOk q false=true:=uq rfl
   have hm:=pV hq
   obtain ⟨q0,q1,_⟩:=kC hq
   have hact:(bg o l i (day,byy,no,10,line,art,q,unit,p,un,to) x).1=(bW (bN o) (day,byy,no,10,line,art,q,unit,p,un,to) x).1:=by
    unfold bg
    rw [if_neg (show ¬(10:Int)≤4 by omega),if_neg (show ¬(10:Int)≤6 by omega),if_neg (show ¬(10:Int)=7 by omega),if_neg (show ¬(10:Int)=8 by omega),if_neg (show ¬(10:Int)=9 by omega)]
   rw [hact]
   unfold bW
   rw [if_neg (show ¬(10:Int)=9 by omega),if_pos (show (10:Int)=10 from rfl)]
   unfold aT
   dsimp only at hq hm q0 q1 ⊢
   rw [qX (cK (n:=x.rcv) (by omega)) hm,Option.bind_some]
   dsimp only
   rw [zU (cK (n:=x.rcv+aO q) (by omega)) (cK (n:=x.shp) (by omega)),Option.bind_some,SF]
   by_cases c:x.shp<x.rcv+aO q
   ·rw [if_pos c,decide_eq_true (by omega),cond_true]
   ·rw [if_neg c,afs (by omega),cond_false]
  ·rw [Option.bind_some,cond_false]
   have hq:qOk q false=true:=uq rfl
   have hm:=pV hq
   obtain ⟨q0,q1,_⟩:=kC hq
   have hact:(bg o l i (day,byy,no,11,line,art,q,unit,p,un,to) x).1=(bW (bN o) (day,byy,no,11,line,art,q,unit,p,un,to) x).1:=by
    unfold bg
    rw [if_neg (show ¬(11:Int)≤4 by omega),if_neg (show ¬(11:Int)≤6 by omega),if_neg (show ¬(11:Int)=7 by omega),if_neg (show ¬(11:Int)=8 by omega),if_neg (show ¬(11:Int)=9 by omega)]
   rw [hact]
   unfold bW
   rw [if_neg (show ¬(11:Int)=9 by omega),if_neg (show ¬(11:Int)=10 by omega)]
   unfold aT
   dsimp only at hq hm q0 q1 ⊢
   rw [qX (cK (n:=x.ret) (by omega)) hm,Option.bind_some]
   dsimp only
   rw [zU (cK (n:=x.ret+aO q) (by omega)) (cK (n:=x.rcv) (by omega)),Option.bind_some,SF]
   by_cases c:x.rcv<x.ret+aO q
   ·rw [if_pos c,decide_eq_true (by omega),cond_true]
   ·rw [if_neg c,afs (by omega),cond_false]
end Go.Md
set_option linter.all false
namespace Go.Md
open Go.Dn
theorem bs {α β:Type} {e:Option α} {f:α→Option β} {r:α} {z:Option β} (h:e=some r) (h2:f r=z):Option.bind e f=z:=by rw [h];exact h2
theorem bM (l:List ay) (hl:l.length≤2000):gD l=some (l,()):=by
 have sH:maxLen=9223372036854775807:=rfl
 have hc:(decide ((0+(List.length l))*152≤140737488355328)&&decide (0+(List.length l)≤maxLen))=true:=by
  rw [ac1];exact ⟨decide_eq_true (by omega),decide_eq_true (by omega)⟩
 unfold gD
 rw [cE hc]
 cases l with
 | nil=>simp [both]
 | cons x r=>rfl
theorem kS {x:aj} (hx:LOk x) (v:aa):oY (x.no,x.art,x.unit,bz x.ord,dU x.price,x.due,bz x.shp,bz x.rcv,bz x.ret,v)=some (aT x,()):=by
 have b0:=hx.ret0;have b1:=hx.retr;have b2:=hx.rcvs;have b3:=hx.shp1;have b4:=hx.pZ;have b5:=hx.ord1
 exact SA (s:=(x.no,x.art,x.unit,bz x.ord,dU x.price,x.due,bz x.shp,bz x.rcv,bz x.ret,v)) (cK (n:=x.ord) (by omega)) (cK (n:=x.shp) (by omega)) (cK (n:=x.ret) (by omega)) (by omega)
abbrev BkT:Type:=ai×(List ah)×(List ak)×(List aa)×Unit
theorem aam {o:ai} {l:List ah} {ref:List aa} {L1:List ak} {k:Nat} {y:ak} {x:aj} {v:aa} (hk:L1[k]? =some y)
 (hs:y.1=(x.no,x.art,x.unit,bz x.ord,dU x.price,x.due,bz x.shp,bz x.rcv,bz x.ret,v)) (hx:LOk x) (hev:y.2.2.2.length≤2000) (i:Int):
 (Option.bind (L1[k]?) fun y37=>Option.bind (oY y37.1) fun r38=>Option.bind (L1[k]?) fun y39=>Option.bind ((List.set L1 k (r38.1,y39.2))[k]?) fun y40=>
   Option.bind (gD y40.2.2.2) fun r41=>Option.bind ((List.set L1 k (r38.1,y39.2))[k]?) fun y42=>
   chk (decide (((r41.1.length)+1)*152≤140737488355328)&&decide ((r41.1.length)+1≤maxLen)) <|
   Option.bind ((List.set L1 k (r38.1,y39.2))[k]?) fun y43=>
   some (((o,l,List.set (List.set L1 k (r38.1,y39.2)) k (y43.1,y43.2.1,y43.2.2.1,r41.1++[(i,y42.1)]),ref,()):BkT),()))=
 some (((o,l,L1.set k (aT x,y.2.1,y.2.2.1,y.2.2.2++[(i,aT x)]),ref,()):BkT),()):=by
 have hlt:=(List.getElem?_eq_some_iff.1 hk).1
 have sH:maxLen=9223372036854775807:=rfl
 have hr:=kS hx v
 rw [← hs] at hr
 rw [hk,Option.bind_some,hr,Option.bind_some,Option.bind_some]
 dsimp only
 have hg:(List.set L1 k (aT x,y.2))[k]? =some (aT x,y.2):=by rw [ad6 hlt]
 rw [hg,Option.bind_some,bM y.2.2.2 hev,Option.bind_some,Option.bind_some]
 dsimp only
 rw [cE (by rw [ac1];exact ⟨decide_eq_true (by omega),decide_eq_true (by omega)⟩),Option.bind_some,aeF]
theorem U6 {l:List ah} {L:List ak} {k:Nat} {y:ak} {w:ah} (hk:L[k]? =some y) (hw:idx l y.2.1=some w) (hf:bn w=0) (h4:aF w≤4):
 gf l L k=some (L.set k
  (if aF w≤2 then (y.1.1,y.1.2.1,y.1.2.2.1,bz (aO (dQ w)),y.1.2.2.2.2)
   else if aF w=3 then (y.1.1,y.1.2.1,y.1.2.2.1,y.1.2.2.2.1,y.1.2.2.2.2.1,ef w,y.1.2.2.2.2.2.2)
   else (y.1.1,y.1.2.1,y.1.2.2.1,y.1.2.2.2.1,dU (Ip w),y.1.2.2.2.2.2), -1,y.2.2)):=by
 obtain ⟨_,_,_,hkd,_,_,hu⟩:=bG hf
 obtain ⟨uq,up,_⟩:=cG hu
 have hlt:=(List.getElem?_eq_some_iff.1 hk).1
 unfold gf jv
 rw [hk,Option.bind_some,hw,Option.bind_some]
 obtain ⟨day,byy,no,kind,line,art,q,unit,p,un,to⟩:=w
 dsimp only at hkd h4 uq up ⊢
 have hkk:kind=1∨kind=2∨kind=3∨kind=4:=by
  have h1:1≤kind:=hkd.1
  have h2:kind≤4:=h4
  omega
 rcases hkk with rfl | rfl | rfl | rfl
 ·rw [Hw (uq rfl)]
  simp only [Int.reduceBEq,cond_true,cond_false,Option.bind_some,ad6 hlt,aeF]
  rfl
 ·rw [Hw (uq rfl)]
  simp only [Int.reduceBEq,cond_true,cond_false,Option.bind_some,ad6 hlt,aeF]
  rfl
 ·simp only [Int.reduceBEq,cond_true,cond_false,Option.bind_some,ad6 hlt,aeF]
  rfl
 ·rw [Hv (up rfl)]
  simp only [Int.reduceBEq,cond_true,cond_false,Option.bind_some,ad6 hlt,aeF]
  rfl
end Go.Md
set_option linter.all false
namespace Go.Md
open Go.Dn
def acr (l:List ah) (x:aj) (off:Int):Prop:=
 (x.ono=0→off= -1)∧(x.ono≠0→∃ (j:Nat) (d:ah),off=(j:Int)∧l[j]? =some d∧dNo d=x.ono∧aO (dQ d)=x.oq∧ef d=x.ount∧aF d=7)
variable {o:ai} {l:List ah} {A:List aj} {L:List ak} {ref:List aa} {P:Int→List ay}
theorem Cz {β:Type} {n:Nat} {x y:Option β} (h:n≤2000) (e:x=y):chk (decide ((n+1)*152≤140737488355328)&&decide (n+1≤maxLen)) x=y:=by
 have sH:maxLen=9223372036854775807:=rfl
 rw [cE (by rw [ac1];exact ⟨decide_eq_true (by omega),decide_eq_true (by omega)⟩),e]
theorem ON {o:ai} {l:List ah} {i:Nat} {d:ah} {x:aj} (hk:aF d≤4) (h0:(bg o l i d x).1=0):(bg o l i d x).2={ x with wish:=(i:Int) }:=by
 unfold bg rA at h0 ⊢
 rw [if_pos hk] at h0 ⊢
 split at h0
 ·cases h0
 ·rename_i h1
  rw [if_neg h1]
  split at h0
  ·cases h0
  ·rename_i h2
   rw [if_neg h2]
theorem abS {o:ai} {l:List ah} {i:Nat} {d:ah} {x:aj} (hk:aF d=6) (h0:(bg o l i d x).1=0):(bg o l i d x).2=({ x with wish:= -1 }:aj).clr:=by
 unfold bg at h0 ⊢
 rw [if_neg (show ¬aF d≤4 by omega),if_pos (show aF d≤6 by omega)] at h0 ⊢
 have h0':(bI l d x).1=0:=by
  split at h0
  ·rename_i h;exact h
  ·exact h0
 rw [if_pos h0']
 unfold bI at h0' ⊢
 split at h0'
 ·cases h0'
 ·rename_i h1
  rw [if_neg h1]
  split at h0'
  ·cases h0'
  ·rename_i h2
   rw [if_neg h2,if_neg (show ¬aF d=5 by omega)]
theorem aa2 {o:ai} {l:List ah} {i:Nat} {d w:ah} {x:aj} (hw:l[x.wish.toNat]? =some w) (hw4:1≤aF w∧aF w≤4) (hk:aF d=5) (h0:(bg o l i d x).1=0):
 (bg o l i d x).2=(if aF w≤2 then ({ x with ord:=aO (dQ w),wish:= -1 }:aj) else if aF w=3 then { x with due:=ef w,wish:= -1 } else { x with price:=Ip w,wish:= -1 }).clr:=by
 unfold bg at h0 ⊢
 rw [if_neg (show ¬aF d≤4 by omega),if_pos (show aF d≤6 by omega)] at h0 ⊢
 have h0':(bI l d x).1=0:=by
  split at h0
  ·rename_i h;exact h
  ·exact h0
 rw [if_pos h0']
 unfold bI at h0' ⊢
 rw [jR hw] at h0' ⊢
 split at h0'
 ·cases h0'
 ·rename_i h1
  rw [if_neg h1]
  split at h0'
  ·cases h0'
  ·rename_i h2
   rw [if_neg h2,if_pos hk]
   by_cases k2:aF w=2
   ·rw [if_pos k2] at h0' ⊢
    rw [if_pos (show aF w≤2 by omega)]
    split at h0'
    ·cases h0'
    ·rename_i h3
     rw [if_neg h3]
   ·rw [if_neg k2]
    by_cases k3:aF w=1
    ·rw [if_pos k3,if_pos (show aF w≤2 by omega)]
    ·rw [if_neg k3,if_neg (show ¬aF w≤2 by omega)]
     by_cases k4:aF w=3
     ·rw [if_pos k4,if_pos k4]
     ·rw [if_neg k4,if_neg k4]
theorem aaR {o:ai} {l:List ah} {i:Nat} {d:ah} {x:aj} (hk:aF d=5) (h0:(bg o l i d x).1=0):0≤x.wish:=by
 unfold bg at h0
 rw [if_neg (show ¬aF d≤4 by omega),if_pos (show aF d≤6 by omega)] at h0
 have h0':(bI l d x).1=0:=by
  split at h0
  ·rename_i h;exact h
  ·exact h0
 unfold bI at h0'
 split at h0'
 ·cases h0'
 ·omega
theorem YW {o:ai} {l:List ah} {i:Nat} {d:ah} {x:aj} (hk:aF d=7) (h0:(bg o l i d x).1=0):(bg o l i d x).2={ x with ono:=dNo d,oq:=aO (dQ d),ount:=ef d }:=by
 unfold bg at h0 ⊢
 rw [if_neg (show ¬aF d≤4 by omega),if_neg (show ¬aF d≤6 by omega),if_pos hk] at h0 ⊢
 split at h0
 ·rename_i h;rw [if_pos h]
 ·rename_i h;exact absurd h0 h
theorem aab {o:ai} {l:List ah} {i:Nat} {d:ah} {x:aj} (hk:aF d=8) (h0:(bg o l i d x).1=0):x.ono≠0∧(bg o l i d x).2={ x with ord:=x.shp - x.ret+x.oq,due:=x.ount,ono:=0,oq:=0,ount:=0 }:=by
 unfold bg BH at h0 ⊢
 rw [if_neg (show ¬aF d≤4 by omega),if_neg (show ¬aF d≤6 by omega),if_neg (show ¬aF d=7 by omega),if_pos hk] at h0 ⊢
 split at h0
 ·cases h0
 ·rename_i h1
  rw [if_neg h1]
  split at h0
  ·cases h0
  ·rename_i h2
   rw [if_neg h2]
   exact ⟨fun e=>h2 (Or.inl e),rfl⟩
theorem aaa {o:ai} {l:List ah} {i:Nat} {d:ah} {x:aj} (hk:aF d=9) (h0:(bg o l i d x).1=0):(bg o l i d x).2=({ x with shp:=x.shp+aO (dQ d) }:aj).clr:=by
 unfold bg at h0 ⊢
 rw [if_neg (show ¬aF d≤4 by omega),if_neg (show ¬aF d≤6 by omega),if_neg (show ¬aF d=7 by omega),if_neg (show ¬aF d=8 by omega),if_pos hk] at h0 ⊢
 have h0':(bW (bN o) d x).1=0:=by
  split at h0
  ·rename_i h;exact h
  ·exact h0
 rw [if_pos h0']
 unfold bW at h0' ⊢
 rw [if_pos hk] at h0' ⊢
 split at h0'
 ·cases h0'
 ·rename_i h1
  rw [if_neg h1]
  split at h0'
  ·cases h0'
  ·rename_i h2
   rw [if_neg h2]
theorem Z8 {o:ai} {l:List ah} {i:Nat} {d:ah} {x:aj} (hk:aF d=10) (h0:(bg o l i d x).1=0):(bg o l i d x).2={ x with rcv:=x.rcv+aO (dQ d) }:=by
 unfold bg bW at h0 ⊢
 rw [if_neg (show ¬aF d≤4 by omega),if_neg (show ¬aF d≤6 by omega),if_neg (show ¬aF d=7 by omega),if_neg (show ¬aF d=8 by omega),if_neg (show ¬aF d=9 by omega),if_neg (show ¬aF d=9 by omega),if_pos hk] at h0 ⊢
 split at h0
 ·cases h0
 ·rename_i h1
  rw [if_neg h1]
theorem Z9 {o:ai} {l:List ah} {i:Nat} {d:ah} {x:aj} (hk:aF d=11) (h0:(bg o l i d x).1=0):(bg o l i d x).2={ x with ret:=x.ret+aO (dQ d) }:=by
 unfold bg bW at h0 ⊢
 rw [if_neg (show ¬aF d≤4 by omega),if_neg (show ¬aF d≤6 by omega),if_neg (show ¬aF d=7 by omega),if_neg (show ¬aF d=8 by omega),if_neg (show ¬aF d=9 by omega),if_neg (show ¬aF d=9 by omega),if_neg (show ¬aF d=10 by omega)] at h0 ⊢
 split at h0
 ·cases h0
 ·rename_i h1
  rw [if_neg h1]
theorem aap {kind byy:Int} (h1:1≤kind∧kind≤11) (h2:1≤byy∧byy≤2) (h3:(kind=5∨kind=6∨kind=7∨kind=9)↔byy=2) (k1:kind≠1):(kind=2∧byy=1)∨(kind=3∧byy=1)∨(kind=4∧byy=1)∨(kind=5∧byy=2)∨(kind=6∧byy=2)∨(kind=7∧byy=2)∨(kind=8∧byy=1)∨(kind=9∧byy=2)∨(kind=10∧byy=1)∨(kind=11∧byy=1):=by omega
set_option maxHeartbeats 2000000 in
theorem Yd (hB:yO l P A L) (hA:Good l A) (hI:Ids A) (hl:∀ d,d∈l→bn d=0) (he:0≤bN o∧bN o≤1000) {i:Nat} {d:ah} (hd:l[i]? =some d)
 {k:Nat} {x:aj} {y:ak} (hf:nr (cH d) A=some k) (hx:(aH A)[k]? =some x) (hy:L[k]? =some y) (hr:RB l P x y) (hev:(P x.no).length≤2000)
 (hx1:LOk x) (hx2:WOk l x) (hx':LOk (bg o l i d x).2) (k1:aF d≠1) (h0:(bg o l i d x).1=0):
 ∃ off,jD (o,l,L,ref,()) (i:Int)=some ((o,l,L.set k (aT (bg o l i d x).2,(bg o l i d x).2.wish,off,P x.no++[((i:Int),aT (bg o l i d x).2)]),ref,()),())∧acr l (bg o l i d x).2 off:=by
 obtain ⟨_,hb2,hno,hk,hby,_,hu⟩:=bG (hl d (List.mem_of_getElem? hd))
 obtain ⟨uq,_⟩:=cG hu
 have b0:=hx1.ret0;have b1:=hx1.retr;have b2:=hx1.rcvs;have b3:=hx1.shp1;have b4:=hx1.pZ;have b5:=hx1.ord1
 have hlt:=(List.getElem?_eq_some_iff.1 hy).1
 unfold jD
 dsimp only
 rw [bJ hd,Option.bind_some,show ((o,l,L,ref):dP)=(o,l,L,ref) from rfl,zY hB hI.len l,Option.bind_some,show nr d.2.2.2.2.1 A=some k from hf]
 dsimp only
 rw [afs (show ¬(k:Int)<0 by omega),cond_false,aS]
 dsimp only
 rw [cE (by rw [ac1];exact ⟨decide_eq_true (by omega),decide_eq_true (by omega)⟩),adA]
 obtain ⟨day,byy,no,kind,line,art,q,unit,p,un,to⟩:=d
 dsimp only at hk k1 uq hby hb2 hno hf ⊢
 obtain ⟨ys,yw,yo,ye⟩:=y
 have r1:=hr.st;have r2:=hr.wish;have r3:=hr.off0;have r4:=hr.off1;have r5:=hr.ev
 dsimp only at r1 r2 r3 r4 r5
 subst r1;subst r2;subst r5
 have k1':kind≠1:=k1
 have hk':1≤kind∧kind≤11:=hk
 have h11:=aap hk' hb2 hby k1'
 rcases h11 with ⟨rfl,rfl⟩ | ⟨rfl,rfl⟩ | ⟨rfl,rfl⟩ | ⟨rfl,rfl⟩ | ⟨rfl,rfl⟩ | ⟨rfl,rfl⟩ | ⟨rfl,rfl⟩ | ⟨rfl,rfl⟩ | ⟨rfl,rfl⟩ | ⟨rfl,rfl⟩
 all_goals simp only [Int.reduceBEq,cond_true,cond_false,aS,hy,Option.bind_some,ad6 hlt,aeF]
 ·have e:(bg o l i (day,1,no,2,line,art,q,unit,p,un,to) x).2={ x with wish:=(i:Int) }:=ON (by show (2:Int)≤4;omega) h0
  rw [e] at hx' ⊢
  exact ⟨yo,bs (kS hx' (bz x.opn)) (bs (bM _ hev) (Cz hev rfl)),r3,r4⟩
 ·have e:(bg o l i (day,1,no,3,line,art,q,unit,p,un,to) x).2={ x with wish:=(i:Int) }:=ON (by show (3:Int)≤4;omega) h0
  rw [e] at hx' ⊢
  exact ⟨yo,bs (kS hx' (bz x.opn)) (bs (bM _ hev) (Cz hev rfl)),r3,r4⟩
 ·have e:(bg o l i (day,1,no,4,line,art,q,unit,p,un,to) x).2={ x with wish:=(i:Int) }:=ON (by show (4:Int)≤4;omega) h0
  rw [e] at hx' ⊢
  exact ⟨yo,bs (kS hx' (bz x.opn)) (bs (bM _ hev) (Cz hev rfl)),r3,r4⟩
 ·have hwi:=aaR rfl h0
  obtain ⟨w,hw1,hw2⟩:=hx2.kind hwi
  have hwf:=hl w (List.mem_of_getElem? hw1)
  obtain ⟨_,_,_,hwk,_⟩:=bG hwf
  have e:=aa2 hw1 ⟨hwk.1,hw2⟩ rfl h0
  rw [e] at hx' ⊢
  have hg:(L.set k (aT x,x.wish, -1,P x.no))[k]? =some (aT x,x.wish, -1,P x.no):=ad6 hlt
  rw [U6 hg (JB hwi hw1) hwf hw2,Option.bind_some,aS]
  simp only [aeF,ad6 hlt,Option.bind_some]
  refine ⟨-1, ?_,fun _=> ?_,fun h=>absurd ?_ h⟩
  ·by_cases c2:aF w≤2
   ·simp only [if_pos c2] at hx' ⊢
    exact bs (kS hx' (bz x.opn)) (bs (bM _ hev) (Cz hev rfl))
   ·by_cases c3:aF w=3
    ·simp only [if_neg c2,if_pos c3] at hx' ⊢
     exact bs (kS hx' (bz x.opn)) (bs (bM _ hev) (Cz hev rfl))
    ·simp only [if_neg c2,if_neg c3] at hx' ⊢
     exact bs (kS hx' (bz x.opn)) (bs (bM _ hev) (Cz hev rfl))
  ·rfl
  ·rfl
 ·have e:=abS rfl h0
  rw [e] at hx' ⊢
  exact ⟨-1,bs (kS hx' (bz x.opn)) (bs (bM _ hev) (Cz hev rfl)),fun _=>rfl,fun h=>absurd rfl h⟩
 ·have e:=YW rfl h0
  rw [e] at hx' ⊢
  exact ⟨i,bs (kS hx' (bz x.opn)) (bs (bM _ hev) (Cz hev rfl)),fun h=>absurd h (by show ¬no=0;omega),fun _=>⟨i,_,rfl,hd,rfl,rfl,rfl,rfl⟩⟩
 ·obtain ⟨hne,e⟩:=aab rfl h0
  rw [e] at hx' ⊢
  obtain ⟨jo,dd,e1,e2,e3,e4,e5,e6⟩:=r4 hne
  subst e1
  obtain ⟨_,_,_,_,_,_,hdu⟩:=bG (hl dd (List.mem_of_getElem? e2))
  have hdq:qOk (dQ dd) (aF dd==2)=true:=(cG hdu).1 (by rw [e6];rfl)
  have hp:kR (bz (x.shp - x.ret)) (dQ dd)=some (bz (x.shp - x.ret+x.oq),()):=by
   rw [← e4];exact qX (cK (n:=x.shp - x.ret) (by omega)) (pV hdq)
  rw [SJ hx1,Option.bind_some,bJ e2,Option.bind_some]
  simp only [Option.bind_some]
  rw [hp,Option.bind_some,aS]
  simp only [aeF,ad6 hlt,Option.bind_some]
  have e5':dd.2.2.2.2.2.2.2.2.2.1=x.ount:=e5
  rw [e5']
  exact ⟨-1,bs (kS hx' (bz x.opn)) (bs (bM _ hev) (Cz hev rfl)),fun _=>rfl,fun h=>absurd rfl h⟩
 ·have e:=aaa rfl h0
  rw [e] at hx' ⊢
  have hp:kR (aT x).2.2.2.2.2.2.1 (q.1,q.2)=some (bz (x.shp+aO q),()):=qX (cK (n:=x.shp) (by omega)) (pV (show qOk q false=true from uq rfl))
  rw [hp,Option.bind_some,aS]
  simp only [aeF,ad6 hlt,Option.bind_some]
  exact ⟨-1,bs (kS hx' (bz x.opn)) (bs (bM _ hev) (Cz hev rfl)),fun _=>rfl,fun h=>absurd rfl h⟩
 ·have e:=Z8 rfl h0
  rw [e] at hx' ⊢
  have hp:kR (aT x).2.2.2.2.2.2.2.1 (q.1,q.2)=some (bz (x.rcv+aO q),()):=qX (cK (n:=x.rcv) (by omega)) (pV (show qOk q false=true from uq rfl))
  rw [hp,Option.bind_some,aS]
  simp only [aeF,ad6 hlt,Option.bind_some]
  exact ⟨yo,bs (kS hx' (bz x.opn)) (bs (bM _ hev) (Cz hev rfl)),r3,r4⟩
 ·have e:=Z9 rfl h0
  rw [e] at hx' ⊢
  have hp:kR (aT x).2.2.2.2.2.2.2.2.1 (q.1,q.2)=some (bz (x.ret+aO q),()):=qX (cK (n:=x.ret) (by omega)) (pV (show qOk q false=true from uq rfl))
  rw [hp,Option.bind_some,aS]
  simp only [aeF,ad6 hlt,Option.bind_some]
  exact ⟨yo,bs (kS hx' (bz x.opn)) (bs (bM _ hev) (Cz hev rfl)),r3,r4⟩
end Go.Md
set_option linter.all false
namespace Go.Md
open Go.Dn
variable {o:ai} {l:List ah} {A:List aj} {L:List ak} {ref:List aa} {P:Int→List ay}
theorem R9 {α:Type} (l:List α) {p:Nat} (v:α) (h:p≤l.length):(l.take p++(v::l.drop p))[p]? =some v:=by
 rw [adY (by rw [aeh];omega),aeh,show p - min p l.length=0 by omega];rfl
theorem abl {α:Type} (l:List α) {p:Nat} (v v':α) (h:p≤l.length):(l.take p++(v::l.drop p)).set p v'=l.take p++(v'::l.drop p):=by
 rw [List.set_append_right _ _ (by rw [aeh];omega),aeh,show p - min p l.length=0 by omega];rfl
theorem US:bz 0=(0,0):=by unfold bz;rw [O5];rfl
theorem Ys (i:Nat) (d:ah):LOk (eC i d):=⟨by show (0:Int)≤0;omega,by show (0:Int)≤0;omega,by show (0:Int)≤0;omega,by show (0:Int)≤_;omega,by show (0:Int)≤0;omega,by show (0:Int)≤_;omega,fun e=>absurd rfl e⟩
theorem Yf {M:List aj} (hlen:L.length=M.length) (hst:∀ (k:Nat) x y,M[k]? =some x→L[k]? =some y→y.1=aT x) (hM:M.length≤500) (n:Nat) (hn:M.length<n) {a b c e e9 f g i2 j2 k2 p2 q2 r2:Int} {u v w s t:List UInt8} {no:Int} {z1:List aK}:
 iter (X:=lG) (β:=pI) n (a,0,b,c,e,f,no,u,g,i2,v,j2,k2,p2,q2,w,s,t,r2,e9,z1,l,L,ref,()) pH=
  some (Sum.inr (a,(fJ no M:Int),b,c,e,f,no,u,g,i2,v,j2,k2,p2,q2,w,s,t,r2,e9,z1,l,L,ref,())):=by
 have hp:=No no M
 refine bQ (Inv:=fun i X=>X=((a,(i:Int),b,c,e,f,no,u,g,i2,v,j2,k2,p2,q2,w,s,t,r2,e9,z1,l,L,ref,()):lG)) (fJ no M) (fun z=>z=some (Sum.inr (a,(fJ no M:Int),b,c,e,f,no,u,g,i2,v,j2,k2,p2,q2,w,s,t,r2,e9,z1,l,L,ref,()))) ?_ ?_ n 0 _ rfl (afg _) (by omega)
 ·rintro i X again hi rfl hag
  unfold pH
  dsimp only
  have hi2:i<M.length:=by omega
  have hy:L[i]? =some L[i]:=List.getElem?_eq_getElem (by omega)
  have hs:=hst i _ _ (List.getElem?_eq_getElem hi2) hy
  rw [decide_eq_true (show (i:Int)<(L.length:Int) by omega),cond_true]
  rw [cE (by rw [ac1];exact ⟨decide_eq_true (by omega),rfl⟩),adA,hy,Option.bind_some,Option.bind_some,hs]
  have hlt:=XN no M i _ hi (List.getElem?_eq_getElem hi2)
  dsimp only
  rw [decide_eq_true (show (aT M[i]).1<no from hlt),cond_true,aA (n:=(i:Int)+1) (by omega) (by omega)]
  exact hag _ rfl
 ·rintro X again rfl
  unfold pH
  dsimp only
  by_cases h:fJ no M<M.length
  ·have hy:L[fJ no M]? =some (L[fJ no M]'(by omega)):=List.getElem?_eq_getElem (by omega)
   have hs:=hst _ _ _ (List.getElem?_eq_getElem h) hy
   rw [decide_eq_true (show ((fJ no M:Nat):Int)<(L.length:Int) by omega),cond_true]
   rw [cE (by rw [ac1];exact ⟨decide_eq_true (by omega),rfl⟩),adA,hy,Option.bind_some,Option.bind_some,hs]
   have hge:=XM no M _ (List.getElem?_eq_getElem h)
   dsimp only
   rw [afs (show ¬(aT M[fJ no M]).1<no from hge),cond_false]
  ·rw [afs (show ¬((fJ no M:Nat):Int)<(L.length:Int) by omega),cond_false]
   rfl
set_option maxHeartbeats 1000000 in
theorem Ye (hB:yO l P A L) (hI:Ids A) (hl:∀ d,d∈l→bn d=0) {i:Nat} {d:ah} (hd:l[i]? =some d) (hf:nr (cH d) A=none) (k1:aF d=1):
 jD (o,l,L,ref,()) (i:Int)=some ((o,l,L.take (fJ (cH d) (aH A))++((aT (eC i d),(i:Int), -1,[((i:Int),aT (eC i d))])::L.drop (fJ (cH d) (aH A))),ref,()),()):=by
 obtain ⟨_,hb2,hno,hk,hby,_,hu⟩:=bG (hl d (List.mem_of_getElem? hd))
 obtain ⟨_,up,_⟩:=cG hu
 have hlen:=hI.len
 have hsl:(aH A).length=A.length:=(cc A).length_eq
 have hL:=hB.len
 have hps:=No (cH d) (aH A)
 unfold jD
 dsimp only
 rw [bJ hd,Option.bind_some,zY hB hI.len l,Option.bind_some,show nr d.2.2.2.2.1 A=none from hf]
 dsimp only
 rw [decide_eq_true (show (-1:Int)<0 by omega),cond_true]
 rw [Yf (M:=aH A) hB.len (fun k x y hx hy=>(hB.rel k x y hx hy).st) (by omega) _ (by omega),aS]
 dsimp only
 obtain ⟨day,byy,no,kind,line,art,q,unit,p,un,to⟩:=d
 dsimp only at hk k1 up hby hb2 hno hf ⊢
 have hps:fJ line (aH A)≤(aH A).length:=hps
 have k1':kind=1:=k1
 subst k1'
 have hb1:byy=1:=by omega
 subst hb1
 rw [show eN (p.1,p.2)=some (dU p,()) from Hv (up rfl),Option.bind_some]
 dsimp only
 have hins:∀ v,gh L (fJ line (aH A):Int) [v]=some (L.take (fJ line (aH A))++(v::L.drop (fJ line (aH A))),()):=by
  intro v
  show (bif _ then _ else _)=_
  rw [show (decide (0≤((fJ line (aH A):Nat):Int))&&(decide (((fJ line (aH A):Nat):Int)≤(L.length:Int))&&(decide (0<[v].length)&&(decide ((L.length+[v].length)*184≤140737488355328)&&decide (L.length+[v].length≤4611686018427387904)))))=true by
   simp only [ac1,afu,List.length_singleton];omega,cond_true,adA]
  rfl
 rw [hins,Option.bind_some,aS]
 dsimp only
 have hpl:fJ line (aH A)≤L.length:=by omega
 rw [cE (by rw [ac1];exact ⟨decide_eq_true (by omega),decide_eq_true (by simp;omega)⟩),adA]
 simp only [Int.reduceBEq,cond_true,cond_false,aS]
 generalize hV:((((line,art,unit,(0,0),dU p,un,(0,0),(0,0),(0,0),0,0):bf),(i:Int), -1,[]):ak)=v
 have hget:=R9 L v hpl
 have hset:=fun v'=>abl L v v' hpl
 subst hV
 refine (aam (x:=eC i (day,1,no,1,line,art,q,unit,p,un,to)) (v:=(0,0)) hget ?_ (Ys _ _) (by show 0≤2000;omega) (i:Int)).trans ?_
 ·show _=(line,art,unit,bz 0,dU p,un,bz 0,bz 0,bz 0,(0,0))
  rw [US]
 ·rw [hset];rfl
end Go.Md
set_option linter.all false
namespace Go.Md
open Go.Dn
theorem ab8 {M:List aj} (hs:M.Pairwise fun x y=>x.no<y.no) {m k:Nat} {a b:aj} (ha:M[m]? =some a) (hb:M[k]? =some b) (h:a.no=b.no):m=k:=by
 obtain ⟨hm,rfl⟩:=List.getElem?_eq_some_iff.1 ha
 obtain ⟨hk,rfl⟩:=List.getElem?_eq_some_iff.1 hb
 rw [aeC] at hs
 rcases ae4 m k with c | c | c
 ·have:=hs m k hm hk c;omega
 ·exact c
 ·have:=hs k m hk hm c;omega
variable {o:ai} {l:List ah} {A:List aj} {L:List ak} {ref:List aa} {P:Int→List ay}
theorem abF {M:List aj} (p:Nat) (hp:p≤M.length) (hL:L.length=M.length) {P':Int→List ay} {x:aj} {y:ak} (hr:∀ (k:Nat) a b,M[k]? =some a→L[k]? =some b→RB l P' a b) (hxy:RB l P' x y):
 ∀ (k:Nat) a b,(M.take p++x::M.drop p)[k]? =some a→(L.take p++y::L.drop p)[k]? =some b→RB l P' a b:=by
 intro k a b ha hb
 rcases ae4 k p with c | c | c
 ·rw [adX (by rw [aeh];omega),ad8 c] at ha hb
  exact hr k a b ha hb
 ·subst c
  rw [R9 M x hp] at ha
  rw [R9 L y (by omega)] at hb
  cases ha;cases hb;exact hxy
 ·rw [adY (by rw [aeh];omega),aeh,show k - min p M.length=(k - p - 1)+1 by omega,adZ,ad1] at ha
  rw [adY (by rw [aeh];omega),aeh,show k - min p L.length=(k - p - 1)+1 by omega,adZ,ad1] at hb
  exact hr _ a b ha hb
theorem follow_eq (hB:yO l P A L) (hA:Good l A) (hI:Ids A) (hl:∀ d,d∈l→bn d=0) (he:0≤bN o∧bN o≤1000) (hP:∀ wt,(P wt).length≤2000) (hN:∀ wt,(∀ x,x∈A→x.no≠wt)→P wt=[])
 {i:Nat} {d:ah} (hd:l[i]? =some d) (h0:(bS o l i d A).1=0):
 ∃ L',jD (o,l,L,ref,()) (i:Int)=some ((o,l,L',ref,()),())∧yO l (fun wt=>sK wt i d (bS o l i d A).2 (P wt)) (bS o l i d A).2 L':=by
 have hA':=uV (o:=o) hA hl hd
 by_cases k1:aF d=1
 ·cases hf:nr (cH d) A with
  | some k=>
   obtain ⟨x,j,_,_,hfl,_⟩:=zq hI hf
   unfold bS at h0
   rw [if_pos k1,hfl] at h0
   cases h0
  | none=>
   obtain ⟨hfl,hne⟩:=Dq hf
   have hz:(bS o l i d A).2=A++[eC i d]:=by
    unfold bS at h0 ⊢
    rw [if_pos k1,hfl] at h0 ⊢
    dsimp only at h0 ⊢
    split at h0
    ·cases h0
    ·rename_i c1
     rw [if_neg c1]
     split at h0
     ·cases h0
     ·rename_i c2
      rw [if_neg c2]
   refine ⟨_,Ye hB hI hl hd hf k1, ?_⟩
   rw [hz]
   have hs:=aaN hI (y:=eC i d) hne
   have hs':aH (A++[eC i d])=(aH A).take (fJ (cH d) (aH A))++eC i d::(aH A).drop (fJ (cH d) (aH A)):=hs
   have hps:=No (cH d) (aH A)
   have hlen:=hB.len
   have hlL:jl (cH d) (A++[eC i d])=some (eC i d):=by
    refine u6 (k:=A.length) ?_ (by rw [adY (aeX _),Nat.sub_self];rfl)
    unfold dw
    rw [Dp,show bR (cH d) 0 A=none from hfl,Option.none_or,if_pos (show cH d=(eC i d).no from rfl),aff]
   refine ⟨?_, ?_⟩
   ·rw [hs']
    simp only [aeb,aeh,aec,aed]
    omega
   ·rw [hs']
    refine abF _ hps hlen (fun k a b ha hb=> ?_) ?_
    ·obtain ⟨r1,r2,r3,r4,r5⟩:=hB.rel k a b ha hb
     have:cH d≠a.no:=fun e=>hne a ((cc A).mem_iff.1 (List.mem_of_getElem? ha)) e.symm
     exact ⟨r1,r2,r3,r4,by rw [r5];unfold sK;rw [if_neg this]⟩
    ·refine ⟨rfl,rfl,fun _=>rfl,fun h=>absurd rfl h, ?_⟩
     show [((i:Int),aT (eC i d))]=sK (cH d) i d (A++[eC i d]) (P (cH d))
     unfold sK
     rw [if_pos rfl,hlL,hN (cH d) hne]
     rfl
 ·cases hf:nr (cH d) A with
  | none=>
   obtain ⟨hfl,_⟩:=Dq hf
   rw [Jc k1 hfl] at h0
   cases h0
  | some k=>
   obtain ⟨x,j,hx,hxn,hfl,hxj⟩:=zq hI hf
   obtain ⟨y,hy,hr⟩:=hB.get hx
   obtain ⟨hx1,hx2⟩:=hA.sound.line x (List.mem_of_getElem? hxj)
   rw [LO k1 hfl hxj] at h0 hA' ⊢
   dsimp only at h0 hA' ⊢
   obtain ⟨hx1',_,hno,_⟩:=DO (o:=o) hx1 hx2 hl hd
   obtain ⟨off,hfo,hoff⟩:=Yd (ref:=ref) hB hA hI hl he hd hf hx hy hr (hP _) hx1 hx2 hx1' k1 h0
   refine ⟨_,hfo, ?_⟩
   have hs:=aaO hI (y:=(bg o l i d x).2) hxj hx hno
   have hkl:=(List.getElem?_eq_some_iff.1 hx).1
   have hky:=(List.getElem?_eq_some_iff.1 hy).1
   have hlL:jl (cH d) (A.set j (bg o l i d x).2)=some (bg o l i d x).2:=by
    refine u6 (k:=j) ?_ (ad6 (List.getElem?_eq_some_iff.1 hxj).1)
    have:dw (cH d) (A.set j (bg o l i d x).2)=dw (cH d) A:=Jq A 0 (fun z hz=>by rw [hxj] at hz;cases hz;exact hno)
    rw [this];exact hfl
   refine ⟨by rw [hs,aeg,aeg];exact hB.len,fun m a b ha hb=> ?_⟩
   rw [hs] at ha
   by_cases c:k=m
   ·subst c
    rw [ad6 hkl] at ha
    rw [ad6 hky] at hb
    cases ha;cases hb
    refine ⟨rfl,rfl,hoff.1,hoff.2, ?_⟩
    show P x.no++[((i:Int),aT (bg o l i d x).2)]=sK (bg o l i d x).2.no i d _ (P (bg o l i d x).2.no)
    unfold sK
    rw [hno,if_pos hxn.symm,hlL]
   ·rw [ad5 c] at ha hb
    obtain ⟨r1,r2,r3,r4,r5⟩:=hB.rel m a b ha hb
    have:cH d≠a.no:=fun e=>c (ab8 (SH hI) hx ha (by rw [hxn];exact e))
    exact ⟨r1,r2,r3,r4,by rw [r5];unfold sK;rw [if_neg this]⟩
end Go.Md
set_option linter.all false
namespace Go.Md
open Go.Dn
theorem QV {n:Int} {A:List aj} (h:∀ x,x∈A→x.no≠n):jl n A=none:=by
 unfold jl
 rw [show dw n A=none from GW h];rfl
theorem yJ {o:ai} {l:List ah} {wt day:Int}:∀ (r:List ah) (i:Nat) (A:List aj) (ref:List (Int×Int)) (pts:List ay),(∀ d,d∈r→day<d.1)→eU o l wt day r i A ref pts=(A,ref,pts)
 | [],_,_,_,_,_=>rfl
 | d::r,i,A,ref,pts,h=>by simp only [eU];rw [if_pos (h d (by simp))]
theorem ZX {o1 o2 o3:List UInt8} {o4 o5:Int} {o6:List aK} {l:List ah} {day:Int} (he:0≤o5∧o5≤1000) (hl:∀ d,d∈l→bn d=0) (hlen:l.length≤2000) (hs:l.Pairwise fun a b=>a.1≤b.1):
 ∀ (r:List ah) (i n:Nat) (A:List aj) (L:List ak) (ref:List (Int×Int)) (P:Int→List ay),l.drop i=r→i≤l.length→Good l A→Ids A→yO l P A L→(∀ wt,(P wt).length≤i)→(∀ wt,jl wt A=none→P wt=[])→ref.length≤i→r.length<n→
  ∃ L',iter (X:=GG) (β:=GF) n (day,l,(l.length:Int),(i:Int),o1,o2,o3,o4,o5,o6,l,L,ref,()) Cp=some (Sum.inr (o1,o2,o3,o4,o5,o6,l,L',(eU (o1,o2,o3,o4,o5,o6) l 0 day r i A ref []).2.1,()))∧
   yO l (fun wt=>(eU (o1,o2,o3,o4,o5,o6) l wt day r i A ref (P wt)).2.2) (eU (o1,o2,o3,o4,o5,o6) l 0 day r i A ref []).1 L':=by
 intro r
 induction r with
 | nil=>
  intro i n A L ref P hd hi hA hI hB hp hN hr hn
  have:i=l.length:=by
   have:=congrArg List.length hd
   simp at this;omega
  subst this
  obtain ⟨n,rfl⟩:∃ m,n=m+1:=⟨n - 1,by omega⟩
  refine ⟨L, ?_,hB⟩
  rw [cF]
  unfold Cp
  dsimp only
  rw [afs (show ¬((l.length:Int)<(l.length:Int)) by omega),cond_false]
  rfl
 | cons d r ih=>
  intro i n A L ref P hdr hi hA hI hB hp hN hr hn
  have hd:l[i]? =some d:=by
   have:=congrArg (·[0]?) hdr
   simpa [ad1] using this
  have hr':l.drop (i+1)=r:=by
   have:=congrArg List.tail hdr
   simpa [aeH] using this
  have hlt:i<l.length:=(List.getElem?_eq_some_iff.1 hd).1
  have hlate:∀ e,e∈r→d.1≤e.1:=by
   have h:=hs.sublist (List.drop_sublist i l)
   rw [hdr] at h
   exact fun e he=>(List.pairwise_cons.1 h).1 e he
  obtain ⟨n,rfl⟩:∃ m,n=m+1:=⟨n - 1,by simp at hn;omega⟩
  rw [cF]
  generalize hag:(fun y=>iter n y Cp)=again
  unfold Cp
  dsimp only
  rw [decide_eq_true (show (i:Int)<(l.length:Int) by omega),cond_true,bJ hd,Option.bind_some,aA (n:=(i:Int)+1) (by omega) (by omega),show (i:Int)+1=((i+1:Nat):Int) by omega]
  have sH:maxLen=9223372036854775807:=rfl
  by_cases hday:day<d.1
  ·rw [decide_eq_true (show d.1>day from hday),cond_true, ← hag]
   have hl1:∀ e,e∈d::r→day<e.1:=fun e he=>by
    rcases aeq.1 he with rfl | he
    ·exact hday
    ·have:=hlate e he;omega
   obtain ⟨L',e1,e2⟩:=ih (i+1) n A L ref P hr' (by omega) hA hI hB (fun wt=>by have:=hp wt;omega) hN (by omega) (by simp at hn;omega)
   refine ⟨L', ?_, ?_⟩
   ·refine e1.trans ?_
    rw [yJ r _ _ _ _ (fun e he=>hl1 e (by simp [he])),yJ (d::r) _ _ _ _ hl1]
   ·have w:∀ wt,eU (o1,o2,o3,o4,o5,o6) l wt day (d::r) i A ref (P wt)=eU (o1,o2,o3,o4,o5,o6) l wt day r (i+1) A ref (P wt):=fun wt=>by
     rw [yJ r _ _ _ _ (fun e he=>hl1 e (by simp [he])),yJ (d::r) _ _ _ _ hl1]
    have w0:eU (o1,o2,o3,o4,o5,o6) l 0 day (d::r) i A ref []=eU (o1,o2,o3,o4,o5,o6) l 0 day r (i+1) A ref []:=by
     rw [yJ r _ _ _ _ (fun e he=>hl1 e (by simp [he])),yJ (d::r) _ _ _ _ hl1]
    rw [w0]
    simp only [w]
    exact e2
  ·rw [afs (show ¬d.1>day from hday),cond_false]
   have hrf:=Uy (o:=(o1,o2,o3,o4,o5,o6)) (ref:=ref) hB hA hI hl he hd
   rw [hrf,Option.bind_some]
   dsimp only
   have hgood:=uV (o:=(o1,o2,o3,o4,o5,o6)) hA hl hd
   have hids:=S8 (o:=(o1,o2,o3,o4,o5,o6)) hA hI hl hd
   simp only [eU,if_neg hday]
   by_cases h0:(bS (o1,o2,o3,o4,o5,o6) l i d A).1=0
   ·simp only [if_neg (show ¬(bS (o1,o2,o3,o4,o5,o6) l i d A).1≠0 from fun h=>h h0)]
    rw [h0,show ((0:Int) != 0)=false from rfl,cond_false]
    obtain ⟨L1,f1,f2⟩:=follow_eq (ref:=ref) hB hA hI hl he (fun wt=>by have:=hp wt;omega) (fun wt h=>hN wt (QV h)) hd h0
    rw [f1,Option.bind_some]
    dsimp only
    rw [← hag]
    have pl:∀ wt,(sK wt i d (bS (o1,o2,o3,o4,o5,o6) l i d A).2 (P wt)).length≤i+1:=fun wt=>by
     have:=hp wt
     unfold sK
     split
     ·split
      ·simp;omega
      ·omega
     ·omega
    have pn:∀ wt,jl wt (bS (o1,o2,o3,o4,o5,o6) l i d A).2=none→sK wt i d (bS (o1,o2,o3,o4,o5,o6) l i d A).2 (P wt)=[]:=fun wt h=>by
     by_cases e:cH d=wt
     ·subst e
      obtain ⟨k,x,hk,hx⟩:=GP hA.sound hl hd h0
      rw [u6 hk hx] at h;cases h
     ·unfold sK
      rw [if_neg e]
      rw [Og hA.sound hl hd e] at h
      exact hN wt h
    obtain ⟨L',e1,e2⟩:=ih (i+1) n _ L1 ref _ hr' (by omega) hgood hids f2 pl pn (by omega) (by simp at hn;omega)
    have w:=SC (o:=(o1,o2,o3,o4,o5,o6)) (l:=l) 0 0 day r (i+1) (bS (o1,o2,o3,o4,o5,o6) l i d A).2 ref (sK 0 i d (bS (o1,o2,o3,o4,o5,o6) l i d A).2 []) []
    rw [w.1,w.2]
    exact ⟨L',e1,e2⟩
   ·simp only [if_pos (show (bS (o1,o2,o3,o4,o5,o6) l i d A).1≠0 from h0)]
    rw [cq h0,cond_true]
    rw [cE (by rw [ac1];exact ⟨decide_eq_true (by omega),decide_eq_true (by omega)⟩)]
    rw [← hag]
    have hsame:=(OS (o:=(o1,o2,o3,o4,o5,o6)) hA.sound hl hd).2 h0
    rw [hsame]
    exact ih (i+1) n A L _ P hr' (by omega) hA hI hB (fun wt=>by have:=hp wt;omega) hN (by simp;omega) (by simp at hn;omega)
theorem X5 {l:List ah} (h:mC l=0):l.Pairwise fun a b=>a.1≤b.1:=
 (X4 h).1.imp fun {a b} h=>by
   have:=(Xy a b).1 h
   unfold Lex at this
   omega
theorem Yp {o:ai} (ho:jW o=0) (l:List ah):yO l (fun _=>[]) (gX o) ((gX o).map fun x=>(aT x, -1, -1,[])):=by
 have hI:=Mt ho
 obtain ⟨_,_,_,_,hgo,_⟩:=qB ho
 obtain ⟨_,_,hpw⟩:=lg hgo
 have hs:aH (gX o)=gX o:=SI (List.Perm.refl _) (by rw [aeD];exact hpw)
 refine ⟨by rw [hs,List.length_map],fun k x y hx hy=> ?_⟩
 rw [hs] at hx
 rw [List.getElem?_map,hx] at hy
 cases hy
 obtain ⟨q,_,rfl⟩:=aeu.1 (List.mem_of_getElem? hx)
 exact ⟨rfl,rfl,fun _=>rfl,fun h=>absurd rfl h,rfl⟩
theorem Yq {o1 o2 o3:List UInt8} {o4 o5:Int} {o6:List aK} (ho:jW (o1,o2,o3,o4,o5,o6)=0) (l:List ah) (day:Int) (n:Nat) (hn:o6.length<n):
 iter (X:=Cq) (β:=GD) n (l,day,o6,(o6.length:Int),0,o1,o2,o3,o4,o5,o6,l,[],[],()) GB=some (Sum.inr (l,day,o1,o2,o3,o4,o5,o6,l,(gX (o1,o2,o3,o4,o5,o6)).map (fun x=>(aT x, -1, -1,[])),[],())):=by
 obtain ⟨_,_,hl5,_,hgo,_⟩:=qB ho
 obtain ⟨hln,_,_⟩:=lg hgo
 have hg:=u7 ho l
 have hl5:o6.length≤500:=hl5
 have sH:maxLen=9223372036854775807:=rfl
 refine bQ (Inv:=fun i X=>X=((l,day,o6,(o6.length:Int),(i:Int),o1,o2,o3,o4,o5,o6,l,((o6.take i).map jU).map (fun x=>(aT x, -1, -1,[])),[],()):Cq)) o6.length (fun z=>z=some (Sum.inr (l,day,o1,o2,o3,o4,o5,o6,l,(gX (o1,o2,o3,o4,o5,o6)).map (fun x=>(aT x, -1, -1,[])),[],()))) ?_ ?_ n 0 _ rfl (afg _) (by omega)
 ·rintro i X again hi rfl hag
  unfold GB
  dsimp only
  have hx:o6[i]? =some o6[i]:=List.getElem?_eq_getElem hi
  obtain ⟨_,h2,_,h4,_⟩:=hln _ (List.mem_of_getElem? hx)
  have hok:=(hg.sound.line (jU o6[i]) (aeu.2 ⟨_,List.mem_of_getElem? hx,rfl⟩)).1
  rw [decide_eq_true (show (i:Int)<(o6.length:Int) by omega),cond_true,bJ hx,Option.bind_some,Hw h2,Option.bind_some,Hv h4,Option.bind_some]
  have hre:=kS hok (0,0)
  have e0:bz (jU o6[i]).shp=(0,0):=US
  have e1:bz (jU o6[i]).rcv=(0,0):=US
  have e2:bz (jU o6[i]).ret=(0,0):=US
  rw [e0,e1,e2] at hre
  refine bs hre ?_
  dsimp only
  rw [cE (by rw [ac1];exact ⟨decide_eq_true (by simp;omega),decide_eq_true (by simp;omega)⟩),aA (n:=(i:Int)+1) (by omega) (by omega)]
  refine hag _ ?_
  rw [lY hx,aei,aei]
  rfl
 ·rintro X again rfl
  unfold GB
  dsimp only
  rw [afs (show ¬(o6.length:Int)<(o6.length:Int) by omega),cond_false,aeM]
theorem GC {o:ai} {l:List ah} (h:dh o l=0) (day:Int):
 ∃ L,Fc o l day=some ((o,l,L,(fC o l 0 day).2.1,()),())∧yO l (fun wt=>(fC o l wt day).2.2) (fC o l 0 day).1 L:=by
 obtain ⟨h1,h2⟩:=BU h
 obtain ⟨h3,h4⟩:=si h2
 obtain ⟨o1,o2,o3,o4,o5,o6⟩:=o
 obtain ⟨L,e1,e2⟩:=ZX (o1:=o1) (o2:=o2) (o3:=o3) (o4:=o4) (o6:=o6) (day:=day) (qB h1).2.1 h4 h3 (X5 h2) l 0 (Int.natAbs day+(List.length l+(Int.natAbs ((List.length l:Int))+(Int.natAbs (0:Int)+(List.length o1+(List.length o2+(List.length o3+(Int.natAbs o4+(Int.natAbs o5+(List.length o6+(List.length l+(List.length ((gX (o1,o2,o3,o4,o5,o6)).map (fun x=>((aT x, -1, -1,[]):ak)))+(List.length ([]:List aa)+2))))))))))))) _ _ [] _ rfl (afg _) (u7 h1 l) (Mt h1) (Yp h1 l) (fun _=>afg _) (fun _ _=>rfl) (afg _) (by omega)
 refine ⟨L, ?_,e2⟩
 unfold Fc
 dsimp only
 rw [Yq h1 l day _ (by omega),aS]
 dsimp only
 rw [show ((0:Nat):Int)=0 from rfl] at e1
 rw [e1,aS]
 rfl
end Go.Md
set_option linter.all false
namespace Go.Md
open Go.Dn
theorem TC (o:ai) (l:List ah) (tx:∀ d,d∈l→Txt d):MS o l=some (dh o l,()):=by
 unfold MS dh
 rw [PG,Option.bind_some]
 dsimp only
 by_cases h:jW o=0
 ·rw [if_neg (show ¬jW o≠0 from fun e=>e h),h,show ((0:Int) != 0)=false from rfl,cond_false,PF l tx,Option.bind_some]
 ·rw [cq h,cond_true,if_pos h]
end Go.Md
set_option linter.all false
namespace Go.Md
open Go.Dn
theorem Wq {l:List ah} {P:Int→List ay} {A:List aj} {L:List ak} (h:yO l P A L):L.map (fun y=>y.1)=(aH A).map aT:=by
 refine adR fun i=> ?_
 rw [List.getElem?_map,List.getElem?_map]
 by_cases hi:i<L.length
 ·have hx:=List.getElem?_eq_getElem (l:=aH A) (i:=i) (by rw [← h.len];exact hi)
  have hy:=List.getElem?_eq_getElem hi
  rw [hx,hy,afm,afm,(h.rel i _ _ hx hy).st]
 ·rw [ad2 (by omega),ad2 (by rw [← h.len];omega)]
  rfl
end Go.Md
set_option linter.all false
namespace Go.Md
open Go.Dn
theorem Le.dcm {d:aa} (h:cr d):Le 15 d.1:=by
 have:=h.1
 unfold Le
 simpa using this
theorem U4 {l:List aa} (hl:l.length≤1000) (h:∀ d,d∈l→cr d):iI l=some (0,()):=by
 unfold iI
 have:∀ n,l.length<n→iter (X:=fZ) (β:=jj) n (l,(l.length:Int),0,()) ji=some (Sum.inr ()):=by
  intro n hn
  refine bQ (Inv:=fun i X=>X=((l,(l.length:Int),(i:Int),()):fZ)) l.length (fun z=>z=some (Sum.inr ())) ?_ ?_ n 0 _ rfl (afg _) (by omega)
  ·rintro i X again hi rfl hag
   unfold ji
   dsimp only
   have hy:l[i]? =some l[i]:=List.getElem?_eq_getElem hi
   rw [decide_eq_true (show (i:Int)<(l.length:Int) by omega),cond_true,bJ hy,Option.bind_some,nJ,if_pos (h _ (List.mem_of_getElem? hy)),Option.bind_some]
   dsimp only
   rw [show ((0:Int) != 0)=false from rfl,cond_false,aA (n:=(i:Int)+1) (by omega) (by omega)]
   exact hag _ rfl
  ·rintro X again rfl
   unfold ji
   dsimp only
   rw [afs (show ¬(l.length:Int)<(l.length:Int) by omega),cond_false]
 rw [this _ (by omega),aS]
def jx (a b:aa):aa×Int:=if (a.1*b.1).natAbs≤1000000000000000 then ((a.1*b.1,a.2+b.2),0) else ((0,0),1)
theorem PW {a b:aa} (ha:cr a) (hb:cr b) (hp:a.2+b.2≤9):yR a b=some ((jx a b).1,(jx a b).2,()):=by
 have a1:=ha.1;have a2:=ha.2;have b1:=hb.1;have b2:=hb.2
 unfold yR jx
 rw [U4 (by show 2≤1000;omega) (fun d hd=>by
  simp only [aeq,List.not_mem_nil,or_false] at hd
  rcases hd with rfl | rfl
  ·exact ha
  ·exact hb),Option.bind_some]
 dsimp only
 rw [show ((0:Int) != 0)=false from rfl,cond_false,mm _ (by omega) (by omega),Option.bind_some,mm _ (by omega) (by omega),Option.bind_some,uL _ _ ((Le.dcm ha).w (by omega)) ((Le.dcm hb).w (by omega)),Option.bind_some,aA (n:=a.2+b.2) (by omega) (by omega),afs (show ¬a.2+b.2>9 by omega),cond_false,AH,Option.bind_some]
 split<;>rfl
theorem KR {z p:Int} (hz:Le 500 z):vl (N z) p=some (if z.natAbs≤1000000000000000 then ((z,p),0,()) else ((0,0),1,())):=by
 unfold vl
 rw [W9 _ _ (by omega) (by omega) hz,Option.bind_some]
 by_cases h:z.natAbs≤1000000000000000
 ·rw [if_pos (show z.natAbs≤(1000000000000000:Int) by omega),if_pos h];rfl
 ·rw [if_neg (show ¬z.natAbs≤(1000000000000000:Int) by omega),if_neg h];rfl
theorem Xa {a b:aa} (ha:cr a) (hb:cr b) (hp:a.2+b.2≤9):J2 a b=some ((jx a b).1,(jx a b).2,()):=by
 have a1:=ha.1;have a2:=ha.2;have b1:=hb.1;have b2:=hb.2
 have l1:=(Le.dcm ha).n (by omega);have l2:=(Le.dcm hb).n (by omega)
 unfold J2 jx
 rw [ju,if_pos ha,Option.bind_some,show ((0:Int) != 0)=false from rfl,cond_false,ju,if_pos hb,Option.bind_some]
 dsimp only
 rw [show ((0:Int) != 0)=false from rfl,cond_false,uo _ (by omega) (by omega),Option.bind_some,uo _ (by omega) (by omega),Option.bind_some,rQ _ _ (by omega) (by omega),Option.bind_some,aA (n:=a.2+b.2) (by omega) (by omega),afs (show ¬a.2+b.2>9 by omega),cond_false]
 dsimp only
 rw [KR (((Le.dcm ha).mul (Le.dcm hb)).mono (by omega)),Option.bind_some]
 split<;>rfl
theorem Z4 {a b:aa} (ha:cr a) (hb:cr b) (hp:a.2+b.2≤9) (h:(jx a b).2=0):cr (jx a b).1:=by
 have a2:=ha.2;have b2:=hb.2
 unfold jx at h ⊢
 split
 ·rename_i c
  exact ⟨c,by show 0≤a.2+b.2;omega,hp⟩
 ·rename_i c
  rw [if_neg c] at h;cases h
def cm (l:List aa):Int:=l.foldl (fun m d=>if d.2>m then d.2 else m) 0
theorem Tp (l:List aa) (d:aa):cm (l++[d])=if d.2>cm l then d.2 else cm l:=by unfold cm;rw [List.foldl_append];rfl
theorem O7 (l:List aa):∀ m:Int,m≤l.foldl (fun m d=>if d.2>m then d.2 else m) m∧(∀ d,d∈l→d.2≤l.foldl (fun m d=>if d.2>m then d.2 else m) m)∧(m≤9→(∀ d,d∈l→d.2≤9)→l.foldl (fun m d=>if d.2>m then d.2 else m) m≤9):=by
 induction l with
 | nil=>intro m;exact ⟨adk _,fun d hd=>(nomatch hd),fun h _=>h⟩
 | cons a l ih=>
  intro m
  rw [List.foldl_cons]
  obtain ⟨h1,h2,h3⟩:=ih (if a.2>m then a.2 else m)
  have hm:m≤(if a.2>m then a.2 else m)∧a.2≤(if a.2>m then a.2 else m):=by split<;>omega
  refine ⟨by omega,fun d hd=> ?_,fun h h'=>h3 (by have:=h' a (by simp);split<;>omega) fun d hd=>h' d (by simp [hd])⟩
  rcases aeq.1 hd with rfl | hd
  ·omega
  ·exact h2 d hd
def fN (p:Int) (l:List aa):Int:=l.foldl (fun s d=>s+d.1*10 ^ (p - d.2).toNat) 0
theorem TK (p:Int) (l:List aa) (d:aa):fN p (l++[d])=fN p l+d.1*10 ^ (p - d.2).toNat:=by unfold fN;rw [List.foldl_append];rfl
theorem SK {d:aa} {p:Int} (hd:cr d) (hp:p≤9):(d.1*10 ^ (p - d.2).toNat).natAbs≤1000000000000000*1000000000:=by
 have h1:=hd.1;have h2:=hd.2
 rw [adq,ads]
 refine Nat.mul_le_mul h1 ?_
 have:=afd (n:=(10:Int).natAbs) (by decide) (show (p - d.2).toNat≤9 by omega)
 exact aeY this (by decide)
theorem abL {p:Int} (hp:p≤9) (l:List aa) (hl:∀ d,d∈l→cr d):(fN p l).natAbs≤l.length*(1000000000000000*1000000000):=by
 suffices ∀ (l:List aa) (s:Int),(∀ d,d∈l→cr d)→(l.foldl (fun s d=>s+d.1*10 ^ (p - d.2).toNat) s).natAbs≤s.natAbs+l.length*(1000000000000000*1000000000) by
  have:=this l 0 hl
  unfold fN;simpa using this
 intro l
 induction l with
 | nil=>intro s _;simp
 | cons a l ih=>
  intro s h
  rw [List.foldl_cons,aec]
  have h1:=ih (s+a.1*10 ^ (p - a.2).toNat) fun d hd=>h d (by simp [hd])
  have h2:=SK (p:=p) (h a (by simp)) hp
  have h3:=Int.natAbs_add_le s (a.1*10 ^ (p - a.2).toNat)
  omega
def kz (l:List aa):aa×Int:=if (fN (cm l) l).natAbs≤1000000000000000 then ((fN (cm l) l,cm l),0) else ((0,0),1)
theorem Sc {p:Int} (hp:p≤9) (l:List aa) (hn:l.length≤500) (hl:∀ d,d∈l→cr d):Le 30 (fN p l):=by
 have:=abL hp l hl
 unfold Le
 have h2:l.length*(1000000000000000*1000000000)≤500*(1000000000000000*1000000000):=ae8 _ hn
 have h3:500*(1000000000000000*1000000000)≤10 ^ 30:=by decide
 omega
end Go.Md
set_option linter.all false
namespace Go.Md
open Go.Dn
theorem abD (d:aa) (p:Int) (hd:cr d) (hp:d.2≤p) (hp2:p≤9):xB d p=some (N (d.1*10 ^ (p - d.2).toNat),()):=by
 have h1:=hd.1;have h2:=hd.2
 have l2:=(Le.dcm hd).n (by omega);have l3:=(Le.pow (p - d.2).toNat).n (by omega)
 unfold xB
 rw [uo _ (by omega) (by omega),Option.bind_some,aA (by omega) (by omega)]
 dsimp only
 obtain ⟨m,hm⟩:∃ m:Nat,p - d.2=m:=⟨(p - d.2).toNat,by omega⟩
 rw [hm] at l3 ⊢
 rw [Hy m (by omega),Option.bind_some]
 dsimp only
 rw [show ((m:Nat):Int).toNat=m from adA m] at l3 ⊢
 rw [rQ _ _ (by omega) (by omega),Option.bind_some]
theorem TQ {l:List aa} (hl:l.length≤500) (h:∀ d,d∈l→cr d):Dk l=some ((kz l).1,(kz l).2,()):=by
 unfold Dk kz
 rw [afs (show ¬(l.length:Int)>1000 by omega),cond_false,U4 (by omega) h,Option.bind_some]
 dsimp only
 rw [show ((0:Int) != 0)=false from rfl,cond_false]
 obtain ⟨f1,f2,f3⟩:=O7 l 0
 have f3:=f3 (by omega) fun d hd=>(h d hd).2.2
 change 0≤cm l at f1
 change ∀ d,d∈l→d.2≤cm l at f2
 change cm l≤9 at f3
 have loop1:∀ n,l.length<n→iter (X:=rB) (β:=xg) n (l,0,l,(l.length:Int),0,0,0,()) xe=some (Sum.inr (l,cm l,0,0,())):=by
  intro n hn
  refine bQ (Inv:=fun i X=>X=((l,cm (l.take i),l,(l.length:Int),(i:Int),0,0,()):rB)) l.length (fun z=>z=some (Sum.inr (l,cm l,0,0,()))) ?_ ?_ n 0 _ rfl (afg _) (by omega)
  ·rintro i X again hi rfl hag
   unfold xe
   dsimp only
   have hy:l[i]? =some l[i]:=List.getElem?_eq_getElem hi
   rw [decide_eq_true (show (i:Int)<(l.length:Int) by omega),cond_true,bJ hy,Option.bind_some,aA (n:=(i:Int)+1) (by omega) (by omega), ← Tp, ← lY hy]
   exact hag _ rfl
  ·rintro X again rfl
   unfold xe
   dsimp only
   rw [afs (show ¬(l.length:Int)<(l.length:Int) by omega),cond_false,aeM]
 have loop2:∀ n,l.length<n→iter (X:=pO) (β:=uS) n (cm l,l,(l.length:Int),0,0,0,(W 0).1,(W 0).2,()) uR=some (Sum.inr (cm l,0,0,(W (fN (cm l) l)).1,(W (fN (cm l) l)).2,())):=by
  intro n hn
  refine bQ (Inv:=fun i X=>X=((cm l,l,(l.length:Int),(i:Int),0,0,(W (fN (cm l) (l.take i))).1,(W (fN (cm l) (l.take i))).2,()):pO)) l.length (fun z=>z=some (Sum.inr (cm l,0,0,(W (fN (cm l) l)).1,(W (fN (cm l) l)).2,()))) ?_ ?_ n 0 _ rfl (afg _) (by omega)
  ·rintro i X again hi rfl hag
   unfold uR
   dsimp only
   have hy:l[i]? =some l[i]:=List.getElem?_eq_getElem hi
   have hm:=List.mem_of_getElem? hy
   have hd:=h _ hm
   have h1:=hd.1;have h2:=hd.2;have h3:=f2 _ hm
   rw [decide_eq_true (show (i:Int)<(l.length:Int) by omega),cond_true,bJ hy,Option.bind_some,OP _ _ (by omega) (by omega) (by omega) (by omega) ⟨by omega,by omega⟩,Option.bind_some]
   have e:=NQ (fN (cm l) (l.take i)) (l[i].1*10 ^ (cm l - l[i].2).toNat) ((Sc f3 (l.take i) (by rw [aeh];omega) fun d hd=>h d (aew hd)).w (by omega)) (Le.w (k:=30) (by
    have:=SK (p:=cm l) hd f3
    unfold Le
    have h3:1000000000000000*1000000000≤10 ^ 30:=by decide
    omega) (by omega))
   rw [show (((W (fN (cm l) (l.take i))).1,(W (fN (cm l) (l.take i))).2):bu)=W (fN (cm l) (l.take i)) from rfl,e,Option.bind_some,aA (n:=(i:Int)+1) (by omega) (by omega), ← TK, ← lY hy]
   exact hag _ rfl
  ·rintro X again rfl
   unfold uR
   dsimp only
   rw [afs (show ¬(l.length:Int)<(l.length:Int) by omega),cond_false,aeM]
 rw [loop1 _ (by omega),aS]
 dsimp only
 rw [mm 0 (by omega) (by omega),Option.bind_some]
 dsimp only
 rw [loop2 _ (by omega),aS]
 dsimp only
 rw [show (((W (fN (cm l) l)).1,(W (fN (cm l) l)).2):bu)=W (fN (cm l) l) from rfl,AH,Option.bind_some]
 split<;>rfl
theorem ZT {l:List aa} (hl:l.length≤500) (h:∀ d,d∈l→cr d):Ri l=some ((kz l).1,(kz l).2,()):=by
 unfold Ri kz
 rw [afs (show ¬(l.length:Int)>1000 by omega),cond_false]
 obtain ⟨f1,f2,f3⟩:=O7 l 0
 have f3:=f3 (by omega) fun d hd=>(h d hd).2.2
 change 0≤cm l at f1
 change ∀ d,d∈l→d.2≤cm l at f2
 change cm l≤9 at f3
 have loop1:∀ n,l.length<n→iter (X:=Co) (β:=Gy) n (l,0,l,(l.length:Int),0,0,0,()) Gx=some (Sum.inr (l,cm l,0,0,())):=by
  intro n hn
  refine bQ (Inv:=fun i X=>X=((l,cm (l.take i),l,(l.length:Int),(i:Int),0,0,()):Co)) l.length (fun z=>z=some (Sum.inr (l,cm l,0,0,()))) ?_ ?_ n 0 _ rfl (afg _) (by omega)
  ·rintro i X again hi rfl hag
   unfold Gx
   dsimp only
   have hy:l[i]? =some l[i]:=List.getElem?_eq_getElem hi
   rw [decide_eq_true (show (i:Int)<(l.length:Int) by omega),cond_true,bJ hy,Option.bind_some,ju,if_pos (h _ (List.mem_of_getElem? hy)),Option.bind_some]
   dsimp only
   rw [show ((0:Int) != 0)=false from rfl,cond_false,aA (n:=(i:Int)+1) (by omega) (by omega), ← Tp, ← lY hy]
   exact hag _ rfl
  ·rintro X again rfl
   unfold Gx
   dsimp only
   rw [afs (show ¬(l.length:Int)<(l.length:Int) by omega),cond_false,aeM]
 have loop2:∀ n,l.length<n→iter (X:=zP) (β:=DF) n (cm l,l,(l.length:Int),0,0,0,false,[],()) DE=some (Sum.inr (cm l,0,0,(N (fN (cm l) l)).1,(N (fN (cm l) l)).2,())):=by
  intro n hn
  refine bQ (Inv:=fun i X=>X=((cm l,l,(l.length:Int),(i:Int),0,0,(N (fN (cm l) (l.take i))).1,(N (fN (cm l) (l.take i))).2,()):zP)) l.length (fun z=>z=some (Sum.inr (cm l,0,0,(N (fN (cm l) l)).1,(N (fN (cm l) l)).2,()))) ?_ ?_ n 0 _ rfl (afg _) (by omega)
  ·rintro i X again hi rfl hag
   unfold DE
   dsimp only
   have hy:l[i]? =some l[i]:=List.getElem?_eq_getElem hi
   have hm:=List.mem_of_getElem? hy
   have hd:=h _ hm
   have h3:=f2 _ hm
   have l1:=(Sc f3 (l.take i) (by rw [aeh];omega) fun d hd=>h d (aew hd)).n (by omega)
   have l2:=Le.n (k:=30) (z:=l[i].1*10 ^ (cm l - l[i].2).toNat) (by
    have:=SK (p:=cm l) hd f3
    unfold Le
    have h3:1000000000000000*1000000000≤10 ^ 30:=by decide
    omega) (by omega)
   rw [decide_eq_true (show (i:Int)<(l.length:Int) by omega),cond_true,bJ hy,Option.bind_some,abD _ _ hd h3 f3,Option.bind_some]
   rw [show (((N (fN (cm l) (l.take i))).1,(N (fN (cm l) (l.take i))).2):au)=N (fN (cm l) (l.take i)) from rfl,Rh _ _ (by omega) (by omega),Option.bind_some,aA (n:=(i:Int)+1) (by omega) (by omega), ← TK, ← lY hy]
   exact hag _ rfl
  ·rintro X again rfl
   unfold DE
   dsimp only
   rw [afs (show ¬(l.length:Int)<(l.length:Int) by omega),cond_false,aeM]
 rw [loop1 _ (by omega),aS]
 dsimp only
 rw [loop2 _ (by omega),aS]
 dsimp only
 rw [show (((N (fN (cm l) l)).1,(N (fN (cm l) l)).2):au)=N (fN (cm l) l) from rfl,KR ((Sc f3 l hl h).mono (by omega)),Option.bind_some]
 split<;>rfl
end Go.Md
set_option linter.all false
namespace Go.Md
open Go.Dn
theorem E9 (o:ai) (l:List ah) (day:Int) (tx:∀ d,d∈l→Txt d):yG o l day=some (lnF o l day,()):=by
 unfold yG lnF
 rw [TC o l tx,Option.bind_some]
 dsimp only
 by_cases h:dh o l=0
 ·rw [if_neg (show ¬dh o l≠0 from fun e=>e h),h,show ((0:Int) != 0)=false from rfl,cond_false,wN,Option.bind_some]
  dsimp only
  by_cases hd:1≤day∧day≤3652059
  ·rw [if_pos hd,decide_eq_true hd];rfl
  ·rw [if_neg hd,afs hd];rfl
 ·rw [cq h,cond_true,if_pos h]
theorem Fe {o:ai} {l l2:List ah} {P:Int→List ay} {A:List aj} {L:List ak} {ref:List aa} (h:yO l P A L) (hI:Ids A):mu (o,l2,L,ref)=some ((aH A).map aT,()):=by
 have sH:maxLen=9223372036854775807:=rfl
 have hL:L.length≤500:=by rw [h.len,(cc A).length_eq];exact hI.len
 unfold mu
 dsimp only
 have loop:∀ n,L.length<n→iter (X:=lI) (β:=pM) n ([],L,(L.length:Int),0,()) pL=some (Sum.inr (L.map (fun y=>y.1),())):=by
  intro n hn
  refine bQ (Inv:=fun i X=>X=(((L.take i).map (fun y=>y.1),L,(L.length:Int),(i:Int),()):lI)) L.length (fun z=>z=some (Sum.inr (L.map (fun y=>y.1),()))) ?_ ?_ n 0 _ rfl (afg _) (by omega)
  ·rintro i X again hi rfl hag
   unfold pL
   dsimp only
   have hy:L[i]? =some L[i]:=List.getElem?_eq_getElem hi
   have hlen:((L.take i).map (fun y=>y.1)).length=i:=by rw [List.length_map,aeh];omega
   rw [decide_eq_true (show (i:Int)<(L.length:Int) by omega),cond_true,bJ hy,Option.bind_some,hlen,cE (by rw [ac1];exact ⟨decide_eq_true (by omega),decide_eq_true (by omega)⟩),aA (n:=(i:Int)+1) (by omega) (by omega)]
   have e:(L.take i).map (fun y=>y.1)++[(L[i]).1]=(L.take (i+1)).map (fun y=>y.1):=by rw [lY hy,aei];rfl
   rw [e]
   exact hag _ rfl
  ·rintro X again rfl
   unfold pL
   dsimp only
   rw [afs (show ¬(L.length:Int)<(L.length:Int) by omega),cond_false,aeM]
 rw [loop _ (by omega),aS,Wq h]
theorem Ux (o:ai) (l:List ah) (day:Int) (tx:∀ d,d∈l→Txt d):DI o l day=some (if lnF o l day=0 then (aH (fC o l 0 day).1).map aT else [],lnF o l day,()):=by
 unfold DI
 rw [E9 o l day tx,Option.bind_some]
 dsimp only
 by_cases h:lnF o l day=0
 ·obtain ⟨h1,_⟩:=JG h
  obtain ⟨L,e1,e2⟩:=GC h1 day
  rw [if_pos h,h,show ((0:Int) != 0)=false from rfl,cond_false,e1,Option.bind_some]
  dsimp only
  rw [Fe e2 (tq h1 0 day).2,Option.bind_some]
 ·rw [cq h,cond_true,if_neg h]
abbrev VQ:bf:=(0,[],[],(0,0),(0,0),0,(0,0),(0,0),(0,0),0,0)
def QW (o:ai) (l:List ah) (line day:Int):bf×Bool×Int×Unit:=
 if dh o l≠0 then (VQ,false,dh o l,())
 else if line<1∨99999<line then (VQ,false,1,())
 else if 1≤day∧day≤3652059 then (match jl line (fC o l 0 day).1 with | some x=>(aT x,true,0,()) | none=>(VQ,false,0,()))
 else (VQ,false,1,())
theorem Sm (o:ai) (l:List ah) (line day:Int):iP o l line day=some (QW o l line day):=by
 unfold QW
 by_cases h:dh o l=0
 rotate_left
 ·rw [if_pos h]
  unfold iP
  rw [lp,if_pos h]
  unfold JU
  dsimp only
  rw [cq h,cond_true]
 rw [if_neg (show ¬dh o l≠0 from fun e=>e h)]
 by_cases hd:1≤day∧day≤3652059
 rotate_left
 ·have:iP o l line day=some (VQ,false,1,()):=by
   unfold iP
   rw [lp,if_neg (show ¬dh o l≠0 from fun e=>e h),if_pos hd];rfl
  rw [this,if_neg hd]
  split<;>rfl
 by_cases hr:line<1∨99999<line
 ·rw [if_pos hr]
  unfold iP
  rw [lp,if_neg (show ¬dh o l≠0 from fun e=>e h),if_neg (show ¬¬(1≤day∧day≤3652059) from fun e=>e hd)]
  refine Eq.trans zD ?_
  rw [wL h hd,Option.bind_some]
  dsimp only
  rw [show ((0:Int) != 0)=false from rfl,cond_false,fU,Option.bind_some,decide_eq_true hr]
  rfl
 ·rw [if_neg hr,if_pos hd,Q6 h hd hr]
  rfl
theorem Yo {A:List aj} (hI:Ids A) (n:Int):jl n A=(nr n A).bind fun k=>(aH A)[k]? :=by
 cases h:nr n A with
 | none=>rw [QV (Dq h).2];rfl
 | some k=>
  obtain ⟨x,j,hx,_,hf,hj⟩:=zq hI h
  rw [u6 hf hj,Option.bind_some,hx]
theorem Xb (o:ai) (l:List ah) (line day:Int) (tx:∀ d,d∈l→Txt d):Gz o l line day=some (QW o l line day):=by
 unfold Gz QW
 rw [TC o l tx,Option.bind_some]
 dsimp only
 by_cases h:dh o l=0
 rotate_left
 ·rw [cq h,cond_true,if_pos h]
 rw [if_neg (show ¬dh o l≠0 from fun e=>e h),h,show ((0:Int) != 0)=false from rfl,cond_false,jZ,Option.bind_some]
 dsimp only
 by_cases hr:line<1∨99999<line
 ·rw [if_pos hr,afs (show ¬(1≤line∧line≤99999) by omega)];rfl
 rw [if_neg hr,decide_eq_true (show 1≤line∧line≤99999 by omega),Bool.not_true,cond_false,wN,Option.bind_some]
 dsimp only
 by_cases hd:1≤day∧day≤3652059
 rotate_left
 ·rw [if_neg hd,afs hd];rfl
 rw [if_pos hd,decide_eq_true hd,Bool.not_true,cond_false]
 obtain ⟨L,e1,e2⟩:=GC h day
 obtain ⟨_,hI⟩:=tq h 0 day
 rw [e1,Option.bind_some]
 dsimp only
 rw [zY e2 hI.len l,Option.bind_some,Yo hI]
 cases hf:nr line (fC o l 0 day).1 with
 | none=>
  dsimp only
  rw [afs (show ¬(-1:Int)≥0 by omega),cond_false]
  rfl
 | some k=>
  obtain ⟨x,j,hx,_,_,_⟩:=zq hI hf
  obtain ⟨y,hy,hr⟩:=e2.get hx
  have hlt:=(List.getElem?_eq_some_iff.1 hy).1
  dsimp only
  rw [decide_eq_true (show (k:Int)≥0 by omega),cond_true,cE (by rw [ac1];exact ⟨rfl,decide_eq_true (by omega)⟩),adA,hy,Option.bind_some,hr.st]
  rw [Option.bind_some,hx]
theorem Ur (o:ai) (l:List ah) (day:Int):DB o l day=some (if lnF o l day=0 then !((aH (fC o l 0 day).1).any fun x=>decide (0<x.opn)) else false,lnF o l day,()):=by
 unfold DB
 rw [lp]
 unfold lnF
 by_cases h:dh o l=0
 rotate_left
 ·rw [if_pos (show dh o l≠0 from h),if_pos (show dh o l≠0 from h)]
  show (bif dh o l != 0 then _ else _)=_
  rw [cq h,cond_true,if_neg h]
 rw [if_neg (show ¬dh o l≠0 from fun e=>e h),if_neg (show ¬dh o l≠0 from fun e=>e h)]
 by_cases hd:1≤day∧day≤3652059
 rotate_left
 ·rw [if_pos hd,if_neg hd];rfl
 rw [if_neg (show ¬¬(1≤day∧day≤3652059) from fun e=>e hd),if_pos hd,if_pos rfl]
 refine Eq.trans zD ?_
 rw [wL h hd,Option.bind_some]
 dsimp only
 rw [show ((0:Int) != 0)=false from rfl,cond_false]
 obtain ⟨hg,hI⟩:=tq h 0 day
 rw [mM hI o l,Option.bind_some]
 generalize (fC o l 0 day).1=A at hg hI
 have hSl:(aH A).length≤500:=by rw [(cc A).length_eq];exact hI.len
 have hHl:(nK A).length=(aH A).length:=by unfold nK;rw [List.length_map]
 dsimp only
 unfold iE jF
 have loop:∀ (r:List aj) (i n:Nat),(aH A).drop i=r→i≤(aH A).length→r.length<n→
  iter (X:=eG) (β:=eF) n (nK A,(),((nK A).length:Int),(i:Int),A.map aj.tup,()) dD=some (match r.findIdx? fun x=>decide (0<x.opn) with | some k=>Sum.inl (((i+k:Nat):Int),()) | none=>Sum.inr (A.map aj.tup,())):=by
  intro r
  induction r with
  | nil=>
   intro i n hdr hi hn
   have:i=(aH A).length:=by
    have:=congrArg List.length hdr
    simp at this;omega
   subst this
   obtain ⟨n,rfl⟩:∃ m,n=m+1:=⟨n - 1,by omega⟩
   rw [cF]
   unfold dD
   dsimp only
   rw [hHl,afs (show ¬((aH A).length:Int)<((aH A).length:Int) by omega),cond_false]
   rfl
  | cons x r ih=>
   intro i n hdr hi hn
   have hx:(aH A)[i]? =some x:=by
    have:=congrArg (·[0]?) hdr
    simpa [ad1] using this
   have hr':(aH A).drop (i+1)=r:=by
    have:=congrArg List.tail hdr
    simpa [aeH] using this
   have hlt:=(List.getElem?_eq_some_iff.1 hx).1
   obtain ⟨k,hk,hxk,_,hm⟩:=Mg hg hI hx
   obtain ⟨n,rfl⟩:∃ m,n=m+1:=⟨n - 1,by simp at hn;omega⟩
   rw [cF]
   generalize hag:(fun y=>iter n y dD)=again
   unfold dD
   dsimp only
   rw [hHl,decide_eq_true (show (i:Int)<((aH A).length:Int) by omega),cond_true,bJ hk,Option.bind_some]
   unfold EZ
   rw [tZ hxk (hg.sound.line x hm).1,Option.bind_some,Option.bind_some]
   dsimp only
   by_cases c:0<x.opn
   ·rw [decide_eq_true (show x.opn>0 from c),cond_true,List.findIdx?_cons,decide_eq_true c]
    rfl
   ·rw [afs (show ¬x.opn>0 from c),cond_false,aA (n:=(i:Int)+1) (by omega) (by omega),List.findIdx?_cons,afs c, ← hag,show (i:Int)+1=((i+1:Nat):Int) by omega, ← hHl]
    refine (ih (i+1) n hr' (by omega) (by simp at hn;omega)).trans ?_
    cases hq:r.findIdx? fun x=>decide (0<x.opn) with
    | none=>simp
    | some q=>simp;omega
 have:=loop (aH A) 0 ((nK A).length+(Int.natAbs (((nK A).length:Int))+(Int.natAbs (0:Int)+2))) rfl (afg _) (by omega)
 rw [show ((0:Nat):Int)=0 from rfl] at this
 rw [this]
 cases hq:(aH A).findIdx? fun x=>decide (0<x.opn) with
 | none=>
  have:((aH A).any fun x=>decide (0<x.opn))=false:=by
   rw [adD]
   intro x hx
   have:=adT.1 hq x hx
   simpa using this
  rw [this];rfl
 | some q=>
  obtain ⟨q1,q2,_⟩:=adU.1 hq
  have:((aH A).any fun x=>decide (0<x.opn))=true:=adE.2 ⟨_,aea q1,q2⟩
  rw [this]
  show some (!decide (((0+q:Nat):Int)≥0),0,())=_
  rw [decide_eq_true (show ((0+q:Nat):Int)≥0 by omega)]
theorem YH (o:ai) (l:List ah) (day:Int) (tx:∀ d,d∈l→Txt d):Np o l day=some (if lnF o l day=0 then !((aH (fC o l 0 day).1).any fun x=>decide (0<x.opn)) else false,lnF o l day,()):=by
 unfold Np
 rw [E9 o l day tx,Option.bind_some]
 dsimp only
 by_cases h:lnF o l day=0
 rotate_left
 ·rw [cq h,cond_true,if_neg h]
 obtain ⟨h1,_⟩:=JG h
 obtain ⟨L,e1,e2⟩:=GC h1 day
 obtain ⟨hg,hI⟩:=tq h1 0 day
 rw [if_pos h,h,show ((0:Int) != 0)=false from rfl,cond_false,e1,Option.bind_some]
 dsimp only
 rw [Fe e2 hI,Option.bind_some]
 generalize (fC o l 0 day).1=A at hg hI
 have hSl:(aH A).length≤500:=by rw [(cc A).length_eq];exact hI.len
 dsimp only
 have loop:∀ (r:List aj) (i n:Nat),(aH A).drop i=r→i≤(aH A).length→r.length<n→
  iter (X:=DH) (β:=DG) n ((((aH A).map aT).length:Int),(i:Int),(aH A).map aT,()) zR=some (if (r.any fun x=>decide (0<x.opn))=true then Sum.inl (false,0,()) else Sum.inr ()):=by
  intro r
  induction r with
  | nil=>
   intro i n hdr hi hn
   have:i=(aH A).length:=by
    have:=congrArg List.length hdr
    simp at this;omega
   subst this
   obtain ⟨n,rfl⟩:∃ m,n=m+1:=⟨n - 1,by omega⟩
   rw [cF]
   unfold zR
   dsimp only
   rw [List.length_map,afs (show ¬((aH A).length:Int)<((aH A).length:Int) by omega),cond_false]
   rfl
  | cons x r ih=>
   intro i n hdr hi hn
   have hx:(aH A)[i]? =some x:=by
    have:=congrArg (·[0]?) hdr
    simpa [ad1] using this
   have hr':(aH A).drop (i+1)=r:=by
    have:=congrArg List.tail hdr
    simpa [aeH] using this
   have hlt:=(List.getElem?_eq_some_iff.1 hx).1
   obtain ⟨n,rfl⟩:∃ m,n=m+1:=⟨n - 1,by simp at hn;omega⟩
   rw [cF]
   generalize hag:(fun y=>iter n y zR)=again
   unfold zR
   dsimp only
   have hml:((aH A).map aT).length=(aH A).length:=List.length_map _
   have hop:((aH A).map aT)[i]? =some (aT x):=by rw [List.getElem?_map,hx];rfl
   have hm:x∈A:=(cc A).mem_iff.1 (List.mem_of_getElem? hx)
   obtain ⟨p1,p2⟩:=V3 (hg.sound.line x hm).1
   have hs:=AP 3 x.opn
   have hd:decide ((aT x).2.2.2.2.2.2.2.2.2.1>0)=decide (0<x.opn):=by
    show decide ((few 3 x.opn).1>0)=_
    rw [afr]
    have a:=hs.1;have b:=hs.2
    constructor<;>intro h<;>omega
   rw [decide_eq_true (show (i:Int)<(((aH A).map aT).length:Int) by omega),cond_true,cE (by rw [ac1];exact ⟨decide_eq_true (by omega),rfl⟩),adA,hop,Option.bind_some,hd,List.any_cons]
   by_cases c:0<x.opn
   ·rw [decide_eq_true c,cond_true];rfl
   ·rw [afs c,cond_false,aA (n:=(i:Int)+1) (by omega) (by omega), ← hag,show (i:Int)+1=((i+1:Nat):Int) by omega,ac8]
    exact ih (i+1) n hr' (by omega) (by simp at hn;omega)
 have:=loop (aH A) 0 (Int.natAbs ((((aH A).map aT).length:Int))+(Int.natAbs (0:Int)+(((aH A).map aT).length+2))) rfl (afg _) (by rw [List.length_map];omega)
 rw [show ((0:Nat):Int)=0 from rfl] at this
 rw [this]
 cases (aH A).any fun x=>decide (0<x.opn)<;>rfl
end Go.Md
set_option linter.all false
namespace Go.Md
open Go.Dn
abbrev fB (x:aj):aa×Int:=jx (bz x.ord) (dU x.price)
def iD:List aj→Int
 | []=>0
 | x::r=>if (fB x).2≠0 then (fB x).2 else iD r
theorem RG {x:aj} (hx:LOk x) (hp:inR x.price 0 1000000000 4=true):cr (bz x.ord)∧cr (dU x.price)∧(bz x.ord).2+(dU x.price).2≤9:=by
 have b4:=hx.pZ;have b5:=hx.ord1
 obtain ⟨p1,p2,p3,p4⟩:=yA hp
 have h4:x.price.2≤4:=by
  unfold inR at hp
  simp only [ac1,afu] at hp
  omega
 obtain ⟨f1,f2,f3⟩:=DQ 3 x.ord
 obtain ⟨g1,g2,g3⟩:=DQ x.price.2.toNat x.price.1
 refine ⟨⟨by show (few 3 x.ord).1.natAbs≤_;omega,by show (0:Int)≤((few 3 x.ord).2:Int);omega,by show ((few 3 x.ord).2:Int)≤9;omega⟩,⟨by show (few x.price.2.toNat x.price.1).1.natAbs≤_;omega,by show (0:Int)≤((few x.price.2.toNat x.price.1).2:Int);omega,by show ((few x.price.2.toNat x.price.1).2:Int)≤9;omega⟩, ?_⟩
 show ((few 3 x.ord).2:Int)+((few x.price.2.toNat x.price.1).2:Int)≤9
 omega
def I6 (M:List aj):aa×Int:=
 if iD M≠0 then ((0,0),iD M)
 else if (kz (M.map fun x=>(fB x).1)).2≠0 then ((0,0),(kz (M.map fun x=>(fB x).1)).2)
 else (dU (kz (M.map fun x=>(fB x).1)).1,0)
theorem Jb:∀ {M:List aj},(∀ x,x∈M→LOk x∧inR x.price 0 1000000000 4=true)→iD M=0→∀ d,d∈M.map (fun x=>(fB x).1)→cr d
 | [],_,_,d,hd=>(nomatch hd)
 | x::r,h,hb,d,hd=>by
  simp only [iD] at hb
  split at hb
  ·rename_i c;exact absurd hb c
  ·rename_i c
   obtain ⟨c1,c2,c3⟩:=RG (h x (by simp)).1 (h x (by simp)).2
   rw [aek] at hd
   rcases aeq.1 hd with rfl | hd
   ·exact Z4 c1 c2 c3 (adi.1 c)
   ·exact Jb (fun y hy=>h y (by simp [hy])) hb d hd
theorem Wt {x:aj} (hx:LOk x) (hp:inR x.price 0 1000000000 4=true):0≤(fB x).1.1:=by
 have b4:=hx.pZ
 obtain ⟨p1,_⟩:=yA hp
 have h1:0≤(bz x.ord).1:=by
  have:=(AP 3 x.ord).1
  show 0≤(few 3 x.ord).1
  omega
 have h2:0≤(dU x.price).1:=by
  have:=(AP x.price.2.toNat x.price.1).1
  show 0≤(few x.price.2.toNat x.price.1).1
  omega
 show 0≤(jx (bz x.ord) (dU x.price)).1.1
 unfold jx
 split
 ·exact ado h1 h2
 ·exact adk _
theorem Xg (p:Int) (l:List aa) (h:∀ d,d∈l→0≤d.1):0≤fN p l:=by
 suffices ∀ (l:List aa) (s:Int),(∀ d,d∈l→0≤d.1)→0≤s→0≤l.foldl (fun s d=>s+d.1*10 ^ (p - d.2).toNat) s from this l 0 h (adk _)
 intro l
 induction l with
 | nil=>intro s _ hs;exact hs
 | cons a l ih=>
  intro s h hs
  rw [List.foldl_cons]
  have hpw:(0:Int)<10 ^ (p - a.2).toNat:=Int.pow_pos (by decide)
  have:=ado (h a (by simp)) (Int.le_of_lt hpw)
  exact ih _ (fun d hd=>h d (by simp [hd])) (by omega)
theorem abN {l:List aa} (h:∀ d,d∈l→cr d) (hn:∀ d,d∈l→0≤d.1) (h0:(kz l).2=0):0≤(kz l).1.1∧(kz l).1.1≤1000000000000000∧0≤(kz l).1.2∧(kz l).1.2≤9:=by
 obtain ⟨f1,f2,f3⟩:=O7 l 0
 have f3:=f3 (by omega) fun d hd=>(h d hd).2.2
 change 0≤cm l at f1
 change cm l≤9 at f3
 have:=Xg (cm l) l hn
 unfold kz at h0 ⊢
 split
 ·rename_i c
  exact ⟨this,by show fN (cm l) l≤_;omega,f1,f3⟩
 ·rename_i c
  rw [if_neg c] at h0;cases h0
variable {l:List ah} {A:List aj}
theorem Py (hg:Good l A) (hI:Ids A) (hF:∀ x,x∈A→inR x.price 0 1000000000 4=true):∀ (r:List aj) (i n:Nat) (acc:List aa),(aH A).drop i=r→i≤(aH A).length→acc.length≤i→r.length<n→
 iter (X:=vf) (β:=ve) n (acc,((nK A).length:Int),(i:Int),0,0,nK A,A.map aj.tup,()) p5=some (if iD r≠0 then Sum.inl ((0,0),iD r,()) else Sum.inr (acc++r.map (fun x=>(fB x).1),0,0,A.map aj.tup,())):=by
 have sH:maxLen=9223372036854775807:=rfl
 have hSl:(aH A).length≤500:=by rw [(cc A).length_eq];exact hI.len
 have hHl:(nK A).length=(aH A).length:=by unfold nK;rw [List.length_map]
 intro r
 induction r with
 | nil=>
  intro i n acc hdr hi ha hn
  have:i=(aH A).length:=by
   have:=congrArg List.length hdr
   simp at this;omega
  subst this
  obtain ⟨n,rfl⟩:∃ m,n=m+1:=⟨n - 1,by omega⟩
  rw [cF]
  unfold p5
  dsimp only
  rw [hHl,afs (show ¬((aH A).length:Int)<((aH A).length:Int) by omega),cond_false,aem,adG]
  rfl
 | cons x r ih=>
  intro i n acc hdr hi ha hn
  have hx:(aH A)[i]? =some x:=by
   have:=congrArg (·[0]?) hdr
   simpa [ad1] using this
  have hr':(aH A).drop (i+1)=r:=by
   have:=congrArg List.tail hdr
   simpa [aeH] using this
  have hlt:=(List.getElem?_eq_some_iff.1 hx).1
  obtain ⟨k,hk,hxk,hst,hm⟩:=Mg hg hI hx
  obtain ⟨c1,c2,c3⟩:=RG (hg.sound.line x hm).1 (hF x hm)
  obtain ⟨n,rfl⟩:∃ m,n=m+1:=⟨n - 1,by simp at hn;omega⟩
  rw [cF]
  generalize hag:(fun y=>iter n y p5)=again
  unfold p5
  dsimp only
  rw [hHl,decide_eq_true (show (i:Int)<((aH A).length:Int) by omega),cond_true,cE (by rw [ac1];exact ⟨decide_eq_true (by omega),rfl⟩),adA,hk,Option.bind_some,hst,Option.bind_some]
  dsimp only
  rw [show (aT x).2.2.2.1=bz x.ord from rfl,show (aT x).2.2.2.2.1=dU x.price from rfl,PW c1 c2 c3,Option.bind_some]
  dsimp only
  by_cases h0:(fB x).2=0
  ·have hbv:iD (x::r)=iD r:=by simp only [iD];rw [if_neg (show ¬(fB x).2≠0 from fun e=>e h0)]
   rw [hbv,show ((jx (bz x.ord) (dU x.price)).2 != 0)=false by rw [show (jx (bz x.ord) (dU x.price)).2=0 from h0];rfl,cond_false,cE (by rw [ac1];exact ⟨decide_eq_true (by omega),decide_eq_true (by omega)⟩),aA (n:=(i:Int)+1) (by omega) (by omega), ← hag,show (i:Int)+1=((i+1:Nat):Int) by omega, ← hHl]
   refine (ih (i+1) n _ hr' (by omega) (by simp;omega) (by simp at hn;omega)).trans ?_
   rw [adF];rfl
  ·have hbv:iD (x::r)=(fB x).2:=by simp only [iD];rw [if_pos (show (fB x).2≠0 from h0)]
   rw [hbv,show ((jx (bz x.ord) (dU x.price)).2 != 0)=true from cq h0,cond_true,if_pos h0]
theorem Uz (hg:Good l A) (hI:Ids A) (hF:∀ x,x∈A→inR x.price 0 1000000000 4=true):∀ (r:List aj) (i n:Nat) (acc:List aa),(aH A).drop i=r→i≤(aH A).length→acc.length≤i→r.length<n→
 iter (X:=BC) (β:=BB) n (acc,(((aH A).map aT).length:Int),(i:Int),0,0,(aH A).map aT,()) wQ=some (if iD r≠0 then Sum.inl ((0,0),iD r,()) else Sum.inr (acc++r.map (fun x=>(fB x).1),0,0,())):=by
 have sH:maxLen=9223372036854775807:=rfl
 have hSl:(aH A).length≤500:=by rw [(cc A).length_eq];exact hI.len
 have hHl:((aH A).map aT).length=(aH A).length:=List.length_map _
 intro r
 induction r with
 | nil=>
  intro i n acc hdr hi ha hn
  have:i=(aH A).length:=by
   have:=congrArg List.length hdr
   simp at this;omega
  subst this
  obtain ⟨n,rfl⟩:∃ m,n=m+1:=⟨n - 1,by omega⟩
  rw [cF]
  unfold wQ
  dsimp only
  rw [hHl,afs (show ¬((aH A).length:Int)<((aH A).length:Int) by omega),cond_false,aem,adG]
  rfl
 | cons x r ih=>
  intro i n acc hdr hi ha hn
  have hx:(aH A)[i]? =some x:=by
   have:=congrArg (·[0]?) hdr
   simpa [ad1] using this
  have hr':(aH A).drop (i+1)=r:=by
   have:=congrArg List.tail hdr
   simpa [aeH] using this
  have hlt:=(List.getElem?_eq_some_iff.1 hx).1
  have hm:x∈A:=(cc A).mem_iff.1 (List.mem_of_getElem? hx)
  have hk:((aH A).map aT)[i]? =some (aT x):=by rw [List.getElem?_map,hx];rfl
  obtain ⟨c1,c2,c3⟩:=RG (hg.sound.line x hm).1 (hF x hm)
  obtain ⟨n,rfl⟩:∃ m,n=m+1:=⟨n - 1,by simp at hn;omega⟩
  rw [cF]
  generalize hag:(fun y=>iter n y wQ)=again
  unfold wQ
  dsimp only
  rw [decide_eq_true (show (i:Int)<(((aH A).map aT).length:Int) by omega),cond_true,cE (by rw [ac1];exact ⟨decide_eq_true (by omega),rfl⟩),adA,hk,Option.bind_some]
  rw [show (aT x).2.2.2.1=bz x.ord from rfl,show (aT x).2.2.2.2.1=dU x.price from rfl,Xa c1 c2 c3,Option.bind_some]
  dsimp only
  by_cases h0:(fB x).2=0
  ·have hbv:iD (x::r)=iD r:=by simp only [iD];rw [if_neg (show ¬(fB x).2≠0 from fun e=>e h0)]
   rw [hbv,show ((jx (bz x.ord) (dU x.price)).2 != 0)=false by rw [show (jx (bz x.ord) (dU x.price)).2=0 from h0];rfl,cond_false,cE (by rw [ac1];exact ⟨decide_eq_true (by omega),decide_eq_true (by omega)⟩),aA (n:=(i:Int)+1) (by omega) (by omega), ← hag,show (i:Int)+1=((i+1:Nat):Int) by omega]
   refine (ih (i+1) n _ hr' (by omega) (by simp;omega) (by simp at hn;omega)).trans ?_
   rw [adF];rfl
  ·have hbv:iD (x::r)=(fB x).2:=by simp only [iD];rw [if_pos (show (fB x).2≠0 from h0)]
   rw [hbv,show ((jx (bz x.ord) (dU x.price)).2 != 0)=true from cq h0,cond_true,if_pos h0]
theorem TN {M:List aj} (h:∀ x,x∈M→LOk x∧inR x.price 0 1000000000 4=true) (hb:iD M=0) (h0:(kz (M.map fun x=>(fB x).1)).2=0):
 0≤(kz (M.map fun x=>(fB x).1)).1.1∧(kz (M.map fun x=>(fB x).1)).1.1≤1000000000000000∧0≤(kz (M.map fun x=>(fB x).1)).1.2∧(kz (M.map fun x=>(fB x).1)).1.2≤9:=
 abN (Jb h hb) (fun d hd=>by
  obtain ⟨x,hx,rfl⟩:=aeu.1 hd
  exact Wt (h x hx).1 (h x hx).2) h0
theorem Sp (o:ai) (l:List ah) (day:Int):Bo o l day=some (if lnF o l day=0 then (I6 (aH (fC o l 0 day).1)).1 else (0,0),if lnF o l day=0 then (I6 (aH (fC o l 0 day).1)).2 else lnF o l day,()):=by
 unfold Bo
 rw [lp]
 unfold lnF
 by_cases h:dh o l=0
 rotate_left
 ·rw [if_pos (show dh o l≠0 from h),if_pos (show dh o l≠0 from h)]
  show (bif dh o l != 0 then _ else _)=_
  rw [cq h,cond_true,if_neg h,if_neg h]
 rw [if_neg (show ¬dh o l≠0 from fun e=>e h),if_neg (show ¬dh o l≠0 from fun e=>e h)]
 by_cases hd:1≤day∧day≤3652059
 rotate_left
 ·rw [if_pos hd,if_neg hd];rfl
 rw [if_neg (show ¬¬(1≤day∧day≤3652059) from fun e=>e hd),if_pos hd,if_pos rfl,if_pos rfl]
 refine Eq.trans zD ?_
 rw [wL h hd,Option.bind_some]
 dsimp only
 rw [show ((0:Int) != 0)=false from rfl,cond_false]
 obtain ⟨hg,hI⟩:=tq h 0 day
 have hF:=fun x hx=>(YX h 0 day x hx).pr
 rw [mM hI o l,Option.bind_some]
 generalize (fC o l 0 day).1=A at hg hI hF
 have hSl:(aH A).length≤500:=by rw [(cc A).length_eq];exact hI.len
 have hHl:(nK A).length=(aH A).length:=by unfold nK;rw [List.length_map]
 have hM:∀ x,x∈aH A→LOk x∧inR x.price 0 1000000000 4=true:=fun x hx=>by
  have:=(cc A).mem_iff.1 hx
  exact ⟨(hg.sound.line x this).1,hF x this⟩
 dsimp only
 have:=Py hg hI hF (aH A) 0 (List.length ([]:List aa)+(Int.natAbs (((nK A).length:Int))+(Int.natAbs (0:Int)+(Int.natAbs (0:Int)+(Int.natAbs (0:Int)+((nK A).length+((A.map aj.tup).length+2))))))) [] rfl (afg _) (afg _) (by omega)
 rw [show ((0:Nat):Int)=0 from rfl] at this
 rw [this]
 unfold I6
 by_cases hb:iD (aH A)=0
 rotate_left
 ·rw [if_pos (show iD (aH A)≠0 from hb),if_pos (show iD (aH A)≠0 from hb)];rfl
 rw [if_neg (show ¬iD (aH A)≠0 from fun e=>e hb),if_neg (show ¬iD (aH A)≠0 from fun e=>e hb),aS,aeA]
 dsimp only
 rw [TQ (by rw [List.length_map];exact hSl) (Jb hM hb),Option.bind_some]
 dsimp only
 by_cases h0:(kz ((aH A).map fun x=>(fB x).1)).2=0
 ·obtain ⟨v1,v2,v3,v4⟩:=TN hM hb h0
  rw [if_neg (show ¬(kz ((aH A).map fun x=>(fB x).1)).2≠0 from fun e=>e h0),h0,show ((0:Int) != 0)=false from rfl,cond_false,FG v1 v2 v3 v4,Option.bind_some]
 ·rw [if_pos (show (kz ((aH A).map fun x=>(fB x).1)).2≠0 from h0),cq h0,cond_true]
theorem Xc (o:ai) (l:List ah) (day:Int) (tx:∀ d,d∈l→Txt d):J5 o l day=some (if lnF o l day=0 then (I6 (aH (fC o l 0 day).1)).1 else (0,0),if lnF o l day=0 then (I6 (aH (fC o l 0 day).1)).2 else lnF o l day,()):=by
 unfold J5
 rw [E9 o l day tx,Option.bind_some]
 dsimp only
 by_cases h:lnF o l day=0
 rotate_left
 ·rw [cq h,cond_true,if_neg h,if_neg h]
 obtain ⟨h1,_⟩:=JG h
 obtain ⟨L,e1,e2⟩:=GC h1 day
 obtain ⟨hg,hI⟩:=tq h1 0 day
 have hF:=fun x hx=>(YX h1 0 day x hx).pr
 rw [if_pos h,if_pos h,h,show ((0:Int) != 0)=false from rfl,cond_false,e1,Option.bind_some]
 dsimp only
 rw [Fe e2 hI,Option.bind_some]
 clear e1 e2
 generalize (fC o l 0 day).1=A at hg hI hF
 have hSl:(aH A).length≤500:=by rw [(cc A).length_eq];exact hI.len
 have hM:∀ x,x∈aH A→LOk x∧inR x.price 0 1000000000 4=true:=fun x hx=>by
  have:=(cc A).mem_iff.1 hx
  exact ⟨(hg.sound.line x this).1,hF x this⟩
 dsimp only
 have:=Uz hg hI hF (aH A) 0 (List.length ([]:List aa)+(Int.natAbs ((((aH A).map aT).length:Int))+(Int.natAbs (0:Int)+(Int.natAbs (0:Int)+(Int.natAbs (0:Int)+(((aH A).map aT).length+2)))))) [] rfl (afg _) (afg _) (by rw [List.length_map];omega)
 rw [show ((0:Nat):Int)=0 from rfl] at this
 rw [this]
 unfold I6
 by_cases hb:iD (aH A)=0
 rotate_left
 ·rw [if_pos (show iD (aH A)≠0 from hb),if_pos (show iD (aH A)≠0 from hb)];rfl
 rw [if_neg (show ¬iD (aH A)≠0 from fun e=>e hb),if_neg (show ¬iD (aH A)≠0 from fun e=>e hb),aS,aeA]
 dsimp only
 rw [ZT (by rw [List.length_map];exact hSl) (Jb hM hb),Option.bind_some]
 dsimp only
 by_cases h0:(kz ((aH A).map fun x=>(fB x).1)).2=0
 ·obtain ⟨v1,v2,v3,v4⟩:=TN hM hb h0
  rw [if_neg (show ¬(kz ((aH A).map fun x=>(fB x).1)).2≠0 from fun e=>e h0),h0,show ((0:Int) != 0)=false from rfl,cond_false,zJ (by omega) v3 v4,Option.bind_some]
 ·rw [if_pos (show (kz ((aH A).map fun x=>(fB x).1)).2≠0 from h0),cq h0,cond_true]
theorem law_OrderLinesMatchSpec (o:ai) (l:List ah) (line day:Int) (tx:∀ d,d∈l→Txt d):jM o l line day=some (true,()):=by
 unfold jM
 have hl:(if lnF o l day=0 then (aH (fC o l 0 day).1).map aT else []).length≤2001:=by
  split
  ·rename_i h
   rw [List.length_map,(cc _).length_eq]
   have:=(tq (JG h).1 0 day).2.len
   omega
  ·exact afg _
 rw [Px,Option.bind_some,Ux o l day tx,Option.bind_some]
 dsimp only
 rw [show (lnF o l day != lnF o l day)=false by simp,cond_false,FE _ hl,Option.bind_some,Bool.not_true,cond_false,Sm,Option.bind_some,Xb o l line day tx,Option.bind_some]
 generalize QW o l line day=z
 simp only [afp,ac3,Bool.not_true,cond_false,show (z.2.2.1 != z.2.2.1)=false by simp]
 rw [Ur,Option.bind_some,YH o l day tx,Option.bind_some]
 simp only [afp,ac3,Bool.not_true,cond_false,show (lnF o l day != lnF o l day)=false by simp]
 rw [Sp,Option.bind_some,Xc o l day tx,Option.bind_some]
 simp only [afp,ac3,cond_true]
 rw [abU];rfl
end Go.Md
