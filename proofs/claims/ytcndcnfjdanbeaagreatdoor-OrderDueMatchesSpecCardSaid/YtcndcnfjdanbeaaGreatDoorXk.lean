/-
  Plain facts: the book of the reference; the plain law is true of all data. No condition.
-/
import Derived.Test.YtcndcnfjdanbeaaGreatDoorXu
import Derived.Test.YtcndcnfjdanbeaaGreatDoorXx
import Derived.Test.YtcndcnfjdanbeaaGreatDoorXt
import Derived.Test.YtcndcnfjdanbeaaGreatDoorXq
import Derived.Test.YtcndcnfjdanbeaaGreatDoorXr
set_option linter.all false
set_option linter.all false
namespace Go.Md
open Go.Dn
structure UN (l:List aa) (P:Int→List aC) (x:ai) (y:ak):Prop where
 st:y.1=aW x
 wish:y.2.1=x.wish
 off0:x.ono=0→y.2.2.1= -1
 off1:x.ono≠0→∃ (j:Nat) (d:aa),y.2.2.1=(j:Int)∧l[j]? =some d∧dNo d=x.ono∧aR (dQ d)=x.oq∧cZ d=x.ount∧aF d=7
 ev:y.2.2.2=P x.no
structure sK (l:List aa) (P:Int→List aC) (A:List ai) (L:List ak):Prop where
 len:L.length=(aH A).length
 rel:∀ (k:Nat) x y,(aH A)[k]? =some x→L[k]? =some y→UN l P x y
theorem sK.get {l:List aa} {P:Int→List aC} {A:List ai} {L:List ak} (h:sK l P A L) {k:Nat} {x:ai} (hx:(aH A)[k]? =some x):∃ y,L[k]? =some y∧UN l P x y:=by
 have hlt:=(ahZ.1 hx).1
 have:k<L.length:=by rw[h.len];exact hlt
 exact⟨_,ahX this,h.rel k x _ hx (ahX this)⟩
def sU (no:Int) (A:List ai):Option Nat:=(aH A).findIdx? fun x=>decide (x.no=no)
theorem Lw {no:Int} {A:List ai} (hI:Ids A) {k:Nat} (h:sU no A=some k):∃ x j,(aH A)[k]? =some x∧x.no=no∧dH no A=some j∧A[j]? =some x:=by
 obtain⟨h1,h2,_⟩:=ahP.1 h
 have hx:(aH A)[k]? =some (aH A)[k]:=ahX h1
 have hno:(aH A)[k].no=no:=ajU h2
 obtain⟨j,hj,hjx⟩:=II hI (aiz hx)
 rw[hno] at hj
 exact⟨_,j,hx,hno,hj,hjx⟩
theorem Lv {no:Int} {A:List ai} (h:sU no A=none):dH no A=none∧∀ x,x∈A→x.no≠no:=by
 have hn:∀ x,x∈A→x.no≠no:=fun x hx e=>by
  have:=ahO.1 h x ((bG A).mem_iff.2 hx)
  rw[ajG e] at this;cases this
 refine⟨?_,hn⟩
 cases hf:dH no A with
 | none=>rfl
 | some k=>
  obtain⟨x,hx,hxn⟩:=pU hf
  exact absurd hxn (hn x (aiz hx))
variable {o:aj} {l:List aa} {A:List ai} {L:List ak} {ref:List ah} {P:Int→List aC}
theorem G6 (hB:sK l P A L) (hlen:A.length≤500) (l2:List aa) (no:Int):rU (o,l2,L,ref) no=some (match sU no A with | some k=>(k:Int) | none=> -1,()):=by
 have hL:L.length=A.length:=by rw[hB.len,(bG A).length_eq]
 unfold rU
 dsimp only
 have:∀ m,L.length<m→iter (X:=mV) (β:=qZ) m (no,L,(L.length:Int),0,()) qY=some (match sU no A with | some i=>Sum.inl ((i:Int),()) | none=>Sum.inr ()):=by
  intro m hm
  refine bS (Inv:=fun i X=>X=((no,L,(L.length:Int),(i:Int),()):mV)∧∀ j,j<i→∀ x,(aH A)[j]? =some x→¬x.no=no) L.length (fun z=>z=some (match sU no A with | some i=>Sum.inl ((i:Int),()) | none=>Sum.inr ())) ?_ ?_ m 0 _ ⟨rfl,fun j hj=>absurd hj (aji _)⟩ (ajo _) (by omega)
  ·rintro i X again hi ⟨rfl,hno⟩ hag
   unfold qY
   dsimp only
   have hi2:i<(aH A).length:=by rw[← hB.len];exact hi
   have hx:(aH A)[i]? =some (aH A)[i]:=ahX hi2
   obtain⟨y,hy,hr⟩:=hB.get hx
   rw[ajG (show (i:Int)<(L.length:Int) by omega),ajC,bR hy,ajq,hr.st]
   show (bif (aH A)[i].no==no then _ else _)=_
   by_cases e:(aH A)[i].no=no
   ·rw[show ((aH A)[i].no==no)=true by simpa using e,ajC]
    have:sU no A=some i:=ahP.2 ⟨hi2,ajG e,fun j hj=>by
     have:=hno j hj _ (ahX (by omega))
     simpa using this⟩
    rw[this]
   ·rw[cr e,ajB,av (n:=(i:Int)+1) (by omega) (by omega)]
    refine hag _ ⟨rfl,fun j hj x hjx=> ?_⟩
    by_cases c:j=i
    ·subst c;rw[hx] at hjx;cases hjx;exact e
    ·exact hno j (by omega) x hjx
  ·rintro X again ⟨rfl,hno⟩
   unfold qY
   dsimp only
   rw[ajE (show ¬(L.length:Int)<(L.length:Int) by omega),ajB]
   have:sU no A=none:=ahO.2 fun x hx=>by
    obtain⟨j,hj⟩:=aix.1 hx
    have:=hno j (by rw[hB.len];exact (ahZ.1 hj).1) x hj
    simpa using this
   rw[this]
 rw[this _ (by omega)]
 cases sU no A<;>rfl
theorem ab3 {x:ai} (hx:LOk x) (he0:0≤bX o) (he1:bX o≤1000):AZ (o,l,L,ref) (aW x)=some (x.ord+x.ord*bX o / 1000,()):=by
 have b4:=hx.uA;have b5:=hx.ord1
 have m0:0≤x.ord*bX o:=ahh b4 he0
 have m1:x.ord*bX o≤x.ord*1000:=ahg he1 b4
 have d0:0≤x.ord*bX o / 1000:=Int.ediv_nonneg m0 (by omega)
 have d1:x.ord*bX o / 1000≤x.ord:=by omega
 unfold AZ
 dsimp only
 rw[show (aW x).2.2.2.1=bM x.ord from rfl,uk (cW (n:=x.ord) (by omega)),ajq]
 dsimp only
 rw[show o.2.2.2.2.1=bX o from rfl,av (n:=x.ord*bX o) (by omega) (by omega),ahq m0]
 first
  | rw[av (n:=x.ord*bX o / 1000) (by omega) (by omega),av (n:=x.ord+x.ord*bX o / 1000) (by omega) (by omega)]
  | rw[av (n:=x.ord+x.ord*bX o / 1000) (by omega) (by omega)]
theorem VW {x:ai} (hx:LOk x):zR (aW x)=some (bM (x.shp - x.ret),()):=by
 have:=hx.ret0;have:=hx.retr;have:=hx.rcvs;have:=hx.shp1
 exact Uv (s:=aW x) (cW (n:=x.shp) (by omega)) (cW (n:=x.ret) (by omega))
theorem VR {z:Int}:decide (z.sign>0)=decide (0<z):=by
 rw[ajD]
 exact Int.sign_pos_iff
theorem afJ {z:Int}:decide (z.sign<0)=decide (z<0):=by
 rw[ajD]
 exact Int.sign_neg_iff
set_option maxHeartbeats 1000000 in
theorem M6 (hB:sK l P A L) (hA:Good l A) (hI:Ids A) (hl:∀ d,d∈l→bf d=0) (he:0≤bX o∧bX o≤1000) {i:Nat} {d:aa} (hd:l[i]? =some d):
 gC (o,l,L,ref) (i:Int)=some ((bN o l i d A).1,()):=by
 have hL:L.length=A.length:=by rw[hB.len,(bG A).length_eq]
 obtain⟨_,_,_,hk,_,_,hu⟩:=bz (hl d (aiz hd))
 obtain⟨uq,_⟩:=cR hu
 have huses:=G9 hk
 unfold gC
 dsimp only
 rw[bR hd,ajq,G6 hB hI.len l,ajq,huses]
 dsimp only
 cases hf:sU d.2.2.2.2.1 A with
 | none=>
  obtain⟨hfl,_⟩:=Lv hf
  dsimp only
  rw[show decide ((-1:Int)<0)=true from rfl,ajC,ajC,ajC]
  by_cases k1:aF d=1
  ·rw[show (d.2.2.2.1==1)=true by simpa using k1]
   rw[show (!(true==true))=false from rfl,ajB,ajq]
   have hz:bN o l i d A=if 500≤A.length then (16,A) else if cZ d<cG o then (1,A) else (0,A++[fY i d]):=by
    unfold bN
    rw[ajO k1,show dH (bA d) A=none from hfl]
   rw[hz,hL]
   by_cases c1:500≤A.length
   ·rw[ajO c1,ajG (show (A.length:Int)≥500 by omega),ajC]
   ·rw[ajN c1,ajE (show ¬(A.length:Int)≥500 by omega),ajB,ajq]
    rw[show usU d.2.2.2.1=true by rw[show d.2.2.2.1=1 from k1];rfl,ajC,ajq]
    by_cases c2:cZ d<cG o
    ·rw[ajO c2,ajG (show d.2.2.2.2.2.2.2.2.2.1<o.2.2.2.1 from c2),ajC]
    ·rw[ajN c2,ajE (show ¬d.2.2.2.2.2.2.2.2.2.1<o.2.2.2.1 from c2),ajB]
  ·rw[cr k1]
   rw[show (!(true==false))=true from rfl,ajC,Lb k1 hfl]
 | some k=>
  obtain⟨x,j,hx,hxn,hfl,hxj⟩:=Lw hI hf
  obtain⟨y,hy,hr⟩:=hB.get hx
  obtain⟨hx1,hx2⟩:=hA.sound.line x (aiz hxj)
  have b0:=hx1.ret0;have b1:=hx1.retr;have b2:=hx1.rcvs;have b3:=hx1.shp1;have b4:=hx1.uA;have b5:=hx1.ord1
  obtain⟨p1,p2⟩:=Pf hx1
  dsimp only
  rw[ajE (show ¬(k:Int)<0 by omega),ajB,ajB,ajB]
  by_cases k1:aF d=1
  ·rw[show (d.2.2.2.1==1)=true by simpa using k1]
   have hz:bN o l i d A=(7,A):=by
    unfold bN
    rw[ajO k1,show dH (bA d) A=some j from hfl]
   rw[hz];rfl
  rw[cr k1,show (!(false==false))=false from rfl,ajB,ajq,ajB,ajq,Ia k1 hfl hxj,bR hy,ajq]
  obtain⟨day,byy,no,kind,line,art,q,unit,p,un,to⟩:=d
  dsimp only at hk k1 uq huses hf hfl ⊢
  obtain⟨ys,yw,yo,ye⟩:=y
  have r1:=hr.st;have r2:=hr.wish;have r3:=hr.off0;have r4:=hr.off1
  dsimp only at r1 r2 r3 r4
  subst r1;subst r2
  have k1':kind≠1:=k1
  have hk':1≤kind∧kind≤11:=hk
  have h11:kind=2∨kind=3∨kind=4∨kind=5∨kind=6∨kind=7∨kind=8∨kind=9∨kind=10∨kind=11:=by omega
  rcases h11 with rfl | rfl | rfl | rfl | rfl | rfl | rfl | rfl | rfl | rfl
  all_goals simp only[Int.reduceBEq,ajC,ajB,aK,show usU 2=false from rfl,show usU 3=true from rfl,show usU 4=false from rfl,show usU 5=false from rfl,show usU 6=false from rfl,show usU 7=true from rfl,show usU 8=false from rfl,show usU 9=false from rfl,show usU 10=false from rfl,show usU 11=false from rfl]
  ·rw[ajq,ajB]
   by_cases h:0≤x.wish
   ·rw[ajG (show x.wish≥0 from h),ajC];simp[aV,oV,aF,h]
   ·rw[ajE (show ¬x.wish≥0 from h),ajB];simp[aV,oV,aF,h]
  ·rw[ajq]
   by_cases c:un<cG o
   ·rw[ajG (show un<o.2.2.2.1 from c),ajC];simp[aV,oV,aF,cZ,c]
   ·rw[ajE (show ¬un<o.2.2.2.1 from c),ajB]
    by_cases h:0≤x.wish
    ·rw[ajG (show x.wish≥0 from h),ajC];simp[aV,oV,aF,cZ,c,h]
    ·rw[ajE (show ¬x.wish≥0 from h),ajB];simp[aV,oV,aF,cZ,c,h]
  ·rw[ajq,ajB]
   by_cases h:0≤x.wish
   ·rw[ajG (show x.wish≥0 from h),ajC];simp[aV,oV,aF,h]
   ·rw[ajE (show ¬x.wish≥0 from h),ajB];simp[aV,oV,aF,h]
  ·rw[ajq,ajB]
   by_cases h:x.wish<0
   ·rw[ajG h,ajC];simp[aV,br,aF,h]
   ·rw[ajE h,ajB]
    obtain⟨w,hw1,hw2⟩:=hx2.kind (by omega)
    obtain⟨_,_,_,_,_,_,hwu⟩:=bz (hl w (aiz hw1))
    have hwq:=(cR hwu).1
    rw[GD (by omega) hw1,ajq]
    have hact:(aV o l i (day,byy,no,5,line,art,q,unit,p,un,to) x).1=(br l (day,byy,no,5,line,art,q,unit,p,un,to) x).1:=by
     unfold aV
     rw[ajN (show ¬(5:Int)≤4 by omega),ajO (show (5:Int)≤6 by omega)]
     split
     ·rename_i h0;rw[h0]
     ·rfl
    rw[hact]
    unfold br
    rw[ajN h,iZ hw1]
    by_cases e:dNo w=to
    ·rw[show (w.2.2.1 != to)=false by simpa using e,ajB,ajN (show ¬dNo w≠to from fun h=>h e),ajO (show (5:Int)=5 from rfl),ajq]
     by_cases k2:aF w=2
     ·rw[show (w.2.2.2.1==2)=true by simpa using k2,ajC,ajq,ajO k2]
      have hm:=rC (hwq (by rw[k2];rfl))
      have ha:=VW hx1
      unfold aW at ha ⊢
      dsimp only at ha ⊢
      rw[ha,ajq]
      dsimp only
      rw[A7 hm (cW (n:=x.shp - x.ret) (by omega)),ajq,ajq,afJ]
      by_cases c:aR (dQ w)<x.shp - x.ret
      ·rw[ajO c,ajG (by omega),ajC]
      ·rw[ajN c,ajE (by omega),ajB]
     ·rw[cr k2,ajB,ajq,ajN k2]
      by_cases k3:aF w=1
      ·rw[ajO k3];rfl
      ·rw[ajN k3]
       split<;>rfl
    ·rw[show (w.2.2.1 != to)=true by simpa using e,ajC,ajO (show dNo w≠to from e)]
  ·rw[ajq,ajB]
   by_cases h:x.wish<0
   ·rw[ajG h,ajC];simp[aV,br,aF,h]
   ·rw[ajE h,ajB]
    obtain⟨w,hw1,hw2⟩:=hx2.kind (by omega)
    rw[GD (by omega) hw1,ajq]
    have hact:(aV o l i (day,byy,no,6,line,art,q,unit,p,un,to) x).1=(br l (day,byy,no,6,line,art,q,unit,p,un,to) x).1:=by
     unfold aV
     rw[ajN (show ¬(6:Int)≤4 by omega),ajO (show (6:Int)≤6 by omega)]
     split
     ·rename_i h0;rw[h0]
     ·rfl
    rw[hact]
    unfold br
    rw[ajN h,iZ hw1]
    by_cases e:dNo w=to
    ·rw[show (w.2.2.1 != to)=false by simpa using e,ajB,ajN (show ¬dNo w≠to from fun h=>h e),ajN (show ¬(6:Int)=5 by omega)];rfl
    ·rw[show (w.2.2.1 != to)=true by simpa using e,ajC,ajO (show dNo w≠to from e)]
  ·rw[ajq]
   have hact:(aV o l i (day,byy,no,7,line,art,q,unit,p,un,to) x).1=kR (cG o) (day,byy,no,7,line,art,q,unit,p,un,to) x:=by
    unfold aV
    rw[ajN (show ¬(7:Int)≤4 by omega),ajN (show ¬(7:Int)≤6 by omega),ajO (show (7:Int)=7 from rfl)]
    split
    ·rename_i h0;rw[h0]
    ·rfl
   rw[hact]
   unfold kR
   by_cases c:un<cG o
   ·rw[ajG (show un<o.2.2.2.1 from c),ajC,ajO (show un<cG o from c)]
   ·rw[ajE (show ¬un<o.2.2.2.1 from c),ajB,ajN (show ¬un<cG o from c)]
    by_cases h:0≤x.wish
    ·rw[ajG (show x.wish≥0 from h),ajC,ajO (Or.inl h)]
    ·rw[ajE (show ¬x.wish≥0 from h),ajB]
     have hs:=(Gp 3 x.opn).2
     by_cases h0:x.opn=0
     ·rw[ajO (Or.inr h0),show ((aW x).2.2.2.2.2.2.2.2.2.1==0)=true from (show (((few 3 x.opn).1==(0:Int))=true) by simpa using hs.2 h0),ajC]
     ·rw[ajN (fun e=>e.elim h h0),cr (show ¬(aW x).2.2.2.2.2.2.2.2.2.1=0 from fun e=>h0 (hs.1 e)),ajB]
      have hm:=rC (show qOk q false=true from uq rfl)
      have:=A7 hm (cW (n:=x.opn) (by omega))
      unfold bM at this
      unfold aW bM
      dsimp only at this ⊢
      rw[this,ajq,VR]
      by_cases c:x.opn<aR q
      ·rw[ajO (show x.opn<aR (dQ (day,byy,no,7,line,art,q,unit,p,un,to)) from c),ajG (by omega),ajC]
      ·rw[ajN (show ¬x.opn<aR (dQ (day,byy,no,7,line,art,q,unit,p,un,to)) from c),ajE (by omega),ajB]
  ·rw[ajq,ajB]
   have hact:(aV o l i (day,byy,no,8,line,art,q,unit,p,un,to) x).1=(Bi (day,byy,no,8,line,art,q,unit,p,un,to) x).1:=by
    unfold aV
    rw[ajN (show ¬(8:Int)≤4 by omega),ajN (show ¬(8:Int)≤6 by omega),ajN (show ¬(8:Int)=7 by omega),ajO (show (8:Int)=8 from rfl)]
   rw[hact]
   unfold Bi
   by_cases h:0≤x.wish
   ·rw[ajG (show x.wish≥0 from h),ajC,ajO h]
   ·rw[ajE (show ¬x.wish≥0 from h),ajB,ajN h]
    by_cases h0:x.ono=0
    ·rw[ajO (Or.inl h0),r3 h0];rfl
    ·obtain⟨jo,dd,e1,e2,e3,_⟩:=r4 h0
     rw[e1,ajE (show ¬(jo:Int)<0 by omega),ajB,bR e2,ajq]
     by_cases e:x.ono=to
     ·rw[show (dd.2.2.1 != to)=false by have:dd.2.2.1=to:=e3.trans e
                                        simpa using this,ajB,ajN (fun h'=>h'.elim h0 fun h''=>h'' e)]
     ·rw[show (dd.2.2.1 != to)=true by have:¬dd.2.2.1=to:=fun h'=>e (e3.symm.trans h')
                                       simpa using this,ajC,ajO (Or.inr (show x.ono≠to from e))]
  ·rw[ajq,ajB]
   have hq:qOk q false=true:=uq rfl
   have hm:=rC hq
   obtain⟨q0,q1,_⟩:=l6 hq
   have hact:(aV o l i (day,byy,no,9,line,art,q,unit,p,un,to) x).1=(cm (bX o) (day,byy,no,9,line,art,q,unit,p,un,to) x).1:=by
    unfold aV
    rw[ajN (show ¬(9:Int)≤4 by omega),ajN (show ¬(9:Int)≤6 by omega),ajN (show ¬(9:Int)=7 by omega),ajN (show ¬(9:Int)=8 by omega),ajO (show (9:Int)=9 from rfl)]
    split
    ·rename_i h0;rw[h0]
    ·rfl
   rw[hact]
   have ha:=VW hx1
   have hmo:=ab3 (o:=o) (l:=l) (L:=L) (ref:=ref) hx1 he.1 he.2
   have m0:0≤x.ord*bX o:=ahh b4 he.1
   have m1:x.ord*bX o≤x.ord*1000:=ahg he.2 b4
   generalize hM:x.ord+x.ord*bX o / 1000=M at hmo
   have hs:=uk (cW (n:=x.shp) (by omega))
   unfold cm
   rw[ajO (show (9:Int)=9 from rfl),hM]
   unfold aW at ha hmo ⊢
   dsimp only at ha hmo hs hq hm q0 q1 ⊢
   rw[ha,ajq]
   dsimp only
   rw[uk (cW (n:=x.shp - x.ret) (by omega)),ajq,uk hm,ajq,hmo,ajq]
   dsimp only
   rw[av (n:=x.shp - x.ret+aR q) (by omega) (by omega)]
   by_cases c:M<x.shp - x.ret+aR q
   ·rw[ajG (show x.shp - x.ret+aR q>M from c),ajC,ajO c]
   ·rw[ajE (show ¬x.shp - x.ret+aR q>M from c),ajB,ajN c,hs,ajq,ajq]
    dsimp only
    rw[av (n:=x.shp+aR q) (by omega) (by omega)]
    by_cases c2:1000000000000000<x.shp+aR q
    ·rw[ajG (show x.shp+aR q>1000000000000000 from c2),ajC,ajO c2]
    ·rw[ajE (show ¬x.shp+aR q>1000000000000000 from c2),ajB,ajN c2]
  ·rw[ajq,ajB]
   have hq:qOk q false=true:=uq rfl
   have hm:=rC hq
   obtain⟨q0,q1,_⟩:=l6 hq
   have hact:(aV o l i (day,byy,no,10,line,art,q,unit,p,un,to) x).1=(cm (bX o) (day,byy,no,10,line,art,q,unit,p,un,to) x).1:=by
    unfold aV
    rw[ajN (show ¬(10:Int)≤4 by omega),ajN (show ¬(10:Int)≤6 by omega),ajN (show ¬(10:Int)=7 by omega),ajN (show ¬(10:Int)=8 by omega),ajN (show ¬(10:Int)=9 by omega)]
   rw[hact]
   unfold cm
   rw[ajN (show ¬(10:Int)=9 by omega),ajO (show (10:Int)=10 from rfl)]
   unfold aW
   dsimp only at hq hm q0 q1 ⊢
   rw[s9 (cW (n:=x.rcv) (by omega)) hm,ajq]
   dsimp only
   rw[A7 (cW (n:=x.rcv+aR q) (by omega)) (cW (n:=x.shp) (by omega)),ajq,VR]
   by_cases c:x.shp<x.rcv+aR q
   ·rw[ajO c,ajG (by omega),ajC]
   ·rw[ajN c,ajE (by omega),ajB]
  ·rw[ajq,ajB]
   have hq:qOk q false=true:=uq rfl
   have hm:=rC hq
   obtain⟨q0,q1,_⟩:=l6 hq
   have hact:(aV o l i (day,byy,no,11,line,art,q,unit,p,un,to) x).1=(cm (bX o) (day,byy,no,11,line,art,q,unit,p,un,to) x).1:=by
    unfold aV
    rw[ajN (show ¬(11:Int)≤4 by omega),ajN (show ¬(11:Int)≤6 by omega),ajN (show ¬(11:Int)=7 by omega),ajN (show ¬(11:Int)=8 by omega),ajN (show ¬(11:Int)=9 by omega)]
   rw[hact]
   unfold cm
   rw[ajN (show ¬(11:Int)=9 by omega),ajN (show ¬(11:Int)=10 by omega)]
   unfold aW
   dsimp only at hq hm q0 q1 ⊢
   rw[s9 (cW (n:=x.ret) (by omega)) hm,ajq]
   dsimp only
   rw[A7 (cW (n:=x.ret+aR q) (by omega)) (cW (n:=x.rcv) (by omega)),ajq,VR]
   by_cases c:x.rcv<x.ret+aR q
   ·rw[ajO c,ajG (by omega),ajC]
   ·rw[ajN c,ajE (by omega),ajB]
end Go.Md
set_option linter.all false
namespace Go.Md
open Go.Dn
theorem bs {α β:Type} {e:Option α} {f:α→Option β} {r:α} {z:Option β} (h:e=some r) (h2:f r=z):Option.bind e f=z:=by rw[h];exact h2
theorem bV (l:List aC) (hl:l.length≤2000):iQ l=some (l,()):=by
 have nq:maxLen=9223372036854775807:=rfl
 have hc:(decide ((0+(List.length l))*152≤140737488355328)&&decide (0+(List.length l)≤maxLen))=true:=by
  rw[agW];exact⟨ajG (by omega),ajG (by omega)⟩
 unfold iQ
 rw[bK hc]
 cases l with
 | nil=>simp[both]
 | cons x r=>rfl
theorem mB {x:ai} (hx:LOk x) (v:ah):qH (x.no,x.art,x.unit,bM x.ord,qa x.price,x.due,bM x.shp,bM x.rcv,bM x.ret,v)=some (aW x,()):=by
 have b0:=hx.ret0;have b1:=hx.retr;have b2:=hx.rcvs;have b3:=hx.shp1;have b4:=hx.uA;have b5:=hx.ord1
 exact VM (s:=(x.no,x.art,x.unit,bM x.ord,qa x.price,x.due,bM x.shp,bM x.rcv,bM x.ret,v)) (cW (n:=x.ord) (by omega)) (cW (n:=x.shp) (by omega)) (cW (n:=x.ret) (by omega)) (by omega)
abbrev BkT:Type:=aj×(List aa)×(List ak)×(List ah)×Unit
theorem aef {o:aj} {l:List aa} {ref:List ah} {L1:List ak} {k:Nat} {y:ak} {x:ai} {v:ah} (hk:L1[k]? =some y)
 (hs:y.1=(x.no,x.art,x.unit,bM x.ord,qa x.price,x.due,bM x.shp,bM x.rcv,bM x.ret,v)) (hx:LOk x) (hev:y.2.2.2.length≤2000) (i:Int):
 (Option.bind (L1[k]?) fun y37=>Option.bind (qH y37.1) fun r38=>Option.bind (L1[k]?) fun y39=>Option.bind ((List.set L1 k (r38.1,y39.2))[k]?) fun y40=>
   Option.bind (iQ y40.2.2.2) fun r41=>Option.bind ((List.set L1 k (r38.1,y39.2))[k]?) fun y42=>
   chk (decide (((r41.1.length)+1)*152≤140737488355328)&&decide ((r41.1.length)+1≤maxLen)) <|
   Option.bind ((List.set L1 k (r38.1,y39.2))[k]?) fun y43=>
   some (((o,l,List.set (List.set L1 k (r38.1,y39.2)) k (y43.1,y43.2.1,y43.2.2.1,r41.1++[(i,y42.1)]),ref,()):BkT),()))=
 some (((o,l,L1.set k (aW x,y.2.1,y.2.2.1,y.2.2.2++[(i,aW x)]),ref,()):BkT),()):=by
 have hlt:=(ahZ.1 hk).1
 have nq:maxLen=9223372036854775807:=rfl
 have hr:=mB hx v
 rw[← hs] at hr
 rw[hk,ajq,hr,ajq,ajq]
 dsimp only
 have hg:(List.set L1 k (aW x,y.2))[k]? =some (aW x,y.2):=by rw[ah4 hlt]
 rw[hg,ajq,bV y.2.2.2 hev,ajq,ajq]
 dsimp only
 rw[bK (by rw[agW];exact⟨ajG (by omega),ajG (by omega)⟩),ajq,aiL]
theorem XZ {l:List aa} {L:List ak} {k:Nat} {y:ak} {w:aa} (hk:L[k]? =some y) (hw:idx l y.2.1=some w) (hf:bf w=0) (h4:aF w≤4):
 iA l L k=some (L.set k
  (if aF w≤2 then (y.1.1,y.1.2.1,y.1.2.2.1,bM (aR (dQ w)),y.1.2.2.2.2)
   else if aF w=3 then (y.1.1,y.1.2.1,y.1.2.2.1,y.1.2.2.2.1,y.1.2.2.2.2.1,cZ w,y.1.2.2.2.2.2.2)
   else (y.1.1,y.1.2.1,y.1.2.2.1,y.1.2.2.2.1,qa (Km w),y.1.2.2.2.2.2), -1,y.2.2)):=by
 obtain⟨_,_,_,hkd,_,_,hu⟩:=bz hf
 obtain⟨uq,up,_⟩:=cR hu
 have hlt:=(ahZ.1 hk).1
 unfold iA kL
 rw[hk,ajq,hw,ajq]
 obtain⟨day,byy,no,kind,line,art,q,unit,p,un,to⟩:=w
 dsimp only at hkd h4 uq up ⊢
 have hkk:kind=1∨kind=2∨kind=3∨kind=4:=by
  have h1:1≤kind:=hkd.1
  have h2:kind≤4:=h4
  omega
 rcases hkk with rfl | rfl | rfl | rfl
 ·rw[Jx (uq rfl)]
  simp only[Int.reduceBEq,ajC,ajB,ajq,ah4 hlt,aiL]
  rfl
 ·rw[Jx (uq rfl)]
  simp only[Int.reduceBEq,ajC,ajB,ajq,ah4 hlt,aiL]
  rfl
 ·simp only[Int.reduceBEq,ajC,ajB,ajq,ah4 hlt,aiL]
  rfl
 ·rw[Jw (up rfl)]
  simp only[Int.reduceBEq,ajC,ajB,ajq,ah4 hlt,aiL]
  rfl
end Go.Md
set_option linter.all false
namespace Go.Md
open Go.Dn
def agn (l:List aa) (x:ai) (off:Int):Prop:=
 (x.ono=0→off= -1)∧(x.ono≠0→∃ (j:Nat) (d:aa),off=(j:Int)∧l[j]? =some d∧dNo d=x.ono∧aR (dQ d)=x.oq∧cZ d=x.ount∧aF d=7)
variable {o:aj} {l:List aa} {A:List ai} {L:List ak} {ref:List ah} {P:Int→List aC}
theorem Eg {β:Type} {n:Nat} {x y:Option β} (h:n≤2000) (e:x=y):chk (decide ((n+1)*152≤140737488355328)&&decide (n+1≤maxLen)) x=y:=by
 have nq:maxLen=9223372036854775807:=rfl
 rw[bK (by rw[agW];exact⟨ajG (by omega),ajG (by omega)⟩),e]
theorem RI {o:aj} {l:List aa} {i:Nat} {d:aa} {x:ai} (hk:aF d≤4) (h0:(aV o l i d x).1=0):(aV o l i d x).2={ x with wish:=(i:Int) }:=by
 unfold aV oV at h0 ⊢
 rw[ajO hk] at h0 ⊢
 split at h0
 ·cases h0
 ·rename_i h1
  rw[ajN h1]
  split at h0
  ·cases h0
  ·rename_i h2
   rw[ajN h2]
theorem afR {o:aj} {l:List aa} {i:Nat} {d:aa} {x:ai} (hk:aF d=6) (h0:(aV o l i d x).1=0):(aV o l i d x).2=({ x with wish:= -1 }:ai).clr:=by
 unfold aV at h0 ⊢
 rw[ajN (show ¬aF d≤4 by omega),ajO (show aF d≤6 by omega)] at h0 ⊢
 have h0':(br l d x).1=0:=by
  split at h0
  ·rename_i h;exact h
  ·exact h0
 rw[ajO h0']
 unfold br at h0' ⊢
 split at h0'
 ·cases h0'
 ·rename_i h1
  rw[ajN h1]
  split at h0'
  ·cases h0'
  ·rename_i h2
   rw[ajN h2,ajN (show ¬aF d=5 by omega)]
theorem ae2 {o:aj} {l:List aa} {i:Nat} {d w:aa} {x:ai} (hw:l[x.wish.toNat]? =some w) (hw4:1≤aF w∧aF w≤4) (hk:aF d=5) (h0:(aV o l i d x).1=0):
 (aV o l i d x).2=(if aF w≤2 then ({ x with ord:=aR (dQ w),wish:= -1 }:ai) else if aF w=3 then { x with due:=cZ w,wish:= -1 } else { x with price:=Km w,wish:= -1 }).clr:=by
 unfold aV at h0 ⊢
 rw[ajN (show ¬aF d≤4 by omega),ajO (show aF d≤6 by omega)] at h0 ⊢
 have h0':(br l d x).1=0:=by
  split at h0
  ·rename_i h;exact h
  ·exact h0
 rw[ajO h0']
 unfold br at h0' ⊢
 rw[iZ hw] at h0' ⊢
 split at h0'
 ·cases h0'
 ·rename_i h1
  rw[ajN h1]
  split at h0'
  ·cases h0'
  ·rename_i h2
   rw[ajN h2,ajO hk]
   by_cases k2:aF w=2
   ·rw[ajO k2] at h0' ⊢
    rw[ajO (show aF w≤2 by omega)]
    split at h0'
    ·cases h0'
    ·rename_i h3
     rw[ajN h3]
   ·rw[ajN k2]
    by_cases k3:aF w=1
    ·rw[ajO k3,ajO (show aF w≤2 by omega)]
    ·rw[ajN k3,ajN (show ¬aF w≤2 by omega)]
     by_cases k4:aF w=3
     ·rw[ajO k4,ajO k4]
     ·rw[ajN k4,ajN k4]
theorem aeR {o:aj} {l:List aa} {i:Nat} {d:aa} {x:ai} (hk:aF d=5) (h0:(aV o l i d x).1=0):0≤x.wish:=by
 unfold aV at h0
 rw[ajN (show ¬aF d≤4 by omega),ajO (show aF d≤6 by omega)] at h0
 have h0':(br l d x).1=0:=by
  split at h0
  ·rename_i h;exact h
  ·exact h0
 unfold br at h0'
 split at h0'
 ·cases h0'
 ·omega
theorem aco {o:aj} {l:List aa} {i:Nat} {d:aa} {x:ai} (hk:aF d=7) (h0:(aV o l i d x).1=0):(aV o l i d x).2={ x with ono:=dNo d,oq:=aR (dQ d),ount:=cZ d }:=by
 unfold aV at h0 ⊢
 rw[ajN (show ¬aF d≤4 by omega),ajN (show ¬aF d≤6 by omega),ajO hk] at h0 ⊢
 split at h0
 ·rename_i h;rw[ajO h]
 ·rename_i h;exact absurd h0 h
theorem ad1 {o:aj} {l:List aa} {i:Nat} {d:aa} {x:ai} (hk:aF d=8) (h0:(aV o l i d x).1=0):x.ono≠0∧(aV o l i d x).2={ x with ord:=x.shp - x.ret+x.oq,due:=x.ount,ono:=0,oq:=0,ount:=0 }:=by
 unfold aV Bi at h0 ⊢
 rw[ajN (show ¬aF d≤4 by omega),ajN (show ¬aF d≤6 by omega),ajN (show ¬aF d=7 by omega),ajO hk] at h0 ⊢
 split at h0
 ·cases h0
 ·rename_i h1
  rw[ajN h1]
  split at h0
  ·cases h0
  ·rename_i h2
   rw[ajN h2]
   exact⟨fun e=>h2 (Or.inl e),rfl⟩
theorem ad0 {o:aj} {l:List aa} {i:Nat} {d:aa} {x:ai} (hk:aF d=9) (h0:(aV o l i d x).1=0):(aV o l i d x).2=({ x with shp:=x.shp+aR (dQ d) }:ai).clr:=by
 unfold aV at h0 ⊢
 rw[ajN (show ¬aF d≤4 by omega),ajN (show ¬aF d≤6 by omega),ajN (show ¬aF d=7 by omega),ajN (show ¬aF d=8 by omega),ajO hk] at h0 ⊢
 have h0':(cm (bX o) d x).1=0:=by
  split at h0
  ·rename_i h;exact h
  ·exact h0
 rw[ajO h0']
 unfold cm at h0' ⊢
 rw[ajO hk] at h0' ⊢
 split at h0'
 ·cases h0'
 ·rename_i h1
  rw[ajN h1]
  split at h0'
  ·cases h0'
  ·rename_i h2
   rw[ajN h2]
theorem adY {o:aj} {l:List aa} {i:Nat} {d:aa} {x:ai} (hk:aF d=10) (h0:(aV o l i d x).1=0):(aV o l i d x).2={ x with rcv:=x.rcv+aR (dQ d) }:=by
 unfold aV cm at h0 ⊢
 rw[ajN (show ¬aF d≤4 by omega),ajN (show ¬aF d≤6 by omega),ajN (show ¬aF d=7 by omega),ajN (show ¬aF d=8 by omega),ajN (show ¬aF d=9 by omega),ajN (show ¬aF d=9 by omega),ajO hk] at h0 ⊢
 split at h0
 ·cases h0
 ·rename_i h1
  rw[ajN h1]
theorem adZ {o:aj} {l:List aa} {i:Nat} {d:aa} {x:ai} (hk:aF d=11) (h0:(aV o l i d x).1=0):(aV o l i d x).2={ x with ret:=x.ret+aR (dQ d) }:=by
 unfold aV cm at h0 ⊢
 rw[ajN (show ¬aF d≤4 by omega),ajN (show ¬aF d≤6 by omega),ajN (show ¬aF d=7 by omega),ajN (show ¬aF d=8 by omega),ajN (show ¬aF d=9 by omega),ajN (show ¬aF d=9 by omega),ajN (show ¬aF d=10 by omega)] at h0 ⊢
 split at h0
 ·cases h0
 ·rename_i h1
  rw[ajN h1]
theorem aem {kind byy:Int} (h1:1≤kind∧kind≤11) (h2:1≤byy∧byy≤2) (h3:(kind=5∨kind=6∨kind=7∨kind=9)↔byy=2) (k1:kind≠1):(kind=2∧byy=1)∨(kind=3∧byy=1)∨(kind=4∧byy=1)∨(kind=5∧byy=2)∨(kind=6∧byy=2)∨(kind=7∧byy=2)∨(kind=8∧byy=1)∨(kind=9∧byy=2)∨(kind=10∧byy=1)∨(kind=11∧byy=1):=by omega
set_option maxHeartbeats 2000000 in
theorem aby (hB:sK l P A L) (hA:Good l A) (hI:Ids A) (hl:∀ d,d∈l→bf d=0) (he:0≤bX o∧bX o≤1000) {i:Nat} {d:aa} (hd:l[i]? =some d)
 {k:Nat} {x:ai} {y:ak} (hf:sU (bA d) A=some k) (hx:(aH A)[k]? =some x) (hy:L[k]? =some y) (hr:UN l P x y) (hev:(P x.no).length≤2000)
 (hx1:LOk x) (hx2:WOk l x) (hx':LOk (aV o l i d x).2) (k1:aF d≠1) (h0:(aV o l i d x).1=0):
 ∃ off,kT (o,l,L,ref,()) (i:Int)=some ((o,l,L.set k (aW (aV o l i d x).2,(aV o l i d x).2.wish,off,P x.no++[((i:Int),aW (aV o l i d x).2)]),ref,()),())∧agn l (aV o l i d x).2 off:=by
 obtain⟨_,hb2,hno,hk,hby,_,hu⟩:=bz (hl d (aiz hd))
 obtain⟨uq,_⟩:=cR hu
 have b0:=hx1.ret0;have b1:=hx1.retr;have b2:=hx1.rcvs;have b3:=hx1.shp1;have b4:=hx1.uA;have b5:=hx1.ord1
 have hlt:=(ahZ.1 hy).1
 unfold kT
 dsimp only
 rw[bR hd,ajq,show ((o,l,L,ref):dO)=(o,l,L,ref) from rfl,G6 hB hI.len l,ajq,show sU d.2.2.2.2.1 A=some k from hf]
 dsimp only
 rw[ajE (show ¬(k:Int)<0 by omega),ajB,aK]
 dsimp only
 rw[bK (by rw[agW];exact⟨ajG (by omega),ajG (by omega)⟩),ahs]
 obtain⟨day,byy,no,kind,line,art,q,unit,p,un,to⟩:=d
 dsimp only at hk k1 uq hby hb2 hno hf ⊢
 obtain⟨ys,yw,yo,ye⟩:=y
 have r1:=hr.st;have r2:=hr.wish;have r3:=hr.off0;have r4:=hr.off1;have r5:=hr.ev
 dsimp only at r1 r2 r3 r4 r5
 subst r1;subst r2;subst r5
 have k1':kind≠1:=k1
 have hk':1≤kind∧kind≤11:=hk
 have h11:=aem hk' hb2 hby k1'
 rcases h11 with ⟨rfl,rfl⟩ | ⟨rfl,rfl⟩ | ⟨rfl,rfl⟩ | ⟨rfl,rfl⟩ | ⟨rfl,rfl⟩ | ⟨rfl,rfl⟩ | ⟨rfl,rfl⟩ | ⟨rfl,rfl⟩ | ⟨rfl,rfl⟩ | ⟨rfl,rfl⟩
 all_goals simp only[Int.reduceBEq,ajC,ajB,aK,hy,ajq,ah4 hlt,aiL]
 ·have e:(aV o l i (day,1,no,2,line,art,q,unit,p,un,to) x).2={ x with wish:=(i:Int) }:=RI (by show (2:Int)≤4;omega) h0
  rw[e] at hx' ⊢
  exact⟨yo,bs (mB hx' (bM x.opn)) (bs (bV _ hev) (Eg hev rfl)),r3,r4⟩
 ·have e:(aV o l i (day,1,no,3,line,art,q,unit,p,un,to) x).2={ x with wish:=(i:Int) }:=RI (by show (3:Int)≤4;omega) h0
  rw[e] at hx' ⊢
  exact⟨yo,bs (mB hx' (bM x.opn)) (bs (bV _ hev) (Eg hev rfl)),r3,r4⟩
 ·have e:(aV o l i (day,1,no,4,line,art,q,unit,p,un,to) x).2={ x with wish:=(i:Int) }:=RI (by show (4:Int)≤4;omega) h0
  rw[e] at hx' ⊢
  exact⟨yo,bs (mB hx' (bM x.opn)) (bs (bV _ hev) (Eg hev rfl)),r3,r4⟩
 ·have hwi:=aeR rfl h0
  obtain⟨w,hw1,hw2⟩:=hx2.kind hwi
  have hwf:=hl w (aiz hw1)
  obtain⟨_,_,_,hwk,_⟩:=bz hwf
  have e:=ae2 hw1 ⟨hwk.1,hw2⟩ rfl h0
  rw[e] at hx' ⊢
  have hg:(L.set k (aW x,x.wish, -1,P x.no))[k]? =some (aW x,x.wish, -1,P x.no):=ah4 hlt
  rw[XZ hg (GD hwi hw1) hwf hw2,ajq,aK]
  simp only[aiL,ah4 hlt,ajq]
  refine⟨-1, ?_,fun _=> ?_,fun h=>absurd ?_ h⟩
  ·by_cases c2:aF w≤2
   ·simp only[ajO c2] at hx' ⊢
    exact bs (mB hx' (bM x.opn)) (bs (bV _ hev) (Eg hev rfl))
   ·by_cases c3:aF w=3
    ·simp only[ajN c2,ajO c3] at hx' ⊢
     exact bs (mB hx' (bM x.opn)) (bs (bV _ hev) (Eg hev rfl))
    ·simp only[ajN c2,ajN c3] at hx' ⊢
     exact bs (mB hx' (bM x.opn)) (bs (bV _ hev) (Eg hev rfl))
  ·rfl
  ·rfl
 ·have e:=afR rfl h0
  rw[e] at hx' ⊢
  exact⟨-1,bs (mB hx' (bM x.opn)) (bs (bV _ hev) (Eg hev rfl)),fun _=>rfl,fun h=>absurd rfl h⟩
 ·have e:=aco rfl h0
  rw[e] at hx' ⊢
  exact⟨i,bs (mB hx' (bM x.opn)) (bs (bV _ hev) (Eg hev rfl)),fun h=>absurd h (by show ¬no=0;omega),fun _=>⟨i,_,rfl,hd,rfl,rfl,rfl,rfl⟩⟩
 ·obtain⟨hne,e⟩:=ad1 rfl h0
  rw[e] at hx' ⊢
  obtain⟨jo,dd,e1,e2,e3,e4,e5,e6⟩:=r4 hne
  subst e1
  obtain⟨_,_,_,_,_,_,hdu⟩:=bz (hl dd (aiz e2))
  have hdq:qOk (dQ dd) (aF dd==2)=true:=(cR hdu).1 (by rw[e6];rfl)
  have hp:mA (bM (x.shp - x.ret)) (dQ dd)=some (bM (x.shp - x.ret+x.oq),()):=by
   rw[← e4];exact s9 (cW (n:=x.shp - x.ret) (by omega)) (rC hdq)
  rw[VW hx1,ajq,bR e2,ajq]
  simp only[ajq]
  rw[hp,ajq,aK]
  simp only[aiL,ah4 hlt,ajq]
  have e5':dd.2.2.2.2.2.2.2.2.2.1=x.ount:=e5
  rw[e5']
  exact⟨-1,bs (mB hx' (bM x.opn)) (bs (bV _ hev) (Eg hev rfl)),fun _=>rfl,fun h=>absurd rfl h⟩
 ·have e:=ad0 rfl h0
  rw[e] at hx' ⊢
  have hp:mA (aW x).2.2.2.2.2.2.1 (q.1,q.2)=some (bM (x.shp+aR q),()):=s9 (cW (n:=x.shp) (by omega)) (rC (show qOk q false=true from uq rfl))
  rw[hp,ajq,aK]
  simp only[aiL,ah4 hlt,ajq]
  exact⟨-1,bs (mB hx' (bM x.opn)) (bs (bV _ hev) (Eg hev rfl)),fun _=>rfl,fun h=>absurd rfl h⟩
 ·have e:=adY rfl h0
  rw[e] at hx' ⊢
  have hp:mA (aW x).2.2.2.2.2.2.2.1 (q.1,q.2)=some (bM (x.rcv+aR q),()):=s9 (cW (n:=x.rcv) (by omega)) (rC (show qOk q false=true from uq rfl))
  rw[hp,ajq,aK]
  simp only[aiL,ah4 hlt,ajq]
  exact⟨yo,bs (mB hx' (bM x.opn)) (bs (bV _ hev) (Eg hev rfl)),r3,r4⟩
 ·have e:=adZ rfl h0
  rw[e] at hx' ⊢
  have hp:mA (aW x).2.2.2.2.2.2.2.2.1 (q.1,q.2)=some (bM (x.ret+aR q),()):=s9 (cW (n:=x.ret) (by omega)) (rC (show qOk q false=true from uq rfl))
  rw[hp,ajq,aK]
  simp only[aiL,ah4 hlt,ajq]
  exact⟨yo,bs (mB hx' (bM x.opn)) (bs (bV _ hev) (Eg hev rfl)),r3,r4⟩
end Go.Md
set_option linter.all false
namespace Go.Md
open Go.Dn
variable {o:aj} {l:List aa} {A:List ai} {L:List ak} {ref:List ah} {P:Int→List aC}
theorem Vo {α:Type} (l:List α) {p:Nat} (v:α) (h:p≤l.length):(l.take p++(v::l.drop p))[p]? =some v:=by
 rw[ahT (by rw[aik];omega),aik,show p - min p l.length=0 by omega];rfl
theorem afm {α:Type} (l:List α) {p:Nat} (v v':α) (h:p≤l.length):(l.take p++(v::l.drop p)).set p v'=l.take p++(v'::l.drop p):=by
 rw[List.set_append_right _ _ (by rw[aik];omega),aik,show p - min p l.length=0 by omega];rfl
theorem XN:bM 0=(0,0):=by unfold bM;rw[R6];rfl
theorem abO (i:Nat) (d:aa):LOk (fY i d):=⟨by show (0:Int)≤0;omega,by show (0:Int)≤0;omega,by show (0:Int)≤0;omega,by show (0:Int)≤_;omega,by show (0:Int)≤0;omega,by show (0:Int)≤_;omega,fun e=>absurd rfl e⟩
theorem abA {M:List ai} (hlen:L.length=M.length) (hst:∀ (k:Nat) x y,M[k]? =some x→L[k]? =some y→y.1=aW x) (hM:M.length≤500) (n:Nat) (hn:M.length<n) {a b c e e9 f g i2 j2 k2 p2 q2 r2:Int} {u v w s t:Bys} {no:Int} {z1:List aL}:
 iter (X:=mU) (β:=qX) n (a,0,b,c,e,f,no,u,g,i2,v,j2,k2,p2,q2,w,s,t,r2,e9,z1,l,L,ref,()) qW=
  some (Sum.inr (a,(gT no M:Int),b,c,e,f,no,u,g,i2,v,j2,k2,p2,q2,w,s,t,r2,e9,z1,l,L,ref,())):=by
 have hp:=Qg no M
 refine bS (Inv:=fun i X=>X=((a,(i:Int),b,c,e,f,no,u,g,i2,v,j2,k2,p2,q2,w,s,t,r2,e9,z1,l,L,ref,()):mU)) (gT no M) (fun z=>z=some (Sum.inr (a,(gT no M:Int),b,c,e,f,no,u,g,i2,v,j2,k2,p2,q2,w,s,t,r2,e9,z1,l,L,ref,()))) ?_ ?_ n 0 _ rfl (ajo _) (by omega)
 ·rintro i X again hi rfl hag
  unfold qW
  dsimp only
  have hi2:i<M.length:=by omega
  have hy:L[i]? =some L[i]:=ahX (by omega)
  have hs:=hst i _ _ (ahX hi2) hy
  rw[ajG (show (i:Int)<(L.length:Int) by omega),ajC]
  rw[bK (by rw[agW];exact⟨ajG (by omega),rfl⟩),ahs,hy,ajq,ajq,hs]
  have hlt:=aa5 no M i _ hi (ahX hi2)
  dsimp only
  rw[ajG (show (aW M[i]).1<no from hlt),ajC,av (n:=(i:Int)+1) (by omega) (by omega)]
  exact hag _ rfl
 ·rintro X again rfl
  unfold qW
  dsimp only
  by_cases h:gT no M<M.length
  ·have hy:L[gT no M]? =some (L[gT no M]'(by omega)):=ahX (by omega)
   have hs:=hst _ _ _ (ahX h) hy
   rw[ajG (show ((gT no M:Nat):Int)<(L.length:Int) by omega),ajC]
   rw[bK (by rw[agW];exact⟨ajG (by omega),rfl⟩),ahs,hy,ajq,ajq,hs]
   have hge:=aa4 no M _ (ahX h)
   dsimp only
   rw[ajE (show ¬(aW M[gT no M]).1<no from hge),ajB]
  ·rw[ajE (show ¬((gT no M:Nat):Int)<(L.length:Int) by omega),ajB]
   rfl
set_option maxHeartbeats 1000000 in
theorem abz (hB:sK l P A L) (hI:Ids A) (hl:∀ d,d∈l→bf d=0) {i:Nat} {d:aa} (hd:l[i]? =some d) (hf:sU (bA d) A=none) (k1:aF d=1):
 kT (o,l,L,ref,()) (i:Int)=some ((o,l,L.take (gT (bA d) (aH A))++((aW (fY i d),(i:Int), -1,[((i:Int),aW (fY i d))])::L.drop (gT (bA d) (aH A))),ref,()),()):=by
 obtain⟨_,hb2,hno,hk,hby,_,hu⟩:=bz (hl d (aiz hd))
 obtain⟨_,up,_⟩:=cR hu
 have hlen:=hI.len
 have hsl:(aH A).length=A.length:=(bG A).length_eq
 have hL:=hB.len
 have hps:=Qg (bA d) (aH A)
 unfold kT
 dsimp only
 rw[bR hd,ajq,G6 hB hI.len l,ajq,show sU d.2.2.2.2.1 A=none from hf]
 dsimp only
 rw[ajG (show (-1:Int)<0 by omega),ajC]
 rw[abA (M:=aH A) hB.len (fun k x y hx hy=>(hB.rel k x y hx hy).st) (by omega) _ (by omega),aK]
 dsimp only
 obtain⟨day,byy,no,kind,line,art,q,unit,p,un,to⟩:=d
 dsimp only at hk k1 up hby hb2 hno hf ⊢
 have hps:gT line (aH A)≤(aH A).length:=hps
 have k1':kind=1:=k1
 subst k1'
 have hb1:byy=1:=by omega
 subst hb1
 rw[show gU (p.1,p.2)=some (qa p,()) from Jw (up rfl),ajq]
 dsimp only
 have hins:∀ v,iB L (gT line (aH A):Int) [v]=some (L.take (gT line (aH A))++(v::L.drop (gT line (aH A))),()):=by
  intro v
  show (bif _ then _ else _)=_
  rw[show (decide (0≤((gT line (aH A):Nat):Int))&&(decide (((gT line (aH A):Nat):Int)≤(L.length:Int))&&(decide (0<[v].length)&&(decide ((L.length+[v].length)*184≤140737488355328)&&decide (L.length+[v].length≤4611686018427387904)))))=true by
   simp only[agW,ajH,List.length_singleton];omega,ajC,ahs]
  rfl
 rw[hins,ajq,aK]
 dsimp only
 have hpl:gT line (aH A)≤L.length:=by omega
 rw[bK (by rw[agW];exact⟨ajG (by omega),ajG (by simp;omega)⟩),ahs]
 simp only[Int.reduceBEq,ajC,ajB,aK]
 generalize hV:((((line,art,unit,(0,0),qa p,un,(0,0),(0,0),(0,0),0,0):bn),(i:Int), -1,[]):ak)=v
 have hget:=Vo L v hpl
 have hset:=fun v'=>afm L v v' hpl
 subst hV
 refine (aef (x:=fY i (day,1,no,1,line,art,q,unit,p,un,to)) (v:=(0,0)) hget ?_ (abO _ _) (by show 0≤2000;omega) (i:Int)).trans ?_
 ·show _=(line,art,unit,bM 0,qa p,un,bM 0,bM 0,bM 0,(0,0))
  rw[XN]
 ·rw[hset];rfl
end Go.Md
set_option linter.all false
namespace Go.Md
open Go.Dn
theorem af7 {M:List ai} (hs:M.Pairwise fun x y=>x.no<y.no) {m k:Nat} {a b:ai} (ha:M[m]? =some a) (hb:M[k]? =some b) (h:a.no=b.no):m=k:=by
 obtain⟨hm,rfl⟩:=ahZ.1 ha
 obtain⟨hk,rfl⟩:=ahZ.1 hb
 rw[aiH] at hs
 rcases ajc m k with c | c | c
 ·have:=hs m k hm hk c;omega
 ·exact c
 ·have:=hs k m hk hm c;omega
variable {o:aj} {l:List aa} {A:List ai} {L:List ak} {ref:List ah} {P:Int→List aC}
theorem afG {M:List ai} (p:Nat) (hp:p≤M.length) (hL:L.length=M.length) {P':Int→List aC} {x:ai} {y:ak} (hr:∀ (k:Nat) a b,M[k]? =some a→L[k]? =some b→UN l P' a b) (hxy:UN l P' x y):
 ∀ (k:Nat) a b,(M.take p++x::M.drop p)[k]? =some a→(L.take p++y::L.drop p)[k]? =some b→UN l P' a b:=by
 intro k a b ha hb
 rcases ajc k p with c | c | c
 ·rw[ahS (by rw[aik];omega),ah6 c] at ha hb
  exact hr k a b ha hb
 ·subst c
  rw[Vo M x hp] at ha
  rw[Vo L y (by omega)] at hb
  cases ha;cases hb;exact hxy
 ·rw[ahT (by rw[aik];omega),aik,show k - min p M.length=(k - p - 1)+1 by omega,ahU,ahW] at ha
  rw[ahT (by rw[aik];omega),aik,show k - min p L.length=(k - p - 1)+1 by omega,ahU,ahW] at hb
  exact hr _ a b ha hb
theorem follow_eq (hB:sK l P A L) (hA:Good l A) (hI:Ids A) (hl:∀ d,d∈l→bf d=0) (he:0≤bX o∧bX o≤1000) (hP:∀ wt,(P wt).length≤2000) (hN:∀ wt,(∀ x,x∈A→x.no≠wt)→P wt=[])
 {i:Nat} {d:aa} (hd:l[i]? =some d) (h0:(bN o l i d A).1=0):
 ∃ L',kT (o,l,L,ref,()) (i:Int)=some ((o,l,L',ref,()),())∧sK l (fun wt=>vN wt i d (bN o l i d A).2 (P wt)) (bN o l i d A).2 L':=by
 have hA':=wL (o:=o) hA hl hd
 by_cases k1:aF d=1
 ·cases hf:sU (bA d) A with
  | some k=>
   obtain⟨x,j,_,_,hfl,_⟩:=Lw hI hf
   unfold bN at h0
   rw[ajO k1,hfl] at h0
   cases h0
  | none=>
   obtain⟨hfl,hne⟩:=Lv hf
   have hz:(bN o l i d A).2=A++[fY i d]:=by
    unfold bN at h0 ⊢
    rw[ajO k1,hfl] at h0 ⊢
    dsimp only at h0 ⊢
    split at h0
    ·cases h0
    ·rename_i c1
     rw[ajN c1]
     split at h0
     ·cases h0
     ·rename_i c2
      rw[ajN c2]
   refine⟨_,abz hB hI hl hd hf k1, ?_⟩
   rw[hz]
   have hs:=aeM hI (y:=fY i d) hne
   have hs':aH (A++[fY i d])=(aH A).take (gT (bA d) (aH A))++fY i d::(aH A).drop (gT (bA d) (aH A)):=hs
   have hps:=Qg (bA d) (aH A)
   have hlen:=hB.len
   have hlL:jD (bA d) (A++[fY i d])=some (fY i d):=by
    refine Ax (k:=A.length) ?_ (by rw[ahT (ai5 _),Nat.sub_self];rfl)
    unfold dH
    rw[Fh,show bU (bA d) 0 A=none from hfl,Option.none_or,ajO (show bA d=(fY i d).no from rfl),ajn]
   refine⟨?_, ?_⟩
   ·rw[hs']
    simp only[ah9,aik,aia,aib]
    omega
   ·rw[hs']
    refine afG _ hps hlen (fun k a b ha hb=> ?_) ?_
    ·obtain⟨r1,r2,r3,r4,r5⟩:=hB.rel k a b ha hb
     have:bA d≠a.no:=fun e=>hne a ((bG A).mem_iff.1 (aiz ha)) e.symm
     exact⟨r1,r2,r3,r4,by rw[r5];unfold vN;rw[ajN this]⟩
    ·refine⟨rfl,rfl,fun _=>rfl,fun h=>absurd rfl h, ?_⟩
     show [((i:Int),aW (fY i d))]=vN (bA d) i d (A++[fY i d]) (P (bA d))
     unfold vN
     rw[ajO rfl,hlL,hN (bA d) hne]
     rfl
 ·cases hf:sU (bA d) A with
  | none=>
   obtain⟨hfl,_⟩:=Lv hf
   rw[Lb k1 hfl] at h0
   cases h0
  | some k=>
   obtain⟨x,j,hx,hxn,hfl,hxj⟩:=Lw hI hf
   obtain⟨y,hy,hr⟩:=hB.get hx
   obtain⟨hx1,hx2⟩:=hA.sound.line x (aiz hxj)
   rw[Ia k1 hfl hxj] at h0 hA' ⊢
   dsimp only at h0 hA' ⊢
   obtain⟨hx1',_,hno,_⟩:=BS (o:=o) hx1 hx2 hl hd
   obtain⟨off,hfo,hoff⟩:=aby (ref:=ref) hB hA hI hl he hd hf hx hy hr (hP _) hx1 hx2 hx1' k1 h0
   refine⟨_,hfo, ?_⟩
   have hs:=aeN hI (y:=(aV o l i d x).2) hxj hx hno
   have hkl:=(ahZ.1 hx).1
   have hky:=(ahZ.1 hy).1
   have hlL:jD (bA d) (A.set j (aV o l i d x).2)=some (aV o l i d x).2:=by
    refine Ax (k:=j) ?_ (ah4 (ahZ.1 hxj).1)
    have:dH (bA d) (A.set j (aV o l i d x).2)=dH (bA d) A:=Lu A 0 (fun z hz=>by rw[hxj] at hz;cases hz;exact hno)
    rw[this];exact hfl
   refine⟨by rw[hs,aij,aij];exact hB.len,fun m a b ha hb=> ?_⟩
   rw[hs] at ha
   by_cases c:k=m
   ·subst c
    rw[ah4 hkl] at ha
    rw[ah4 hky] at hb
    cases ha;cases hb
    refine⟨rfl,rfl,hoff.1,hoff.2, ?_⟩
    show P x.no++[((i:Int),aW (aV o l i d x).2)]=vN (aV o l i d x).2.no i d _ (P (aV o l i d x).2.no)
    unfold vN
    rw[hno,ajO hxn.symm,hlL]
   ·rw[ah3 c] at ha hb
    obtain⟨r1,r2,r3,r4,r5⟩:=hB.rel m a b ha hb
    have:bA d≠a.no:=fun e=>c (af7 (VU hI) hx ha (by rw[hxn];exact e))
    exact⟨r1,r2,r3,r4,by rw[r5];unfold vN;rw[ajN this]⟩
end Go.Md
set_option linter.all false
namespace Go.Md
open Go.Dn
theorem abK {n:Int} {A:List ai} (h:∀ x,x∈A→x.no≠n):jD n A=none:=by
 unfold jD
 rw[show dH n A=none from IZ h];rfl
theorem zT {o:aj} {l:List aa} {wt day:Int}:∀ (r:List aa) (i:Nat) (A:List ai) (ref:List (Int×Int)) (pts:List aC),(∀ d,d∈r→day<d.1)→gV o l wt day r i A ref pts=(A,ref,pts)
 | [],_,_,_,_,_=>rfl
 | d::r,i,A,ref,pts,h=>by simp only[gV];rw[ajO (h d (by simp))]
theorem adM {o1 o2 o3:Bys} {o4 o5:Int} {o6:List aL} {l:List aa} {day:Int} (he:0≤o5∧o5≤1000) (hl:∀ d,d∈l→bf d=0) (hlen:l.length≤2000) (hs:l.Pairwise fun a b=>a.1≤b.1):
 ∀ (r:List aa) (i n:Nat) (A:List ai) (L:List ak) (ref:List (Int×Int)) (P:Int→List aC),l.drop i=r→i≤l.length→Good l A→Ids A→sK l P A L→(∀ wt,(P wt).length≤i)→(∀ wt,jD wt A=none→P wt=[])→ref.length≤i→r.length<n→
  ∃ L',iter (X:=ID) (β:=IC) n (day,l,(l.length:Int),(i:Int),o1,o2,o3,o4,o5,o6,l,L,ref,()) DZ=some (Sum.inr (o1,o2,o3,o4,o5,o6,l,L',(gV (o1,o2,o3,o4,o5,o6) l 0 day r i A ref []).2.1,()))∧
   sK l (fun wt=>(gV (o1,o2,o3,o4,o5,o6) l wt day r i A ref (P wt)).2.2) (gV (o1,o2,o3,o4,o5,o6) l 0 day r i A ref []).1 L':=by
 intro r
 induction r with
 | nil=>
  intro i n A L ref P hd hi hA hI hB hp hN hr hn
  have:i=l.length:=by
   have:=congrArg List.length hd
   simp at this;omega
  subst this
  obtain⟨n,rfl⟩:∃ m,n=m+1:=⟨n - 1,by omega⟩
  refine⟨L, ?_,hB⟩
  rw[cl]
  unfold DZ
  dsimp only
  rw[ajE (show ¬((l.length:Int)<(l.length:Int)) by omega),ajB]
  rfl
 | cons d r ih=>
  intro i n A L ref P hdr hi hA hI hB hp hN hr hn
  have hd:l[i]? =some d:=by
   have:=congrArg (·[0]?) hdr
   simpa [ahW] using this
  have hr':l.drop (i+1)=r:=by
   have:=congrArg List.tail hdr
   simpa [aiN] using this
  have hlt:i<l.length:=(ahZ.1 hd).1
  have hlate:∀ e,e∈r→d.1≤e.1:=by
   have h:=hs.sublist (List.drop_sublist i l)
   rw[hdr] at h
   exact fun e he=>(aiG.1 h).1 e he
  obtain⟨n,rfl⟩:∃ m,n=m+1:=⟨n - 1,by simp at hn;omega⟩
  rw[cl]
  generalize hag:(fun y=>iter n y DZ)=again
  unfold DZ
  dsimp only
  rw[ajG (show (i:Int)<(l.length:Int) by omega),ajC,bR hd,ajq,av (n:=(i:Int)+1) (by omega) (by omega),show (i:Int)+1=((i+1:Nat):Int) by omega]
  have nq:maxLen=9223372036854775807:=rfl
  by_cases hday:day<d.1
  ·rw[ajG (show d.1>day from hday),ajC, ← hag]
   have hl1:∀ e,e∈d::r→day<e.1:=fun e he=>by
    rcases ais.1 he with rfl | he
    ·exact hday
    ·have:=hlate e he;omega
   obtain⟨L',e1,e2⟩:=ih (i+1) n A L ref P hr' (by omega) hA hI hB (fun wt=>by have:=hp wt;omega) hN (by omega) (by simp at hn;omega)
   refine⟨L', ?_, ?_⟩
   ·refine e1.trans ?_
    rw[zT r _ _ _ _ (fun e he=>hl1 e (by simp[he])),zT (d::r) _ _ _ _ hl1]
   ·have w:∀ wt,gV (o1,o2,o3,o4,o5,o6) l wt day (d::r) i A ref (P wt)=gV (o1,o2,o3,o4,o5,o6) l wt day r (i+1) A ref (P wt):=fun wt=>by
     rw[zT r _ _ _ _ (fun e he=>hl1 e (by simp[he])),zT (d::r) _ _ _ _ hl1]
    have w0:gV (o1,o2,o3,o4,o5,o6) l 0 day (d::r) i A ref []=gV (o1,o2,o3,o4,o5,o6) l 0 day r (i+1) A ref []:=by
     rw[zT r _ _ _ _ (fun e he=>hl1 e (by simp[he])),zT (d::r) _ _ _ _ hl1]
    rw[w0]
    simp only[w]
    exact e2
  ·rw[ajE (show ¬d.1>day from hday),ajB]
   have hrf:=M6 (o:=(o1,o2,o3,o4,o5,o6)) (ref:=ref) hB hA hI hl he hd
   rw[hrf,ajq]
   dsimp only
   have hgood:=wL (o:=(o1,o2,o3,o4,o5,o6)) hA hl hd
   have hids:=Wk (o:=(o1,o2,o3,o4,o5,o6)) hA hI hl hd
   simp only[gV,ajN hday]
   by_cases h0:(bN (o1,o2,o3,o4,o5,o6) l i d A).1=0
   ·simp only[ajN (show ¬(bN (o1,o2,o3,o4,o5,o6) l i d A).1≠0 from fun h=>h h0)]
    rw[h0,zne,ajB]
    obtain⟨L1,f1,f2⟩:=follow_eq (ref:=ref) hB hA hI hl he (fun wt=>by have:=hp wt;omega) (fun wt h=>hN wt (abK h)) hd h0
    rw[f1,ajq]
    dsimp only
    rw[← hag]
    have pl:∀ wt,(vN wt i d (bN (o1,o2,o3,o4,o5,o6) l i d A).2 (P wt)).length≤i+1:=fun wt=>by
     have:=hp wt
     unfold vN
     split
     ·split
      ·simp;omega
      ·omega
     ·omega
    have pn:∀ wt,jD wt (bN (o1,o2,o3,o4,o5,o6) l i d A).2=none→vN wt i d (bN (o1,o2,o3,o4,o5,o6) l i d A).2 (P wt)=[]:=fun wt h=>by
     by_cases e:bA d=wt
     ·subst e
      obtain⟨k,x,hk,hx⟩:=Rg hA.sound hl hd h0
      rw[Ax hk hx] at h;cases h
     ·unfold vN
      rw[ajN e]
      rw[ZH hA.sound hl hd e] at h
      exact hN wt h
    obtain⟨L',e1,e2⟩:=ih (i+1) n _ L1 ref _ hr' (by omega) hgood hids f2 pl pn (by omega) (by simp at hn;omega)
    have w:=VO (o:=(o1,o2,o3,o4,o5,o6)) (l:=l) 0 0 day r (i+1) (bN (o1,o2,o3,o4,o5,o6) l i d A).2 ref (vN 0 i d (bN (o1,o2,o3,o4,o5,o6) l i d A).2 []) []
    rw[w.1,w.2]
    exact⟨L',e1,e2⟩
   ·simp only[ajO (show (bN (o1,o2,o3,o4,o5,o6) l i d A).1≠0 from h0)]
    rw[cI h0,ajC]
    rw[bK (by rw[agW];exact⟨ajG (by omega),ajG (by omega)⟩)]
    rw[← hag]
    have hsame:=(X8 (o:=(o1,o2,o3,o4,o5,o6)) hA.sound hl hd).2 h0
    rw[hsame]
    exact ih (i+1) n A L _ P hr' (by omega) hA hI hB (fun wt=>by have:=hp wt;omega) hN (by simp;omega) (by simp at hn;omega)
theorem abn {l:List aa} (h:gM l=0):l.Pairwise fun a b=>a.1≤b.1:=
 (Te h).1.imp fun {a b} h=>by
   have:=(aaQ a b).1 h
   unfold Lex at this
   omega
theorem abL {o:aj} (ho:jI o=0) (l:List aa):sK l (fun _=>[]) (jm o) ((jm o).map fun x=>(aW x, -1, -1,[])):=by
 have hI:=OR ho
 obtain⟨_,_,_,_,hgo,_⟩:=nH ho
 obtain⟨_,_,hpw⟩:=mL hgo
 have hs:aH (jm o)=jm o:=VV (List.Perm.refl _) (by rw[aiI];exact hpw)
 refine⟨by rw[hs,aid],fun k x y hx hy=> ?_⟩
 rw[hs] at hx
 rw[ah0,hx] at hy
 cases hy
 obtain⟨q,_,rfl⟩:=aiy.1 (aiz hx)
 exact⟨rfl,rfl,fun _=>rfl,fun h=>absurd rfl h,rfl⟩
theorem abM {o1 o2 o3:Bys} {o4 o5:Int} {o6:List aL} (ho:jI (o1,o2,o3,o4,o5,o6)=0) (l:List aa) (day:Int) (n:Nat) (hn:o6.length<n):
 iter (X:=D6) (β:=IB) n (l,day,o6,(o6.length:Int),0,o1,o2,o3,o4,o5,o6,l,[],[],()) Iz=some (Sum.inr (l,day,o1,o2,o3,o4,o5,o6,l,(jm (o1,o2,o3,o4,o5,o6)).map (fun x=>(aW x, -1, -1,[])),[],())):=by
 obtain⟨_,_,hl5,_,hgo,_⟩:=nH ho
 obtain⟨hln,_,_⟩:=mL hgo
 have hg:=wR ho l
 have hl5:o6.length≤500:=hl5
 have nq:maxLen=9223372036854775807:=rfl
 refine bS (Inv:=fun i X=>X=((l,day,o6,(o6.length:Int),(i:Int),o1,o2,o3,o4,o5,o6,l,((o6.take i).map lI).map (fun x=>(aW x, -1, -1,[])),[],()):D6)) o6.length (fun z=>z=some (Sum.inr (l,day,o1,o2,o3,o4,o5,o6,l,(jm (o1,o2,o3,o4,o5,o6)).map (fun x=>(aW x, -1, -1,[])),[],()))) ?_ ?_ n 0 _ rfl (ajo _) (by omega)
 ·rintro i X again hi rfl hag
  unfold Iz
  dsimp only
  have hx:o6[i]? =some o6[i]:=ahX hi
  obtain⟨_,h2,_,h4,_⟩:=hln _ (aiz hx)
  have hok:=(hg.sound.line (lI o6[i]) (aiy.2 ⟨_,aiz hx,rfl⟩)).1
  rw[ajG (show (i:Int)<(o6.length:Int) by omega),ajC,bR hx,ajq,Jx h2,ajq,Jw h4,ajq]
  have hre:=mB hok (0,0)
  have e0:bM (lI o6[i]).shp=(0,0):=XN
  have e1:bM (lI o6[i]).rcv=(0,0):=XN
  have e2:bM (lI o6[i]).ret=(0,0):=XN
  rw[e0,e1,e2] at hre
  refine bs hre ?_
  dsimp only
  rw[bK (by rw[agW];exact⟨ajG (by simp;omega),ajG (by simp;omega)⟩),av (n:=(i:Int)+1) (by omega) (by omega)]
  refine hag _ ?_
  rw[gG hx,ail,ail]
  rfl
 ·rintro X again rfl
  unfold Iz
  dsimp only
  rw[ajE (show ¬(o6.length:Int)<(o6.length:Int) by omega),ajB,aiS]
theorem IA {o:aj} {l:List aa} (h:dX o l=0) (day:Int):
 ∃ L,G8 o l day=some ((o,l,L,(fe o l 0 day).2.1,()),())∧sK l (fun wt=>(fe o l wt day).2.2) (fe o l 0 day).1 L:=by
 obtain⟨h1,h2⟩:=pQ h
 obtain⟨h3,h4⟩:=iM h2
 obtain⟨o1,o2,o3,o4,o5,o6⟩:=o
 obtain⟨L,e1,e2⟩:=adM (o1:=o1) (o2:=o2) (o3:=o3) (o4:=o4) (o6:=o6) (day:=day) (nH h1).2.1 h4 h3 (abn h2) l 0 (Int.natAbs day+(List.length l+(Int.natAbs ((List.length l:Int))+(Int.natAbs (0:Int)+(List.length o1+(List.length o2+(List.length o3+(Int.natAbs o4+(Int.natAbs o5+(List.length o6+(List.length l+(List.length ((jm (o1,o2,o3,o4,o5,o6)).map (fun x=>((aW x, -1, -1,[]):ak)))+(List.length ([]:List ah)+2))))))))))))) _ _ [] _ rfl (ajo _) (wR h1 l) (OR h1) (abL h1 l) (fun _=>ajo _) (fun _ _=>rfl) (ajo _) (by omega)
 refine⟨L, ?_,e2⟩
 unfold G8
 dsimp only
 rw[abM h1 l day _ (by omega),aK]
 dsimp only
 rw[show ((0:Nat):Int)=0 from rfl] at e1
 rw[e1,aK]
 rfl
end Go.Md
set_option linter.all false
namespace Go.Md
open Go.Dn
theorem adG (o:aj) (l:List aa) (tx:∀ d,d∈l→Txt d):Uu o l=some (dX o l,()):=by
 unfold Uu dX
 rw[SC,ajq]
 dsimp only
 by_cases h:jI o=0
 ·rw[ajN (show ¬jI o≠0 from fun e=>e h),h,zne,ajB,SB l tx,ajq]
 ·rw[cI h,ajC,ajO h]
theorem aex (l:List aa) (b m:Int):nxt l b (w64 (m+1))=w64 (l.foldl (fun m d=>if d.2.1=b then d.2.2.1 else m) m+1):=by
 induction l generalizing m with
 | nil=>rfl
 | cons d r ih=>
  rw[Ch,List.foldl_cons]
  by_cases h:d.2.1=b
  ·rw[ajO h,ajO h];exact ih _
  ·rw[ajN h,ajN h];exact ih _
theorem ads (l:List aa) (b:Int):w64 (p8 b l+1)=wS l b:=(aex l b 0).symm
end Go.Md
set_option linter.all false
namespace Go.Md
open Go.Dn
def rR {α:Type} (k:α→Int) (v:Int):List α→Nat
 | []=>0
 | y::r=>if v<k y then rR k v r else r.length+1
theorem KP {α:Type} (k:α→Int) (v:Int):∀ r:List α,rR k v r≤r.length
 | []=>ai5 _
 | y::r=>by
  have:=KP k v r
  simp only[rR,aia]
  split<;>omega
theorem Ur {α:Type} (k:α→Int) (v:Int):∀ r:List α,(∀ y,y∈r.take (r.length - rR k v r)→v<k y)∧(r.Pairwise (fun a b=>k b≤k a)→∀ y,y∈r.drop (r.length - rR k v r)→k y≤v)
 | []=>⟨fun y hy=>by simp at hy,fun _ y hy=>by simp at hy⟩
 | x::r=>by
  obtain⟨h1,h2⟩:=Ur k v r
  have hle:=KP k v r
  simp only[rR,aia]
  split
  ·rename_i c
   rw[show r.length+1 - rR k v r=(r.length - rR k v r)+1 by omega]
   refine⟨fun y hy=> ?_,fun hp y hy=> ?_⟩
   ·rw[aiU] at hy
    rcases ais.1 hy with rfl | hy
    ·exact c
    ·exact h1 y hy
   ·rw[List.drop_succ_cons] at hy
    exact h2 (aiG.1 hp).2 y hy
  ·rename_i c
   rw[Nat.sub_self]
   refine⟨fun y hy=>by simp at hy,fun hp y hy=> ?_⟩
   rw[ahG] at hy
   rcases ais.1 hy with rfl | hy
   ·omega
   ·have:=(aiG.1 hp).1 y hy;omega
def OE {α:Type} (k:α→Int) (x:α) (out:List α):List α:=out.take (rR k (k x) out.reverse)++x::out.drop (rR k (k x) out.reverse)
theorem aei {α:Type} (k:α→Int) (x:α) (out:List α):(OE k x out).length=out.length+1:=by
 have:=KP k (k x) out.reverse
 rw[aii] at this
 unfold OE
 simp only[ah9,aik,aia,aib]
 omega
theorem aej {α:Type} {k:α→Int} {x:α} {out:List α} (h:Srt k out):Srt k (OE k x out)∧bL k (out++[x]) (OE k x out):=by
 obtain⟨h1,h2⟩:=Ur k (k x) out.reverse
 have hle:=KP k (k x) out.reverse
 have h2:=h2 (by rw[List.pairwise_reverse];exact h)
 unfold OE
 generalize rR k (k x) out.reverse=p at h1 h2 hle
 rw[aii] at h1 h2 hle
 have e1:∀ y,y∈out.take p→k y≤k x:=fun y hy=>h2 y (by
  rw[List.drop_reverse,show out.length - (out.length - p)=p by omega]
  simpa using hy)
 have e2:∀ y,y∈out.drop p→k x<k y:=fun y hy=>h1 y (by
  rw[List.take_reverse,show out.length - (out.length - p)=p by omega]
  simpa using hy)
 have hs:Srt k (out.take p++out.drop p):=by rw[aiP];exact h
 refine⟨?_, ?_⟩
 ·refine Srt.append hs.left (aiG.2 ⟨fun y hy=>Int.le_of_lt (e2 y hy),hs.right⟩) fun a ha b hb=> ?_
  rcases ais.1 hb with rfl | hb
  ·exact e1 a ha
  ·exact hs.La a ha b hb
 ·have:bL k (out.take p++(out.drop p++[x])) (out.take p++([x]++out.drop p)):=(bL.refl k _).append (bL.swap fun a ha b hb=>by
   simp only[aiD] at hb;subst hb
   have:=e2 a ha;omega)
  rw[← ahx,aiP] at this
  exact this
def mR {α:Type} (k:α→Int) (l out:List α):List α:=l.foldl (fun out x=>OE k x out) out
theorem abH {α:Type} (k:α→Int) (l out:List α):(mR k l out).length=out.length+l.length:=by
 unfold mR
 induction l generalizing out with
 | nil=>rfl
 | cons x l ih=>rw[List.foldl_cons,ih,aei,aia];omega
theorem TP {α:Type} {k:α→Int} (l:List α):∀ {out:List α},Srt k out→Srt k (mR k l out)∧bL k (out++l) (mR k l out):=by
 unfold mR
 induction l with
 | nil=>intro out h;rw[ahy];exact⟨h,bL.refl _ _⟩
 | cons x l ih=>
  intro out h
  obtain⟨h1,h2⟩:=aej (x:=x) h
  obtain⟨h3,h4⟩:=ih h1
  refine⟨h3, ?_⟩
  have:=(h2.append (bL.refl k l)).trans h4
  rw[ahx] at this
  exact this
theorem Srt.OU {α β:Type} {k:β→Int} {f:α→β} {l:List α} (h:Srt (fun x=>k (f x)) l):Srt k (l.map f):=by
 unfold Srt
 rw[aiI];exact h
theorem bL.OU {α β:Type} {k:β→Int} {f:α→β} {l l':List α} (h:bL (fun x=>k (f x)) l l'):bL k (l.map f) (l'.map f):=
 ⟨h.perm.map f,fun v=>by
   rw[List.filter_map,List.filter_map]
   exact congrArg (List.map f) (h.keys v)⟩
theorem ZE {l:List aa} {P:Int→List aC} {A:List ai} {L:List ak} (h:sK l P A L):L.map (fun y=>y.1)=(aH A).map aW:=by
 refine ahJ fun i=> ?_
 rw[ah0,ah0]
 by_cases hi:i<L.length
 ·have hx:=ahX (l:=aH A) (i:=i) (by rw[← h.len];exact hi)
  have hy:=ahX hi
  rw[hx,hy,ajw,ajw,(h.rel i _ _ hx hy).st]
 ·rw[ahY (by omega),ahY (by rw[← h.len];omega)]
  rfl
end Go.Md
set_option linter.all false
namespace Go.Md
open Go.Dn
end Go.Md
set_option linter.all false
namespace Go.Md
open Go.Dn
end Go.Md
set_option linter.all false
namespace Go.Md
open Go.Dn
theorem AY (o:aj) (l:List aa) (day:Int) (tx:∀ d,d∈l→Txt d):vQ o l day=some (lnF o l day,()):=by
 unfold vQ lnF
 rw[adG o l tx,ajq]
 dsimp only
 by_cases h:dX o l=0
 ·rw[ajN (show ¬dX o l≠0 from fun e=>e h),h,zne,ajB,CJ,ajq]
  dsimp only
  by_cases hd:1≤day∧day≤3652059
  ·rw[ajO hd,ajG hd];rfl
  ·rw[ajN hd,ajE hd];rfl
 ·rw[cI h,ajC,ajO h]
theorem Pw {o:aj} {l l2:List aa} {P:Int→List aC} {A:List ai} {L:List ak} {ref:List ah} (h:sK l P A L) (hI:Ids A):rV (o,l2,L,ref)=some ((aH A).map aW,()):=by
 have nq:maxLen=9223372036854775807:=rfl
 have hL:L.length≤500:=by rw[h.len,(bG A).length_eq];exact hI.len
 unfold rV
 dsimp only
 have loop:∀ n,L.length<n→iter (X:=mW) (β:=q8) n ([],L,(L.length:Int),0,()) q7=some (Sum.inr (L.map (fun y=>y.1),())):=by
  intro n hn
  refine bS (Inv:=fun i X=>X=(((L.take i).map (fun y=>y.1),L,(L.length:Int),(i:Int),()):mW)) L.length (fun z=>z=some (Sum.inr (L.map (fun y=>y.1),()))) ?_ ?_ n 0 _ rfl (ajo _) (by omega)
  ·rintro i X again hi rfl hag
   unfold q7
   dsimp only
   have hy:L[i]? =some L[i]:=ahX hi
   have hlen:((L.take i).map (fun y=>y.1)).length=i:=by rw[aid,aik];omega
   rw[ajG (show (i:Int)<(L.length:Int) by omega),ajC,bR hy,ajq,hlen,bK (by rw[agW];exact⟨ajG (by omega),ajG (by omega)⟩),av (n:=(i:Int)+1) (by omega) (by omega)]
   have e:(L.take i).map (fun y=>y.1)++[(L[i]).1]=(L.take (i+1)).map (fun y=>y.1):=by rw[gG hy,ail];rfl
   rw[e]
   exact hag _ rfl
  ·rintro X again rfl
   unfold q7
   dsimp only
   rw[ajE (show ¬(L.length:Int)<(L.length:Int) by omega),ajB,aiS]
 rw[loop _ (by omega),aK,ZE h]
end Go.Md
set_option linter.all false
namespace Go.Md
open Go.Dn
variable {l:List aa} {A:List ai}
end Go.Md
