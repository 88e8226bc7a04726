/-
  Plain facts: the book of the reference. No condition.
-/
import Derived.Test.YtcpmaicaibdafaaGreatDoorWu
import Derived.Test.YtcpmaicaibdafaaGreatDoorWx
import Derived.Test.YtcpmaicaibdafaaGreatDoorWt
import Derived.Test.YtcpmaicaibdafaaGreatDoorWq
import Derived.Test.YtcpmaicaibdafaaGreatDoorWr
set_option linter.all false
set_option linter.all false
namespace Go.Md
open Go.Dn
structure SI (l:List aa) (P:Int→List aI) (x:ak) (y:aq):Prop where
 st:y.1=bL x
 wish:y.2.1=x.wish
 off0:x.ono=0→y.2.2.1= -1
 off1:x.ono≠0→∃ (j:Nat) (d:aa),y.2.2.1=(j:Int)∧l[j]? =some d∧dNo d=x.ono∧aW (dQ d)=x.oq∧gG d=x.ount∧aL d=7
 ev:y.2.2.2=P x.no
structure AA (l:List aa) (P:Int→List aI) (A:List ak) (L:List aq):Prop where
 len:L.length=(bT A).length
 rel:∀ (k:Nat) x y,(bT A)[k]? =some x→L[k]? =some y→SI l P x y
theorem AA.get {l:List aa} {P:Int→List aI} {A:List ak} {L:List aq} (h:AA l P A L) {k:Nat} {x:ak} (hx:(bT A)[k]? =some x):∃ y,L[k]? =some y∧SI l P x y:=by
 have hlt:=(agD.1 hx).1
 have:k<L.length:=by rw[h.len];exact hlt
 exact⟨_,agB this,h.rel k x _ hx (agB this)⟩
def sF (no:Int) (A:List ak):Option Nat:=(bT A).findIdx? fun x=>decide (x.no=no)
theorem Kl {no:Int} {A:List ak} (hI:Ids A) {k:Nat} (h:sF no A=some k):∃ x j,(bT A)[k]? =some x∧x.no=no∧eL no A=some j∧A[j]? =some x:=by
 obtain⟨h1,h2,_⟩:=agt.1 h
 have hx:(bT A)[k]? =some (bT A)[k]:=agB h1
 have hno:(bT A)[k].no=no:=aiB h2
 obtain⟨j,hj,hjx⟩:=US hI (ahb hx)
 rw[hno] at hj
 exact⟨_,j,hx,hno,hj,hjx⟩
theorem Kk {no:Int} {A:List ak} (h:sF no A=none):eL no A=none∧∀ x,x∈A→x.no≠no:=by
 have hn:∀ x,x∈A→x.no≠no:=fun x hx e=>by
  have:=ags.1 h x ((eN A).mem_iff.2 hx)
  rw[aim e] at this;cases this
 refine⟨?_,hn⟩
 cases hf:eL no A with
 | none=>rfl
 | some k=>
  obtain⟨x,hx,hxn⟩:=wZ hf
  exact absurd hxn (hn x (ahb hx))
variable {o:aj} {l:List aa} {A:List ak} {L:List aq} {ref:List ah} {P:Int→List aI}
theorem Gc (hB:AA l P A L) (hlen:A.length≤500) (l2:List aa) (no:Int):rM (o,l2,L,ref) no=some (match sF no A with | some k=>(k:Int) | none=> -1,()):=by
 have hL:L.length=A.length:=by rw[hB.len,(eN A).length_eq]
 unfold rM
 dsimp only
 have:∀ m,L.length<m→iter (X:=mR) (β:=qN) m (no,L,(L.length:Int),0,()) qM=some (match sF no A with | some i=>Sum.inl ((i:Int),()) | none=>Sum.inr ()):=by
  intro m hm
  refine cN (Inv:=fun i X=>X=((no,L,(L.length:Int),(i:Int),()):mR)∧∀ j,j<i→∀ x,(bT A)[j]? =some x→¬x.no=no) L.length (fun z=>z=some (match sF no A with | some i=>Sum.inl ((i:Int),()) | none=>Sum.inr ())) ?_ ?_ m 0 _ ⟨rfl,fun j hj=>absurd hj (ahW _)⟩ (ah2 _) (by omega)
  ·rintro i X again hi ⟨rfl,hno⟩ hag
   unfold qM
   dsimp only
   have hi2:i<(bT A).length:=by rw[← hB.len];exact hi
   have hx:(bT A)[i]? =some (bT A)[i]:=agB hi2
   obtain⟨y,hy,hr⟩:=hB.get hx
   rw[aim (show (i:Int)<(L.length:Int) by omega),aii,cM hy,ah4,hr.st]
   show (bif (bT A)[i].no==no then _ else _)=_
   by_cases e:(bT A)[i].no=no
   ·rw[show ((bT A)[i].no==no)=true by simpa using e,aii]
    have:sF no A=some i:=agt.2 ⟨hi2,aim e,fun j hj=>by
     have:=hno j hj _ (agB (by omega))
     simpa using this⟩
    rw[this]
   ·rw[dx e,aih,av (n:=(i:Int)+1) (by omega) (by omega)]
    refine hag _ ⟨rfl,fun j hj x hjx=> ?_⟩
    by_cases c:j=i
    ·subst c;rw[hx] at hjx;cases hjx;exact e
    ·exact hno j (by omega) x hjx
  ·rintro X again ⟨rfl,hno⟩
   unfold qM
   dsimp only
   rw[aik (show ¬(L.length:Int)<(L.length:Int) by omega),aih]
   have:sF no A=none:=ags.2 fun x hx=>by
    obtain⟨j,hj⟩:=ag8.1 hx
    have:=hno j (by rw[hB.len];exact (agD.1 hj).1) x hj
    simpa using this
   rw[this]
 rw[this _ (by omega)]
 cases sF no A<;>rfl
theorem aam {x:ak} (hx:LOk x) (he0:0≤cm o) (he1:cm o≤1000):Bj (o,l,L,ref) (bL x)=some (x.ord+x.ord*cm o / 1000,()):=by
 have b4:=hx.uC;have b5:=hx.ord1
 have m0:0≤x.ord*cm o:=afR b4 he0
 have m1:x.ord*cm o≤x.ord*1000:=afP he1 b4
 have d0:0≤x.ord*cm o / 1000:=Int.ediv_nonneg m0 (by omega)
 have d1:x.ord*cm o / 1000≤x.ord:=by omega
 unfold Bj
 dsimp only
 rw[show (bL x).2.2.2.1=bR x.ord from rfl,uk (dn (n:=x.ord) (by omega)),ah4]
 dsimp only
 rw[show o.2.2.2.2.1=cm o from rfl,av (n:=x.ord*cm o) (by omega) (by omega),af2 m0]
 first
  | rw[av (n:=x.ord*cm o / 1000) (by omega) (by omega),av (n:=x.ord+x.ord*cm o / 1000) (by omega) (by omega)]
  | rw[av (n:=x.ord+x.ord*cm o / 1000) (by omega) (by omega)]
theorem T7 {x:ak} (hx:LOk x):Al (bL x)=some (bR (x.shp - x.ret),()):=by
 have:=hx.ret0;have:=hx.retr;have:=hx.rcvs;have:=hx.shp1
 exact Sh (s:=bL x) (dn (n:=x.shp) (by omega)) (dn (n:=x.ret) (by omega))
theorem TY {z:Int}:decide (z.sign>0)=decide (0<z):=by
 rw[aij]
 exact Int.sign_pos_iff
theorem ad1 {z:Int}:decide (z.sign<0)=decide (z<0):=by
 rw[aij]
 exact Int.sign_neg_iff
set_option maxHeartbeats 1000000 in
theorem VE (hB:AA l P A L) (hA:Good l A) (hI:Ids A) (hl:∀ d,d∈l→bF d=0) (he:0≤cm o∧cm o≤1000) {i:Nat} {d:aa} (hd:l[i]? =some d):
 uX (o,l,L,ref) (i:Int)=some ((cE o l i d A).1,()):=by
 have hL:L.length=A.length:=by rw[hB.len,(eN A).length_eq]
 obtain⟨_,_,_,hk,_,_,hu⟩:=bU (hl d (ahb hd))
 obtain⟨uq,_⟩:=dR hu
 have huses:=Nz hk
 unfold uX
 dsimp only
 rw[cM hd,ah4,Gc hB hI.len l,ah4,huses]
 dsimp only
 cases hf:sF d.2.2.2.2.1 A with
 | none=>
  obtain⟨hfl,_⟩:=Kk hf
  dsimp only
  rw[show decide ((-1:Int)<0)=true from rfl,aii,aii,aii]
  by_cases k1:aL d=1
  ·rw[show (d.2.2.2.1==1)=true by simpa using k1]
   rw[show (!(true==true))=false from rfl,aih,ah4]
   have hz:cE o l i d A=if 500≤A.length then (16,A) else if gG d<dA o then (1,A) else (0,A++[gC i d]):=by
    unfold cE
    rw[aiv k1,show eL (dH d) A=none from hfl]
   rw[hz,hL]
   by_cases c1:500≤A.length
   ·rw[aiv c1,aim (show (A.length:Int)≥500 by omega),aii]
   ·rw[aiu c1,aik (show ¬(A.length:Int)≥500 by omega),aih,ah4]
    rw[show usU d.2.2.2.1=true by rw[show d.2.2.2.1=1 from k1];rfl,aii,ah4]
    by_cases c2:gG d<dA o
    ·rw[aiv c2,aim (show d.2.2.2.2.2.2.2.2.2.1<o.2.2.2.1 from c2),aii]
    ·rw[aiu c2,aik (show ¬d.2.2.2.2.2.2.2.2.2.1<o.2.2.2.1 from c2),aih]
  ·rw[dx k1]
   rw[show (!(true==false))=true from rfl,aii,J4 k1 hfl]
 | some k=>
  obtain⟨x,j,hx,hxn,hfl,hxj⟩:=Kl hI hf
  obtain⟨y,hy,hr⟩:=hB.get hx
  obtain⟨hx1,hx2⟩:=hA.sound.line x (ahb hxj)
  have b0:=hx1.ret0;have b1:=hx1.retr;have b2:=hx1.rcvs;have b3:=hx1.shp1;have b4:=hx1.uC;have b5:=hx1.ord1
  obtain⟨p1,p2⟩:=abN hx1
  dsimp only
  rw[aik (show ¬(k:Int)<0 by omega),aih,aih,aih]
  by_cases k1:aL d=1
  ·rw[show (d.2.2.2.1==1)=true by simpa using k1]
   have hz:cE o l i d A=(7,A):=by
    unfold cE
    rw[aiv k1,show eL (dH d) A=some j from hfl]
   rw[hz];rfl
  rw[dx k1,show (!(false==false))=false from rfl,aih,ah4,aih,ah4,My k1 hfl hxj,cM hy,ah4]
  obtain⟨day,byy,no,kind,line,art,q,unit,p,un,to⟩:=d
  dsimp only at hk k1 uq huses hf hfl ⊢
  obtain⟨ys,yw,yo,ye⟩:=y
  have r1:=hr.st;have r2:=hr.wish;have r3:=hr.off0;have r4:=hr.off1
  dsimp only at r1 r2 r3 r4
  subst r1;subst r2
  have k1':kind≠1:=k1
  have hk':1≤kind∧kind≤11:=hk
  have h11:kind=2∨kind=3∨kind=4∨kind=5∨kind=6∨kind=7∨kind=8∨kind=9∨kind=10∨kind=11:=by omega
  rcases h11 with rfl | rfl | rfl | rfl | rfl | rfl | rfl | rfl | rfl | rfl
  all_goals simp only[Int.reduceBEq,aii,aih,aU,show usU 2=false from rfl,show usU 3=true from rfl,show usU 4=false from rfl,show usU 5=false from rfl,show usU 6=false from rfl,show usU 7=true from rfl,show usU 8=false from rfl,show usU 9=false from rfl,show usU 10=false from rfl,show usU 11=false from rfl]
  ·rw[ah4,aih]
   by_cases h:0≤x.wish
   ·rw[aim (show x.wish≥0 from h),aii];simp[bA,vk,aL,h]
   ·rw[aik (show ¬x.wish≥0 from h),aih];simp[bA,vk,aL,h]
  ·rw[ah4]
   by_cases c:un<dA o
   ·rw[aim (show un<o.2.2.2.1 from c),aii];simp[bA,vk,aL,gG,c]
   ·rw[aik (show ¬un<o.2.2.2.1 from c),aih]
    by_cases h:0≤x.wish
    ·rw[aim (show x.wish≥0 from h),aii];simp[bA,vk,aL,gG,c,h]
    ·rw[aik (show ¬x.wish≥0 from h),aih];simp[bA,vk,aL,gG,c,h]
  ·rw[ah4,aih]
   by_cases h:0≤x.wish
   ·rw[aim (show x.wish≥0 from h),aii];simp[bA,vk,aL,h]
   ·rw[aik (show ¬x.wish≥0 from h),aih];simp[bA,vk,aL,h]
  ·rw[ah4,aih]
   by_cases h:x.wish<0
   ·rw[aim h,aii];simp[bA,bZ,aL,h]
   ·rw[aik h,aih]
    obtain⟨w,hw1,hw2⟩:=hx2.kind (by omega)
    obtain⟨_,_,_,_,_,_,hwu⟩:=bU (hl w (ahb hw1))
    have hwq:=(dR hwu).1
    rw[Ko (by omega) hw1,ah4]
    have hact:(bA o l i (day,byy,no,5,line,art,q,unit,p,un,to) x).1=(bZ l (day,byy,no,5,line,art,q,unit,p,un,to) x).1:=by
     unfold bA
     rw[aiu (show ¬(5:Int)≤4 by omega),aiv (show (5:Int)≤6 by omega)]
     split
     ·rename_i h0;rw[h0]
     ·rfl
    rw[hact]
    unfold bZ
    rw[aiu h,uw hw1]
    by_cases e:dNo w=to
    ·rw[show (w.2.2.1 != to)=false by simpa using e,aih,aiu (show ¬dNo w≠to from fun h=>h e),aiv (show (5:Int)=5 from rfl),ah4]
     by_cases k2:aL w=2
     ·rw[show (w.2.2.2.1==2)=true by simpa using k2,aii,ah4,aiv k2]
      have hm:=ry (hwq (by rw[k2];rfl))
      have ha:=T7 hx1
      unfold bL at ha ⊢
      dsimp only at ha ⊢
      rw[ha,ah4]
      dsimp only
      rw[Bl hm (dn (n:=x.shp - x.ret) (by omega)),ah4,ah4,ad1]
      by_cases c:aW (dQ w)<x.shp - x.ret
      ·rw[aiv c,aim (by omega),aii]
      ·rw[aiu c,aik (by omega),aih]
     ·rw[dx k2,aih,ah4,aiu k2]
      by_cases k3:aL w=1
      ·rw[aiv k3];rfl
      ·rw[aiu k3]
       split<;>rfl
    ·rw[show (w.2.2.1 != to)=true by simpa using e,aii,aiv (show dNo w≠to from e)]
  ·rw[ah4,aih]
   by_cases h:x.wish<0
   ·rw[aim h,aii];simp[bA,bZ,aL,h]
   ·rw[aik h,aih]
    obtain⟨w,hw1,hw2⟩:=hx2.kind (by omega)
    rw[Ko (by omega) hw1,ah4]
    have hact:(bA o l i (day,byy,no,6,line,art,q,unit,p,un,to) x).1=(bZ l (day,byy,no,6,line,art,q,unit,p,un,to) x).1:=by
     unfold bA
     rw[aiu (show ¬(6:Int)≤4 by omega),aiv (show (6:Int)≤6 by omega)]
     split
     ·rename_i h0;rw[h0]
     ·rfl
    rw[hact]
    unfold bZ
    rw[aiu h,uw hw1]
    by_cases e:dNo w=to
    ·rw[show (w.2.2.1 != to)=false by simpa using e,aih,aiu (show ¬dNo w≠to from fun h=>h e),aiu (show ¬(6:Int)=5 by omega)];rfl
    ·rw[show (w.2.2.1 != to)=true by simpa using e,aii,aiv (show dNo w≠to from e)]
  ·rw[ah4]
   have hact:(bA o l i (day,byy,no,7,line,art,q,unit,p,un,to) x).1=mK (dA o) (day,byy,no,7,line,art,q,unit,p,un,to) x:=by
    unfold bA
    rw[aiu (show ¬(7:Int)≤4 by omega),aiu (show ¬(7:Int)≤6 by omega),aiv (show (7:Int)=7 from rfl)]
    split
    ·rename_i h0;rw[h0]
    ·rfl
   rw[hact]
   unfold mK
   by_cases c:un<dA o
   ·rw[aim (show un<o.2.2.2.1 from c),aii,aiv (show un<dA o from c)]
   ·rw[aik (show ¬un<o.2.2.2.1 from c),aih,aiu (show ¬un<dA o from c)]
    by_cases h:0≤x.wish
    ·rw[aim (show x.wish≥0 from h),aii,aiv (Or.inl h)]
    ·rw[aik (show ¬x.wish≥0 from h),aih]
     have hs:=(Qg 3 x.opn).2
     by_cases h0:x.opn=0
     ·rw[aiv (Or.inr h0),show ((bL x).2.2.2.2.2.2.2.2.2.1==0)=true from (show (((few 3 x.opn).1==(0:Int))=true) by simpa using hs.2 h0),aii]
     ·rw[aiu (fun e=>e.elim h h0),dx (show ¬(bL x).2.2.2.2.2.2.2.2.2.1=0 from fun e=>h0 (hs.1 e)),aih]
      have hm:=ry (show qOk q false=true from uq rfl)
      have:=Bl hm (dn (n:=x.opn) (by omega))
      unfold bR at this
      unfold bL bR
      dsimp only at this ⊢
      rw[this,ah4,TY]
      by_cases c:x.opn<aW q
      ·rw[aiv (show x.opn<aW (dQ (day,byy,no,7,line,art,q,unit,p,un,to)) from c),aim (by omega),aii]
      ·rw[aiu (show ¬x.opn<aW (dQ (day,byy,no,7,line,art,q,unit,p,un,to)) from c),aik (by omega),aih]
  ·rw[ah4,aih]
   have hact:(bA o l i (day,byy,no,8,line,art,q,unit,p,un,to) x).1=(EP (day,byy,no,8,line,art,q,unit,p,un,to) x).1:=by
    unfold bA
    rw[aiu (show ¬(8:Int)≤4 by omega),aiu (show ¬(8:Int)≤6 by omega),aiu (show ¬(8:Int)=7 by omega),aiv (show (8:Int)=8 from rfl)]
   rw[hact]
   unfold EP
   by_cases h:0≤x.wish
   ·rw[aim (show x.wish≥0 from h),aii,aiv h]
   ·rw[aik (show ¬x.wish≥0 from h),aih,aiu h]
    by_cases h0:x.ono=0
    ·rw[aiv (Or.inl h0),r3 h0];rfl
    ·obtain⟨jo,dd,e1,e2,e3,_⟩:=r4 h0
     rw[e1,aik (show ¬(jo:Int)<0 by omega),aih,cM e2,ah4]
     by_cases e:x.ono=to
     ·rw[show (dd.2.2.1 != to)=false by have:dd.2.2.1=to:=e3.trans e
                                        simpa using this,aih,aiu (fun h'=>h'.elim h0 fun h''=>h'' e)]
     ·rw[show (dd.2.2.1 != to)=true by have:¬dd.2.2.1=to:=fun h'=>e (e3.symm.trans h')
                                       simpa using this,aii,aiv (Or.inr (show x.ono≠to from e))]
  ·rw[ah4,aih]
   have hq:qOk q false=true:=uq rfl
   have hm:=ry hq
   obtain⟨q0,q1,_⟩:=lY hq
   have hact:(bA o l i (day,byy,no,9,line,art,q,unit,p,un,to) x).1=(cR (cm o) (day,byy,no,9,line,art,q,unit,p,un,to) x).1:=by
    unfold bA
    rw[aiu (show ¬(9:Int)≤4 by omega),aiu (show ¬(9:Int)≤6 by omega),aiu (show ¬(9:Int)=7 by omega),aiu (show ¬(9:Int)=8 by omega),aiv (show (9:Int)=9 from rfl)]
    split
    ·rename_i h0;rw[h0]
    ·rfl
   rw[hact]
   have ha:=T7 hx1
   have hmo:=aam (o:=o) (l:=l) (L:=L) (ref:=ref) hx1 he.1 he.2
   have m0:0≤x.ord*cm o:=afR b4 he.1
   have m1:x.ord*cm o≤x.ord*1000:=afP he.2 b4
   generalize hM:x.ord+x.ord*cm o / 1000=M at hmo
   have hs:=uk (dn (n:=x.shp) (by omega))
   unfold cR
   rw[aiv (show (9:Int)=9 from rfl),hM]
   unfold bL at ha hmo ⊢
   dsimp only at ha hmo hs hq hm q0 q1 ⊢
   rw[ha,ah4]
   dsimp only
   rw[uk (dn (n:=x.shp - x.ret) (by omega)),ah4,uk hm,ah4,hmo,ah4]
   dsimp only
   rw[av (n:=x.shp - x.ret+aW q) (by omega) (by omega)]
   by_cases c:M<x.shp - x.ret+aW q
   ·rw[aim (show x.shp - x.ret+aW q>M from c),aii,aiv c]
   ·rw[aik (show ¬x.shp - x.ret+aW q>M from c),aih,aiu c,hs,ah4,ah4]
    dsimp only
    rw[av (n:=x.shp+aW q) (by omega) (by omega)]
    by_cases c2:1000000000000000<x.shp+aW q
    ·rw[aim (show x.shp+aW q>1000000000000000 from c2),aii,aiv c2]
    ·rw[aik (show ¬x.shp+aW q>1000000000000000 from c2),aih,aiu c2]
  ·rw[ah4,aih]
   have hq:qOk q false=true:=uq rfl
   have hm:=ry hq
   obtain⟨q0,q1,_⟩:=lY hq
   have hact:(bA o l i (day,byy,no,10,line,art,q,unit,p,un,to) x).1=(cR (cm o) (day,byy,no,10,line,art,q,unit,p,un,to) x).1:=by
    unfold bA
    rw[aiu (show ¬(10:Int)≤4 by omega),aiu (show ¬(10:Int)≤6 by omega),aiu (show ¬(10:Int)=7 by omega),aiu (show ¬(10:Int)=8 by omega),aiu (show ¬(10:Int)=9 by omega)]
   rw[hact]
   unfold cR
   rw[aiu (show ¬(10:Int)=9 by omega),aiv (show (10:Int)=10 from rfl)]
   unfold bL
   dsimp only at hq hm q0 q1 ⊢
   rw[s5 (dn (n:=x.rcv) (by omega)) hm,ah4]
   dsimp only
   rw[Bl (dn (n:=x.rcv+aW q) (by omega)) (dn (n:=x.shp) (by omega)),ah4,TY]
   by_cases c:x.shp<x.rcv+aW q
   ·rw[aiv c,aim (by omega),aii]
   ·rw[aiu c,aik (by omega),aih]
  ·rw[ah4,aih]
   have hq:qOk q false=true:=uq rfl
   have hm:=ry hq
   obtain⟨q0,q1,_⟩:=lY hq
   have hact:(bA o l i (day,byy,no,11,line,art,q,unit,p,un,to) x).1=(cR (cm o) (day,byy,no,11,line,art,q,unit,p,un,to) x).1:=by
    unfold bA
    rw[aiu (show ¬(11:Int)≤4 by omega),aiu (show ¬(11:Int)≤6 by omega),aiu (show ¬(11:Int)=7 by omega),aiu (show ¬(11:Int)=8 by omega),aiu (show ¬(11:Int)=9 by omega)]
   rw[hact]
   unfold cR
   rw[aiu (show ¬(11:Int)=9 by omega),aiu (show ¬(11:Int)=10 by omega)]
   unfold bL
   dsimp only at hq hm q0 q1 ⊢
   rw[s5 (dn (n:=x.ret) (by omega)) hm,ah4]
   dsimp only
   rw[Bl (dn (n:=x.ret+aW q) (by omega)) (dn (n:=x.rcv) (by omega)),ah4,TY]
   by_cases c:x.rcv<x.ret+aW q
   ·rw[aiv c,aim (by omega),aii]
   ·rw[aiu c,aik (by omega),aih]
end Go.Md
set_option linter.all false
namespace Go.Md
open Go.Dn
theorem bs {α β:Type} {e:Option α} {f:α→Option β} {r:α} {z:Option β} (h:e=some r) (h2:f r=z):Option.bind e f=z:=by rw[h];exact h2
theorem cg (l:List aI) (hl:l.length≤2000):iR l=some (l,()):=by
 have sH:maxLen=9223372036854775807:=rfl
 have hc:(decide ((0+(List.length l))*152≤140737488355328)&&decide (0+(List.length l)≤maxLen))=true:=by
  rw[afr];exact⟨aim (by omega),aim (by omega)⟩
 unfold iR
 rw[fh hc]
 cases l with
 | nil=>simp[both]
 | cons x r=>rfl
theorem mD {x:ak} (hx:LOk x) (v:ah):qx (x.no,x.art,x.unit,bR x.ord,pM x.price,x.due,bR x.shp,bR x.rcv,bR x.ret,v)=some (bL x,()):=by
 have b0:=hx.ret0;have b1:=hx.retr;have b2:=hx.rcvs;have b3:=hx.shp1;have b4:=hx.uC;have b5:=hx.ord1
 exact TR (s:=(x.no,x.art,x.unit,bR x.ord,pM x.price,x.due,bR x.shp,bR x.rcv,bR x.ret,v)) (dn (n:=x.ord) (by omega)) (dn (n:=x.shp) (by omega)) (dn (n:=x.ret) (by omega)) (by omega)
abbrev BkT:Type:=aj×(List aa)×(List aq)×(List ah)×Unit
theorem acw {o:aj} {l:List aa} {ref:List ah} {L1:List aq} {k:Nat} {y:aq} {x:ak} {v:ah} (hk:L1[k]? =some y)
 (hs:y.1=(x.no,x.art,x.unit,bR x.ord,pM x.price,x.due,bR x.shp,bR x.rcv,bR x.ret,v)) (hx:LOk x) (hev:y.2.2.2.length≤2000) (i:Int):
 (Option.bind (L1[k]?) fun y37=>Option.bind (qx y37.1) fun r38=>Option.bind (L1[k]?) fun y39=>Option.bind ((List.set L1 k (r38.1,y39.2))[k]?) fun y40=>
   Option.bind (iR y40.2.2.2) fun r41=>Option.bind ((List.set L1 k (r38.1,y39.2))[k]?) fun y42=>
   chk (decide (((r41.1.length)+1)*152≤140737488355328)&&decide ((r41.1.length)+1≤maxLen)) <|
   Option.bind ((List.set L1 k (r38.1,y39.2))[k]?) fun y43=>
   some (((o,l,List.set (List.set L1 k (r38.1,y39.2)) k (y43.1,y43.2.1,y43.2.2.1,r41.1++[(i,y42.1)]),ref,()):BkT),()))=
 some (((o,l,L1.set k (bL x,y.2.1,y.2.2.1,y.2.2.2++[(i,bL x)]),ref,()):BkT),()):=by
 have hlt:=(agD.1 hk).1
 have sH:maxLen=9223372036854775807:=rfl
 have hr:=mD hx v
 rw[← hs] at hr
 rw[hk,ah4,hr,ah4,ah4]
 dsimp only
 have hg:(List.set L1 k (bL x,y.2))[k]? =some (bL x,y.2):=by rw[agJ hlt]
 rw[hg,ah4,cg y.2.2.2 hev,ah4,ah4]
 dsimp only
 rw[fh (by rw[afr];exact⟨aim (by omega),aim (by omega)⟩),ah4,ahm]
theorem Wg {l:List aa} {L:List aq} {k:Nat} {y:aq} {w:aa} (hk:L[k]? =some y) (hw:idx l y.2.1=some w) (hf:bF w=0) (h4:aL w≤4):
 iq l L k=some (L.set k
  (if aL w≤2 then (y.1.1,y.1.2.1,y.1.2.2.1,bR (aW (dQ w)),y.1.2.2.2.2)
   else if aL w=3 then (y.1.1,y.1.2.1,y.1.2.2.1,y.1.2.2.2.1,y.1.2.2.2.2.1,gG w,y.1.2.2.2.2.2.2)
   else (y.1.1,y.1.2.1,y.1.2.2.1,y.1.2.2.2.1,pM (I5 w),y.1.2.2.2.2.2), -1,y.2.2)):=by
 obtain⟨_,_,_,hkd,_,_,hu⟩:=bU hf
 obtain⟨uq,up,_⟩:=dR hu
 have hlt:=(agD.1 hk).1
 unfold iq kH
 rw[hk,ah4,hw,ah4]
 obtain⟨day,byy,no,kind,line,art,q,unit,p,un,to⟩:=w
 dsimp only at hkd h4 uq up ⊢
 have hkk:kind=1∨kind=2∨kind=3∨kind=4:=by
  have h1:1≤kind:=hkd.1
  have h2:kind≤4:=h4
  omega
 rcases hkk with rfl | rfl | rfl | rfl
 ·rw[Is (uq rfl)]
  simp only[Int.reduceBEq,aii,aih,ah4,agJ hlt,ahm]
  rfl
 ·rw[Is (uq rfl)]
  simp only[Int.reduceBEq,aii,aih,ah4,agJ hlt,ahm]
  rfl
 ·simp only[Int.reduceBEq,aii,aih,ah4,agJ hlt,ahm]
  rfl
 ·rw[Ir (up rfl)]
  simp only[Int.reduceBEq,aii,aih,ah4,agJ hlt,ahm]
  rfl
end Go.Md
set_option linter.all false
namespace Go.Md
open Go.Dn
def aeK (l:List aa) (x:ak) (off:Int):Prop:=
 (x.ono=0→off= -1)∧(x.ono≠0→∃ (j:Nat) (d:aa),off=(j:Int)∧l[j]? =some d∧dNo d=x.ono∧aW (dQ d)=x.oq∧gG d=x.ount∧aL d=7)
variable {o:aj} {l:List aa} {A:List ak} {L:List aq} {ref:List ah} {P:Int→List aI}
theorem DP {β:Type} {n:Nat} {x y:Option β} (h:n≤2000) (e:x=y):chk (decide ((n+1)*152≤140737488355328)&&decide (n+1≤maxLen)) x=y:=by
 have sH:maxLen=9223372036854775807:=rfl
 rw[fh (by rw[afr];exact⟨aim (by omega),aim (by omega)⟩),e]
theorem PA {o:aj} {l:List aa} {i:Nat} {d:aa} {x:ak} (hk:aL d≤4) (h0:(bA o l i d x).1=0):(bA o l i d x).2={ x with wish:=(i:Int) }:=by
 unfold bA vk at h0 ⊢
 rw[aiv hk] at h0 ⊢
 split at h0
 ·cases h0
 ·rename_i h1
  rw[aiu h1]
  split at h0
  ·cases h0
  ·rename_i h2
   rw[aiu h2]
theorem ad9 {o:aj} {l:List aa} {i:Nat} {d:aa} {x:ak} (hk:aL d=6) (h0:(bA o l i d x).1=0):(bA o l i d x).2=({ x with wish:= -1 }:ak).clr:=by
 unfold bA at h0 ⊢
 rw[aiu (show ¬aL d≤4 by omega),aiv (show aL d≤6 by omega)] at h0 ⊢
 have h0':(bZ l d x).1=0:=by
  split at h0
  ·rename_i h;exact h
  ·exact h0
 rw[aiv h0']
 unfold bZ at h0' ⊢
 split at h0'
 ·cases h0'
 ·rename_i h1
  rw[aiu h1]
  split at h0'
  ·cases h0'
  ·rename_i h2
   rw[aiu h2,aiu (show ¬aL d=5 by omega)]
theorem adh {o:aj} {l:List aa} {i:Nat} {d w:aa} {x:ak} (hw:l[x.wish.toNat]? =some w) (hw4:1≤aL w∧aL w≤4) (hk:aL d=5) (h0:(bA o l i d x).1=0):
 (bA o l i d x).2=(if aL w≤2 then ({ x with ord:=aW (dQ w),wish:= -1 }:ak) else if aL w=3 then { x with due:=gG w,wish:= -1 } else { x with price:=I5 w,wish:= -1 }).clr:=by
 unfold bA at h0 ⊢
 rw[aiu (show ¬aL d≤4 by omega),aiv (show aL d≤6 by omega)] at h0 ⊢
 have h0':(bZ l d x).1=0:=by
  split at h0
  ·rename_i h;exact h
  ·exact h0
 rw[aiv h0']
 unfold bZ at h0' ⊢
 rw[uw hw] at h0' ⊢
 split at h0'
 ·cases h0'
 ·rename_i h1
  rw[aiu h1]
  split at h0'
  ·cases h0'
  ·rename_i h2
   rw[aiu h2,aiv hk]
   by_cases k2:aL w=2
   ·rw[aiv k2] at h0' ⊢
    rw[aiv (show aL w≤2 by omega)]
    split at h0'
    ·cases h0'
    ·rename_i h3
     rw[aiu h3]
   ·rw[aiu k2]
    by_cases k3:aL w=1
    ·rw[aiv k3,aiv (show aL w≤2 by omega)]
    ·rw[aiu k3,aiu (show ¬aL w≤2 by omega)]
     by_cases k4:aL w=3
     ·rw[aiv k4,aiv k4]
     ·rw[aiu k4,aiu k4]
theorem ac1 {o:aj} {l:List aa} {i:Nat} {d:aa} {x:ak} (hk:aL d=5) (h0:(bA o l i d x).1=0):0≤x.wish:=by
 unfold bA at h0
 rw[aiu (show ¬aL d≤4 by omega),aiv (show aL d≤6 by omega)] at h0
 have h0':(bZ l d x).1=0:=by
  split at h0
  ·rename_i h;exact h
  ·exact h0
 unfold bZ at h0'
 split at h0'
 ·cases h0'
 ·omega
theorem aaF {o:aj} {l:List aa} {i:Nat} {d:aa} {x:ak} (hk:aL d=7) (h0:(bA o l i d x).1=0):(bA o l i d x).2={ x with ono:=dNo d,oq:=aW (dQ d),ount:=gG d }:=by
 unfold bA at h0 ⊢
 rw[aiu (show ¬aL d≤4 by omega),aiu (show ¬aL d≤6 by omega),aiv hk] at h0 ⊢
 split at h0
 ·rename_i h;rw[aiv h]
 ·rename_i h;exact absurd h0 h
theorem ach {o:aj} {l:List aa} {i:Nat} {d:aa} {x:ak} (hk:aL d=8) (h0:(bA o l i d x).1=0):x.ono≠0∧(bA o l i d x).2={ x with ord:=x.shp - x.ret+x.oq,due:=x.ount,ono:=0,oq:=0,ount:=0 }:=by
 unfold bA EP at h0 ⊢
 rw[aiu (show ¬aL d≤4 by omega),aiu (show ¬aL d≤6 by omega),aiu (show ¬aL d=7 by omega),aiv hk] at h0 ⊢
 split at h0
 ·cases h0
 ·rename_i h1
  rw[aiu h1]
  split at h0
  ·cases h0
  ·rename_i h2
   rw[aiu h2]
   exact⟨fun e=>h2 (Or.inl e),rfl⟩
theorem acg {o:aj} {l:List aa} {i:Nat} {d:aa} {x:ak} (hk:aL d=9) (h0:(bA o l i d x).1=0):(bA o l i d x).2=({ x with shp:=x.shp+aW (dQ d) }:ak).clr:=by
 unfold bA at h0 ⊢
 rw[aiu (show ¬aL d≤4 by omega),aiu (show ¬aL d≤6 by omega),aiu (show ¬aL d=7 by omega),aiu (show ¬aL d=8 by omega),aiv hk] at h0 ⊢
 have h0':(cR (cm o) d x).1=0:=by
  split at h0
  ·rename_i h;exact h
  ·exact h0
 rw[aiv h0']
 unfold cR at h0' ⊢
 rw[aiv hk] at h0' ⊢
 split at h0'
 ·cases h0'
 ·rename_i h1
  rw[aiu h1]
  split at h0'
  ·cases h0'
  ·rename_i h2
   rw[aiu h2]
theorem ace {o:aj} {l:List aa} {i:Nat} {d:aa} {x:ak} (hk:aL d=10) (h0:(bA o l i d x).1=0):(bA o l i d x).2={ x with rcv:=x.rcv+aW (dQ d) }:=by
 unfold bA cR at h0 ⊢
 rw[aiu (show ¬aL d≤4 by omega),aiu (show ¬aL d≤6 by omega),aiu (show ¬aL d=7 by omega),aiu (show ¬aL d=8 by omega),aiu (show ¬aL d=9 by omega),aiu (show ¬aL d=9 by omega),aiv hk] at h0 ⊢
 split at h0
 ·cases h0
 ·rename_i h1
  rw[aiu h1]
theorem acf {o:aj} {l:List aa} {i:Nat} {d:aa} {x:ak} (hk:aL d=11) (h0:(bA o l i d x).1=0):(bA o l i d x).2={ x with ret:=x.ret+aW (dQ d) }:=by
 unfold bA cR at h0 ⊢
 rw[aiu (show ¬aL d≤4 by omega),aiu (show ¬aL d≤6 by omega),aiu (show ¬aL d=7 by omega),aiu (show ¬aL d=8 by omega),aiu (show ¬aL d=9 by omega),aiu (show ¬aL d=9 by omega),aiu (show ¬aL d=10 by omega)] at h0 ⊢
 split at h0
 ·cases h0
 ·rename_i h1
  rw[aiu h1]
theorem acC {kind byy:Int} (h1:1≤kind∧kind≤11) (h2:1≤byy∧byy≤2) (h3:(kind=5∨kind=6∨kind=7∨kind=9)↔byy=2) (k1:kind≠1):(kind=2∧byy=1)∨(kind=3∧byy=1)∨(kind=4∧byy=1)∨(kind=5∧byy=2)∨(kind=6∧byy=2)∨(kind=7∧byy=2)∨(kind=8∧byy=1)∨(kind=9∧byy=2)∨(kind=10∧byy=1)∨(kind=11∧byy=1):=by omega
set_option maxHeartbeats 2000000 in
theorem ZR (hB:AA l P A L) (hA:Good l A) (hI:Ids A) (hl:∀ d,d∈l→bF d=0) (he:0≤cm o∧cm o≤1000) {i:Nat} {d:aa} (hd:l[i]? =some d)
 {k:Nat} {x:ak} {y:aq} (hf:sF (dH d) A=some k) (hx:(bT A)[k]? =some x) (hy:L[k]? =some y) (hr:SI l P x y) (hev:(P x.no).length≤2000)
 (hx1:LOk x) (hx2:WOk l x) (hx':LOk (bA o l i d x).2) (k1:aL d≠1) (h0:(bA o l i d x).1=0):
 ∃ off,kP (o,l,L,ref,()) (i:Int)=some ((o,l,L.set k (bL (bA o l i d x).2,(bA o l i d x).2.wish,off,P x.no++[((i:Int),bL (bA o l i d x).2)]),ref,()),())∧aeK l (bA o l i d x).2 off:=by
 obtain⟨_,hb2,hno,hk,hby,_,hu⟩:=bU (hl d (ahb hd))
 obtain⟨uq,_⟩:=dR hu
 have b0:=hx1.ret0;have b1:=hx1.retr;have b2:=hx1.rcvs;have b3:=hx1.shp1;have b4:=hx1.uC;have b5:=hx1.ord1
 have hlt:=(agD.1 hy).1
 unfold kP
 dsimp only
 rw[cM hd,ah4,show ((o,l,L,ref):eU)=(o,l,L,ref) from rfl,Gc hB hI.len l,ah4,show sF d.2.2.2.2.1 A=some k from hf]
 dsimp only
 rw[aik (show ¬(k:Int)<0 by omega),aih,aU]
 dsimp only
 rw[fh (by rw[afr];exact⟨aim (by omega),aim (by omega)⟩),af4]
 obtain⟨day,byy,no,kind,line,art,q,unit,p,un,to⟩:=d
 dsimp only at hk k1 uq hby hb2 hno hf ⊢
 obtain⟨ys,yw,yo,ye⟩:=y
 have r1:=hr.st;have r2:=hr.wish;have r3:=hr.off0;have r4:=hr.off1;have r5:=hr.ev
 dsimp only at r1 r2 r3 r4 r5
 subst r1;subst r2;subst r5
 have k1':kind≠1:=k1
 have hk':1≤kind∧kind≤11:=hk
 have h11:=acC hk' hb2 hby k1'
 rcases h11 with ⟨rfl,rfl⟩ | ⟨rfl,rfl⟩ | ⟨rfl,rfl⟩ | ⟨rfl,rfl⟩ | ⟨rfl,rfl⟩ | ⟨rfl,rfl⟩ | ⟨rfl,rfl⟩ | ⟨rfl,rfl⟩ | ⟨rfl,rfl⟩ | ⟨rfl,rfl⟩
 all_goals simp only[Int.reduceBEq,aii,aih,aU,hy,ah4,agJ hlt,ahm]
 ·have e:(bA o l i (day,1,no,2,line,art,q,unit,p,un,to) x).2={ x with wish:=(i:Int) }:=PA (by show (2:Int)≤4;omega) h0
  rw[e] at hx' ⊢
  exact⟨yo,bs (mD hx' (bR x.opn)) (bs (cg _ hev) (DP hev rfl)),r3,r4⟩
 ·have e:(bA o l i (day,1,no,3,line,art,q,unit,p,un,to) x).2={ x with wish:=(i:Int) }:=PA (by show (3:Int)≤4;omega) h0
  rw[e] at hx' ⊢
  exact⟨yo,bs (mD hx' (bR x.opn)) (bs (cg _ hev) (DP hev rfl)),r3,r4⟩
 ·have e:(bA o l i (day,1,no,4,line,art,q,unit,p,un,to) x).2={ x with wish:=(i:Int) }:=PA (by show (4:Int)≤4;omega) h0
  rw[e] at hx' ⊢
  exact⟨yo,bs (mD hx' (bR x.opn)) (bs (cg _ hev) (DP hev rfl)),r3,r4⟩
 ·have hwi:=ac1 rfl h0
  obtain⟨w,hw1,hw2⟩:=hx2.kind hwi
  have hwf:=hl w (ahb hw1)
  obtain⟨_,_,_,hwk,_⟩:=bU hwf
  have e:=adh hw1 ⟨hwk.1,hw2⟩ rfl h0
  rw[e] at hx' ⊢
  have hg:(L.set k (bL x,x.wish, -1,P x.no))[k]? =some (bL x,x.wish, -1,P x.no):=agJ hlt
  rw[Wg hg (Ko hwi hw1) hwf hw2,ah4,aU]
  simp only[ahm,agJ hlt,ah4]
  refine⟨-1, ?_,fun _=> ?_,fun h=>absurd ?_ h⟩
  ·by_cases c2:aL w≤2
   ·simp only[aiv c2] at hx' ⊢
    exact bs (mD hx' (bR x.opn)) (bs (cg _ hev) (DP hev rfl))
   ·by_cases c3:aL w=3
    ·simp only[aiu c2,aiv c3] at hx' ⊢
     exact bs (mD hx' (bR x.opn)) (bs (cg _ hev) (DP hev rfl))
    ·simp only[aiu c2,aiu c3] at hx' ⊢
     exact bs (mD hx' (bR x.opn)) (bs (cg _ hev) (DP hev rfl))
  ·rfl
  ·rfl
 ·have e:=ad9 rfl h0
  rw[e] at hx' ⊢
  exact⟨-1,bs (mD hx' (bR x.opn)) (bs (cg _ hev) (DP hev rfl)),fun _=>rfl,fun h=>absurd rfl h⟩
 ·have e:=aaF rfl h0
  rw[e] at hx' ⊢
  exact⟨i,bs (mD hx' (bR x.opn)) (bs (cg _ hev) (DP hev rfl)),fun h=>absurd h (by show ¬no=0;omega),fun _=>⟨i,_,rfl,hd,rfl,rfl,rfl,rfl⟩⟩
 ·obtain⟨hne,e⟩:=ach rfl h0
  rw[e] at hx' ⊢
  obtain⟨jo,dd,e1,e2,e3,e4,e5,e6⟩:=r4 hne
  subst e1
  obtain⟨_,_,_,_,_,_,hdu⟩:=bU (hl dd (ahb e2))
  have hdq:qOk (dQ dd) (aL dd==2)=true:=(dR hdu).1 (by rw[e6];rfl)
  have hp:mC (bR (x.shp - x.ret)) (dQ dd)=some (bR (x.shp - x.ret+x.oq),()):=by
   rw[← e4];exact s5 (dn (n:=x.shp - x.ret) (by omega)) (ry hdq)
  rw[T7 hx1,ah4,cM e2,ah4]
  simp only[ah4]
  rw[hp,ah4,aU]
  simp only[ahm,agJ hlt,ah4]
  have e5':dd.2.2.2.2.2.2.2.2.2.1=x.ount:=e5
  rw[e5']
  exact⟨-1,bs (mD hx' (bR x.opn)) (bs (cg _ hev) (DP hev rfl)),fun _=>rfl,fun h=>absurd rfl h⟩
 ·have e:=acg rfl h0
  rw[e] at hx' ⊢
  have hp:mC (bL x).2.2.2.2.2.2.1 (q.1,q.2)=some (bR (x.shp+aW q),()):=s5 (dn (n:=x.shp) (by omega)) (ry (show qOk q false=true from uq rfl))
  rw[hp,ah4,aU]
  simp only[ahm,agJ hlt,ah4]
  exact⟨-1,bs (mD hx' (bR x.opn)) (bs (cg _ hev) (DP hev rfl)),fun _=>rfl,fun h=>absurd rfl h⟩
 ·have e:=ace rfl h0
  rw[e] at hx' ⊢
  have hp:mC (bL x).2.2.2.2.2.2.2.1 (q.1,q.2)=some (bR (x.rcv+aW q),()):=s5 (dn (n:=x.rcv) (by omega)) (ry (show qOk q false=true from uq rfl))
  rw[hp,ah4,aU]
  simp only[ahm,agJ hlt,ah4]
  exact⟨yo,bs (mD hx' (bR x.opn)) (bs (cg _ hev) (DP hev rfl)),r3,r4⟩
 ·have e:=acf rfl h0
  rw[e] at hx' ⊢
  have hp:mC (bL x).2.2.2.2.2.2.2.2.1 (q.1,q.2)=some (bR (x.ret+aW q),()):=s5 (dn (n:=x.ret) (by omega)) (ry (show qOk q false=true from uq rfl))
  rw[hp,ah4,aU]
  simp only[ahm,agJ hlt,ah4]
  exact⟨yo,bs (mD hx' (bR x.opn)) (bs (cg _ hev) (DP hev rfl)),r3,r4⟩
end Go.Md
set_option linter.all false
namespace Go.Md
open Go.Dn
variable {o:aj} {l:List aa} {A:List ak} {L:List aq} {ref:List ah} {P:Int→List aI}
theorem TA {α:Type} (l:List α) {p:Nat} (v:α) (h:p≤l.length):(l.take p++(v::l.drop p))[p]? =some v:=by
 rw[agx (by rw[agV];omega),agV,show p - min p l.length=0 by omega];rfl
theorem adz {α:Type} (l:List α) {p:Nat} (v v':α) (h:p≤l.length):(l.take p++(v::l.drop p)).set p v'=l.take p++(v'::l.drop p):=by
 rw[List.set_append_right _ _ (by rw[agV];omega),agV,show p - min p l.length=0 by omega];rfl
theorem VX:bR 0=(0,0):=by unfold bR;rw[Qh];rfl
theorem aac (i:Nat) (d:aa):LOk (gC i d):=⟨by show (0:Int)≤0;omega,by show (0:Int)≤0;omega,by show (0:Int)≤0;omega,by show (0:Int)≤_;omega,by show (0:Int)≤0;omega,by show (0:Int)≤_;omega,fun e=>absurd rfl e⟩
theorem ZT {M:List ak} (hlen:L.length=M.length) (hst:∀ (k:Nat) x y,M[k]? =some x→L[k]? =some y→y.1=bL x) (hM:M.length≤500) (n:Nat) (hn:M.length<n) {a b c e e9 f g i2 j2 k2 p2 q2 r2:Int} {u v w s t:Bys} {no:Int} {z1:List aH}:
 iter (X:=mQ) (β:=qL) n (a,0,b,c,e,f,no,u,g,i2,v,j2,k2,p2,q2,w,s,t,r2,e9,z1,l,L,ref,()) qK=
  some (Sum.inr (a,(gL no M:Int),b,c,e,f,no,u,g,i2,v,j2,k2,p2,q2,w,s,t,r2,e9,z1,l,L,ref,())):=by
 have hp:=Oa no M
 refine cN (Inv:=fun i X=>X=((a,(i:Int),b,c,e,f,no,u,g,i2,v,j2,k2,p2,q2,w,s,t,r2,e9,z1,l,L,ref,()):mQ)) (gL no M) (fun z=>z=some (Sum.inr (a,(gL no M:Int),b,c,e,f,no,u,g,i2,v,j2,k2,p2,q2,w,s,t,r2,e9,z1,l,L,ref,()))) ?_ ?_ n 0 _ rfl (ah2 _) (by omega)
 ·rintro i X again hi rfl hag
  unfold qK
  dsimp only
  have hi2:i<M.length:=by omega
  have hy:L[i]? =some L[i]:=agB (by omega)
  have hs:=hst i _ _ (agB hi2) hy
  rw[aim (show (i:Int)<(L.length:Int) by omega),aii]
  rw[fh (by rw[afr];exact⟨aim (by omega),rfl⟩),af4,hy,ah4,ah4,hs]
  have hlt:=Zl no M i _ hi (agB hi2)
  dsimp only
  rw[aim (show (bL M[i]).1<no from hlt),aii,av (n:=(i:Int)+1) (by omega) (by omega)]
  exact hag _ rfl
 ·rintro X again rfl
  unfold qK
  dsimp only
  by_cases h:gL no M<M.length
  ·have hy:L[gL no M]? =some (L[gL no M]'(by omega)):=agB (by omega)
   have hs:=hst _ _ _ (agB h) hy
   rw[aim (show ((gL no M:Nat):Int)<(L.length:Int) by omega),aii]
   rw[fh (by rw[afr];exact⟨aim (by omega),rfl⟩),af4,hy,ah4,ah4,hs]
   have hge:=Zk no M _ (agB h)
   dsimp only
   rw[aik (show ¬(bL M[gL no M]).1<no from hge),aih]
  ·rw[aik (show ¬((gL no M:Nat):Int)<(L.length:Int) by omega),aih]
   rfl
set_option maxHeartbeats 1000000 in
theorem ZS (hB:AA l P A L) (hI:Ids A) (hl:∀ d,d∈l→bF d=0) {i:Nat} {d:aa} (hd:l[i]? =some d) (hf:sF (dH d) A=none) (k1:aL d=1):
 kP (o,l,L,ref,()) (i:Int)=some ((o,l,L.take (gL (dH d) (bT A))++((bL (gC i d),(i:Int), -1,[((i:Int),bL (gC i d))])::L.drop (gL (dH d) (bT A))),ref,()),()):=by
 obtain⟨_,hb2,hno,hk,hby,_,hu⟩:=bU (hl d (ahb hd))
 obtain⟨_,up,_⟩:=dR hu
 have hlen:=hI.len
 have hsl:(bT A).length=A.length:=(eN A).length_eq
 have hL:=hB.len
 have hps:=Oa (dH d) (bT A)
 unfold kP
 dsimp only
 rw[cM hd,ah4,Gc hB hI.len l,ah4,show sF d.2.2.2.2.1 A=none from hf]
 dsimp only
 rw[aim (show (-1:Int)<0 by omega),aii]
 rw[ZT (M:=bT A) hB.len (fun k x y hx hy=>(hB.rel k x y hx hy).st) (by omega) _ (by omega),aU]
 dsimp only
 obtain⟨day,byy,no,kind,line,art,q,unit,p,un,to⟩:=d
 dsimp only at hk k1 up hby hb2 hno hf ⊢
 have hps:gL line (bT A)≤(bT A).length:=hps
 have k1':kind=1:=k1
 subst k1'
 have hb1:byy=1:=by omega
 subst hb1
 rw[show gM (p.1,p.2)=some (pM p,()) from Ir (up rfl),ah4]
 dsimp only
 have hins:∀ v,ir L (gL line (bT A):Int) [v]=some (L.take (gL line (bT A))++(v::L.drop (gL line (bT A))),()):=by
  intro v
  show (bif _ then _ else _)=_
  rw[show (decide (0≤((gL line (bT A):Nat):Int))&&(decide (((gL line (bT A):Nat):Int)≤(L.length:Int))&&(decide (0<[v].length)&&(decide ((L.length+[v].length)*184≤140737488355328)&&decide (L.length+[v].length≤4611686018427387904)))))=true by
   simp only[afr,ain,agU];omega,aii,af4]
  rfl
 rw[hins,ah4,aU]
 dsimp only
 have hpl:gL line (bT A)≤L.length:=by omega
 rw[fh (by rw[afr];exact⟨aim (by omega),aim (by simp;omega)⟩),af4]
 simp only[Int.reduceBEq,aii,aih,aU]
 generalize hV:((((line,art,unit,(0,0),pM p,un,(0,0),(0,0),(0,0),0,0):ax),(i:Int), -1,[]):aq)=v
 have hget:=TA L v hpl
 have hset:=fun v'=>adz L v v' hpl
 subst hV
 refine (acw (x:=gC i (day,1,no,1,line,art,q,unit,p,un,to)) (v:=(0,0)) hget ?_ (aac _ _) (by show 0≤2000;omega) (i:Int)).trans ?_
 ·show _=(line,art,unit,bR 0,pM p,un,bR 0,bR 0,bR 0,(0,0))
  rw[VX]
 ·rw[hset];rfl
end Go.Md
set_option linter.all false
namespace Go.Md
open Go.Dn
theorem aeq {M:List ak} (hs:M.Pairwise fun x y=>x.no<y.no) {m k:Nat} {a b:ak} (ha:M[m]? =some a) (hb:M[k]? =some b) (h:a.no=b.no):m=k:=by
 obtain⟨hm,rfl⟩:=agD.1 ha
 obtain⟨hk,rfl⟩:=agD.1 hb
 rw[ahi] at hs
 rcases ahP m k with c | c | c
 ·have:=hs m k hm hk c;omega
 ·exact c
 ·have:=hs k m hk hm c;omega
variable {o:aj} {l:List aa} {A:List ak} {L:List aq} {ref:List ah} {P:Int→List aI}
theorem adX {M:List ak} (p:Nat) (hp:p≤M.length) (hL:L.length=M.length) {P':Int→List aI} {x:ak} {y:aq} (hr:∀ (k:Nat) a b,M[k]? =some a→L[k]? =some b→SI l P' a b) (hxy:SI l P' x y):
 ∀ (k:Nat) a b,(M.take p++x::M.drop p)[k]? =some a→(L.take p++y::L.drop p)[k]? =some b→SI l P' a b:=by
 intro k a b ha hb
 rcases ahP k p with c | c | c
 ·rw[agw (by rw[agV];omega),agL c] at ha hb
  exact hr k a b ha hb
 ·subst c
  rw[TA M x hp] at ha
  rw[TA L y (by omega)] at hb
  cases ha;cases hb;exact hxy
 ·rw[agx (by rw[agV];omega),agV,show k - min p M.length=(k - p - 1)+1 by omega,agy,agA] at ha
  rw[agx (by rw[agV];omega),agV,show k - min p L.length=(k - p - 1)+1 by omega,agy,agA] at hb
  exact hr _ a b ha hb
theorem follow_eq (hB:AA l P A L) (hA:Good l A) (hI:Ids A) (hl:∀ d,d∈l→bF d=0) (he:0≤cm o∧cm o≤1000) (hP:∀ wt,(P wt).length≤2000) (hN:∀ wt,(∀ x,x∈A→x.no≠wt)→P wt=[])
 {i:Nat} {d:aa} (hd:l[i]? =some d) (h0:(cE o l i d A).1=0):
 ∃ L',kP (o,l,L,ref,()) (i:Int)=some ((o,l,L',ref,()),())∧AA l (fun wt=>vU wt i d (cE o l i d A).2 (P wt)) (cE o l i d A).2 L':=by
 have hA':=Ew (o:=o) hA hl hd
 by_cases k1:aL d=1
 ·cases hf:sF (dH d) A with
  | some k=>
   obtain⟨x,j,_,_,hfl,_⟩:=Kl hI hf
   unfold cE at h0
   rw[aiv k1,hfl] at h0
   cases h0
  | none=>
   obtain⟨hfl,hne⟩:=Kk hf
   have hz:(cE o l i d A).2=A++[gC i d]:=by
    unfold cE at h0 ⊢
    rw[aiv k1,hfl] at h0 ⊢
    dsimp only at h0 ⊢
    split at h0
    ·cases h0
    ·rename_i c1
     rw[aiu c1]
     split at h0
     ·cases h0
     ·rename_i c2
      rw[aiu c2]
   refine⟨_,ZS hB hI hl hd hf k1, ?_⟩
   rw[hz]
   have hs:=acX hI (y:=gC i d) hne
   have hs':bT (A++[gC i d])=(bT A).take (gL (dH d) (bT A))++gC i d::(bT A).drop (gL (dH d) (bT A)):=hs
   have hps:=Oa (dH d) (bT A)
   have hlen:=hB.len
   have hlL:ot (dH d) (A++[gC i d])=some (gC i d):=by
    refine EF (k:=A.length) ?_ (by rw[agx (ahF _),Nat.sub_self];rfl)
    unfold eL
    rw[EC,show cB (dH d) 0 A=none from hfl,Option.none_or,aiv (show dH d=(gC i d).no from rfl),ah1]
   refine⟨?_, ?_⟩
   ·rw[hs']
    simp only[agN,agV,agO,agP]
    omega
   ·rw[hs']
    refine adX _ hps hlen (fun k a b ha hb=> ?_) ?_
    ·obtain⟨r1,r2,r3,r4,r5⟩:=hB.rel k a b ha hb
     have:dH d≠a.no:=fun e=>hne a ((eN A).mem_iff.1 (ahb ha)) e.symm
     exact⟨r1,r2,r3,r4,by rw[r5];unfold vU;rw[aiu this]⟩
    ·refine⟨rfl,rfl,fun _=>rfl,fun h=>absurd rfl h, ?_⟩
     show [((i:Int),bL (gC i d))]=vU (dH d) i d (A++[gC i d]) (P (dH d))
     unfold vU
     rw[aiv rfl,hlL,hN (dH d) hne]
     rfl
 ·cases hf:sF (dH d) A with
  | none=>
   obtain⟨hfl,_⟩:=Kk hf
   rw[J4 k1 hfl] at h0
   cases h0
  | some k=>
   obtain⟨x,j,hx,hxn,hfl,hxj⟩:=Kl hI hf
   obtain⟨y,hy,hr⟩:=hB.get hx
   obtain⟨hx1,hx2⟩:=hA.sound.line x (ahb hxj)
   rw[My k1 hfl hxj] at h0 hA' ⊢
   dsimp only at h0 hA' ⊢
   obtain⟨hx1',_,hno,_⟩:=EW (o:=o) hx1 hx2 hl hd
   obtain⟨off,hfo,hoff⟩:=ZR (ref:=ref) hB hA hI hl he hd hf hx hy hr (hP _) hx1 hx2 hx1' k1 h0
   refine⟨_,hfo, ?_⟩
   have hs:=acY hI (y:=(bA o l i d x).2) hxj hx hno
   have hkl:=(agD.1 hx).1
   have hky:=(agD.1 hy).1
   have hlL:ot (dH d) (A.set j (bA o l i d x).2)=some (bA o l i d x).2:=by
    refine EF (k:=j) ?_ (agJ (agD.1 hxj).1)
    have:eL (dH d) (A.set j (bA o l i d x).2)=eL (dH d) A:=Kj A 0 (fun z hz=>by rw[hxj] at hz;cases hz;exact hno)
    rw[this];exact hfl
   refine⟨by rw[hs,agT,agT];exact hB.len,fun m a b ha hb=> ?_⟩
   rw[hs] at ha
   by_cases c:k=m
   ·subst c
    rw[agJ hkl] at ha
    rw[agJ hky] at hb
    cases ha;cases hb
    refine⟨rfl,rfl,hoff.1,hoff.2, ?_⟩
    show P x.no++[((i:Int),bL (bA o l i d x).2)]=vU (bA o l i d x).2.no i d _ (P (bA o l i d x).2.no)
    unfold vU
    rw[hno,aiv hxn.symm,hlL]
   ·rw[agI c] at ha hb
    obtain⟨r1,r2,r3,r4,r5⟩:=hB.rel m a b ha hb
    have:dH d≠a.no:=fun e=>c (aeq (T3 hI) hx ha (by rw[hxn];exact e))
    exact⟨r1,r2,r3,r4,by rw[r5];unfold vU;rw[aiu this]⟩
end Go.Md
set_option linter.all false
namespace Go.Md
open Go.Dn
theorem Z5 {n:Int} {A:List ak} (h:∀ x,x∈A→x.no≠n):ot n A=none:=by
 unfold ot
 rw[show eL n A=none from Ik h];rfl
theorem An {o:aj} {l:List aa} {wt day:Int}:∀ (r:List aa) (i:Nat) (A:List ak) (ref:List (Int×Int)) (pts:List aI),(∀ d,d∈r→day<d.1)→jf o l wt day r i A ref pts=(A,ref,pts)
 | [],_,_,_,_,_=>rfl
 | d::r,i,A,ref,pts,h=>by simp only[jf];rw[aiv (h d (by simp))]
theorem abY {o1 o2 o3:Bys} {o4 o5:Int} {o6:List aH} {l:List aa} {day:Int} (he:0≤o5∧o5≤1000) (hl:∀ d,d∈l→bF d=0) (hlen:l.length≤2000) (hs:l.Pairwise fun a b=>a.1≤b.1):
 ∀ (r:List aa) (i n:Nat) (A:List ak) (L:List aq) (ref:List (Int×Int)) (P:Int→List aI),l.drop i=r→i≤l.length→Good l A→Ids A→AA l P A L→(∀ wt,(P wt).length≤i)→(∀ wt,ot wt A=none→P wt=[])→ref.length≤i→r.length<n→
  ∃ L',iter (X:=Ht) (β:=Hs) n (day,l,(l.length:Int),(i:Int),o1,o2,o3,o4,o5,o6,l,L,ref,()) Dx=some (Sum.inr (o1,o2,o3,o4,o5,o6,l,L',(jf (o1,o2,o3,o4,o5,o6) l 0 day r i A ref []).2.1,()))∧
   AA l (fun wt=>(jf (o1,o2,o3,o4,o5,o6) l wt day r i A ref (P wt)).2.2) (jf (o1,o2,o3,o4,o5,o6) l 0 day r i A ref []).1 L':=by
 intro r
 induction r with
 | nil=>
  intro i n A L ref P hd hi hA hI hB hp hN hr hn
  have:i=l.length:=by
   have:=congrArg List.length hd
   simp at this;omega
  subst this
  obtain⟨n,rfl⟩:∃ m,n=m+1:=⟨n - 1,by omega⟩
  refine⟨L, ?_,hB⟩
  rw[br]
  unfold Dx
  dsimp only
  rw[aik (show ¬((l.length:Int)<(l.length:Int)) by omega),aih]
  rfl
 | cons d r ih=>
  intro i n A L ref P hdr hi hA hI hB hp hN hr hn
  have hd:l[i]? =some d:=by
   have:=congrArg (·[0]?) hdr
   simpa [agA] using this
  have hr':l.drop (i+1)=r:=by
   have:=congrArg List.tail hdr
   simpa [aho] using this
  have hlt:i<l.length:=(agD.1 hd).1
  have hlate:∀ e,e∈r→d.1≤e.1:=by
   have h:=hs.sublist (List.drop_sublist i l)
   rw[hdr] at h
   exact fun e he=>(List.pairwise_cons.1 h).1 e he
  obtain⟨n,rfl⟩:∃ m,n=m+1:=⟨n - 1,by simp at hn;omega⟩
  rw[br]
  generalize hag:(fun y=>iter n y Dx)=again
  unfold Dx
  dsimp only
  rw[aim (show (i:Int)<(l.length:Int) by omega),aii,cM hd,ah4,av (n:=(i:Int)+1) (by omega) (by omega),show (i:Int)+1=((i+1:Nat):Int) by omega]
  have sH:maxLen=9223372036854775807:=rfl
  by_cases hday:day<d.1
  ·rw[aim (show d.1>day from hday),aii, ← hag]
   have hl1:∀ e,e∈d::r→day<e.1:=fun e he=>by
    rcases ag4.1 he with rfl | he
    ·exact hday
    ·have:=hlate e he;omega
   obtain⟨L',e1,e2⟩:=ih (i+1) n A L ref P hr' (by omega) hA hI hB (fun wt=>by have:=hp wt;omega) hN (by omega) (by simp at hn;omega)
   refine⟨L', ?_, ?_⟩
   ·refine e1.trans ?_
    rw[An r _ _ _ _ (fun e he=>hl1 e (by simp[he])),An (d::r) _ _ _ _ hl1]
   ·have w:∀ wt,jf (o1,o2,o3,o4,o5,o6) l wt day (d::r) i A ref (P wt)=jf (o1,o2,o3,o4,o5,o6) l wt day r (i+1) A ref (P wt):=fun wt=>by
     rw[An r _ _ _ _ (fun e he=>hl1 e (by simp[he])),An (d::r) _ _ _ _ hl1]
    have w0:jf (o1,o2,o3,o4,o5,o6) l 0 day (d::r) i A ref []=jf (o1,o2,o3,o4,o5,o6) l 0 day r (i+1) A ref []:=by
     rw[An r _ _ _ _ (fun e he=>hl1 e (by simp[he])),An (d::r) _ _ _ _ hl1]
    rw[w0]
    simp only[w]
    exact e2
  ·rw[aik (show ¬d.1>day from hday),aih]
   have hrf:=VE (o:=(o1,o2,o3,o4,o5,o6)) (ref:=ref) hB hA hI hl he hd
   rw[hrf,ah4]
   dsimp only
   have hgood:=Ew (o:=(o1,o2,o3,o4,o5,o6)) hA hl hd
   have hids:=Un (o:=(o1,o2,o3,o4,o5,o6)) hA hI hl hd
   simp only[jf,aiu hday]
   by_cases h0:(cE (o1,o2,o3,o4,o5,o6) l i d A).1=0
   ·simp only[aiu (show ¬(cE (o1,o2,o3,o4,o5,o6) l i d A).1≠0 from fun h=>h h0)]
    rw[h0,zne,aih]
    obtain⟨L1,f1,f2⟩:=follow_eq (ref:=ref) hB hA hI hl he (fun wt=>by have:=hp wt;omega) (fun wt h=>hN wt (Z5 h)) hd h0
    rw[f1,ah4]
    dsimp only
    rw[← hag]
    have pl:∀ wt,(vU wt i d (cE (o1,o2,o3,o4,o5,o6) l i d A).2 (P wt)).length≤i+1:=fun wt=>by
     have:=hp wt
     unfold vU
     split
     ·split
      ·simp;omega
      ·omega
     ·omega
    have pn:∀ wt,ot wt (cE (o1,o2,o3,o4,o5,o6) l i d A).2=none→vU wt i d (cE (o1,o2,o3,o4,o5,o6) l i d A).2 (P wt)=[]:=fun wt h=>by
     by_cases e:dH d=wt
     ·subst e
      obtain⟨k,x,hk,hx⟩:=OX hA.sound hl hd h0
      rw[EF hk hx] at h;cases h
     ·unfold vU
      rw[aiu e]
      rw[X3 hA.sound hl hd e] at h
      exact hN wt h
    obtain⟨L',e1,e2⟩:=ih (i+1) n _ L1 ref _ hr' (by omega) hgood hids f2 pl pn (by omega) (by simp at hn;omega)
    have w:=TV (o:=(o1,o2,o3,o4,o5,o6)) (l:=l) 0 0 day r (i+1) (cE (o1,o2,o3,o4,o5,o6) l i d A).2 ref (vU 0 i d (cE (o1,o2,o3,o4,o5,o6) l i d A).2 []) []
    rw[w.1,w.2]
    exact⟨L',e1,e2⟩
   ·simp only[aiv (show (cE (o1,o2,o3,o4,o5,o6) l i d A).1≠0 from h0)]
    rw[cq h0,aii]
    rw[fh (by rw[afr];exact⟨aim (by omega),aim (by omega)⟩)]
    rw[← hag]
    have hsame:=(Wy (o:=(o1,o2,o3,o4,o5,o6)) hA.sound hl hd).2 h0
    rw[hsame]
    exact ih (i+1) n A L _ P hr' (by omega) hA hI hB (fun wt=>by have:=hp wt;omega) hN (by simp;omega) (by simp at hn;omega)
theorem ZJ {l:List aa} (h:lH l=0):l.Pairwise fun a b=>a.1≤b.1:=
 (ZI h).1.imp fun {a b} h=>by
   have:=(Y4 a b).1 h
   unfold Lex at this
   omega
theorem Z6 {o:aj} (ho:kK o=0) (l:List aa):AA l (fun _=>[]) (jV o) ((jV o).map fun x=>(bL x, -1, -1,[])):=by
 have hI:=Nb ho
 obtain⟨_,_,_,_,hgo,_⟩:=vN ho
 obtain⟨_,_,hpw⟩:=oN hgo
 have hs:bT (jV o)=jV o:=T4 (List.Perm.refl _) (by rw[ahj];exact hpw)
 refine⟨by rw[hs,agQ],fun k x y hx hy=> ?_⟩
 rw[hs] at hx
 rw[agE,hx] at hy
 cases hy
 obtain⟨q,_,rfl⟩:=ag9.1 (ahb hx)
 exact⟨rfl,rfl,fun _=>rfl,fun h=>absurd rfl h,rfl⟩
theorem Z7 {o1 o2 o3:Bys} {o4 o5:Int} {o6:List aH} (ho:kK (o1,o2,o3,o4,o5,o6)=0) (l:List aa) (day:Int) (n:Nat) (hn:o6.length<n):
 iter (X:=Dy) (β:=Hr) n (l,day,o6,(o6.length:Int),0,o1,o2,o3,o4,o5,o6,l,[],[],()) Hq=some (Sum.inr (l,day,o1,o2,o3,o4,o5,o6,l,(jV (o1,o2,o3,o4,o5,o6)).map (fun x=>(bL x, -1, -1,[])),[],())):=by
 obtain⟨_,_,hl5,_,hgo,_⟩:=vN ho
 obtain⟨hln,_,_⟩:=oN hgo
 have hg:=EI ho l
 have hl5:o6.length≤500:=hl5
 have sH:maxLen=9223372036854775807:=rfl
 refine cN (Inv:=fun i X=>X=((l,day,o6,(o6.length:Int),(i:Int),o1,o2,o3,o4,o5,o6,l,((o6.take i).map lM).map (fun x=>(bL x, -1, -1,[])),[],()):Dy)) o6.length (fun z=>z=some (Sum.inr (l,day,o1,o2,o3,o4,o5,o6,l,(jV (o1,o2,o3,o4,o5,o6)).map (fun x=>(bL x, -1, -1,[])),[],()))) ?_ ?_ n 0 _ rfl (ah2 _) (by omega)
 ·rintro i X again hi rfl hag
  unfold Hq
  dsimp only
  have hx:o6[i]? =some o6[i]:=agB hi
  obtain⟨_,h2,_,h4,_⟩:=hln _ (ahb hx)
  have hok:=(hg.sound.line (lM o6[i]) (ag9.2 ⟨_,ahb hx,rfl⟩)).1
  rw[aim (show (i:Int)<(o6.length:Int) by omega),aii,cM hx,ah4,Is h2,ah4,Ir h4,ah4]
  have hre:=mD hok (0,0)
  have e0:bR (lM o6[i]).shp=(0,0):=VX
  have e1:bR (lM o6[i]).rcv=(0,0):=VX
  have e2:bR (lM o6[i]).ret=(0,0):=VX
  rw[e0,e1,e2] at hre
  refine bs hre ?_
  dsimp only
  rw[fh (by rw[afr];exact⟨aim (by simp;omega),aim (by simp;omega)⟩),av (n:=(i:Int)+1) (by omega) (by omega)]
  refine hag _ ?_
  rw[lF hx,agW,agW]
  rfl
 ·rintro X again rfl
  unfold Hq
  dsimp only
  rw[aik (show ¬(o6.length:Int)<(o6.length:Int) by omega),aih,aht]
theorem abU {o:aj} {l:List aa} (h:fL o l=0) (day:Int):
 ∃ L,Sk o l day=some ((o,l,L,(vA o l 0 day).2.1,()),())∧AA l (fun wt=>(vA o l wt day).2.2) (vA o l 0 day).1 L:=by
 obtain⟨h1,h2⟩:=GV h
 obtain⟨h3,h4⟩:=Cz h2
 obtain⟨o1,o2,o3,o4,o5,o6⟩:=o
 obtain⟨L,e1,e2⟩:=abY (o1:=o1) (o2:=o2) (o3:=o3) (o4:=o4) (o6:=o6) (day:=day) (vN h1).2.1 h4 h3 (ZJ h2) l 0 (Int.natAbs day+(List.length l+(Int.natAbs ((List.length l:Int))+(Int.natAbs (0:Int)+(List.length o1+(List.length o2+(List.length o3+(Int.natAbs o4+(Int.natAbs o5+(List.length o6+(List.length l+(List.length ((jV (o1,o2,o3,o4,o5,o6)).map (fun x=>((bL x, -1, -1,[]):aq)))+(List.length ([]:List ah)+2))))))))))))) _ _ [] _ rfl (ah2 _) (EI h1 l) (Nb h1) (Z6 h1 l) (fun _=>ah2 _) (fun _ _=>rfl) (ah2 _) (by omega)
 refine⟨L, ?_,e2⟩
 unfold Sk
 dsimp only
 rw[Z7 h1 l day _ (by omega),aU]
 dsimp only
 rw[show ((0:Nat):Int)=0 from rfl] at e1
 rw[e1,aU]
 rfl
end Go.Md
set_option linter.all false
namespace Go.Md
open Go.Dn
theorem abT (o:aj) (l:List aa) (tx:∀ d,d∈l→Txt d):Sg o l=some (fL o l,()):=by
 unfold Sg fL
 rw[F9,ah4]
 dsimp only
 by_cases h:kK o=0
 ·rw[aiu (show ¬kK o≠0 from fun e=>e h),h,zne,aih,F8 l tx,ah4]
 ·rw[cq h,aii,aiv h]
end Go.Md
set_option linter.all false
namespace Go.Md
open Go.Dn
theorem XL {l:List aa} {P:Int→List aI} {A:List ak} {L:List aq} (h:AA l P A L):L.map (fun y=>y.1)=(bT A).map bL:=by
 refine ago fun i=> ?_
 rw[agE,agE]
 by_cases hi:i<L.length
 ·have hx:=agB (l:=bT A) (i:=i) (by rw[← h.len];exact hi)
  have hy:=agB hi
  rw[hx,hy,aia,aia,(h.rel i _ _ hx hy).st]
 ·rw[agC (by omega),agC (by rw[← h.len];omega)]
  rfl
end Go.Md
set_option linter.all false
namespace Go.Md
open Go.Dn
end Go.Md
set_option linter.all false
namespace Go.Md
open Go.Dn
end Go.Md
set_option linter.all false
namespace Go.Md
open Go.Dn
theorem Xl (o:aj) (l:List aa) (day:Int) (tx:∀ d,d∈l→Txt d):Ho o l day=some (lnF o l day,()):=by
 unfold Ho lnF
 rw[abT o l tx,ah4]
 dsimp only
 by_cases h:fL o l=0
 ·rw[aiu (show ¬fL o l≠0 from fun e=>e h),h,zne,aih,yE,ah4]
  dsimp only
  by_cases hd:1≤day∧day≤3652059
  ·rw[aiv hd,aim hd];rfl
  ·rw[aiu hd,aik hd];rfl
 ·rw[cq h,aii,aiv h]
theorem Xn {o:aj} {l l2:List aa} {P:Int→List aI} {A:List ak} {L:List aq} {ref:List ah} (h:AA l P A L) (hI:Ids A):xC (o,l2,L,ref)=some ((bT A).map bL,()):=by
 have sH:maxLen=9223372036854775807:=rfl
 have hL:L.length≤500:=by rw[h.len,(eN A).length_eq];exact hI.len
 unfold xC
 dsimp only
 have loop:∀ n,L.length<n→iter (X:=mS) (β:=qP) n ([],L,(L.length:Int),0,()) qO=some (Sum.inr (L.map (fun y=>y.1),())):=by
  intro n hn
  refine cN (Inv:=fun i X=>X=(((L.take i).map (fun y=>y.1),L,(L.length:Int),(i:Int),()):mS)) L.length (fun z=>z=some (Sum.inr (L.map (fun y=>y.1),()))) ?_ ?_ n 0 _ rfl (ah2 _) (by omega)
  ·rintro i X again hi rfl hag
   unfold qO
   dsimp only
   have hy:L[i]? =some L[i]:=agB hi
   have hlen:((L.take i).map (fun y=>y.1)).length=i:=by rw[agQ,agV];omega
   rw[aim (show (i:Int)<(L.length:Int) by omega),aii,cM hy,ah4,hlen,fh (by rw[afr];exact⟨aim (by omega),aim (by omega)⟩),av (n:=(i:Int)+1) (by omega) (by omega)]
   have e:(L.take i).map (fun y=>y.1)++[(L[i]).1]=(L.take (i+1)).map (fun y=>y.1):=by rw[lF hy,agW];rfl
   rw[e]
   exact hag _ rfl
  ·rintro X again rfl
   unfold qO
   dsimp only
   rw[aik (show ¬(L.length:Int)<(L.length:Int) by omega),aih,aht]
 rw[loop _ (by omega),aU,XL h]
theorem VC (o:aj) (l:List aa) (day:Int) (tx:∀ d,d∈l→Txt d):Bi o l day=some (if lnF o l day=0 then (bT (vA o l 0 day).1).map bL else [],lnF o l day,()):=by
 unfold Bi
 rw[Xl o l day tx,ah4]
 dsimp only
 by_cases h:lnF o l day=0
 ·obtain⟨h1,_⟩:=acI h
  obtain⟨L,e1,e2⟩:=abU h1 day
  rw[aiv h,h,zne,aih,e1,ah4]
  dsimp only
  rw[Xn e2 (Fe h1 0 day).2,ah4]
 ·rw[cq h,aii,aiu h]
end Go.Md
set_option linter.all false
namespace Go.Md
open Go.Dn
variable {l:List aa} {A:List ak}
end Go.Md
