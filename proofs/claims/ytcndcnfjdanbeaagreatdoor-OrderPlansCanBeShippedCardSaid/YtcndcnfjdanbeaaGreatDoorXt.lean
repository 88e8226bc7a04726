/-
  Plain facts: deeds, followed one behind the other. No condition.
-/
import Derived.Test.YtcndcnfjdanbeaaGreatDoorXs
import Derived.Test.YtcndcnfjdanbeaaGreatDoorXq
import Derived.Test.YtcndcnfjdanbeaaGreatDoorXo
set_option linter.all false
namespace Go.Md
open Go.Dn
theorem PC {day:Int} {p:Option aO} {x:aO} (h:gC day p x=0):(1≤x.1∧x.1≤99999)∧(∀ q,p=some q→q.1<x.1)∧ef x.2.1=true∧qOk x.2.2.1 false=true∧ef x.2.2.2.1=true∧inR x.2.2.2.2.1 0 1000000000 4=true∧(day≤x.2.2.2.2.2∧x.2.2.2.2.2≤3652059):=by
 unfold gC at h
 split at h
 ·cases h
 ·rename_i h1
  split at h
  ·cases h
  ·rename_i h2
   split at h
   ·cases h
   ·rename_i h3
    split at h
    ·cases h
    ·rename_i h4
     split at h
     ·cases h
     ·rename_i h5
      split at h
      ·cases h
      ·rename_i h6
       split at h
       ·cases h
       ·rename_i h7
        refine⟨Wk.1 h1,fun q hq=> ?_,by simpa using h3,by simpa using h4,by simpa using h5,by simpa using h6,Wk.1 h7⟩
        subst hq
        have:¬x.1≤q.1:=fun e=>h2 (YB e)
        omega
theorem q7 {day:Int}:∀ {r:List aO} {p:Option aO},jX day r p=0→
 (∀ x,x∈r→ef x.2.1=true∧qOk x.2.2.1 false=true∧ef x.2.2.2.1=true∧inR x.2.2.2.2.1 0 1000000000 4=true∧(1≤x.1∧x.1≤99999)∧(day≤x.2.2.2.2.2∧x.2.2.2.2.2≤3652059))∧(∀ q,p=some q→∀ x,x∈r→q.1<x.1)∧r.Pairwise (fun a b=>a.1<b.1)
 | [],p,_=>⟨nofun,fun _ _ _ h=>(nomatch h),List.Pairwise.nil⟩
 | y::r,p,h=>by
  simp only[jX] at h
  by_cases hf:gC day p y=0
  ·rw[YI (fun e=>e hf)] at h
   obtain⟨a1,a2,a3⟩:=q7 h
   obtain⟨b1,b2,b3,b4,b5,b6,b7⟩:=PC hf
   refine⟨fun x hx=> ?_,fun q hq x hx=> ?_,List.Pairwise.cons (fun x hx=>a2 y rfl x hx) a3⟩
   ·rcases Xp.1 hx with rfl | hx
    ·exact⟨b3,b4,b5,b6,b1,b7⟩
    ·exact a1 x hx
   ·rcases Xp.1 hx with rfl | hx
    ·exact b2 q hq
    ·have:=b2 q hq
     have:=a2 y rfl x hx
     omega
  ·rw[YJ hf] at h
   exact absurd h hf
theorem qm {o:aj} (h:mB o=0):(1≤fQ o∧fQ o≤3652059)∧(0≤dJ o∧dJ o≤1000)∧(qA o).length≤500∧qA o≠[]∧jX (fQ o) (qA o) none=0∧(ef (Ju o)=true∧ef (Hg o)=true∧ef (Jv o)=true∧Hg o≠Jv o):=by
 unfold mB at h
 split at h
 ·cases h
 ·rename_i h1
  split at h
  ·cases h
  ·rename_i h2
   split at h
   ·cases h
   ·rename_i h3
    split at h
    ·cases h
    ·rename_i h4
     split at h
     ·cases h
     ·rename_i h5
      split at h
      ·cases h
      ·rename_i h6
       refine⟨Wk.1 h3,Wk.1 h4,by omega,h5,h, ?_, ?_, ?_,h2⟩
       ·cases hb:ef (Ju o)
        ·exact absurd (.inl hb) h1
        ·rfl
       ·cases hb:ef (Hg o)
        ·exact absurd (.inr (.inl hb)) h1
        ·rfl
       ·cases hb:ef (Jv o)
        ·exact absurd (.inr (.inr hb)) h1
        ·rfl
def qY (x:aO):ai:=⟨x.1,x.2.1,x.2.2.2.1,aU x.2.2.1,0,0,0,x.2.2.2.2.1,x.2.2.2.2.2, -1,0,0,0⟩
abbrev nQ (o:aj):List ai:=(qA o).map qY
theorem IJ {n:Int}:∀ {A:List ai} {i:Nat},(∀ x,x∈A→x.no≠n)→bN n i A=none
 | [],_,_=>rfl
 | x::r,i,h=>by
  simp only[bN]
  rw[YI (fun e=>h x (by simp) e.symm)]
  exact IJ (fun y hy=>h y (by simp[hy]))
theorem oF {α:Type} {l:List α} {i:Nat} {y:α} (h:l[i]? =some y):l.take (i+1)=l.take i++[y]:=by
 rw[List.take_add_one,h];rfl
theorem EP {o:aj} (ho:mB o=0) (l:List aa):gW o l []=some ((o,l,mapOf (nQ o),[],[],0,()),(nQ o).map ai.tup,()):=by
 obtain⟨_,_,hlen,_,hgo,_⟩:=qm ho
 obtain⟨hln,_,hpw⟩:=q7 hgo
 obtain⟨onum,obuy,osel,oday,oext,lns⟩:=o
 change lns.length≤500 at hlen
 change ∀ x,x∈lns→_ at hln
 change lns.Pairwise _ at hpw
 unfold gW
 have:=Jr (f:=mF) (fun (_:Unit) (i:Nat)=>((lns,(lns.length:Int),(i:Int),onum,obuy,osel,oday,oext,lns,l,[],[],0,mapOf ((lns.take i).map qY),((lns.take i).map qY).map ai.tup,()):mG)) lns
  (fun (_:Unit) _ _ k=>k ()) (fun _=>some (Sum.inr (onum,obuy,osel,oday,oext,lns,l,[],[],0,mapOf (lns.map qY),(lns.map qY).map ai.tup,()))) (fun s i y again hy=>by
    have hi:i<lns.length:=(WX.1 hy).1
    unfold mF
    dsimp only
    rw[YB (show (i:Int)<(lns.length:Int) by omega),Yz,eS hy,Yo,jZ (hln y (Xw hy)).2.1,Yo]
    have hno:bN y.1 0 ((lns.take i).map qY)=none:=IJ fun z hz=>by
     obtain⟨q,hq,rfl⟩:=Xv.1 hz
     obtain⟨j,hj⟩:=Xu.1 hq
     have hji:j<i:=by
      have:=(WX.1 hj).1
      simp at this;omega
     rw[Xa hji] at hj
     have h1:=XD.1 hpw j i (by omega) hi hji
     have e1:lns[j]=q:=by have:=WV (show j<lns.length by omega);rw[hj] at this;exact (Option.some.inj this).symm
     have e2:lns[i]=y:=by have:=WV hi;rw[hy] at this;exact (Option.some.inj this).symm
     rw[e1,e2] at h1
     show q.1≠y.1
     omega
    have hs:=Jt y.1 (qY y) rfl ((lns.take i).map qY) 0 hno
    rw[Yl] at hs
    rw[Xf,aC (n:=(i:Int)+1) (by omega) (by omega)]
    have ht:(lns.take (i+1)).map qY=(lns.take i).map qY++[qY y]:=by rw[oF hy,Xk];rfl
    rw[ht]
    refine congrArg again ?_
    refine Prod.ext rfl (Prod.ext rfl (Prod.ext rfl (Prod.ext rfl (Prod.ext rfl (Prod.ext rfl (Prod.ext rfl (Prod.ext rfl (Prod.ext rfl (Prod.ext rfl (Prod.ext rfl (Prod.ext rfl (Prod.ext rfl (Prod.ext hs (Prod.ext ?_ rfl))))))))))))))
    show List.map ai.tup _++[_]=List.map ai.tup (_++[qY y])
    rw[Xk];rfl) (fun s again=>by
    unfold mF
    dsimp only
    rw[YA (show ¬((lns.length:Int)<(lns.length:Int)) by omega),Yy,XN]) ()
 have hfor:∀ (r:List aO) (i:Nat) (β:Type) (f:Option β),Cy (fun (_:Unit) _ _ k=>k ()) (fun _=>f) r i ()=f:=by
  intro r
  induction r with
  | nil=>intro i β f;rfl
  | cons y r ih=>intro i β f;exact ih (i+1) β f
 refine (congrArg (fun z=>aL z _) ((this _ ?_).trans (hfor _ _ _ _))).trans rfl
 simp only[Xg]
 omega
def lU (n:Int):ah:=((few 3 n).1,((few 3 n).2:Int))
theorem lY {n:Int} (h0:0≤n) (h1:n≤1000000000000000):kJ n=some (lU n,()):=by
 unfold kJ
 rw[I7 n (by omega) (by omega),Yo]
 have hb:n.natAbs<4294967296 ^ 99:=X8 (show n.natAbs<4294967296 ^ 2 by omega) (Yj (by omega) (by omega))
 have:=Ja n hb 3 (by omega)
 rw[show ((3:Nat):Int)=3 from rfl] at this
 dsimp only
 rw[this,Yo,YJ (by have:=(DB 3 n).2.2;omega)]
 rfl
def Oy (d:ah):ah:=((few d.2.toNat d.1).1,((few d.2.toNat d.1).2:Int))
theorem JS {d:ah} (h0:0≤d.1) (h1:d.1≤1000000000000000) (h2:0≤d.2) (h3:d.2≤9):wK d=some (Oy d,()):=by
 unfold wK
 have loop:∀ (n:Nat) (z:Int) (p:Nat),0≤z→z≤1000000000000000→p≤9→p<n→iter (X:=rT) (β:=rS) n (z,(p:Int),0,0,()) rR=some (Sum.inr ((few p z).1,((few p z).2:Int),0,0,())):=by
  intro n
  induction n with
  | zero=>intro z p _ _ _ h;omega
  | succ n ih=>
   intro z p hz hz1 hp hn
   rw[cI]
   generalize hag:(fun y=>iter n y rR)=again
   unfold rR
   dsimp only
   cases p with
   | zero=>rfl
   | succ p=>
    rw[YB (show ((p+1:Nat):Int)>0 by omega),Yz,Yo]
    dsimp only
    rw[Int.tmod_eq_emod_of_nonneg hz]
    by_cases hm:z % 10=0
    ·rw[show (z % 10==0)=true by simp[hm],Yz,Wr hz,aC (n:=z / 10) (by omega) (by omega),aC (n:=((p+1:Nat):Int) - 1) (by omega) (by omega),
      show ((p+1:Nat):Int) - 1=(p:Int) by omega, ← hag]
     refine (ih (z / 10) p (by omega) (by omega) (by omega) (by omega)).trans ?_
     rw[show few (p+1) z=few p (z / 10) by rw[few,YJ hm]]
    ·rw[show (z % 10==0)=false by simp[hm],Yy,show few (p+1) z=(z,p+1) by rw[few,YI hm]]
 obtain⟨k,hk⟩:∃ k:Nat,d.2=k:=⟨d.2.toNat,by omega⟩
 rw[hk]
 have:=loop (d.1.natAbs+(Int.natAbs (k:Int)+(Int.natAbs (0:Int)+(Int.natAbs (0:Int)+2)))) d.1 k h0 h1 (by omega) (by omega)
 rw[this]
 unfold Oy
 rw[hk]
 rfl
def DZ (x:ai):yu:=(x.no,x.art,x.unit,lU x.ord,Oy x.price,x.due,lU x.shp,lU x.rcv,lU x.ret,lU x.opn)
def Gf (x:ai):Prop:=0≤x.price.1∧x.price.1≤1000000000000000∧0≤x.price.2∧x.price.2≤9
theorem Hs {x:ai} (h:LOk x):0≤x.opn∧x.opn≤1000000000000:=by
 have:=h.ret0;have:=h.retr;have:=h.rcvs;have:=h.ord1
 unfold ai.opn
 split<;>omega
theorem xT {A:List ai} {k:Nat} {x:ai} (h:A[k]? =some x) (hx:LOk x) (hp:Gf x):nh (some k) (A.map ai.tup)=some (DZ x,()):=by
 obtain⟨p1,p2,p3,p4⟩:=hp
 obtain⟨q1,q2⟩:=Hs hx
 have:=hx.ret0;have:=hx.retr;have:=hx.rcvs;have:=hx.shp1;have:=hx.vN;have:=hx.ord1
 unfold nh
 simp only[Yo,gh h,kS h hx]
 rw[lY (n:=x.ord) (by omega) (by omega),lY (n:=x.shp) (by omega) (by omega),lY (n:=x.rcv) (by omega) (by omega),lY (n:=x.ret) (by omega) (by omega),lY (n:=x.opn) (by omega) (by omega),JS p1 p2 p3 p4]
 rfl
end Go.Md
namespace Go.Md
open Go.Dn
theorem GR {d:ah} (h:inR d 0 1000000000 4=true):0≤d.1∧d.1≤1000000000000000∧0≤d.2∧d.2≤9:=by
 unfold inR at h
 obtain⟨⟨h1,h2,h3⟩,h4,h5,h6⟩:=YP h
 refine⟨by omega,by omega,h2,h3⟩
theorem QB {l:List aa} {d:aa} {x:ai} (hw:WOk l x) (hl:∀ d,d∈l→bX d=0) (hp:Gf x):Gf (bT l d x).2:=by
 unfold bT
 by_cases h1:x.wish<0
 ·rw[YJ h1];exact hp
 rw[YI h1]
 obtain⟨w,hw1,hw2⟩:=hw.kind (by omega)
 rw[mP hw1]
 obtain⟨_,_,_,hk,_,_,hu⟩:=bY (hl w (Xw hw1))
 obtain⟨_,up,_⟩:=fE hu
 by_cases h2:dNo w≠dTo d
 ·rw[YJ h2];exact hp
 rw[YI h2]
 by_cases h3:aV d=5
 ·rw[YJ h3]
  by_cases k2:aV w=2
  ·rw[YJ k2]
   split<;>exact hp
  ·rw[YI k2]
   by_cases k1:aV w=1
   ·rw[YJ k1];exact hp
   ·rw[YI k1]
    by_cases k3:aV w=3
    ·rw[YJ k3];exact hp
    ·rw[YI k3]
     have hk':1≤aV w∧aV w≤11:=hk
     exact GR (up (by unfold usP;exact YB (.inr (by omega))))
 ·rw[YI h3];exact hp
theorem Tu {ext:Int} {d:aa} {x:ai} (hp:Gf x):Gf (cC ext d x).2:=by
 unfold cC
 split
 ·split
  ·exact hp
  ·split<;>exact hp
 ·split
  ·split<;>exact hp
  ·split<;>exact hp
theorem Uc {o:aj} {l:List aa} {i:Nat} {d:aa} {x:ai} (hw:WOk l x) (hl:∀ d,d∈l→bX d=0) (hp:Gf x):Gf (dw o l i d x).2:=by
 have ha:=QB (d:=d) hw hl hp
 have hm:=Tu (ext:=dJ o) (d:=d) hp
 unfold dw
 split
 ·unfold Fk
  split
  ·exact hp
  ·split<;>exact hp
 ·split
  ·split<;>exact ha
  ·split
   ·split<;>exact hp
   ·split
    ·unfold Fb
     split
     ·exact hp
     ·split<;>exact hp
    ·split
     ·split<;>exact hm
     ·exact hm
structure Good (l:List aa) (A:List ai):Prop where
 sound:Sound l A
 pr:∀ x,x∈A→Gf x
theorem Eg {o:aj} {l:List aa} {i:Nat} {d:aa} {A:List ai} (hA:Good l A) (hl:∀ d,d∈l→bX d=0) (hd:l[i]? =some d):Good l (bF o l i d A).2:=by
 refine⟨(NY hA.sound hl hd).1,fun x hx=> ?_⟩
 unfold bF at hx
 by_cases k1:aV d=1
 ·rw[YJ k1] at hx
  split at hx
  ·exact hA.pr x hx
  ·split at hx
   ·exact hA.pr x hx
   ·split at hx
    ·exact hA.pr x hx
    ·rcases Xo.1 hx with hx | hx
     ·exact hA.pr x hx
     ·simp only[Xz] at hx
      subst hx
      obtain⟨_,_,_,_,_,_,hu⟩:=bY (hl d (Xw hd))
      exact GR ((fE hu).2.1 (by rw[k1];rfl))
 ·rw[YI k1] at hx
  split at hx
  ·exact hA.pr x hx
  ·split at hx
   ·rename_i y hy
    rcases Xx hx with hx | hx
    ·exact hA.pr x hx
    ·subst hx
     have hm:=Xw hy
     exact Uc (hA.sound.line y hm).2 hl (hA.pr y hm)
   ·exact hA.pr x hx
def pn (n:Int) (A:List ai):Option ai:=(gq n A).bind fun k=>A[k]?
theorem KD {n:Int} {A:List ai} {k:Nat} {x:ai} (h:gq n A=some k) (hx:A[k]? =some x):pn n A=some x:=by unfold pn;rw[h];exact hx
theorem Pm {o:aj} {l:List aa} {i:Nat} {d:aa} {A:List ai} (hA:Sound l A) (hl:∀ d,d∈l→bX d=0) (hd:l[i]? =some d) (h0:(bF o l i d A).1=0):
 ∃ k x,gq (lF d) (bF o l i d A).2=some k∧(bF o l i d A).2[k]? =some x:=by
 unfold bF at h0 ⊢
 by_cases k1:aV d=1
 ·rw[YJ k1] at h0 ⊢
  split at h0
  ·cases h0
  ·rename_i hf
   split at h0
   ·cases h0
   ·rename_i h5
    split at h0
    ·cases h0
    ·rename_i h6
     rw[YI h5,YI h6]
     refine⟨A.length,wD i d, ?_,by simp⟩
     show bN (lF d) 0 (A++[wD i d])=_
     rw[Eu,show bN (lF d) 0 A=none from hf,YJ (show lF d=(wD i d).no from rfl)]
     simp
 ·rw[YI k1] at h0 ⊢
  split at h0
  ·cases h0
  ·rename_i k hk
   obtain⟨x,hx,hxn⟩:=tV hk
   rw[hx]
   dsimp only
   obtain⟨h1,h2⟩:=hA.line x (Xw hx)
   refine⟨k,_, ?_,H7 hx _⟩
   show bN (lF d) 0 (A.set k _)=_
   rw[Km A 0 (fun z hz=>by rw[hx] at hz;cases hz;exact (CZ (o:=o) h1 h2 hl hd).2.2.1)]
   exact hk
def JE (wt:Int) (i:Nat) (d:aa) (A:List ai) (pts:List au):List au:=
 if lF d=wt then (match pn (lF d) A with | some x=>pts++[((i:Int),DZ x)] | none=>pts) else pts
def kj (o:aj) (l:List aa) (wt day:Int):List aa→Nat→List ai→List (Int×Int)→List au→List ai×List (Int×Int)×List au
 | [],_,A,ref,pts=>(A,ref,pts)
 | d::r,i,A,ref,pts=>
  if day<d.1 then (A,ref,pts)
  else if (bF o l i d A).1≠0 then kj o l wt day r (i+1) (bF o l i d A).2 (ref++[((i:Int),(bF o l i d A).1)]) pts
  else kj o l wt day r (i+1) (bF o l i d A).2 ref (JE wt i d (bF o l i d A).2 pts)
theorem gi {β:Type} {b:Bool} (h:b=true) (x:Option β):chk b x=x:=by rw[h];rfl
theorem TK {onum obuy osel:Bys} {oday oext:Int} {olns:List aO} {l:List aa} {wt day:Int} (he0:0≤oext) (he1:oext≤1000) (hl:∀ d,d∈l→bX d=0) (hlen:l.length≤2000):
 ∀ (r:List aa) (i n:Nat) (A:List ai) (ref:List (Int×Int)) (pts:List au),l.drop i=r→i≤l.length→Good l A→ref.length≤i→pts.length≤i→r.length<n→
  iter (X:=lM) (β:=lK) n (day,l,(l.length:Int),(i:Int),onum,obuy,osel,oday,oext,olns,l,mapOf A,ref,pts,wt,A.map ai.tup,()) iW=
   some (Sum.inr (onum,obuy,osel,oday,oext,olns,l,mapOf (kj (onum,obuy,osel,oday,oext,olns) l wt day r i A ref pts).1,(kj (onum,obuy,osel,oday,oext,olns) l wt day r i A ref pts).2.1,(kj (onum,obuy,osel,oday,oext,olns) l wt day r i A ref pts).2.2,wt,(kj (onum,obuy,osel,oday,oext,olns) l wt day r i A ref pts).1.map ai.tup,())):=by
 intro r
 induction r with
 | nil=>
  intro i n A ref pts hd hi hA hr hp hn
  have:i=l.length:=by
   have:=congrArg List.length hd
   simp at this;omega
  subst this
  obtain⟨n,rfl⟩:∃ m,n=m+1:=⟨n - 1,by omega⟩
  rw[cI]
  unfold iW
  dsimp only
  rw[YA (show ¬((l.length:Int)<(l.length:Int)) by omega),Yy]
  rfl
 | cons d r ih=>
  intro i n A ref pts hdr hi hA hr hp hn
  have hd:l[i]? =some d:=by
   have:=congrArg (·[0]?) hdr
   simpa [WU] using this
  have hr':l.drop (i+1)=r:=by
   have:=congrArg List.tail hdr
   simpa [XK] using this
  have hlt:i<l.length:=(WX.1 hd).1
  obtain⟨n,rfl⟩:∃ m,n=m+1:=⟨n - 1,by simp at hn;omega⟩
  rw[cI]
  generalize hag:(fun y=>iter n y iW)=again
  unfold iW
  dsimp only
  rw[YB (show (i:Int)<(l.length:Int) by omega),Yz,eS hd,Yo]
  have hdeed:=CS (o:=(onum,obuy,osel,oday,oext,olns)) (ref:=ref) (pts:=pts) (wt:=wt) hA.sound hl hd he0 he1
  have hgood:=Eg (o:=(onum,obuy,osel,oday,oext,olns)) hA hl hd
  by_cases hday:day<d.1
  ·rw[YB (show d.1>day from hday),Yz]
   simp only[kj,YJ hday]
  ·rw[YA (show ¬d.1>day from hday),Yy]
   rw[hdeed,Yo]
   dsimp only
   rw[aC (n:=(i:Int)+1) (by omega) (by omega)]
   simp only[kj,YI hday]
   have zB:maxLen=9223372036854775807:=rfl
   have hi1:(i:Int)+1=((i+1:Nat):Int):=by omega
   by_cases he:(bF (onum,obuy,osel,oday,oext,olns) l i d A).1=0
   ·rw[YI (fun h=>h he),he]
    rw[zne,Yy]
    by_cases hw:lF d=wt
    ·obtain⟨k,x,hk,hx⟩:=Pm hA.sound hl hd he
     have hxm:=Xw hx
     rw[show (d.2.2.2.2.1==wt)=true by simpa using hw,Yz,iN,show bN d.2.2.2.2.1 0 _=some k from hk,
      xT hx (hgood.sound.line x hxm).1 (hgood.pr x hxm),Yo]
     rw[gi (by rw[V6];exact⟨YB (by omega),YB (by omega)⟩)]
     have hpt:JE wt i d (bF (onum,obuy,osel,oday,oext,olns) l i d A).2 pts=pts++[((i:Int),DZ x)]:=by
      unfold JE
      rw[YJ hw,KD hk hx]
     rw[hpt,hi1, ← hag]
     exact ih (i+1) n _ ref _ hr' (by omega) hgood (by omega) (by simp;omega) (by simp at hn;omega)
    ·rw[show (d.2.2.2.2.1==wt)=false by simpa using hw,Yy]
     have hpt:JE wt i d (bF (onum,obuy,osel,oday,oext,olns) l i d A).2 pts=pts:=by
      unfold JE
      rw[YI hw]
     rw[hpt,hi1, ← hag]
     exact ih (i+1) n _ ref pts hr' (by omega) hgood (by omega) (by omega) (by simp at hn;omega)
   ·rw[YJ he,iS he,Yz]
    rw[gi (by rw[V6];exact⟨YB (by omega),YB (by omega)⟩)]
    rw[hi1, ← hag]
    exact ih (i+1) n _ _ pts hr' (by omega) hgood (by simp;omega) (by omega) (by simp at hn;omega)
theorem DR {o:aj} {l:List aa} {wt day:Int} {A:List ai} (he:0≤dJ o∧dJ o≤1000) (hl:∀ d,d∈l→bX d=0) (hlen:l.length≤2000) (hA:Good l A):
 gD (o,l,mapOf A,[],[],wt,()) day (A.map ai.tup)=some ((o,l,mapOf (kj o l wt day l 0 A [] []).1,(kj o l wt day l 0 A [] []).2.1,(kj o l wt day l 0 A [] []).2.2,wt,()),(kj o l wt day l 0 A [] []).1.map ai.tup,()):=by
 obtain⟨onum,obuy,osel,oday,oext,olns⟩:=o
 unfold gD
 refine (congrArg (fun z=>aL z _) (TK (onum:=onum) (obuy:=obuy) (osel:=osel) (oday:=oday) (olns:=olns) (wt:=wt) (day:=day) he.1 he.2 hl hlen l 0 _ A [] [] rfl (Ym _) hA (Ym _) (Ym _) ?_)).trans rfl
 dsimp only
 omega
theorem z8 {o:aj} (ho:mB o=0) (l:List aa):Good l (nQ o):=by
 obtain⟨_,_,_,_,hgo,_⟩:=qm ho
 obtain⟨hln,_,_⟩:=q7 hgo
 refine⟨⟨fun x hx=> ?_⟩,fun x hx=> ?_⟩
 ·obtain⟨q,hq,rfl⟩:=Xv.1 hx
  obtain⟨_,h2,_⟩:=hln q hq
  obtain⟨u0,u1,_⟩:=qp h2
  exact⟨⟨by show (0:Int)≤0;omega,by show (0:Int)≤0;omega,by show (0:Int)≤0;omega,by show (0:Int)≤_;omega,u0,u1,fun e=>absurd rfl e⟩,⟨by show (-1:Int)≤ -1;omega,fun h=>by have:(0:Int)≤ -1:=h;omega⟩⟩
 ·obtain⟨q,hq,rfl⟩:=Xv.1 hx
  obtain⟨_,_,_,h4,_⟩:=hln q hq
  exact GR h4
def dc (o:aj) (l:List aa) (wt day:Int):List ai×List (Int×Int)×List au:=kj o l wt day l 0 (nQ o) [] []
def fN (o:aj) (l:List aa):Int:=if mB o≠0 then mB o else fL l
theorem qd {o:aj} {l:List aa} (h:fN o l=0):mB o=0∧fL l=0:=by
 unfold fN at h
 split at h
 ·rename_i h1;exact absurd h h1
 ·rename_i h1;exact⟨Wk.1 h1,h⟩
theorem start_eq {o:aj} {l:List aa} (h:fN o l=0) (wt day:Int):∃ q,gW o l []=some ((o,l,mapOf (nQ o),[],[],0,()),(nQ o).map ai.tup,())∧
 gD (o,l,mapOf (nQ o),[],[],wt,()) day ((nQ o).map ai.tup)=some ((o,l,mapOf (dc o l wt day).1,(dc o l wt day).2.1,(dc o l wt day).2.2,wt,()),(dc o l wt day).1.map ai.tup,())∧q=():=by
 obtain⟨h1,h2⟩:=qd h
 obtain⟨h3,h4⟩:=mM h2
 exact⟨(),EP h1 l,DR (qm h1).2.1 h4 h3 (z8 h1 l),rfl⟩
theorem FI (o:aj) (l:List aa) (day:Int):xm o l day []=(if fN o l≠0 then some (none,fN o l,[],()) else if ¬(1≤day∧day≤3652059) then some (none,1,[],()) else none):=by
 unfold xm
 rw[vO,Yo,sY]
 dsimp only
 by_cases h:fN o l=0
 ·rw[YI (show ¬fN o l≠0 from fun e=>e h),show (if mB o≠0 then mB o else fL l)=0 from h,zne,Yy,Yo]
  by_cases hd:1≤day∧day≤3652059
  ·rw[YI (show ¬¬(1≤day∧day≤3652059) from fun e=>e hd),YB hd]
   obtain⟨_,e1,e2,_⟩:=start_eq h 0 day
   dsimp only
   rw[Wh,Yy,e1,Yo]
   dsimp only
   rw[e2];rfl
  ·rw[YJ hd,YA hd];rfl
 ·rw[YJ (show fN o l≠0 from h),show ((if mB o≠0 then mB o else fL l) != 0)=true from iS h,Yz]
  rfl
theorem IQ {o:aj} {l:List aa} {day:Int} (h:fN o l=0) (hd:1≤day∧day≤3652059):Bh o l day []=some ((o,l,mapOf (dc o l 0 day).1,(dc o l 0 day).2.1,(dc o l 0 day).2.2,0,()),0,(dc o l 0 day).1.map ai.tup,()):=by
 unfold Bh
 rw[vO,Yo,sY]
 dsimp only
 rw[show (if mB o≠0 then mB o else fL l)=0 from h,zne,Yy,Yo,YB hd]
 obtain⟨_,e1,e2,_⟩:=start_eq h 0 day
 dsimp only
 rw[Wh,Yy,e1,Yo]
 dsimp only
 rw[e2];rfl
end Go.Md
namespace Go.Md
open Go.Dn
theorem Rv:A8=some (true,()):=by kernel_rfl
end Go.Md
namespace Go.Md
open Go.Dn
theorem Sf {n:Int} {A:List ai} {y:ai} (h:y.no≠n):pn n (A++[y])=pn n A:=by
 unfold pn
 have:gq n (A++[y])=gq n A:=by
  unfold gq
  rw[Eu,YI (fun e=>h e.symm),Option.or_none]
 rw[this]
 cases hk:gq n A with
 | none=>rfl
 | some k=>
  obtain⟨x,hx,_⟩:=tV hk
  have:=(WX.1 hx).1
  simp only[Yo]
  rw[WQ this]
theorem Sg {n:Int} {A:List ai} {k:Nat} {x y:ai} (hx:A[k]? =some x) (hn:x.no≠n) (hy:y.no=x.no):pn n (A.set k y)=pn n A:=by
 unfold pn
 have:gq n (A.set k y)=gq n A:=Km A 0 (fun z hz=>by rw[hx] at hz;cases hz;exact hy)
 rw[this]
 cases hj:gq n A with
 | none=>rfl
 | some j=>
  obtain⟨z,hz,hzn⟩:=tV hj
  simp only[Yo]
  have hjk:k≠j:=fun e=>by subst e;rw[hx] at hz;cases hz;exact hn hzn
  rw[W7 hjk]
theorem Pn {o:aj} {l:List aa} {i:Nat} {d:aa} {A:List ai} {n:Int} (hA:Sound l A) (hl:∀ d,d∈l→bX d=0) (hd:l[i]? =some d) (hn:lF d≠n):
 pn n (bF o l i d A).2=pn n A:=by
 unfold bF
 by_cases k1:aV d=1
 ·rw[YJ k1]
  split
  ·rfl
  ·split
   ·rfl
   ·split
    ·rfl
    ·exact Sf hn
 ·rw[YI k1]
  split
  ·rfl
  ·rename_i k hk
   obtain⟨x,hx,hxn⟩:=tV hk
   rw[hx]
   obtain⟨h1,h2⟩:=hA.line x (Xw hx)
   exact Sg hx (by rw[hxn];exact hn) (CZ (o:=o) h1 h2 hl hd).2.2.1
structure Pts (l:List aa) (wt:Int) (n:Nat) (A:List ai) (pts:List au):Prop where
 pt:∀ (j:Nat) (p:au),pts[j]? =some p→0≤p.1∧p.1<n∧(∃ d,idx l p.1=some d∧lF d=wt)∧∀ q,0<j→pts[j - 1]? =some q→q.1<p.1
 last:∀ p,pts.getLast? =some p→∃ x,pn wt A=some x∧p.2=DZ x
theorem KK {α β:Type} {f:α→Option β} {g:Option β}:NH (none:Option α) f g=g:=rfl
end Go.Md
namespace Go.Md
open Go.Dn
theorem Pc {l:List aa} {x:ai} (d':aa) (hw:WOk l x) (h:¬x.wish<0):fT (l++[d']) x=fT l x:=by
 obtain⟨w,hw1,_⟩:=hw.kind (by omega)
 have hlt:=(WX.1 hw1).1
 rw[mP hw1]
 exact mP (by rw[WQ hlt];exact hw1)
theorem Pg {l:List aa} {d d':aa} {x:ai} (hw:WOk l x):bT (l++[d']) d x=bT l d x:=by
 unfold bT
 by_cases h:x.wish<0
 ·rw[YJ h,YJ h]
 ·rw[YI h,YI h,Pc d' hw h]
theorem S8 {o:aj} {l:List aa} {i:Nat} {d d':aa} {x:ai} (hw:WOk l x):dw o (l++[d']) i d x=dw o l i d x:=by
 unfold dw
 rw[Pg hw]
theorem RN {o:aj} {l:List aa} {i:Nat} {d d':aa} {A:List ai} (hA:Sound l A):bF o (l++[d']) i d A=bF o l i d A:=by
 unfold bF
 split
 ·rfl
 ·split
  ·rfl
  ·split
   ·rename_i x hx
    rw[S8 (hA.line x (Xw hx)).2]
   ·rfl
theorem JI {o:aj} {l:List aa} {wt day:Int}:∀ (r:List aa) (i:Nat) (A:List ai) (ref:List (Int×Int)) (pts:List au),ref.length≤i→(∀ e,e∈ref→e.2≠0)→
 (kj o l wt day r i A ref pts).2.1.length≤i+r.length∧∀ e,e∈(kj o l wt day r i A ref pts).2.1→e.2≠0
 | [],i,A,ref,pts,h1,h2=>⟨h1,h2⟩
 | d::r,i,A,ref,pts,h1,h2=>by
  simp only[kj,Xe]
  split
  ·exact⟨by show ref.length≤_;omega,h2⟩
  ·split
   ·rename_i he
    have:=JI (o:=o) (l:=l) (wt:=wt) (day:=day) r (i+1) (bF o l i d A).2 (ref++[((i:Int),(bF o l i d A).1)]) pts (by simp;omega) (fun e hm=>by
     rcases Xo.1 hm with hm | hm
     ·exact h2 e hm
     ·simp only[Xz] at hm;subst hm;exact he)
    exact⟨by have:=this.1;omega,this.2⟩
   ·have:=JI (o:=o) (l:=l) (wt:=wt) (day:=day) r (i+1) (bF o l i d A).2 ref (JE wt i d (bF o l i d A).2 pts) (by omega) h2
    exact⟨by have:=this.1;omega,this.2⟩
theorem E7 (l:List aa) (hl:l.length≤2000):lP l=some (l,()):=by
 have zB:maxLen=9223372036854775807:=rfl
 have hc:(decide ((0+(List.length l))*120≤140737488355328)&&decide (0+(List.length l)≤maxLen))=true:=by
  rw[V6];exact⟨YB (by omega),YB (by omega)⟩
 unfold lP
 rw[gi hc]
 cases l with
 | nil=>simp[both]
 | cons x r=>rfl
end Go.Md
namespace Go.Md
open Go.Dn
end Go.Md
namespace Go.Md
open Go.Dn
end Go.Md
namespace Go.Md
open Go.Dn
end Go.Md
namespace Go.Md
open Go.Dn
end Go.Md
