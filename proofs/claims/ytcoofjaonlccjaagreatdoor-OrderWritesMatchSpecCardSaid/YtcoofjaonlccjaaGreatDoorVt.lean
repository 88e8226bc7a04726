/-
  Plain facts: deeds, followed one behind the other. No condition.
-/
import Derived.Test.YtcoofjaonlccjaaGreatDoorVs
import Derived.Test.YtcoofjaonlccjaaGreatDoorVq
import Derived.Test.YtcoofjaonlccjaaGreatDoorVo
set_option linter.all false
namespace Go.Md
open Go.Dn
theorem TL {day:Int} {p:Option aI} {x:aI} (h:cF day p x=0):(1≤x.1∧x.1≤99999)∧(∀ q,p=some q→q.1<x.1)∧cB x.2.1=true∧qOk x.2.2.1 false=true∧cB x.2.2.2.1=true∧inR x.2.2.2.2.1 0 1000000000 4=true∧(day≤x.2.2.2.2.2∧x.2.2.2.2.2≤3652059):=by
 unfold cF at h
 split at h
 ·cases h
 ·rename_i h1
  split at h
  ·cases h
  ·rename_i h2
   split at h
   ·cases h
   ·rename_i h3
    split at h
    ·cases h
    ·rename_i h4
     split at h
     ·cases h
     ·rename_i h5
      split at h
      ·cases h
      ·rename_i h6
       split at h
       ·cases h
       ·rename_i h7
        refine ⟨ZJ.1 h1,fun q hq=> ?_,by simpa using h3,by simpa using h4,by simpa using h5,by simpa using h6,ZJ.1 h7⟩
        subst hq
        have:¬x.1≤q.1:=fun e=>h2 (decide_eq_true e)
        omega
theorem mz {day:Int}:∀ {r:List aI} {p:Option aI},ir day r p=0→
 (∀ x,x∈r→cB x.2.1=true∧qOk x.2.2.1 false=true∧cB x.2.2.2.1=true∧inR x.2.2.2.2.1 0 1000000000 4=true∧(1≤x.1∧x.1≤99999)∧(day≤x.2.2.2.2.2∧x.2.2.2.2.2≤3652059))∧(∀ q,p=some q→∀ x,x∈r→q.1<x.1)∧r.Pairwise (fun a b=>a.1<b.1)
 | [],p,_=>⟨nofun,fun _ _ _ h=>(nomatch h),List.Pairwise.nil⟩
 | y::r,p,h=>by
  simp only [ir] at h
  by_cases hf:cF day p y=0
  ·rw [if_neg (fun e=>e hf)] at h
   obtain ⟨a1,a2,a3⟩:=mz h
   obtain ⟨b1,b2,b3,b4,b5,b6,b7⟩:=TL hf
   refine ⟨fun x hx=> ?_,fun q hq x hx=> ?_,List.Pairwise.cons (fun x hx=>a2 y rfl x hx) a3⟩
   ·rcases aaH.1 hx with rfl | hx
    ·exact ⟨b3,b4,b5,b6,b1,b7⟩
    ·exact a1 x hx
   ·rcases aaH.1 hx with rfl | hx
    ·exact b2 q hq
    ·have:=b2 q hq
     have:=a2 y rfl x hx
     omega
  ·rw [if_pos hf] at h
   exact absurd h hf
theorem r0 {o:ai} (h:iu o=0):(1≤cu o∧cu o≤3652059)∧(0≤bM o∧bM o≤1000)∧(gB o).length≤500∧gB o≠[]∧ir (cu o) (gB o) none=0∧(cB (CJ o)=true∧cB (CI o)=true∧cB (G8 o)=true∧CI o≠G8 o):=by
 unfold iu at h
 split at h
 ·cases h
 ·rename_i h1
  split at h
  ·cases h
  ·rename_i h2
   split at h
   ·cases h
   ·rename_i h3
    split at h
    ·cases h
    ·rename_i h4
     split at h
     ·cases h
     ·rename_i h5
      split at h
      ·cases h
      ·rename_i h6
       refine ⟨ZJ.1 h3,ZJ.1 h4,by omega,h5,h, ?_, ?_, ?_,h2⟩
       ·cases hb:cB (CJ o)
        ·exact absurd (.inl hb) h1
        ·rfl
       ·cases hb:cB (CI o)
        ·exact absurd (.inr (.inl hb)) h1
        ·rfl
       ·cases hb:cB (G8 o)
        ·exact absurd (.inr (.inr hb)) h1
        ·rfl
def ji (x:aI):aj:=⟨x.1,x.2.1,x.2.2.2.1,aN x.2.2.1,0,0,0,x.2.2.2.2.1,x.2.2.2.2.2, -1,0,0,0⟩
abbrev ef (o:ai):List aj:=(gB o).map ji
theorem En {n:Int}:∀ {A:List aj} {i:Nat},(∀ x,x∈A→x.no≠n)→bR n i A=none
 | [],_,_=>rfl
 | x::r,i,h=>by
  simp only [bR]
  rw [if_neg (fun e=>h x (by simp) e.symm)]
  exact En (fun y hy=>h y (by simp [hy]))
theorem xS {α:Type} {l:List α} {i:Nat} {y:α} (h:l[i]? =some y):l.take (i+1)=l.take i++[y]:=by
 rw [List.take_add_one,h];rfl
theorem Hl {o:ai} (ho:iu o=0) (l:List aa):fJ o l []=some ((o,l,mapOf (ef o),[],[],0,()),(ef o).map aj.tup,()):=by
 obtain ⟨_,_,hlen,_,hgo,_⟩:=r0 ho
 obtain ⟨hln,_,hpw⟩:=mz hgo
 obtain ⟨onum,obuy,osel,oday,oext,lns⟩:=o
 change lns.length≤500 at hlen
 change ∀ x,x∈lns→_ at hln
 change lns.Pairwise _ at hpw
 unfold fJ
 have:=GU (f:=kS) (fun (_:Unit) (i:Nat)=>((lns,(lns.length:Int),(i:Int),onum,obuy,osel,oday,oext,lns,l,[],[],0,mapOf ((lns.take i).map ji),((lns.take i).map ji).map aj.tup,()):kT)) lns
  (fun (_:Unit) _ _ k=>k ()) (fun _=>some (Sum.inr (onum,obuy,osel,oday,oext,lns,l,[],[],0,mapOf (lns.map ji),(lns.map ji).map aj.tup,()))) (fun s i y again hy=>by
    have hi:i<lns.length:=(List.getElem?_eq_some_iff.1 hy).1
    unfold kS
    dsimp only
    rw [decide_eq_true (show (i:Int)<(lns.length:Int) by omega),cond_true,bQ hy,Option.bind_some,lq (hln y (List.mem_of_getElem? hy)).2.1,Option.bind_some]
    have hno:bR y.1 0 ((lns.take i).map ji)=none:=En fun z hz=>by
     obtain ⟨q,hq,rfl⟩:=aaL.1 hz
     obtain ⟨j,hj⟩:=aaK.1 hq
     have hji:j<i:=by
      have:=(List.getElem?_eq_some_iff.1 hj).1
      simp at this;omega
     rw [aar hji] at hj
     have h1:=aaS.1 hpw j i (by omega) hi hji
     have e1:lns[j]=q:=by have:=List.getElem?_eq_getElem (show j<lns.length by omega);rw [hj] at this;exact (Option.some.inj this).symm
     have e2:lns[i]=y:=by have:=List.getElem?_eq_getElem hi;rw [hy] at this;exact (Option.some.inj this).symm
     rw [e1,e2] at h1
     show q.1≠y.1
     omega
    have hs:=ME y.1 (ji y) rfl ((lns.take i).map ji) 0 hno
    rw [abu] at hs
    rw [aaw,aD (n:=(i:Int)+1) (by omega) (by omega)]
    have ht:(lns.take (i+1)).map ji=(lns.take i).map ji++[ji y]:=by rw [xS hy,aaB];rfl
    rw [ht]
    refine congrArg again ?_
    refine Prod.ext rfl (Prod.ext rfl (Prod.ext rfl (Prod.ext rfl (Prod.ext rfl (Prod.ext rfl (Prod.ext rfl (Prod.ext rfl (Prod.ext rfl (Prod.ext rfl (Prod.ext rfl (Prod.ext rfl (Prod.ext rfl (Prod.ext hs (Prod.ext ?_ rfl))))))))))))))
    show List.map aj.tup _++[_]=List.map aj.tup (_++[ji y])
    rw [aaB];rfl) (fun s again=>by
    unfold kS
    dsimp only
    rw [abH (show ¬((lns.length:Int)<(lns.length:Int)) by omega),cond_false,aa0]) ()
 have hfor:∀ (r:List aI) (i:Nat) (β:Type) (f:Option β),Cr (fun (_:Unit) _ _ k=>k ()) (fun _=>f) r i ()=f:=by
  intro r
  induction r with
  | nil=>intro i β f;rfl
  | cons y r ih=>intro i β f;exact ih (i+1) β f
 refine (congrArg (fun z=>aL z _) ((this _ ?_).trans (hfor _ _ _ _))).trans rfl
 simp only [aax]
 omega
def bF (n:Int):ah:=((few 3 n).1,((few 3 n).2:Int))
theorem qh {n:Int} (h0:0≤n) (h1:n≤1000000000000000):mZ n=some (bF n,()):=by
 unfold mZ
 rw [L8 n (by omega) (by omega),Option.bind_some]
 have hb:n.natAbs<4294967296 ^ 99:=abe (show n.natAbs<4294967296 ^ 2 by omega) (abr (by omega) (by omega))
 have:=Mc n hb 3 (by omega)
 rw [show ((3:Nat):Int)=3 from rfl] at this
 dsimp only
 rw [this,Option.bind_some,if_pos (by have:=(KH 3 n).2.2;omega)]
 rfl
def mU (d:ah):ah:=((few d.2.toNat d.1).1,((few d.2.toNat d.1).2:Int))
theorem M3 {d:ah} (h0:0≤d.1) (h1:d.1≤1000000000000000) (h2:0≤d.2) (h3:d.2≤9):wB d=some (mU d,()):=by
 unfold wB
 have loop:∀ (n:Nat) (z:Int) (p:Nat),0≤z→z≤1000000000000000→p≤9→p<n→iter (X:=qU) (β:=qT) n (z,(p:Int),0,0,()) qS=some (Sum.inr ((few p z).1,((few p z).2:Int),0,0,())):=by
  intro n
  induction n with
  | zero=>intro z p _ _ _ h;omega
  | succ n ih=>
   intro z p hz hz1 hp hn
   rw [dK]
   generalize hag:(fun y=>iter n y qS)=again
   unfold qS
   dsimp only
   cases p with
   | zero=>rfl
   | succ p=>
    rw [decide_eq_true (show ((p+1:Nat):Int)>0 by omega),cond_true,Option.bind_some]
    dsimp only
    rw [ZX hz]
    by_cases hm:z % 10=0
    ·rw [show (z % 10==0)=true by simp [hm],cond_true,ZW hz,aD (n:=z / 10) (by omega) (by omega),aD (n:=((p+1:Nat):Int) - 1) (by omega) (by omega),
      show ((p+1:Nat):Int) - 1=(p:Int) by omega, ← hag]
     refine (ih (z / 10) p (by omega) (by omega) (by omega) (by omega)).trans ?_
     rw [show few (p+1) z=few p (z / 10) by rw [few,if_pos hm]]
    ·rw [show (z % 10==0)=false by simp [hm],cond_false,show few (p+1) z=(z,p+1) by rw [few,if_neg hm]]
 obtain ⟨k,hk⟩:∃ k:Nat,d.2=k:=⟨d.2.toNat,by omega⟩
 rw [hk]
 have:=loop (d.1.natAbs+(Int.natAbs (k:Int)+(Int.natAbs (0:Int)+(Int.natAbs (0:Int)+2)))) d.1 k h0 h1 (by omega) (by omega)
 rw [this]
 unfold mU
 rw [hk]
 rfl
def bY (x:aj):fU:=(x.no,x.art,x.unit,bF x.ord,mU x.price,x.due,bF x.shp,bF x.rcv,bF x.ret,bF x.opn)
def IL (x:aj):Prop:=0≤x.price.1∧x.price.1≤1000000000000000∧0≤x.price.2∧x.price.2≤9
theorem Wy {x:aj} (h:LOk x):0≤x.opn∧x.opn≤1000000000000:=by
 have:=h.ret0;have:=h.retr;have:=h.rcvs;have:=h.ord1
 unfold aj.opn
 split<;>omega
theorem IJ {A:List aj} {k:Nat} {x:aj} (h:A[k]? =some x) (hx:LOk x) (hp:IL x):pJ (some k) (A.map aj.tup)=some (bY x,()):=by
 obtain ⟨p1,p2,p3,p4⟩:=hp
 obtain ⟨q1,q2⟩:=Wy hx
 have:=hx.ret0;have:=hx.retr;have:=hx.rcvs;have:=hx.shp1;have:=hx.qO;have:=hx.ord1
 unfold pJ
 simp only [Option.bind_some,oQ h,Ao h hx]
 rw [qh (n:=x.ord) (by omega) (by omega),qh (n:=x.shp) (by omega) (by omega),qh (n:=x.rcv) (by omega) (by omega),qh (n:=x.ret) (by omega) (by omega),qh (n:=x.opn) (by omega) (by omega),M3 p1 p2 p3 p4]
 rfl
end Go.Md
namespace Go.Md
open Go.Dn
theorem DV {d:ah} (h:inR d 0 1000000000 4=true):0≤d.1∧d.1≤1000000000000000∧0≤d.2∧d.2≤9:=by
 unfold inR at h
 obtain ⟨⟨h1,h2,h3⟩,h4,h5,h6⟩:=abU h
 refine ⟨by omega,by omega,h2,h3⟩
theorem UG {l:List aa} {d:aa} {x:aj} (hw:WOk l x) (hl:∀ d,d∈l→aY d=0) (hp:IL x):IL (bA l d x).2:=by
 unfold bA
 by_cases h1:x.wish<0
 ·rw [if_pos h1];exact hp
 rw [if_neg h1]
 obtain ⟨w,hw1,hw2⟩:=hw.kind (by omega)
 rw [k5 hw1]
 obtain ⟨_,_,_,hk,_,_,hu⟩:=bz (hl w (List.mem_of_getElem? hw1))
 obtain ⟨_,up,_⟩:=cW hu
 by_cases h2:dNo w≠dTo d
 ·rw [if_pos h2];exact hp
 rw [if_neg h2]
 by_cases h3:aG d=5
 ·rw [if_pos h3]
  by_cases k2:aG w=2
  ·rw [if_pos k2]
   split<;>exact hp
  ·rw [if_neg k2]
   by_cases k1:aG w=1
   ·rw [if_pos k1];exact hp
   ·rw [if_neg k1]
    by_cases k3:aG w=3
    ·rw [if_pos k3];exact hp
    ·rw [if_neg k3]
     have hk':1≤aG w∧aG w≤11:=hk
     exact DV (up (by unfold usP;exact decide_eq_true (.inr (by omega))))
 ·rw [if_neg h3];exact hp
theorem Xl {ext:Int} {d:aa} {x:aj} (hp:IL x):IL (bW ext d x).2:=by
 unfold bW
 split
 ·split
  ·exact hp
  ·split<;>exact hp
 ·split
  ·split<;>exact hp
  ·split<;>exact hp
theorem XR {o:ai} {l:List aa} {i:Nat} {d:aa} {x:aj} (hw:WOk l x) (hl:∀ d,d∈l→aY d=0) (hp:IL x):IL (aV o l i d x).2:=by
 have ha:=UG (d:=d) hw hl hp
 have hm:=Xl (ext:=bM o) (d:=d) hp
 unfold aV
 split
 ·unfold rB
  split
  ·exact hp
  ·split<;>exact hp
 ·split
  ·split<;>exact ha
  ·split
   ·split<;>exact hp
   ·split
    ·unfold BI
     split
     ·exact hp
     ·split<;>exact hp
    ·split
     ·split<;>exact hm
     ·exact hm
structure Good (l:List aa) (A:List aj):Prop where
 sound:Sound l A
 pr:∀ x,x∈A→IL x
theorem Gp {o:ai} {l:List aa} {i:Nat} {d:aa} {A:List aj} (hA:Good l A) (hl:∀ d,d∈l→aY d=0) (hd:l[i]? =some d):Good l (bg o l i d A).2:=by
 refine ⟨(Mg hA.sound hl hd).1,fun x hx=> ?_⟩
 unfold bg at hx
 by_cases k1:aG d=1
 ·rw [if_pos k1] at hx
  split at hx
  ·exact hA.pr x hx
  ·split at hx
   ·exact hA.pr x hx
   ·split at hx
    ·exact hA.pr x hx
    ·rcases aaE.1 hx with hx | hx
     ·exact hA.pr x hx
     ·simp only [aaP] at hx
      subst hx
      obtain ⟨_,_,_,_,_,_,hu⟩:=bz (hl d (List.mem_of_getElem? hd))
      exact DV ((cW hu).2.1 (by rw [k1];rfl))
 ·rw [if_neg k1] at hx
  split at hx
  ·exact hA.pr x hx
  ·split at hx
   ·rename_i y hy
    rcases aaN hx with hx | hx
    ·exact hA.pr x hx
    ·subst hx
     have hm:=List.mem_of_getElem? hy
     exact XR (hA.sound.line y hm).2 hl (hA.pr y hm)
   ·exact hA.pr x hx
def l7 (n:Int) (A:List aj):Option aj:=(fD n A).bind fun k=>A[k]?
theorem Bx {n:Int} {A:List aj} {k:Nat} {x:aj} (h:fD n A=some k) (hx:A[k]? =some x):l7 n A=some x:=by unfold l7;rw [h];exact hx
theorem LK {o:ai} {l:List aa} {i:Nat} {d:aa} {A:List aj} (hA:Sound l A) (hl:∀ d,d∈l→aY d=0) (hd:l[i]? =some d) (h0:(bg o l i d A).1=0):
 ∃ k x,fD (cD d) (bg o l i d A).2=some k∧(bg o l i d A).2[k]? =some x:=by
 unfold bg at h0 ⊢
 by_cases k1:aG d=1
 ·rw [if_pos k1] at h0 ⊢
  split at h0
  ·cases h0
  ·rename_i hf
   split at h0
   ·cases h0
   ·rename_i h5
    split at h0
    ·cases h0
    ·rename_i h6
     rw [if_neg h5,if_neg h6]
     refine ⟨A.length,eN i d, ?_,by simp⟩
     show bR (cD d) 0 (A++[eN i d])=_
     rw [Bq,show bR (cD d) 0 A=none from hf,if_pos (show cD d=(eN i d).no from rfl)]
     simp
 ·rw [if_neg k1] at h0 ⊢
  split at h0
  ·cases h0
  ·rename_i k hk
   obtain ⟨x,hx,hxn⟩:=s6 hk
   rw [hx]
   dsimp only
   obtain ⟨h1,h2⟩:=hA.line x (List.mem_of_getElem? hx)
   refine ⟨k,_, ?_,KK hx _⟩
   show bR (cD d) 0 (A.set k _)=_
   rw [GG A 0 (fun z hz=>by rw [hx] at hz;cases hz;exact (BN (o:=o) h1 h2 hl hd).2.2.1)]
   exact hk
def pN (wt:Int) (i:Nat) (d:aa) (A:List aj) (pts:List aB):List aB:=
 if cD d=wt then (match l7 (cD d) A with | some x=>pts++[((i:Int),bY x)] | none=>pts) else pts
def eA (o:ai) (l:List aa) (wt day:Int):List aa→Nat→List aj→List (Int×Int)→List aB→List aj×List (Int×Int)×List aB
 | [],_,A,ref,pts=>(A,ref,pts)
 | d::r,i,A,ref,pts=>
  if day<d.1 then (A,ref,pts)
  else if (bg o l i d A).1≠0 then eA o l wt day r (i+1) (bg o l i d A).2 (ref++[((i:Int),(bg o l i d A).1)]) pts
  else eA o l wt day r (i+1) (bg o l i d A).2 ref (pN wt i d (bg o l i d A).2 pts)
theorem dA {β:Type} {b:Bool} (h:b=true) (x:Option β):chk b x=x:=by rw [h];rfl
theorem XB {onum obuy osel:List UInt8} {oday oext:Int} {olns:List aI} {l:List aa} {wt day:Int} (he0:0≤oext) (he1:oext≤1000) (hl:∀ d,d∈l→aY d=0) (hlen:l.length≤2000):
 ∀ (r:List aa) (i n:Nat) (A:List aj) (ref:List (Int×Int)) (pts:List aB),l.drop i=r→i≤l.length→Good l A→ref.length≤i→pts.length≤i→r.length<n→
  iter (X:=jR) (β:=jQ) n (day,l,(l.length:Int),(i:Int),onum,obuy,osel,oday,oext,olns,l,mapOf A,ref,pts,wt,A.map aj.tup,()) gJ=
   some (Sum.inr (onum,obuy,osel,oday,oext,olns,l,mapOf (eA (onum,obuy,osel,oday,oext,olns) l wt day r i A ref pts).1,(eA (onum,obuy,osel,oday,oext,olns) l wt day r i A ref pts).2.1,(eA (onum,obuy,osel,oday,oext,olns) l wt day r i A ref pts).2.2,wt,(eA (onum,obuy,osel,oday,oext,olns) l wt day r i A ref pts).1.map aj.tup,())):=by
 intro r
 induction r with
 | nil=>
  intro i n A ref pts hd hi hA hr hp hn
  have:i=l.length:=by
   have:=congrArg List.length hd
   simp at this;omega
  subst this
  obtain ⟨n,rfl⟩:∃ m,n=m+1:=⟨n - 1,by omega⟩
  rw [dK]
  unfold gJ
  dsimp only
  rw [abH (show ¬((l.length:Int)<(l.length:Int)) by omega),cond_false]
  rfl
 | cons d r ih=>
  intro i n A ref pts hdr hi hA hr hp hn
  have hd:l[i]? =some d:=by
   have:=congrArg (·[0]?) hdr
   simpa [aal] using this
  have hr':l.drop (i+1)=r:=by
   have:=congrArg List.tail hdr
   simpa [aaW] using this
  have hlt:i<l.length:=(List.getElem?_eq_some_iff.1 hd).1
  obtain ⟨n,rfl⟩:∃ m,n=m+1:=⟨n - 1,by simp at hn;omega⟩
  rw [dK]
  generalize hag:(fun y=>iter n y gJ)=again
  unfold gJ
  dsimp only
  rw [decide_eq_true (show (i:Int)<(l.length:Int) by omega),cond_true,bQ hd,Option.bind_some]
  have hdeed:=EM (o:=(onum,obuy,osel,oday,oext,olns)) (ref:=ref) (pts:=pts) (wt:=wt) hA.sound hl hd he0 he1
  have hgood:=Gp (o:=(onum,obuy,osel,oday,oext,olns)) hA hl hd
  by_cases hday:day<d.1
  ·rw [decide_eq_true (show d.1>day from hday),cond_true]
   simp only [eA,if_pos hday]
  ·rw [abH (show ¬d.1>day from hday),cond_false]
   rw [hdeed,Option.bind_some]
   dsimp only
   rw [aD (n:=(i:Int)+1) (by omega) (by omega)]
   simp only [eA,if_neg hday]
   have wZ:maxLen=9223372036854775807:=rfl
   have hi1:(i:Int)+1=((i+1:Nat):Int):=by omega
   by_cases he:(bg (onum,obuy,osel,oday,oext,olns) l i d A).1=0
   ·rw [if_neg (fun h=>h he),he]
    rw [show ((0:Int) != 0)=false from rfl,cond_false]
    by_cases hw:cD d=wt
    ·obtain ⟨k,x,hk,hx⟩:=LK hA.sound hl hd he
     have hxm:=List.mem_of_getElem? hx
     rw [show (d.2.2.2.2.1==wt)=true by simpa using hw,cond_true,ij,show bR d.2.2.2.2.1 0 _=some k from hk,
      IJ hx (hgood.sound.line x hxm).1 (hgood.pr x hxm),Option.bind_some]
     rw [dA (by rw [Zv];exact ⟨decide_eq_true (by omega),decide_eq_true (by omega)⟩)]
     have hpt:pN wt i d (bg (onum,obuy,osel,oday,oext,olns) l i d A).2 pts=pts++[((i:Int),bY x)]:=by
      unfold pN
      rw [if_pos hw,Bx hk hx]
     rw [hpt,hi1, ← hag]
     exact ih (i+1) n _ ref _ hr' (by omega) hgood (by omega) (by simp;omega) (by simp at hn;omega)
    ·rw [show (d.2.2.2.2.1==wt)=false by simpa using hw,cond_false]
     have hpt:pN wt i d (bg (onum,obuy,osel,oday,oext,olns) l i d A).2 pts=pts:=by
      unfold pN
      rw [if_neg hw]
     rw [hpt,hi1, ← hag]
     exact ih (i+1) n _ ref pts hr' (by omega) hgood (by omega) (by omega) (by simp at hn;omega)
   ·rw [if_pos he,cR he,cond_true]
    rw [dA (by rw [Zv];exact ⟨decide_eq_true (by omega),decide_eq_true (by omega)⟩)]
    rw [hi1, ← hag]
    exact ih (i+1) n _ _ pts hr' (by omega) hgood (by simp;omega) (by omega) (by simp at hn;omega)
theorem F0 {o:ai} {l:List aa} {wt day:Int} {A:List aj} (he:0≤bM o∧bM o≤1000) (hl:∀ d,d∈l→aY d=0) (hlen:l.length≤2000) (hA:Good l A):
 eY (o,l,mapOf A,[],[],wt,()) day (A.map aj.tup)=some ((o,l,mapOf (eA o l wt day l 0 A [] []).1,(eA o l wt day l 0 A [] []).2.1,(eA o l wt day l 0 A [] []).2.2,wt,()),(eA o l wt day l 0 A [] []).1.map aj.tup,()):=by
 obtain ⟨onum,obuy,osel,oday,oext,olns⟩:=o
 unfold eY
 refine (congrArg (fun z=>aL z _) (XB (onum:=onum) (obuy:=obuy) (osel:=osel) (oday:=oday) (olns:=olns) (wt:=wt) (day:=day) he.1 he.2 hl hlen l 0 _ A [] [] rfl (abv _) hA (abv _) (abv _) ?_)).trans rfl
 dsimp only
 omega
theorem By {o:ai} (ho:iu o=0) (l:List aa):Good l (ef o):=by
 obtain ⟨_,_,_,_,hgo,_⟩:=r0 ho
 obtain ⟨hln,_,_⟩:=mz hgo
 refine ⟨⟨fun x hx=> ?_⟩,fun x hx=> ?_⟩
 ·obtain ⟨q,hq,rfl⟩:=aaL.1 hx
  obtain ⟨_,h2,_⟩:=hln q hq
  obtain ⟨u0,u1,_⟩:=jD h2
  exact ⟨⟨by show (0:Int)≤0;omega,by show (0:Int)≤0;omega,by show (0:Int)≤0;omega,by show (0:Int)≤_;omega,u0,u1,fun e=>absurd rfl e⟩,⟨by show (-1:Int)≤ -1;omega,fun h=>by have:(0:Int)≤ -1:=h;omega⟩⟩
 ·obtain ⟨q,hq,rfl⟩:=aaL.1 hx
  obtain ⟨_,_,_,h4,_⟩:=hln q hq
  exact DV h4
def ew (o:ai) (l:List aa) (wt day:Int):List aj×List (Int×Int)×List aB:=eA o l wt day l 0 (ef o) [] []
def fI (o:ai) (l:List aa):Int:=if iu o≠0 then iu o else eV l
theorem vV {o:ai} {l:List aa} (h:fI o l=0):iu o=0∧eV l=0:=by
 unfold fI at h
 split at h
 ·rename_i h1;exact absurd h h1
 ·rename_i h1;exact ⟨ZJ.1 h1,h⟩
theorem start_eq {o:ai} {l:List aa} (h:fI o l=0) (wt day:Int):∃ q,fJ o l []=some ((o,l,mapOf (ef o),[],[],0,()),(ef o).map aj.tup,())∧
 eY (o,l,mapOf (ef o),[],[],wt,()) day ((ef o).map aj.tup)=some ((o,l,mapOf (ew o l wt day).1,(ew o l wt day).2.1,(ew o l wt day).2.2,wt,()),(ew o l wt day).1.map aj.tup,())∧q=():=by
 obtain ⟨h1,h2⟩:=vV h
 obtain ⟨h3,h4⟩:=gW h2
 exact ⟨(),Hl h1 l,F0 (r0 h1).2.1 h4 h3 (By h1 l),rfl⟩
theorem Ij (o:ai) (l:List aa) (day:Int):BB o l day []=(if fI o l≠0 then some (none,fI o l,[],()) else if ¬(1≤day∧day≤3652059) then some (none,1,[],()) else none):=by
 unfold BB
 rw [vC,Option.bind_some,rV]
 dsimp only
 by_cases h:fI o l=0
 ·rw [if_neg (show ¬fI o l≠0 from fun e=>e h),show (if iu o≠0 then iu o else eV l)=0 from h,show ((0:Int) != 0)=false from rfl,cond_false,Option.bind_some]
  by_cases hd:1≤day∧day≤3652059
  ·rw [if_neg (show ¬¬(1≤day∧day≤3652059) from fun e=>e hd),decide_eq_true hd]
   obtain ⟨_,e1,e2,_⟩:=start_eq h 0 day
   dsimp only
   rw [Bool.not_true,cond_false,e1,Option.bind_some]
   dsimp only
   rw [e2];rfl
  ·rw [if_pos hd,abH hd];rfl
 ·rw [if_pos (show fI o l≠0 from h),show ((if iu o≠0 then iu o else eV l) != 0)=true from cR h,cond_true]
  rfl
theorem TM {o:ai} {l:List aa} {day:Int} (h:fI o l=0) (hd:1≤day∧day≤3652059):Hi o l day []=some ((o,l,mapOf (ew o l 0 day).1,(ew o l 0 day).2.1,(ew o l 0 day).2.2,0,()),0,(ew o l 0 day).1.map aj.tup,()):=by
 unfold Hi
 rw [vC,Option.bind_some,rV]
 dsimp only
 rw [show (if iu o≠0 then iu o else eV l)=0 from h,show ((0:Int) != 0)=false from rfl,cond_false,Option.bind_some,decide_eq_true hd]
 obtain ⟨_,e1,e2,_⟩:=start_eq h 0 day
 dsimp only
 rw [Bool.not_true,cond_false,e1,Option.bind_some]
 dsimp only
 rw [e2];rfl
end Go.Md
namespace Go.Md
open Go.Dn
theorem YB:GW=some (true,()):=by kernel_rfl
end Go.Md
namespace Go.Md
open Go.Dn
theorem Wi {n:Int} {A:List aj} {y:aj} (h:y.no≠n):l7 n (A++[y])=l7 n A:=by
 unfold l7
 have:fD n (A++[y])=fD n A:=by
  unfold fD
  rw [Bq,if_neg (fun e=>h e.symm),Option.or_none]
 rw [this]
 cases hk:fD n A with
 | none=>rfl
 | some k=>
  obtain ⟨x,hx,_⟩:=s6 hk
  have:=(List.getElem?_eq_some_iff.1 hx).1
  simp only [Option.bind_some]
  rw [aah this]
theorem Wj {n:Int} {A:List aj} {k:Nat} {x y:aj} (hx:A[k]? =some x) (hn:x.no≠n) (hy:y.no=x.no):l7 n (A.set k y)=l7 n A:=by
 unfold l7
 have:fD n (A.set k y)=fD n A:=GG A 0 (fun z hz=>by rw [hx] at hz;cases hz;exact hy)
 rw [this]
 cases hj:fD n A with
 | none=>rfl
 | some j=>
  obtain ⟨z,hz,hzn⟩:=s6 hj
  simp only [Option.bind_some]
  have hjk:k≠j:=fun e=>by subst e;rw [hx] at hz;cases hz;exact hn hzn
  rw [aao hjk]
theorem Te {o:ai} {l:List aa} {i:Nat} {d:aa} {A:List aj} {n:Int} (hA:Sound l A) (hl:∀ d,d∈l→aY d=0) (hd:l[i]? =some d) (hn:cD d≠n):
 l7 n (bg o l i d A).2=l7 n A:=by
 unfold bg
 by_cases k1:aG d=1
 ·rw [if_pos k1]
  split
  ·rfl
  ·split
   ·rfl
   ·split
    ·rfl
    ·exact Wi hn
 ·rw [if_neg k1]
  split
  ·rfl
  ·rename_i k hk
   obtain ⟨x,hx,hxn⟩:=s6 hk
   rw [hx]
   obtain ⟨h1,h2⟩:=hA.line x (List.mem_of_getElem? hx)
   exact Wj hx (by rw [hxn];exact hn) (BN (o:=o) h1 h2 hl hd).2.2.1
theorem Py {o:ai} {l:List aa} (wt wt' day:Int):∀ (r:List aa) (i:Nat) (A:List aj) (ref:List (Int×Int)) (pts pts':List aB),
 (eA o l wt day r i A ref pts).1=(eA o l wt' day r i A ref pts').1∧(eA o l wt day r i A ref pts).2.1=(eA o l wt' day r i A ref pts').2.1
 | [],_,_,_,_,_=>⟨rfl,rfl⟩
 | d::r,i,A,ref,pts,pts'=>by
  simp only [eA]
  split
  ·exact ⟨rfl,rfl⟩
  ·split
   ·exact Py wt wt' day r _ _ _ _ _
   ·exact Py wt wt' day r _ _ _ _ _
structure Pts (l:List aa) (wt:Int) (n:Nat) (A:List aj) (pts:List aB):Prop where
 pt:∀ (j:Nat) (p:aB),pts[j]? =some p→0≤p.1∧p.1<n∧(∃ d,idx l p.1=some d∧cD d=wt)∧∀ q,0<j→pts[j - 1]? =some q→q.1<p.1
 last:∀ p,pts.getLast? =some p→∃ x,l7 wt A=some x∧p.2=bY x
theorem Vd {α β:Type} {f:α→Option β} {g:Option β}:Rx (none:Option α) f g=g:=rfl
end Go.Md
namespace Go.Md
open Go.Dn
theorem S6 {l:List aa} {x:aj} (d':aa) (hw:WOk l x) (h:¬x.wish<0):gF (l++[d']) x=gF l x:=by
 obtain ⟨w,hw1,_⟩:=hw.kind (by omega)
 have hlt:=(List.getElem?_eq_some_iff.1 hw1).1
 rw [k5 hw1]
 exact k5 (by rw [aah hlt];exact hw1)
theorem Ta {l:List aa} {d d':aa} {x:aj} (hw:WOk l x):bA (l++[d']) d x=bA l d x:=by
 unfold bA
 by_cases h:x.wish<0
 ·rw [if_pos h,if_pos h]
 ·rw [if_neg h,if_neg h,S6 d' hw h]
theorem WU {o:ai} {l:List aa} {i:Nat} {d d':aa} {x:aj} (hw:WOk l x):aV o (l++[d']) i d x=aV o l i d x:=by
 unfold aV
 rw [Ta hw]
theorem VW {o:ai} {l:List aa} {i:Nat} {d d':aa} {A:List aj} (hA:Sound l A):bg o (l++[d']) i d A=bg o l i d A:=by
 unfold bg
 split
 ·rfl
 ·split
  ·rfl
  ·split
   ·rename_i x hx
    rw [WU (hA.line x (List.mem_of_getElem? hx)).2]
   ·rfl
theorem C6 {o:ai} {l:List aa} {wt day:Int}:∀ (r:List aa) (i:Nat) (A:List aj) (ref:List (Int×Int)) (pts:List aB),ref.length≤i→(∀ e,e∈ref→e.2≠0)→
 (eA o l wt day r i A ref pts).2.1.length≤i+r.length∧∀ e,e∈(eA o l wt day r i A ref pts).2.1→e.2≠0
 | [],i,A,ref,pts,h1,h2=>⟨h1,h2⟩
 | d::r,i,A,ref,pts,h1,h2=>by
  simp only [eA,aau]
  split
  ·exact ⟨by show ref.length≤_;omega,h2⟩
  ·split
   ·rename_i he
    have:=C6 (o:=o) (l:=l) (wt:=wt) (day:=day) r (i+1) (bg o l i d A).2 (ref++[((i:Int),(bg o l i d A).1)]) pts (by simp;omega) (fun e hm=>by
     rcases aaE.1 hm with hm | hm
     ·exact h2 e hm
     ·simp only [aaP] at hm;subst hm;exact he)
    exact ⟨by have:=this.1;omega,this.2⟩
   ·have:=C6 (o:=o) (l:=l) (wt:=wt) (day:=day) r (i+1) (bg o l i d A).2 ref (pN wt i d (bg o l i d A).2 pts) (by omega) h2
    exact ⟨by have:=this.1;omega,this.2⟩
theorem xN (l:List aa) (hl:l.length≤2000):gM l=some (l,()):=by
 have wZ:maxLen=9223372036854775807:=rfl
 have hc:(decide ((0+(List.length l))*120≤140737488355328)&&decide (0+(List.length l)≤maxLen))=true:=by
  rw [Zv];exact ⟨decide_eq_true (by omega),decide_eq_true (by omega)⟩
 unfold gM
 rw [dA hc]
 cases l with
 | nil=>simp [both]
 | cons x r=>rfl
theorem EW (l:List aa) (hl:l.length≤2000):jW l l=some (true,()):=by
 unfold jW
 rw [show ((l.length:Int) != (l.length:Int))=false by simp,cond_false]
 have:∀ n,l.length<n→iter (X:=fh) (β:=iA) n (l,l,(l.length:Int),0,()) iy=some (Sum.inr ()):=by
  intro n hn
  refine de (Inv:=fun i X=>X=((l,l,(l.length:Int),(i:Int),()):fh)) l.length (fun z=>z=some (Sum.inr ())) ?_ ?_ n 0 _ rfl (abv _) (by omega)
  ·rintro i X again hi rfl hag
   unfold iy
   dsimp only
   obtain ⟨y,hy⟩:∃ y,l[i]? =some y:=⟨l[i],List.getElem?_eq_getElem hi⟩
   rw [decide_eq_true (show (i:Int)<(l.length:Int) by omega),cond_true,bQ hy,Option.bind_some,Option.bind_some,aD (n:=(i:Int)+1) (by omega) (by omega)]
   simp only [abE,Bool.and_self,Bool.not_true,cond_false]
   exact hag _ rfl
  ·rintro X again rfl
   unfold iy
   dsimp only
   rw [abH (show ¬(l.length:Int)<(l.length:Int) by omega),cond_false]
 rw [this _ (by omega)]
 rfl
theorem BG (l:List ah) (hl:l.length≤2001):fk l l=some (true,()):=by
 unfold fk
 rw [show ((l.length:Int) != (l.length:Int))=false by simp,cond_false]
 have:∀ n,l.length<n→iter (X:=dS) (β:=fO) n (l,l,(l.length:Int),0,()) fN=some (Sum.inr ()):=by
  intro n hn
  refine de (Inv:=fun i X=>X=((l,l,(l.length:Int),(i:Int),()):dS)) l.length (fun z=>z=some (Sum.inr ())) ?_ ?_ n 0 _ rfl (abv _) (by omega)
  ·rintro i X again hi rfl hag
   unfold fN
   dsimp only
   obtain ⟨y,hy⟩:∃ y,l[i]? =some y:=⟨l[i],List.getElem?_eq_getElem hi⟩
   rw [decide_eq_true (show (i:Int)<(l.length:Int) by omega),cond_true,bQ hy,Option.bind_some,Option.bind_some,aD (n:=(i:Int)+1) (by omega) (by omega)]
   simp only [abE,Bool.and_self,Bool.not_true,cond_false]
   exact hag _ rfl
  ·rintro X again rfl
   unfold fN
   dsimp only
   rw [abH (show ¬(l.length:Int)<(l.length:Int) by omega),cond_false]
 rw [this _ (by omega)]
 rfl
theorem J9 {o:ai} {l:List aa} (h:fI o l=0):jM o l=some ((ew o l 0 3652059).2.1,0,()):=by
 unfold jM
 rw [Ij,if_neg (show ¬fI o l≠0 from fun e=>e h),if_neg (show ¬¬((1:Int)≤3652059∧(3652059:Int)≤3652059) from fun e=>e (by omega))]
 refine Eq.trans Vd ?_
 rw [TM h (by omega),Option.bind_some]
 rfl
end Go.Md
namespace Go.Md
open Go.Dn
theorem lM (a b c:Int):jm a b c=some (decide (b≤a∧a≤c),()):=by
 unfold jm
 by_cases h:b≤a
 ·rw [bG h];simp [h]
 ·rw [bP h];simp [h]
theorem Qu {a b:ah} (ha:fB a) (hb:fB b):sC a b=some ((kO a - kO b).sign,()):=Vl ha hb
theorem KC:fB ((1000000000,0):ah)∧kO ((1000000000,0):ah)=1000000000*10 ^ 9:=⟨⟨by decide,by decide,by decide⟩,by simp [kO]⟩
theorem T7 {d:ah} (hd:fB d) (pl:Int):inR d 0 1000000000 pl=(!decide (d.1<0)&&(!decide ((kO d - 1000000000*10 ^ 9).sign>0)&& !decide (d.2>pl))):=by
 have h1:(kO d - 1000000000*10 ^ 9).sign>0↔¬d.1≤1000000000*10 ^ d.2.toNat:=by
  rw [← XW hd.2.1 hd.2.2,gt_iff_lt,Int.sign_pos_iff]
  omega
 unfold inR
 rw [Zy]
 simp only [abJ,Zv,ZE,abI]
 rw [h1]
 constructor
 ·rintro ⟨_,h2,h3,h4⟩;exact ⟨by omega,fun h=>h h4,by omega⟩
 ·rintro ⟨h2,h3,h4⟩;exact ⟨hd,by omega,by omega,ZJ.1 h3⟩
theorem T8 {d:ah} (hd:¬fB d) (a b pl:Int):inR d a b pl=false:=abH (fun h=>hd h.1)
theorem yt (d:ah) (z:Bool):lK d z=some (if qOk d z=true then 0 else 1,()):=by
 unfold lK qOk yS
 simp only [Option.bind_some]
 rw [yq,Option.bind_some]
 by_cases hd:fB d
 ·rw [if_pos hd,T7 hd 3,Qu hd KC.1,KC.2]
  generalize decide (d.1<0)=b1
  generalize (kO d - 1000000000*10 ^ 9).sign=sg
  generalize decide (d.2>3)=b3
  generalize (d.1==0)=b4
  simp only [Option.bind_some]
  generalize decide (sg>0)=b2
  cases b1<;>cases b4<;>cases z<;>cases b2<;>cases b3<;>rfl
 ·rw [if_neg hd,T8 hd]
  rfl
theorem C0 (d:ah):qq d=some (if inR d 0 1000000000 4=true then 0 else 1,()):=by
 unfold qq yS
 simp only [Option.bind_some]
 rw [yq,Option.bind_some]
 by_cases hd:fB d
 ·rw [if_pos hd,T7 hd 4,Qu hd KC.1,KC.2]
  generalize decide (d.1<0)=b1
  generalize (kO d - 1000000000*10 ^ 9).sign=sg
  generalize decide (d.2>4)=b3
  simp only [Option.bind_some]
  generalize decide (sg>0)=b2
  cases b1<;>cases b2<;>cases b3<;>rfl
 ·rw [if_neg hd,T8 hd]
  rfl
theorem Kp {k:Int} (hk:1≤k∧k≤11):D7 k=some ((usQ k,usP k,usU k,usA k,usT k),()):=by
 have:k=1∨k=2∨k=3∨k=4∨k=5∨k=6∨k=7∨k=8∨k=9∨k=10∨k=11:=by omega
 rcases this with rfl | rfl | rfl | rfl | rfl | rfl | rfl | rfl | rfl | rfl | rfl<;>rfl
theorem YC (a b:Bool):(bif a then some (b,()) else some (false,()))=some (a&&b,()):=by cases a<;>rfl
theorem bOr (a b:Bool):(bif a then some (true,()) else some (b,()))=some (a||b,()):=by cases a<;>rfl
theorem bAO (a b x:Bool):(bif a then some (b||x,()) else some (x,()))=some (a&&b||x,()):=by cases a<;>rfl
theorem Zf (b:Bool):((if b=true then (0:Int) else 1) != 0)= !b:=by cases b<;>rfl
theorem YZ {β:Type} (x:Option β):chk true x=x:=rfl
theorem XT (a b:List UInt8):((a++b)==[])=((a==[])&&(b==[])):=by cases a<;>cases b<;>rfl
theorem Ll {d:aa} (hk:1≤d.2.2.2.1∧d.2.2.2.1≤11) (hs:d.2.2.2.2.2.1.length+d.2.2.2.2.2.2.2.1.length≤maxLen):tu d=some (BK d,()):=by
 unfold tu BK OA
 rw [Kp hk,Option.bind_some]
 simp only [yt,C0,EP,CS,lM,Option.bind_some,decide_eq_true hs,YZ,Zf,XT]
 rw [show decide (1≤d.2.2.2.2.2.2.2.2.2.1∧d.2.2.2.2.2.2.2.2.2.1≤3652059)=w8 d.2.2.2.2.2.2.2.2.2.1 from rfl,show decide (1≤d.2.2.2.2.2.2.2.2.2.2∧d.2.2.2.2.2.2.2.2.2.2≤2000)=AM d.2.2.2.2.2.2.2.2.2.2 from rfl]
 generalize usQ d.2.2.2.1=uq
 generalize usP d.2.2.2.1=up
 generalize usU d.2.2.2.1=uu
 generalize usA d.2.2.2.1=ua
 generalize usT d.2.2.2.1=ut
 generalize (d.2.2.2.1==2)=k2
 generalize qOk d.2.2.2.2.2.2.1 k2=q
 generalize inR d.2.2.2.2.2.2.2.2.1 0 1000000000 4=p
 generalize w8 d.2.2.2.2.2.2.2.2.2.1=dy
 generalize AM d.2.2.2.2.2.2.2.2.2.2=tt
 generalize cB d.2.2.2.2.2.1=n1
 generalize cB d.2.2.2.2.2.2.2.1=n2
 generalize (d.2.2.2.2.2.1==[])=e1
 generalize (d.2.2.2.2.2.2.2.1==[])=e2
 generalize (d.2.2.2.2.2.2.2.2.2.1 != 0)=un
 generalize (d.2.2.2.2.2.2.2.2.2.2 != 0)=to
 simp only [Zx]
 generalize (d.2.2.2.2.2.2.1.1==0&&d.2.2.2.2.2.2.1.2==0)=q0
 generalize (d.2.2.2.2.2.2.2.2.1.1==0&&d.2.2.2.2.2.2.2.2.1.2==0)=p0
 simp only [YC,bOr,bAO,Option.bind_some]
 generalize h1:(uq&& !q)=c1
 cases c1
 ·simp only [cond_false]
  generalize h2:(up&& !p)=c2
  cases c2
  ·simp only [cond_false]
   generalize h3:(uu&& !dy)=c3
   cases c3
   ·simp only [cond_false]
    generalize h4:(ua&&(!n1|| !n2))=c4
    cases c4
    ·simp only [cond_false]
     generalize h5:(ut&& !tt)=c5
     cases c5
     ·simp only [cond_false]
      have e:((!uq&& !q0)||((!up&& !p0)||((!uu&&un)||((!ua&& !(e1&&e2))||(!ut&&to)))))=((!ua&& !e1)||((!uq&& !q0)||((!ua&& !e2)||((!up&& !p0)||((!uu&&un)||(!ut&&to)))))):=by
       generalize (!uq&& !q0)=x1
       generalize (!up&& !p0)=x2
       generalize (!uu&&un)=x3
       generalize (!ut&&to)=x4
       cases ua<;>cases e1<;>cases e2<;>cases x1<;>cases x2<;>cases x3<;>cases x4<;>rfl
      rw [e]
      generalize ((!ua&& !e1)||((!uq&& !q0)||((!ua&& !e2)||((!up&& !p0)||((!uu&&un)||(!ut&&to))))))=c6
      cases c6<;>rfl
     ·rfl
    ·rfl
   ·rfl
  ·rfl
 ·rfl
theorem Pv (k:Int):zx k=some (decide ((1≤k∧k≤4)∨k=8∨k=10∨k=11),()):=by
 unfold zx
 rw [lM,Option.bind_some]
 dsimp only
 by_cases h1:1≤k∧k≤4
 ·rw [decide_eq_true h1,cond_true,decide_eq_true (.inl h1)]
 ·rw [abH h1,cond_false]
  by_cases h2:k=8
  ·subst h2;rfl
  ·rw [bU h2,cond_false]
   by_cases h3:k=10
   ·subst h3;rfl
   ·rw [bU h3,cond_false]
    by_cases h4:k=11
    ·subst h4;rfl
    ·rw [bU h4,abH (fun h=>by omega)]
theorem Ol (a b:aa):sD a b=some (dCw a b,()):=by
 unfold sD dCw
 generalize w64 (a.1 - b.1)=x
 generalize w64 (a.2.1 - b.2.1)=y
 generalize w64 (a.2.2.1 - b.2.2.1)=z
 simp only [aau,aax]
 have key:iter (X:=rq) (β:=rj) 8 (3,0,[x,y,z],()) xI=(bif x != 0 then some (Sum.inl (x,())) else bif y != 0 then some (Sum.inl (y,())) else bif z != 0 then some (Sum.inl (z,())) else some (Sum.inr ())):=by kernel_rfl
 show aL (β:=(Int×Unit)) (γ:=Unit) (iter 8 (3,0,[x,y,z],()) xI) _=_
 rw [key]
 by_cases hx:x=0
 ·subst hx
  by_cases hy:y=0
  ·subst hy
   by_cases hz:z=0
   ·subst hz;rfl
   ·have:(z != 0)=true:=by simp [hz]
    rw [this];simp [aL]
  ·have:(y != 0)=true:=by simp [hy]
   rw [this];simp [aL,hy]
 ·have:(x != 0)=true:=by simp [hx]
  rw [this];simp [aL,hx]
def mT (b:Int) (l:List aa):Int:=l.foldl (fun m d=>if d.2.1=b then d.2.2.1 else m) 0
theorem Kn (b:Int) (l:List aa) (hl:l.length≤2000):Ax l b=some (mT b l,()):=by
 unfold Ax
 have:∀ n,l.length<n→iter (X:=sE) (β:=xK) n (b,0,l,(l.length:Int),0,()) xJ=some (Sum.inr (mT b l,())):=by
  intro n hn
  refine de (Inv:=fun i X=>X=((b,mT b (l.take i),l,(l.length:Int),(i:Int),()):sE)) l.length (fun z=>z=some (Sum.inr (mT b l,()))) ?_ ?_ n 0 _ rfl (abv _) (by omega)
  ·rintro i X again hi rfl hag
   unfold xJ
   dsimp only
   obtain ⟨y,hy⟩:∃ y,l[i]? =some y:=⟨l[i],List.getElem?_eq_getElem hi⟩
   rw [decide_eq_true (show (i:Int)<(l.length:Int) by omega),cond_true,bQ hy,Option.bind_some,aD (n:=(i:Int)+1) (by omega) (by omega)]
   have e:mT b (l.take (i+1))=if y.2.1=b then y.2.2.1 else mT b (l.take i):=by
    unfold mT
    rw [xS hy,List.foldl_append];rfl
   by_cases hb:y.2.1=b
   ·rw [show (y.2.1==b)=true by simpa using hb,cond_true]
    rw [if_pos hb] at e
    exact hag _ (by rw [e];rfl)
   ·rw [bU hb,cond_false]
    rw [if_neg hb] at e
    exact hag _ (by rw [e];rfl)
  ·rintro X again rfl
   unfold xJ
   dsimp only
   rw [abH (show ¬(l.length:Int)<(l.length:Int) by omega),cond_false,aa0]
 rw [this _ (by omega)]
 rfl
theorem W5 {a b:aa} (ha:aY a=0) (hb:aY b=0):decide (dCw b a≤0)=decide (0≤dCw a b):=by
 obtain ⟨a1,a2,a3,_⟩:=bz ha
 obtain ⟨b1,b2,b3,_⟩:=bz hb
 unfold dCw
 rw [aD (n:=b.1 - a.1) (by omega) (by omega),aD (n:=a.1 - b.1) (by omega) (by omega),aD (n:=b.2.1 - a.2.1) (by omega) (by omega),aD (n:=a.2.1 - b.2.1) (by omega) (by omega),
  aD (n:=b.2.2.1 - a.2.2.1) (by omega) (by omega),aD (n:=a.2.2.1 - b.2.2.1) (by omega) (by omega),abG]
 by_cases h1:a.1 - b.1=0
 ·rw [if_neg (show ¬(b.1 - a.1≠0) by omega),if_neg (show ¬(a.1 - b.1≠0) by omega)]
  by_cases h2:a.2.1 - b.2.1=0
  ·rw [if_neg (show ¬(b.2.1 - a.2.1≠0) by omega),if_neg (show ¬(a.2.1 - b.2.1≠0) by omega)];omega
  ·rw [if_pos (show (b.2.1 - a.2.1≠0) by omega),if_pos (show (a.2.1 - b.2.1≠0) by omega)];omega
 ·rw [if_pos (show (b.1 - a.1≠0) by omega),if_pos (show (a.1 - b.1≠0) by omega)];omega
def Txt (d:aa):Prop:=d.2.2.2.2.2.1.length+d.2.2.2.2.2.2.2.1.length≤maxLen
theorem CZ (l:List aa) (hs:∀ d,d∈l→Txt d):qp l=some (eV l,()):=by
 unfold qp eV
 by_cases hlen:2000<l.length
 ·rw [if_pos hlen,decide_eq_true (show (l.length:Int)>2000 by omega),cond_true]
 rw [if_neg hlen,abH (show ¬(l.length:Int)>2000 by omega),cond_false]
 have loop:∀ (r:List aa) (i n:Nat),l.drop i=r→i≤l.length→(∀ q,bE l i=some q→aY q=0)→r.length<n→
  aL (β:=(Int×Unit)) (γ:=Unit) (iter (X:=pP) (β:=pO) n (l,l,(l.length:Int),(i:Int),()) lJ) (fun _=>some (0,()))=some (cN r (bE l i) (mT 1 (l.take i)) (mT 2 (l.take i)),()):=by
  intro r
  induction r with
  | nil=>
   intro i n hd hi _ hn
   have:i=l.length:=by
    have:=congrArg List.length hd
    simp at this;omega
   subst this
   obtain ⟨n,rfl⟩:∃ m,n=m+1:=⟨n - 1,by omega⟩
   rw [dK]
   unfold lJ
   dsimp only
   rw [abH (show ¬((l.length:Int)<(l.length:Int)) by omega),cond_false]
   rfl
  | cons d r ih=>
   intro i n hdr hi hq hn
   have hd:l[i]? =some d:=by
    have:=congrArg (·[0]?) hdr
    simpa [aal] using this
   have hr':l.drop (i+1)=r:=by
    have:=congrArg List.tail hdr
    simpa [aaW] using this
   have hlt:i<l.length:=(List.getElem?_eq_some_iff.1 hd).1
   obtain ⟨n,rfl⟩:∃ m,n=m+1:=⟨n - 1,by simp at hn;omega⟩
   rw [dK]
   generalize hag:(fun y=>iter n y lJ)=again
   unfold lJ
   dsimp only
   rw [decide_eq_true (show (i:Int)<(l.length:Int) by omega),cond_true,bQ hd,Option.bind_some,EP,Option.bind_some]
   simp only [cN]
   by_cases h1:1≤d.1∧d.1≤3652059
   rotate_left
   ·have e:aY d=1:=by unfold aY;rw [if_pos h1]
    rw [abH h1,if_pos (show aY d≠0 by omega),e];rfl
   rw [decide_eq_true h1,Bool.not_true,cond_false]
   have eby:(bif d.2.1 != 1 then some (d.2.1 != 2,()) else some (false,()))=some (!decide (1≤d.2.1∧d.2.1≤2),()):=by
    rw [YC]
    congr 2
    by_cases k1:d.2.1=1
    ·simp [k1]
    ·by_cases k2:d.2.1=2
     ·simp [k2]
     ·rw [cR k1,cR k2,abH (by omega)];rfl
   rw [eby,Option.bind_some]
   dsimp only
   by_cases h2:1≤d.2.1∧d.2.1≤2
   rotate_left
   ·have e:aY d=4:=by unfold aY;rw [if_neg (show ¬¬_ from fun e=>e h1),if_pos h2]
    rw [abH h2,if_pos (show aY d≠0 by omega),e];rfl
   rw [decide_eq_true h2,Bool.not_true,cond_false,lM,Option.bind_some]
   dsimp only
   by_cases h3:1≤d.2.2.1∧d.2.2.1≤2000
   rotate_left
   ·have e:aY d=1:=by unfold aY;rw [if_neg (show ¬¬_ from fun e=>e h1),if_neg (show ¬¬_ from fun e=>e h2),if_pos h3]
    rw [abH h3,if_pos (show aY d≠0 by omega),e];rfl
   rw [decide_eq_true h3,Bool.not_true,cond_false,lM,Option.bind_some]
   dsimp only
   by_cases h4:1≤d.2.2.2.1∧d.2.2.2.1≤11
   rotate_left
   ·have e:aY d=4:=by unfold aY;rw [if_neg (show ¬¬_ from fun e=>e h1),if_neg (show ¬¬_ from fun e=>e h2),if_neg (show ¬¬_ from fun e=>e h3),if_pos h4]
    rw [abH h4,if_pos (show aY d≠0 by omega),e];rfl
   rw [decide_eq_true h4,Bool.not_true,cond_false,Pv,Option.bind_some]
   dsimp only
   by_cases h5:(d.2.2.2.1=5∨d.2.2.2.1=6∨d.2.2.2.1=7∨d.2.2.2.1=9)↔d.2.1=2
   rotate_left
   ·have e:aY d=4:=by unfold aY;rw [if_neg (show ¬¬_ from fun e=>e h1),if_neg (show ¬¬_ from fun e=>e h2),if_neg (show ¬¬_ from fun e=>e h3),if_neg (show ¬¬_ from fun e=>e h4),if_pos h5]
    have e2:(decide ((1≤d.2.2.2.1∧d.2.2.2.1≤4)∨d.2.2.2.1=8∨d.2.2.2.1=10∨d.2.2.2.1=11)==(d.2.1==1))=false:=by
     by_cases k:d.2.1=1
     ·rw [k,show ((1:Int)==1)=true from rfl,abH (fun h=>h5 (by omega))];rfl
     ·rw [bU k,decide_eq_true (Classical.byContradiction fun h=>h5 (by omega))];rfl
    rw [e2,if_pos (show aY d≠0 by omega),e];rfl
   have e5:(decide ((1≤d.2.2.2.1∧d.2.2.2.1≤4)∨d.2.2.2.1=8∨d.2.2.2.1=10∨d.2.2.2.1=11)==(d.2.1==1))=true:=by
    by_cases k:d.2.1=1
    ·rw [k,show ((1:Int)==1)=true from rfl,decide_eq_true (by omega)];rfl
    ·rw [bU k,abH (by omega)];rfl
   rw [e5,Bool.not_true,cond_false,lM,Option.bind_some]
   dsimp only
   by_cases h6:1≤d.2.2.2.2.1∧d.2.2.2.2.1≤99999
   rotate_left
   ·have e:aY d=1:=by unfold aY;rw [if_neg (show ¬¬_ from fun e=>e h1),if_neg (show ¬¬_ from fun e=>e h2),if_neg (show ¬¬_ from fun e=>e h3),if_neg (show ¬¬_ from fun e=>e h4),if_neg (show ¬¬_ from fun e=>e h5),if_pos h6]
    rw [abH h6,if_pos (show aY d≠0 by omega),e];rfl
   have ed:aY d=BK d:=by unfold aY;rw [if_neg (show ¬¬_ from fun e=>e h1),if_neg (show ¬¬_ from fun e=>e h2),if_neg (show ¬¬_ from fun e=>e h3),if_neg (show ¬¬_ from fun e=>e h4),if_neg (show ¬¬_ from fun e=>e h5),if_neg (show ¬¬_ from fun e=>e h6)]
   rw [decide_eq_true h6,Bool.not_true,cond_false,Ll h4 (hs d (List.mem_of_getElem? hd)),Option.bind_some, ← ed]
   dsimp only
   by_cases h7:aY d=0
   rotate_left
   ·rw [cR h7,if_pos h7];rfl
   rw [h7,show ((0:Int) != 0)=false from rfl,cond_false,if_neg (show ¬(0:Int)≠0 from fun e=>e rfl)]
   have epr:(bif decide ((i:Int)>0) then Option.bind (idx l (w64 ((i:Int) - 1))) fun y10=>Option.bind (sD d y10) fun r11=>some (decide (r11.1≤0),()) else some (false,()))=some ((bE l i).any fun q=>decide (0≤dCw q d),()):=by
    cases i with
    | zero=>rfl
    | succ i=>
     obtain ⟨q,hqq⟩:∃ q,l[i]? =some q:=⟨l[i],List.getElem?_eq_getElem (by omega)⟩
     rw [decide_eq_true (show ((i+1:Nat):Int)>0 by omega),cond_true,aD (n:=((i+1:Nat):Int) - 1) (by omega) (by omega),show ((i+1:Nat):Int) - 1=(i:Int) by omega,bQ hqq,Option.bind_some,Ol,Option.bind_some]
     show some (decide (dCw d q≤0),())=some ((bE l (i+1)).any _,())
     rw [show bE l (i+1)=some q from hqq,W5 (hq q hqq) h7]
     rfl
   rw [epr,Option.bind_some]
   dsimp only
   cases h8:((bE l i).any fun q=>decide (0≤dCw q d))
   rotate_left
   ·rfl
   rw [cond_false,if_neg (show ¬false=true from ZA)]
   rw [dA (by simp only [Zv,abJ];omega),ZY,aab,Kn _ _ (by simp;omega),Option.bind_some]
   dsimp only
   have htk:∀ b,mT b (l.take (i+1))=if d.2.1=b then d.2.2.1 else mT b (l.take i):=by
    intro b
    unfold mT
    rw [xS hd,List.foldl_append];rfl
   have hnext:∀ q,bE l (i+1)=some q→aY q=0:=by
    intro q hqq
    have:l[i]? =some q:=hqq
    rw [hd] at this;cases this;exact h7
   have ih':=ih (i+1) n hr' (by omega) hnext (by simp at hn;omega)
   rw [show bE l (i+1)=some d from hd,htk 1,htk 2] at ih'
   rw [aD (n:=(i:Int)+1) (by omega) (by omega)]
   have hi1:(i:Int)+1=((i+1:Nat):Int):=by omega
   by_cases k1:d.2.1=1
   ·rw [if_pos k1]
    rw [if_pos k1,if_neg (show ¬d.2.1=2 by omega)] at ih'
    rw [k1]
    by_cases h9:d.2.2.1=w64 (mT 1 (l.take i)+1)
    ·rw [show (d.2.2.1 != w64 (mT 1 (l.take i)+1))=false by simpa using h9,cond_false,if_neg (fun e=>e h9),hi1, ← hag]
     exact ih'
    ·rw [cR h9,if_pos h9];rfl
   ·have k2:d.2.1=2:=by omega
    rw [if_neg k1]
    rw [if_neg k1,if_pos k2] at ih'
    rw [k2]
    by_cases h9:d.2.2.1=w64 (mT 2 (l.take i)+1)
    ·rw [show (d.2.2.1 != w64 (mT 2 (l.take i)+1))=false by simpa using h9,cond_false,if_neg (fun e=>e h9),hi1, ← hag]
     exact ih'
    ·rw [cR h9,if_pos h9];rfl
 exact loop l 0 _ rfl (abv _) (fun q hq=>by cases hq) (by omega)
end Go.Md
namespace Go.Md
open Go.Dn
abbrev OL (d:aa):ah:=(d.2.1,d.2.2.1)
def leD (x y:aa):Bool:= !decide (VV y x<0)
def Lex (a b:aa):Prop:=a.1<b.1∨(a.1=b.1∧(a.2.1<b.2.1∨(a.2.1=b.2.1∧a.2.2.1≤b.2.2.1)))
theorem Uf (a b:aa):leD a b=true↔Lex a b:=by
 unfold leD VV Lex
 by_cases h1:b.1 - a.1=0
 ·rw [show (b.1 - a.1==0)=true by simpa using h1,Bool.not_true,cond_false]
  by_cases h2:b.2.1 - a.2.1=0
  ·rw [show (b.2.1 - a.2.1==0)=true by simpa using h2,Bool.not_true,cond_false]
   simp only [ZE,abI];omega
  ·rw [bU h2,ZF,cond_true]
   simp only [ZE,abI];omega
 ·rw [bU h1,ZF,cond_true]
  simp only [ZE,abI];omega
end Go.Md
namespace Go.Md
open Go.Dn
end Go.Md
namespace Go.Md
open Go.Dn
theorem YF {a b:aa} (ha:aY a=0) (hb:aY b=0):dCw a b<0↔¬Lex b a:=by
 obtain ⟨a1,a2,a3,_⟩:=bz ha
 obtain ⟨b1,b2,b3,_⟩:=bz hb
 unfold dCw Lex
 rw [aD (n:=a.1 - b.1) (by omega) (by omega),aD (n:=a.2.1 - b.2.1) (by omega) (by omega),aD (n:=a.2.2.1 - b.2.2.1) (by omega) (by omega)]
 by_cases h1:a.1 - b.1=0
 ·rw [if_neg (show ¬(a.1 - b.1≠0) by omega)]
  by_cases h2:a.2.1 - b.2.1=0
  ·rw [if_neg (show ¬(a.2.1 - b.2.1≠0) by omega)];omega
  ·rw [if_pos h2];omega
 ·rw [if_pos h1];omega
theorem LL:∀ (r:List aa) (p:Option aa) (nb ns:Int),0≤nb→nb≤2000→0≤ns→ns≤2000→(∀ q,p=some q→aY q=0)→cN r p nb ns=0→
 (∀ d,d∈r→aY d=0∧(d.2.1=1→nb<d.2.2.1)∧(d.2.1≠1→ns<d.2.2.1)∧∀ q,p=some q→¬Lex d q)∧r.Pairwise (fun a b=>¬Lex b a)∧r.Pairwise (fun a b=>OL a≠OL b)
 | [],p,nb,ns,_,_,_,_,_,_=>⟨fun _ hd=>(nomatch hd),List.Pairwise.nil,List.Pairwise.nil⟩
 | d::r,p,nb,ns,h1,h2,h3,h4,hp,h=>by
  simp only [cN] at h
  by_cases hf:aY d=0
  rotate_left
  ·rw [if_pos hf] at h;exact absurd h hf
  rw [if_neg (fun e=>e hf)] at h
  by_cases hpp:(p.any fun q=>decide (0≤dCw q d))=true
  ·rw [if_pos hpp] at h;cases h
  rw [if_neg hpp] at h
  have hlex:∀ q,p=some q→¬Lex d q:=by
   rintro q rfl
   rw [← YF (hp q rfl) hf]
   have:¬(0≤dCw q d):=fun e=>hpp (decide_eq_true e)
   omega
  obtain ⟨_,_,d3,_⟩:=bz hf
  have step:∀ nb' ns',0≤nb'→nb'≤2000→0≤ns'→ns'≤2000→nb≤nb'→ns≤ns'→(d.2.1=1→nb<d.2.2.1∧nb'=d.2.2.1)→(d.2.1≠1→ns<d.2.2.1∧ns'=d.2.2.1)→cN r (some d) nb' ns'=0→
   (∀ e,e∈d::r→aY e=0∧(e.2.1=1→nb<e.2.2.1)∧(e.2.1≠1→ns<e.2.2.1)∧∀ q,p=some q→¬Lex e q)∧(d::r).Pairwise (fun a b=>¬Lex b a)∧(d::r).Pairwise (fun a b=>OL a≠OL b):=by
   intro nb' ns' g1 g2 g3 g4 g5 g6 g7 g8 hg
   obtain ⟨i1,i2,i3⟩:=LL r (some d) nb' ns' g1 g2 g3 g4 (fun q hq=>by cases hq;exact hf) hg
   refine ⟨fun e he=> ?_,List.Pairwise.cons (fun e he=>(i1 e he).2.2.2 d rfl) i2,List.Pairwise.cons (fun e he hk=> ?_) i3⟩
   ·rcases aaH.1 he with rfl | he
    ·exact ⟨hf,fun e1=>(g7 e1).1,fun e1=>(g8 e1).1,hlex⟩
    ·obtain ⟨j1,j2,j3,j4⟩:=i1 e he
     refine ⟨j1,fun e1=>by have:=j2 e1;omega,fun e1=>by have:=j3 e1;omega,fun q hq hl=> ?_⟩
     have k1:=hlex q hq
     have k2:=j4 d rfl
     unfold Lex at*
     omega
   ·obtain ⟨j1,j2,j3,j4⟩:=i1 e he
    have e1:d.2.1=e.2.1:=(Prod.mk.inj hk).1
    have e2:d.2.2.1=e.2.2.1:=(Prod.mk.inj hk).2
    by_cases hb:d.2.1=1
    ·have:=j2 (by omega)
     have:=(g7 hb).2
     omega
    ·have:=j3 (by omega)
     have:=(g8 hb).2
     omega
  by_cases hb:d.2.1=1
  ·rw [if_pos hb] at h
   by_cases hn:d.2.2.1=w64 (nb+1)
   ·rw [if_neg (fun e=>e hn)] at h
    rw [aD (by omega) (by omega)] at hn
    exact step d.2.2.1 ns (by omega) (by omega) h3 h4 (by omega) (by omega) (fun _=>⟨by omega,rfl⟩) (fun e=>absurd hb e) h
   ·rw [if_pos hn] at h;cases h
  ·rw [if_neg hb] at h
   by_cases hn:d.2.2.1=w64 (ns+1)
   ·rw [if_neg (fun e=>e hn)] at h
    rw [aD (by omega) (by omega)] at hn
    exact step nb d.2.2.1 h1 h2 (by omega) (by omega) (by omega) (by omega) (fun e=>absurd e hb) (fun _=>⟨by omega,rfl⟩) h
   ·rw [if_pos hn] at h;cases h
theorem UK {l:List aa} (h:eV l=0):l.Pairwise (fun a b=>leD a b=true)∧l.Pairwise (fun a b=>OL a≠OL b):=by
 have hl:=(gW h).1
 unfold eV at h
 rw [if_neg (by omega)] at h
 obtain ⟨_,i2,i3⟩:=LL l none 0 0 (by omega) (by omega) (by omega) (by omega) (fun q hq=>by cases hq) h
 refine ⟨i2.imp fun {a b} hab=> ?_,i3⟩
 rw [Uf]
 unfold Lex at*
 omega
end Go.Md
