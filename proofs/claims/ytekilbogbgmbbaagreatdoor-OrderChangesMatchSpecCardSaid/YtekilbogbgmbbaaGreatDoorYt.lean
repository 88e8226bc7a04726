/-
  Plain facts: deeds, followed one behind the other. No condition.
-/
import Derived.Test.YtekilbogbgmbbaaGreatDoorYs
import Derived.Test.YtekilbogbgmbbaaGreatDoorYq
import Derived.Test.YtekilbogbgmbbaaGreatDoorYo
set_option linter.all false
namespace Go.Md
open Go.Dn
theorem Vi {day:Int} {p:Option ai} {x:ai} (h:di day p x=0):(1<=x.1/\x.1<=99999)/\(∀ q,p=some q->q.1<x.1)/\cK x.2.1=true/\qOk x.2.2.1 false=true/\cK x.2.2.2.1=true/\inR x.2.2.2.2.1 0 1000000000 4=true/\(day<=x.2.2.2.2.2/\x.2.2.2.2.2<=3652059):=by
 unfold di at h
 split at h
 ·cases h
 ·rename_i h1
  split at h
  ·cases h
  ·rename_i h2
   split at h
   ·cases h
   ·rename_i h3
    split at h
    ·cases h
    ·rename_i h4
     split at h
     ·cases h
     ·rename_i h5
      split at h
      ·cases h
      ·rename_i h6
       split at h
       ·cases h
       ·rename_i h7
        refine⟨adw.1 h1,fun q hq=> ?_,by simpa using h3,by simpa using h4,by simpa using h5,by simpa using h6,adw.1 h7⟩
        subst hq
        have:¬x.1<=q.1:=fun e=>h2 (af6 e)
        omega
theorem jY {day:Int}:∀ {r:List ai} {p:Option ai},iy day r p=0-> (∀ x,x∈r->cK x.2.1=true/\qOk x.2.2.1 false=true/\cK x.2.2.2.1=true/\inR x.2.2.2.2.1 0 1000000000 4=true/\(1<=x.1/\x.1<=99999)/\(day<=x.2.2.2.2.2/\x.2.2.2.2.2<=3652059))/\(∀ q,p=some q->∀ x,x∈r->q.1<x.1)/\r.Pairwise (fun a b=>a.1<b.1)
 | [],p,_=>⟨nofun,fun _ _ _ h=>(nomatch h),List.Pairwise.nil⟩
 | y::r,p,h=>by
  simp only[iy] at h
  by_cases hf:di day p y=0
  ·rw[agd (fun e=>e hf)] at h
   obtain⟨a1,a2,a3⟩:=jY h
   obtain⟨b1,b2,b3,b4,b5,b6,b7⟩:=Vi hf
   refine⟨fun x hx=> ?_,fun q hq x hx=> ?_,List.Pairwise.cons (fun x hx=>a2 y rfl x hx) a3⟩
   ·rcases aeP.1 hx with rfl | hx
    ·exact⟨b3,b4,b5,b6,b1,b7⟩
    ·exact a1 x hx
   ·rcases aeP.1 hx with rfl | hx
    ·exact b2 q hq
    ·have:=b2 q hq
     have:=a2 y rfl x hx
     omega
  ·rw[age hf] at h
   exact absurd h hf
theorem oI {o:aj} (h:dP o=0):(1<=bZ o/\bZ o<=3652059)/\(0<=b8 o/\b8 o<=1000)/\(aS o).length<=500/\aS o≠[]/\iy (bZ o) (aS o) none=0/\(cK (BM o)=true/\cK (BL o)=true/\cK (F9 o)=true/\BL o≠F9 o):=by
 unfold dP at h
 split at h
 ·cases h
 ·rename_i h1
  split at h
  ·cases h
  ·rename_i h2
   split at h
   ·cases h
   ·rename_i h3
    split at h
    ·cases h
    ·rename_i h4
     split at h
     ·cases h
     ·rename_i h5
      split at h
      ·cases h
      ·rename_i h6
       refine⟨adw.1 h3,adw.1 h4,by omega,h5,h, ?_, ?_, ?_,h2⟩
       ·cases hb:cK (BM o)
        ·exact absurd (.inl hb) h1
        ·rfl
       ·cases hb:cK (BL o)
        ·exact absurd (.inr (.inl hb)) h1
        ·rfl
       ·cases hb:cK (F9 o)
        ·exact absurd (.inr (.inr hb)) h1
        ·rfl
def jq (x:ai):ak:=⟨x.1,x.2.1,x.2.2.2.1,aL x.2.2.1,0,0,0,x.2.2.2.2.1,x.2.2.2.2.2, -1,0,0,0⟩
abbrev gm (o:aj):List ak:=(aS o).map jq
theorem DJ {n:Int}:∀ {A:List ak} {i:Nat},(∀ x,x∈A->x.no≠n)->cc n i A=none
 | [],_,_=>rfl
 | x::r,i,h=>by
  simp only[cc]
  rw[agd (fun e=>h x (by simp) e.symm)]
  exact DJ (fun y hy=>h y (by simp[hy]))
theorem mX {α:Type} {l:List α} {i:Nat} {y:α} (h:l[i]? =some y):l.take (i+1)=l.take i++[y]:=by
 rw[afc,h];rfl
theorem Ge {o:aj} (ho:dP o=0) (l:List aa):fZ o l []=some ((o,l,mapOf (gm o),[],[],0,()),(gm o).map ak.tup,()):=by
 obtain⟨_,_,hlen,_,hgo,_⟩:=oI ho
 obtain⟨hln,_,hpw⟩:=jY hgo
 obtain⟨onum,obuy,osel,oday,oext,lns⟩:=o
 change lns.length<=500 at hlen
 change ∀ x,x∈lns->_ at hln
 change lns.Pairwise _ at hpw
 unfold fZ
 have:=ru (f:=kN) (fun (_:Unit) (i:Nat)=>((lns,(lns.length:Int),(i:Int),onum,obuy,osel,oday,oext,lns,l,[],[],0,mapOf ((lns.take i).map jq),((lns.take i).map jq).map ak.tup,()):kO)) lns
  (fun (_:Unit) _ _ k=>k ()) (fun _=>some (Sum.inr (onum,obuy,osel,oday,oext,lns,l,[],[],0,mapOf (lns.map jq),(lns.map jq).map ak.tup,()))) (fun s i y again hy=>by
    have hi:i<lns.length:=(aej.1 hy).1
    unfold kN
    dsimp only
    rw[af6 (show (i:Int)<(lns.length:Int) by omega),af2,bG hy,afO,kY (hln y (aeW hy)).2.1,afO]
    have hno:cc y.1 0 ((lns.take i).map jq)=none:=DJ fun z hz=>by
     obtain⟨q,hq,rfl⟩:=aeV.1 hz
     obtain⟨j,hj⟩:=aeU.1 hq
     have hji:j<i:=by
      have:=(aej.1 hj).1
      simp at this;omega
     rw[aer hji] at hj
     have h1:=ae6.1 hpw j i (by omega) hi hji
     have e1:lns[j]=q:=by have:=aeh (show j<lns.length by omega);rw[hj] at this;exact (Option.some.inj this).symm
     have e2:lns[i]=y:=by have:=aeh hi;rw[hy] at this;exact (Option.some.inj this).symm
     rw[e1,e2] at h1
     show q.1≠y.1
     omega
    have hs:=Mg y.1 (jq y) rfl ((lns.take i).map jq) 0 hno
    rw[afM] at hs
    rw[aeA,aA (n:=(i:Int)+1) (by omega) (by omega)]
    have ht:(lns.take (i+1)).map jq=(lns.take i).map jq++[jq y]:=by rw[mX hy,aeI];rfl
    rw[ht]
    refine congrArg again ?_
    refine Prod.ext rfl (Prod.ext rfl (Prod.ext rfl (Prod.ext rfl (Prod.ext rfl (Prod.ext rfl (Prod.ext rfl (Prod.ext rfl (Prod.ext rfl (Prod.ext rfl (Prod.ext rfl (Prod.ext rfl (Prod.ext rfl (Prod.ext hs (Prod.ext ?_ rfl))))))))))))))
    show List.map ak.tup _++[_]=List.map ak.tup (_++[jq y])
    rw[aeI];rfl) (fun s again=>by
    unfold kN
    dsimp only
    rw[af4 (show ¬((lns.length:Int)<(lns.length:Int)) by omega),af1,afg]) ()
 have hfor:∀ (r:List ai) (i:Nat) (β:Type) (f:Option β),tr (fun (_:Unit) _ _ k=>k ()) (fun _=>f) r i ()=f:=by
  intro r
  induction r with
  | nil=>intro i β f;rfl
  | cons y r ih=>intro i β f;exact ih (i+1) β f
 refine (congrArg (fun z=>aC z _) ((this _ ?_).trans (hfor _ _ _ _))).trans rfl
 simp only[aeC]
 omega
def bE (n:Int):ah:=((few 3 n).1,((few 3 n).2:Int))
theorem pT {n:Int} (h0:0<=n) (h1:n<=1000000000000000):mO n=some (bE n,()):=by
 unfold mO
 rw[Ln n (by omega) (by omega),afO]
 have hb:n.natAbs<4294967296 ^ 99:=afx (show n.natAbs<4294967296 ^ 2 by omega) (afK (by omega) (by omega))
 have:=Lr n hb 3 (by omega)
 rw[show ((3:Nat):Int)=3 from rfl] at this
 dsimp only
 rw[this,afO,age (by have:=(EE 3 n).2.2;omega)]
 rfl
def dK (d:ah):ah:=((few d.2.toNat d.1).1,((few d.2.toNat d.1).2:Int))
theorem vM {d:ah} (h0:0<=d.1) (h1:d.1<=1000000000000000) (h2:0<=d.2) (h3:d.2<=9):nT d=some (dK d,()):=by
 unfold nT
 have loop:∀ (n:Nat) (z:Int) (p:Nat),0<=z->z<=1000000000000000->p<=9->p<n->iter (X:=qD) (β:=qC) n (z,(p:Int),0,0,()) qB=some (Sum.inr ((few p z).1,((few p z).2:Int),0,0,())):=by
  intro n
  induction n with
  | zero=>intro z p _ _ _ h;omega
  | succ n ih=>
   intro z p hz hz1 hp hn
   rw[fk]
   generalize hag:(fun y=>iter n y qB)=again
   unfold qB
   dsimp only
   cases p with
   | zero=>rfl
   | succ p=>
    rw[af6 (show ((p+1:Nat):Int)>0 by omega),af2,afO]
    dsimp only
    rw[adM hz]
    by_cases hm:z % 10=0
    ·rw[show (z % 10==0)=true by simp[hm],af2,adL hz,aA (n:=z / 10) (by omega) (by omega),aA (n:=((p+1:Nat):Int) - 1) (by omega) (by omega),
      show ((p+1:Nat):Int) - 1=(p:Int) by omega, <- hag]
     refine (ih (z / 10) p (by omega) (by omega) (by omega) (by omega)).trans ?_
     rw[show few (p+1) z=few p (z / 10) by rw[few,age hm]]
    ·rw[show (z % 10==0)=false by simp[hm],af1,show few (p+1) z=(z,p+1) by rw[few,agd hm]]
 obtain⟨k,hk⟩:∃ k:Nat,d.2=k:=⟨d.2.toNat,by omega⟩
 rw[hk]
 have:=loop (d.1.natAbs+(Int.natAbs (k:Int)+(Int.natAbs (0:Int)+(Int.natAbs (0:Int)+2)))) d.1 k h0 h1 (by omega) (by omega)
 rw[this]
 unfold dK
 rw[hk]
 rfl
def bV (x:ak):dD:=(x.no,x.art,x.unit,bE x.ord,dK x.price,x.due,bE x.shp,bE x.rcv,bE x.ret,bE x.opn)
def Hs (x:ak):Prop:=0<=x.price.1/\x.price.1<=1000000000000000/\0<=x.price.2/\x.price.2<=9
theorem Zh {x:ak} (h:LOk x):0<=x.opn/\x.opn<=1000000000000:=by
 have:=h.ret0;have:=h.retr;have:=h.rcvs;have:=h.ord1
 unfold ak.opn
 split<;>omega
theorem xF {A:List ak} {k:Nat} {x:ak} (h:A[k]? =some x) (hx:LOk x) (hp:Hs x):ja (some k) (A.map ak.tup)=some (bV x,()):=by
 obtain⟨p1,p2,p3,p4⟩:=hp
 obtain⟨q1,q2⟩:=Zh hx
 have:=hx.ret0;have:=hx.retr;have:=hx.rcvs;have:=hx.shp1;have:=hx.jt;have:=hx.ord1
 unfold ja
 simp only[afO,mq h,zn h hx]
 rw[pT (n:=x.ord) (by omega) (by omega),pT (n:=x.shp) (by omega) (by omega),pT (n:=x.rcv) (by omega) (by omega),pT (n:=x.ret) (by omega) (by omega),pT (n:=x.opn) (by omega) (by omega),vM p1 p2 p3 p4]
 rfl
end Go.Md
namespace Go.Md
open Go.Dn
theorem ri {d:ah} (h:inR d 0 1000000000 4=true):0<=d.1/\d.1<=1000000000000000/\0<=d.2/\d.2<=9:=by
 unfold inR at h
 obtain⟨⟨h1,h2,h3⟩,h4,h5,h6⟩:=agl h
 refine⟨by omega,by omega,h2,h3⟩
theorem Ws {l:List aa} {d:aa} {x:ak} (hw:WOk l x) (hl:∀ d,d∈l->bp d=0) (hp:Hs x):Hs (bO l d x).2:=by
 unfold bO
 by_cases h1:x.wish<0
 ·rw[age h1];exact hp
 rw[agd h1]
 obtain⟨w,hw1,hw2⟩:=hw.kind (by omega)
 rw[qo hw1]
 obtain⟨_,_,_,hk,_,_,hu⟩:=bH (hl w (aeW hw1))
 obtain⟨_,up,_⟩:=dH hu
 by_cases h2:dNo w≠dTo d
 ·rw[age h2];exact hp
 rw[agd h2]
 by_cases h3:aD d=5
 ·rw[age h3]
  by_cases k2:aD w=2
  ·rw[age k2]
   split<;>exact hp
  ·rw[agd k2]
   by_cases k1:aD w=1
   ·rw[age k1];exact hp
   ·rw[agd k1]
    by_cases k3:aD w=3
    ·rw[age k3];exact hp
    ·rw[agd k3]
     have hk':1<=aD w/\aD w<=11:=hk
     exact ri (up (by unfold usP;exact af6 (.inr (by omega))))
 ·rw[agd h3];exact hp
theorem aao {ext:Int} {d:aa} {x:ak} (hp:Hs x):Hs (cC ext d x).2:=by
 unfold cC
 split
 ·split
  ·exact hp
  ·split<;>exact hp
 ·split
  ·split<;>exact hp
  ·split<;>exact hp
theorem aaY {o:aj} {l:List aa} {i:Nat} {d:aa} {x:ak} (hw:WOk l x) (hl:∀ d,d∈l->bp d=0) (hp:Hs x):Hs (aY o l i d x).2:=by
 have ha:=Ws (d:=d) hw hl hp
 have hm:=aao (ext:=b8 o) (d:=d) hp
 unfold aY
 split
 ·unfold qV
  split
  ·exact hp
  ·split<;>exact hp
 ·split
  ·split<;>exact ha
  ·split
   ·split<;>exact hp
   ·split
    ·unfold AN
     split
     ·exact hp
     ·split<;>exact hp
    ·split
     ·split<;>exact hm
     ·exact hm
structure Good (l:List aa) (A:List ak):Prop where
 sound:Sound l A
 pr:∀ x,x∈A->Hs x
theorem vQ {o:aj} {l:List aa} {i:Nat} {d:aa} {A:List ak} (hA:Good l A) (hl:∀ d,d∈l->bp d=0) (hd:l[i]? =some d):Good l (bS o l i d A).2:=by
 refine⟨(LO hA.sound hl hd).1,fun x hx=> ?_⟩
 unfold bS at hx
 by_cases k1:aD d=1
 ·rw[age k1] at hx
  split at hx
  ·exact hA.pr x hx
  ·split at hx
   ·exact hA.pr x hx
   ·split at hx
    ·exact hA.pr x hx
    ·rcases aeM.1 hx with hx | hx
     ·exact hA.pr x hx
     ·simp only[ae0] at hx
      subst hx
      obtain⟨_,_,_,_,_,_,hu⟩:=bH (hl d (aeW hd))
      exact ri ((dH hu).2.1 (by rw[k1];rfl))
 ·rw[agd k1] at hx
  split at hx
  ·exact hA.pr x hx
  ·split at hx
   ·rename_i y hy
    rcases aeY hx with hx | hx
    ·exact hA.pr x hx
    ·subst hx
     have hm:=aeW hy
     exact aaY (hA.sound.line y hm).2 hl (hA.pr y hm)
   ·exact hA.pr x hx
def kI (n:Int) (A:List ak):Option ak:=(ef n A).bind fun k=>A[k]?
theorem sM {n:Int} {A:List ak} {k:Nat} {x:ak} (h:ef n A=some k) (hx:A[k]? =some x):kI n A=some x:=by unfold kI;rw[h];exact hx
theorem Dy {o:aj} {l:List aa} {i:Nat} {d:aa} {A:List ak} (hA:Sound l A) (hl:∀ d,d∈l->bp d=0) (hd:l[i]? =some d) (h0:(bS o l i d A).1=0): ∃ k x,ef (cO d) (bS o l i d A).2=some k/\(bS o l i d A).2[k]? =some x:=by
 unfold bS at h0 ⊢
 by_cases k1:aD d=1
 ·rw[age k1] at h0 ⊢
  split at h0
  ·cases h0
  ·rename_i hf
   split at h0
   ·cases h0
   ·rename_i h5
    split at h0
    ·cases h0
    ·rename_i h6
     rw[agd h5,agd h6]
     refine⟨A.length,fD i d, ?_,by simp⟩
     show cc (cO d) 0 (A++[fD i d])=_
     rw[Ax,show cc (cO d) 0 A=none from hf,age (show cO d=(fD i d).no from rfl)]
     simp
 ·rw[agd k1] at h0 ⊢
  split at h0
  ·cases h0
  ·rename_i k hk
   obtain⟨x,hx,hxn⟩:=sJ hk
   rw[hx]
   dsimp only
   obtain⟨h1,h2⟩:=hA.line x (aeW hx)
   refine⟨k,_, ?_,JM hx _⟩
   show cc (cO d) 0 (A.set k _)=_
   rw[FJ A 0 (fun z hz=>by rw[hx] at hz;cases hz;exact (AS (o:=o) h1 h2 hl hd).2.2.1)]
   exact hk
def nv (wt:Int) (i:Nat) (d:aa) (A:List ak) (pts:List ay):List ay:=
 if cO d=wt then (match kI (cO d) A with | some x=>pts++[((i:Int),bV x)] | none=>pts) else pts
def eZ (o:aj) (l:List aa) (wt day:Int):List aa->Nat->List ak->List (Int×Int)->List ay->List ak×List (Int×Int)×List ay
 | [],_,A,ref,pts=>(A,ref,pts)
 | d::r,i,A,ref,pts=>
  if day<d.1 then (A,ref,pts)
  else if (bS o l i d A).1≠0 then eZ o l wt day r (i+1) (bS o l i d A).2 (ref++[((i:Int),(bS o l i d A).1)]) pts
  else eZ o l wt day r (i+1) (bS o l i d A).2 ref (nv wt i d (bS o l i d A).2 pts)
theorem cA {β:Type} {b:Bool} (h:b=true) (x:Option β):chk b x=x:=by rw[h];rfl
theorem aaD {onum obuy osel:Bys} {oday oext:Int} {olns:List ai} {l:List aa} {wt day:Int} (he0:0<=oext) (he1:oext<=1000) (hl:∀ d,d∈l->bp d=0) (hlen:l.length<=2000): ∀ (r:List aa) (i n:Nat) (A:List ak) (ref:List (Int×Int)) (pts:List ay),l.drop i=r->i<=l.length->Good l A->ref.length<=i->pts.length<=i->r.length<n-> iter (X:=jI) (β:=jH) n (day,l,(l.length:Int),(i:Int),onum,obuy,osel,oday,oext,olns,l,mapOf A,ref,pts,wt,A.map ak.tup,()) gT= some (Sum.inr (onum,obuy,osel,oday,oext,olns,l,mapOf (eZ (onum,obuy,osel,oday,oext,olns) l wt day r i A ref pts).1,(eZ (onum,obuy,osel,oday,oext,olns) l wt day r i A ref pts).2.1,(eZ (onum,obuy,osel,oday,oext,olns) l wt day r i A ref pts).2.2,wt,(eZ (onum,obuy,osel,oday,oext,olns) l wt day r i A ref pts).1.map ak.tup,())):=by
 intro r
 induction r with
 | nil=>
  intro i n A ref pts hd hi hA hr hp hn
  have:i=l.length:=by
   have:=congrArg List.length hd
   simp at this;omega
  subst this
  obtain⟨n,rfl⟩:∃ m,n=m+1:=⟨n - 1,by omega⟩
  rw[fk]
  unfold gT
  dsimp only
  rw[af4 (show ¬((l.length:Int)<(l.length:Int)) by omega),af1]
  rfl
 | cons d r ih=>
  intro i n A ref pts hdr hi hA hr hp hn
  have hd:l[i]? =some d:=by
   have:=congrArg (·[0]?) hdr
   simpa [aeg] using this
  have hr':l.drop (i+1)=r:=by
   have:=congrArg List.tail hdr
   simpa [afb] using this
  have hlt:i<l.length:=(aej.1 hd).1
  obtain⟨n,rfl⟩:∃ m,n=m+1:=⟨n - 1,by simp at hn;omega⟩
  rw[fk]
  generalize hag:(fun y=>iter n y gT)=again
  unfold gT
  dsimp only
  rw[af6 (show (i:Int)<(l.length:Int) by omega),af2,bG hd,afO]
  have hdeed:=DO (o:=(onum,obuy,osel,oday,oext,olns)) (ref:=ref) (pts:=pts) (wt:=wt) hA.sound hl hd he0 he1
  have hgood:=vQ (o:=(onum,obuy,osel,oday,oext,olns)) hA hl hd
  by_cases hday:day<d.1
  ·rw[af6 (show d.1>day from hday),af2]
   simp only[eZ,age hday]
  ·rw[af4 (show ¬d.1>day from hday),af1]
   rw[hdeed,afO]
   dsimp only
   rw[aA (n:=(i:Int)+1) (by omega) (by omega)]
   simp only[eZ,agd hday]
   have lZ:maxLen=9223372036854775807:=rfl
   have hi1:(i:Int)+1=((i+1:Nat):Int):=by omega
   by_cases he:(bS (onum,obuy,osel,oday,oext,olns) l i d A).1=0
   ·rw[agd (fun h=>h he),he]
    rw[zne,af1]
    by_cases hw:cO d=wt
    ·obtain⟨k,x,hk,hx⟩:=Dy hA.sound hl hd he
     have hxm:=aeW hx
     rw[show (d.2.2.2.2.1==wt)=true by simpa using hw,af2,gJ,show cc d.2.2.2.2.1 0 _=some k from hk,
      xF hx (hgood.sound.line x hxm).1 (hgood.pr x hxm),afO]
     rw[cA (by rw[adf];exact⟨af6 (by omega),af6 (by omega)⟩)]
     have hpt:nv wt i d (bS (onum,obuy,osel,oday,oext,olns) l i d A).2 pts=pts++[((i:Int),bV x)]:=by
      unfold nv
      rw[age hw,sM hk hx]
     rw[hpt,hi1, <- hag]
     exact ih (i+1) n _ ref _ hr' (by omega) hgood (by omega) (by simp;omega) (by simp at hn;omega)
    ·rw[show (d.2.2.2.2.1==wt)=false by simpa using hw,af1]
     have hpt:nv wt i d (bS (onum,obuy,osel,oday,oext,olns) l i d A).2 pts=pts:=by
      unfold nv
      rw[agd hw]
     rw[hpt,hi1, <- hag]
     exact ih (i+1) n _ ref pts hr' (by omega) hgood (by omega) (by omega) (by simp at hn;omega)
   ·rw[age he,cr he,af2]
    rw[cA (by rw[adf];exact⟨af6 (by omega),af6 (by omega)⟩)]
    rw[hi1, <- hag]
    exact ih (i+1) n _ _ pts hr' (by omega) hgood (by simp;omega) (by omega) (by simp at hn;omega)
theorem EM {o:aj} {l:List aa} {wt day:Int} {A:List ak} (he:0<=b8 o/\b8 o<=1000) (hl:∀ d,d∈l->bp d=0) (hlen:l.length<=2000) (hA:Good l A): fI (o,l,mapOf A,[],[],wt,()) day (A.map ak.tup)=some ((o,l,mapOf (eZ o l wt day l 0 A [] []).1,(eZ o l wt day l 0 A [] []).2.1,(eZ o l wt day l 0 A [] []).2.2,wt,()),(eZ o l wt day l 0 A [] []).1.map ak.tup,()):=by
 obtain⟨onum,obuy,osel,oday,oext,olns⟩:=o
 unfold fI
 refine (congrArg (fun z=>aC z _) (aaD (onum:=onum) (obuy:=obuy) (osel:=osel) (oday:=oday) (olns:=olns) (wt:=wt) (day:=day) he.1 he.2 hl hlen l 0 _ A [] [] rfl (afN _) hA (afN _) (afN _) ?_)).trans rfl
 dsimp only
 omega
theorem wk {o:aj} (ho:dP o=0) (l:List aa):Good l (gm o):=by
 obtain⟨_,_,_,_,hgo,_⟩:=oI ho
 obtain⟨hln,_,_⟩:=jY hgo
 refine⟨⟨fun x hx=> ?_⟩,fun x hx=> ?_⟩
 ·obtain⟨q,hq,rfl⟩:=aeV.1 hx
  obtain⟨_,h2,_⟩:=hln q hq
  obtain⟨u0,u1,_⟩:=jz h2
  exact⟨⟨by show (0:Int)<=0;omega,by show (0:Int)<=0;omega,by show (0:Int)<=0;omega,by show (0:Int)<=_;omega,u0,u1,fun e=>absurd rfl e⟩,⟨by show (-1:Int)<= -1;omega,fun h=>by have:(0:Int)<= -1:=h;omega⟩⟩
 ·obtain⟨q,hq,rfl⟩:=aeV.1 hx
  obtain⟨_,_,_,h4,_⟩:=hln q hq
  exact ri h4
def ez (o:aj) (l:List aa) (wt day:Int):List ak×List (Int×Int)×List ay:=eZ o l wt day l 0 (gm o) [] []
def dV (o:aj) (l:List aa):Int:=if dP o≠0 then dP o else eY l
theorem yV {o:aj} {l:List aa} (h:dV o l=0):dP o=0/\eY l=0:=by
 unfold dV at h
 split at h
 ·rename_i h1;exact absurd h h1
 ·rename_i h1;exact⟨adw.1 h1,h⟩
theorem start_eq {o:aj} {l:List aa} (h:dV o l=0) (wt day:Int):∃ q,fZ o l []=some ((o,l,mapOf (gm o),[],[],0,()),(gm o).map ak.tup,())/\ fI (o,l,mapOf (gm o),[],[],wt,()) day ((gm o).map ak.tup)=some ((o,l,mapOf (ez o l wt day).1,(ez o l wt day).2.1,(ez o l wt day).2.2,wt,()),(ez o l wt day).1.map ak.tup,())/\q=():=by
 obtain⟨h1,h2⟩:=yV h
 obtain⟨h3,h4⟩:=nh h2
 exact⟨(),Ge h1 l,EM (oI h1).2.1 h4 h3 (wk h1 l),rfl⟩
theorem RU (o:aj) (l:List aa) (day:Int):AD o l day []=(if dV o l≠0 then some (none,dV o l,[],()) else if ¬(1<=day/\day<=3652059) then some (none,1,[],()) else none):=by
 unfold AD
 rw[uV,afO,ry]
 dsimp only
 by_cases h:dV o l=0
 ·rw[agd (show ¬dV o l≠0 from fun e=>e h),show (if dP o≠0 then dP o else eY l)=0 from h,zne,af1,afO]
  by_cases hd:1<=day/\day<=3652059
  ·rw[agd (show ¬¬(1<=day/\day<=3652059) from fun e=>e hd),af6 hd]
   obtain⟨_,e1,e2,_⟩:=start_eq h 0 day
   dsimp only
   rw[ads,af1,e1,afO]
   dsimp only
   rw[e2];rfl
  ·rw[age hd,af4 hd];rfl
 ·rw[age (show dV o l≠0 from h),show ((if dP o≠0 then dP o else eY l) != 0)=true from cr h,af2]
  rfl
theorem Vj {o:aj} {l:List aa} {day:Int} (h:dV o l=0) (hd:1<=day/\day<=3652059):Gc o l day []=some ((o,l,mapOf (ez o l 0 day).1,(ez o l 0 day).2.1,(ez o l 0 day).2.2,0,()),0,(ez o l 0 day).1.map ak.tup,()):=by
 unfold Gc
 rw[uV,afO,ry]
 dsimp only
 rw[show (if dP o≠0 then dP o else eY l)=0 from h,zne,af1,afO,af6 hd]
 obtain⟨_,e1,e2,_⟩:=start_eq h 0 day
 dsimp only
 rw[ads,af1,e1,afO]
 dsimp only
 rw[e2];rfl
end Go.Md
namespace Go.Md
open Go.Dn
theorem abN:Me=some (true,()):=by kernel_rfl
end Go.Md
namespace Go.Md
open Go.Dn
theorem YQ {n:Int} {A:List ak} {y:ak} (h:y.no≠n):kI n (A++[y])=kI n A:=by
 unfold kI
 have:ef n (A++[y])=ef n A:=by
  unfold ef
  rw[Ax,agd (fun e=>h e.symm),Option.or_none]
 rw[this]
 cases hk:ef n A with
 | none=>rfl
 | some k=>
  obtain⟨x,hx,_⟩:=sJ hk
  have:=(aej.1 hx).1
  simp only[afO]
  rw[aec this]
theorem YR {n:Int} {A:List ak} {k:Nat} {x y:ak} (hx:A[k]? =some x) (hn:x.no≠n) (hy:y.no=x.no):kI n (A.set k y)=kI n A:=by
 unfold kI
 have:ef n (A.set k y)=ef n A:=FJ A 0 (fun z hz=>by rw[hx] at hz;cases hz;exact hy)
 rw[this]
 cases hj:ef n A with
 | none=>rfl
 | some j=>
  obtain⟨z,hz,hzn⟩:=sJ hj
  simp only[afO]
  have hjk:k≠j:=fun e=>by subst e;rw[hx] at hz;cases hz;exact hn hzn
  rw[aeo hjk]
theorem Kz {o:aj} {l:List aa} {i:Nat} {d:aa} {A:List ak} {n:Int} (hA:Sound l A) (hl:∀ d,d∈l->bp d=0) (hd:l[i]? =some d) (hn:cO d≠n): kI n (bS o l i d A).2=kI n A:=by
 unfold bS
 by_cases k1:aD d=1
 ·rw[age k1]
  split
  ·rfl
  ·split
   ·rfl
   ·split
    ·rfl
    ·exact YQ hn
 ·rw[agd k1]
  split
  ·rfl
  ·rename_i k hk
   obtain⟨x,hx,hxn⟩:=sJ hk
   rw[hx]
   obtain⟨h1,h2⟩:=hA.line x (aeW hx)
   exact YR hx (by rw[hxn];exact hn) (AS (o:=o) h1 h2 hl hd).2.2.1
theorem JZ {o:aj} {l:List aa} (wt wt' day:Int):∀ (r:List aa) (i:Nat) (A:List ak) (ref:List (Int×Int)) (pts pts':List ay), (eZ o l wt day r i A ref pts).1=(eZ o l wt' day r i A ref pts').1/\(eZ o l wt day r i A ref pts).2.1=(eZ o l wt' day r i A ref pts').2.1
 | [],_,_,_,_,_=>⟨rfl,rfl⟩
 | d::r,i,A,ref,pts,pts'=>by
  simp only[eZ]
  split
  ·exact⟨rfl,rfl⟩
  ·split
   ·exact JZ wt wt' day r _ _ _ _ _
   ·exact JZ wt wt' day r _ _ _ _ _
structure Pts (l:List aa) (wt:Int) (n:Nat) (A:List ak) (pts:List ay):Prop where
 pt:∀ (j:Nat) (p:ay),pts[j]? =some p->0<=p.1/\p.1<n/\(∃ d,idx l p.1=some d/\cO d=wt)/\∀ q,0<j->pts[j - 1]? =some q->q.1<p.1
 last:∀ p,pts.getLast? =some p->∃ x,kI wt A=some x/\p.2=bV x
theorem aaC {o:aj} {l:List aa} {wt day:Int} (hl:∀ d,d∈l->bp d=0):∀ (r:List aa) (i:Nat) (A:List ak) (ref:List (Int×Int)) (pts:List ay),l.drop i=r->i<=l.length->Good l A->Pts l wt i A pts-> Good l (eZ o l wt day r i A ref pts).1/\Pts l wt l.length (eZ o l wt day r i A ref pts).1 (eZ o l wt day r i A ref pts).2.2:=by
 intro r
 have mono:∀ {n m:Nat} {A:List ak} {pts:List ay},n<=m->Pts l wt n A pts->Pts l wt m A pts:=fun h hp=>⟨fun j p hj=>by
  obtain⟨a,b,c⟩:=hp.pt j p hj
  exact⟨a,by omega,c⟩,hp.last⟩
 induction r with
 | nil=>intro i A ref pts _ hi hA hp;exact⟨hA,mono hi hp⟩
 | cons d r ih=>
  intro i A ref pts hdr hi hA hp
  have hd:l[i]? =some d:=by
   have:=congrArg (·[0]?) hdr
   simpa [aeg] using this
  have hr':l.drop (i+1)=r:=by
   have:=congrArg List.tail hdr
   simpa [afb] using this
  have hlt:i<l.length:=(aej.1 hd).1
  have hgood:=vQ (o:=o) hA hl hd
  simp only[eZ]
  split
  ·exact⟨hA,mono hi hp⟩
  ·split
   ·rename_i h0
    refine ih (i+1) _ _ _ hr' (by omega) hgood ?_
    rw[(LO hA.sound hl hd).2 h0]
    exact mono (by omega) hp
   ·rename_i h0
    have h0:=adw.1 h0
    refine ih (i+1) _ _ _ hr' (by omega) hgood ?_
    unfold nv
    by_cases hw:cO d=wt
    ·rw[age hw]
     obtain⟨k,x,hk,hx⟩:=Dy hA.sound hl hd h0
     have hL:=sM hk hx
     rw[hL]
     dsimp only
     refine⟨fun j p hj=> ?_,fun p hp'=> ?_⟩
     ·rw[aeb] at hj
      split at hj
      ·rename_i hjl
       obtain⟨a,b,c,e⟩:=hp.pt j p hj
       refine⟨a,by omega,c,fun q hq hj'=>e q hq ?_⟩
       rw[aec (by omega)] at hj'
       exact hj'
      ·rename_i hjl
       have hj0:j - pts.length=0:=by
        have:=(aej.1 hj).1
        simpa using this
       rw[hj0] at hj
       cases hj
       refine⟨by show (0:Int)<=(i:Int);omega,by show (i:Int)<((i+1:Nat):Int);omega,⟨d,bG hd,hw⟩,fun q hq hj'=> ?_⟩
       rw[aec (by omega)] at hj'
       exact (hp.pt _ q hj').2.1
     ·rw[List.getLast?_append] at hp'
      have e:(((i:Int),bV x):ay)=p:=by simpa using hp'
      subst e
      exact⟨x,by rw[<- hw];exact hL,rfl⟩
    ·rw[agd hw]
     refine⟨(mono (Nat.le_succ i) hp).pt,fun p hp'=> ?_⟩
     obtain⟨x,hx,e⟩:=hp.last p hp'
     exact⟨x,by rw[Kz hA.sound hl hd hw];exact hx,e⟩
theorem ZJ {o:aj} {l:List aa} (h:dV o l=0) (wt day:Int):Good l (ez o l wt day).1/\Pts l wt l.length (ez o l wt day).1 (ez o l wt day).2.2:=by
 obtain⟨h1,h2⟩:=yV h
 obtain⟨h3,h4⟩:=nh h2
 exact aaC h4 l 0 _ [] [] rfl (afN _) (wk h1 l) ⟨fun _ _ hj=>(nomatch hj),fun _ hp=>(nomatch hp)⟩
theorem Mk (o:aj) (l:List aa) (line:Int):uz o l line=some (if dV o l≠0 then ([],dV o l,()) else if line<1\/99999<line then ([],1,()) else ((ez o l line 3652059).2.2,0,())):=by
 unfold uz
 rw[uV,afO]
 dsimp only
 by_cases h:dV o l=0
 ·rw[agd (show ¬dV o l≠0 from fun e=>e h),show (if dP o≠0 then dP o else eY l)=0 from h,zne,af1,gQ,afO]
  by_cases hr:line<1\/99999<line
  ·rw[age hr,af6 hr];rfl
  ·rw[agd hr,af4 hr]
   obtain⟨_,e1,e2,_⟩:=start_eq h line 3652059
   dsimp only
   rw[af1,e1,afO]
   dsimp only
   rw[e2];rfl
 ·rw[age (show dV o l≠0 from h),show ((if dP o≠0 then dP o else eY l) != 0)=true from cr h,af2]
  rfl
theorem Xv {α β:Type} {f:α->Option β} {g:Option β}:Xu (none:Option α) f g=g:=rfl
end Go.Md
namespace Go.Md
open Go.Dn
theorem DZ (l:List aa) (hl:l.length<=2000):jP l l=some (true,()):=by
 unfold jP
 rw[show ((l.length:Int) != (l.length:Int))=false by simp,af1]
 have:∀ n,l.length<n->iter (X:=fN) (β:=iG) n (l,l,(l.length:Int),0,()) iF=some (Sum.inr ()):=by
  intro n hn
  refine cG (Inv:=fun i X=>X=((l,l,(l.length:Int),(i:Int),()):fN)) l.length (fun z=>z=some (Sum.inr ())) ?_ ?_ n 0 _ rfl (afN _) (by omega)
  ·rintro i X again hi rfl hag
   unfold iF
   dsimp only
   obtain⟨y,hy⟩:∃ y,l[i]? =some y:=⟨l[i],aeh hi⟩
   rw[af6 (show (i:Int)<(l.length:Int) by omega),af2,bG hy,afO,afO,aA (n:=(i:Int)+1) (by omega) (by omega)]
   simp only[afZ,adh,ads,af1]
   exact hag _ rfl
  ·rintro X again rfl
   unfold iF
   dsimp only
   rw[af4 (show ¬(l.length:Int)<(l.length:Int) by omega),af1]
 rw[this _ (by omega)]
 rfl
end Go.Md
namespace Go.Md
open Go.Dn
theorem jy (a b c:Int):iN a b c=some (decide (b<=a/\a<=c),()):=by
 unfold iN
 by_cases h:b<=a
 ·rw[bF h];simp[h]
 ·rw[bW h];simp[h]
theorem Jb {a b:ah} (ha:eM a) (hb:eM b):mV a b=some ((fS a - fS b).sign,()):=XF ha hb
theorem JD:eM ((1000000000,0):ah)/\fS ((1000000000,0):ah)=1000000000*10 ^ 9:=⟨⟨by decide,by decide,by decide⟩,by simp[fS]⟩
theorem VH {d:ah} (hd:eM d) (pl:Int):inR d 0 1000000000 pl=(!decide (d.1<0)&&(!decide ((fS d - 1000000000*10 ^ 9).sign>0)&& !decide (d.2>pl))):=by
 have h1:(fS d - 1000000000*10 ^ 9).sign>0↔¬d.1<=1000000000*10 ^ d.2.toNat:=by
  rw[<- aa6 hd.2.1 hd.2.2,gt_iff_lt,Int.sign_pos_iff]
  omega
 unfold inR
 rw[adk]
 simp only[af7,adf,adq,af5]
 rw[h1]
 constructor
 ·rintro⟨_,h2,h3,h4⟩;exact⟨by omega,fun h=>h h4,by omega⟩
 ·rintro⟨h2,h3,h4⟩;exact⟨hd,by omega,by omega,adw.1 h3⟩
theorem VI {d:ah} (hd:¬eM d) (a b pl:Int):inR d a b pl=false:=af4 (fun h=>hd h.1)
theorem xH (d:ah) (z:Bool):lC d z=some (if qOk d z=true then 0 else 1,()):=by
 unfold lC qOk x9
 simp only[afO]
 rw[xG,afO]
 by_cases hd:eM d
 ·rw[age hd,VH hd 3,Jb hd JD.1,JD.2]
  generalize decide (d.1<0)=b1
  generalize (fS d - 1000000000*10 ^ 9).sign=sg
  generalize decide (d.2>3)=b3
  generalize (d.1==0)=b4
  simp only[afO]
  generalize decide (sg>0)=b2
  cases b1<;>cases b4<;>cases z<;>cases b2<;>cases b3<;>rfl
 ·rw[agd hd,VI hd]
  rfl
theorem BX (d:ah):pW d=some (if inR d 0 1000000000 4=true then 0 else 1,()):=by
 unfold pW x9
 simp only[afO]
 rw[xG,afO]
 by_cases hd:eM d
 ·rw[age hd,VH hd 4,Jb hd JD.1,JD.2]
  generalize decide (d.1<0)=b1
  generalize (fS d - 1000000000*10 ^ 9).sign=sg
  generalize decide (d.2>4)=b3
  simp only[afO]
  generalize decide (sg>0)=b2
  cases b1<;>cases b2<;>cases b3<;>rfl
 ·rw[agd hd,VI hd]
  rfl
theorem Je {k:Int} (hk:1<=k/\k<=11):CT k=some ((usQ k,usP k,usU k,usA k,usT k),()):=by
 have:k=1\/k=2\/k=3\/k=4\/k=5\/k=6\/k=7\/k=8\/k=9\/k=10\/k=11:=by omega
 rcases this with rfl | rfl | rfl | rfl | rfl | rfl | rfl | rfl | rfl | rfl | rfl<;>rfl
theorem abO (a b:Bool):(bif a then some (b,()) else some (false,()))=some (a&&b,()):=by cases a<;>rfl
theorem bOr (a b:Bool):(bif a then some (true,()) else some (b,()))=some (a||b,()):=by cases a<;>rfl
theorem bAO (a b x:Bool):(bif a then some (b||x,()) else some (x,()))=some (a&&b||x,()):=by cases a<;>rfl
theorem acS (b:Bool):((if b=true then (0:Int) else 1) != 0)= !b:=by cases b<;>rfl
theorem acw {β:Type} (x:Option β):chk true x=x:=rfl
theorem aa2 (a b:Bys):((a++b)==[])=((a==[])&&(b==[])):=by cases a<;>cases b<;>rfl
theorem Kv {d:aa} (hk:1<=d.2.2.2.1/\d.2.2.2.1<=11) (hs:d.2.2.2.2.2.1.length+d.2.2.2.2.2.2.2.1.length<=maxLen):s6 d=some (AO d,()):=by
 unfold s6 AO OE
 rw[Je hk,afO]
 simp only[xH,BX,DR,BQ,jy,afO,af6 hs,acw,acS,aa2]
 rw[show decide (1<=d.2.2.2.2.2.2.2.2.2.1/\d.2.2.2.2.2.2.2.2.2.1<=3652059)=wg d.2.2.2.2.2.2.2.2.2.1 from rfl,show decide (1<=d.2.2.2.2.2.2.2.2.2.2/\d.2.2.2.2.2.2.2.2.2.2<=2000)=zT d.2.2.2.2.2.2.2.2.2.2 from rfl]
 generalize usQ d.2.2.2.1=uq
 generalize usP d.2.2.2.1=up
 generalize usU d.2.2.2.1=uu
 generalize usA d.2.2.2.1=ua
 generalize usT d.2.2.2.1=ut
 generalize (d.2.2.2.1==2)=k2
 generalize qOk d.2.2.2.2.2.2.1 k2=q
 generalize inR d.2.2.2.2.2.2.2.2.1 0 1000000000 4=p
 generalize wg d.2.2.2.2.2.2.2.2.2.1=dy
 generalize zT d.2.2.2.2.2.2.2.2.2.2=tt
 generalize cK d.2.2.2.2.2.1=n1
 generalize cK d.2.2.2.2.2.2.2.1=n2
 generalize (d.2.2.2.2.2.1==[])=e1
 generalize (d.2.2.2.2.2.2.2.1==[])=e2
 generalize (d.2.2.2.2.2.2.2.2.2.1 != 0)=un
 generalize (d.2.2.2.2.2.2.2.2.2.2 != 0)=to
 simp only[adi]
 generalize (d.2.2.2.2.2.2.1.1==0&&d.2.2.2.2.2.2.1.2==0)=q0
 generalize (d.2.2.2.2.2.2.2.2.1.1==0&&d.2.2.2.2.2.2.2.2.1.2==0)=p0
 simp only[abO,bOr,bAO,afO]
 generalize h1:(uq&& !q)=c1
 cases c1
 ·simp only[af1]
  generalize h2:(up&& !p)=c2
  cases c2
  ·simp only[af1]
   generalize h3:(uu&& !dy)=c3
   cases c3
   ·simp only[af1]
    generalize h4:(ua&&(!n1|| !n2))=c4
    cases c4
    ·simp only[af1]
     generalize h5:(ut&& !tt)=c5
     cases c5
     ·simp only[af1]
      have e:((!uq&& !q0)||((!up&& !p0)||((!uu&&un)||((!ua&& !(e1&&e2))||(!ut&&to)))))=((!ua&& !e1)||((!uq&& !q0)||((!ua&& !e2)||((!up&& !p0)||((!uu&&un)||(!ut&&to)))))):=by
       generalize (!uq&& !q0)=x1
       generalize (!up&& !p0)=x2
       generalize (!uu&&un)=x3
       generalize (!ut&&to)=x4
       cases ua<;>cases e1<;>cases e2<;>cases x1<;>cases x2<;>cases x3<;>cases x4<;>rfl
      rw[e]
      generalize ((!ua&& !e1)||((!uq&& !q0)||((!ua&& !e2)||((!up&& !p0)||((!uu&&un)||(!ut&&to))))))=c6
      cases c6<;>rfl
     ·rfl
    ·rfl
   ·rfl
  ·rfl
 ·rfl
theorem PF (k:Int):yL k=some (decide ((1<=k/\k<=4)\/k=8\/k=10\/k=11),()):=by
 unfold yL
 rw[jy,afO]
 dsimp only
 by_cases h1:1<=k/\k<=4
 ·rw[af6 h1,af2,af6 (.inl h1)]
 ·rw[af4 h1,af1]
  by_cases h2:k=8
  ·subst h2;rfl
  ·rw[cL h2,af1]
   by_cases h3:k=10
   ·subst h3;rfl
   ·rw[cL h3,af1]
    by_cases h4:k=11
    ·subst h4;rfl
    ·rw[cL h4,af4 (fun h=>by omega)]
theorem Oj (a b:aa):rL a b=some (dCw a b,()):=by
 unfold rL dCw
 generalize w64 (a.1 - b.1)=x
 generalize w64 (a.2.1 - b.2.1)=y
 generalize w64 (a.2.2.1 - b.2.2.1)=z
 simp only[aew,aeC]
 have key:iter (X:=qN) (β:=qM) 8 (3,0,[x,y,z],()) wT=(bif x != 0 then some (Sum.inl (x,())) else bif y != 0 then some (Sum.inl (y,())) else bif z != 0 then some (Sum.inl (z,())) else some (Sum.inr ())):=by kernel_rfl
 show aC (β:=(Int×Unit)) (γ:=Unit) (iter 8 (3,0,[x,y,z],()) wT) _=_
 rw[key]
 by_cases hx:x=0
 ·subst hx
  by_cases hy:y=0
  ·subst hy
   by_cases hz:z=0
   ·subst hz;rfl
   ·have:(z != 0)=true:=by simp[hz]
    rw[this];simp[aC]
  ·have:(y != 0)=true:=by simp[hy]
   rw[this];simp[aC,hy]
 ·have:(x != 0)=true:=by simp[hx]
  rw[this];simp[aC,hx]
def nF (b:Int) (l:List aa):Int:=l.foldl (fun m d=>if d.2.1=b then d.2.2.1 else m) 0
theorem Ua (b:Int) (l:List aa) (hl:l.length<=2000):CO l b=some (nF b l,()):=by
 unfold CO
 have:∀ n,l.length<n->iter (X:=rM) (β:=wV) n (b,0,l,(l.length:Int),0,()) wU=some (Sum.inr (nF b l,())):=by
  intro n hn
  refine cG (Inv:=fun i X=>X=((b,nF b (l.take i),l,(l.length:Int),(i:Int),()):rM)) l.length (fun z=>z=some (Sum.inr (nF b l,()))) ?_ ?_ n 0 _ rfl (afN _) (by omega)
  ·rintro i X again hi rfl hag
   unfold wU
   dsimp only
   obtain⟨y,hy⟩:∃ y,l[i]? =some y:=⟨l[i],aeh hi⟩
   rw[af6 (show (i:Int)<(l.length:Int) by omega),af2,bG hy,afO,aA (n:=(i:Int)+1) (by omega) (by omega)]
   have e:nF b (l.take (i+1))=if y.2.1=b then y.2.2.1 else nF b (l.take i):=by
    unfold nF
    rw[mX hy,List.foldl_append];rfl
   by_cases hb:y.2.1=b
   ·rw[show (y.2.1==b)=true by simpa using hb,af2]
    rw[age hb] at e
    exact hag _ (by rw[e];rfl)
   ·rw[cL hb,af1]
    rw[agd hb] at e
    exact hag _ (by rw[e];rfl)
  ·rintro X again rfl
   unfold wU
   dsimp only
   rw[af4 (show ¬(l.length:Int)<(l.length:Int) by omega),af1,afg]
 rw[this _ (by omega)]
 rfl
theorem ZW {a b:aa} (ha:bp a=0) (hb:bp b=0):decide (dCw b a<=0)=decide (0<=dCw a b):=by
 obtain⟨a1,a2,a3,_⟩:=bH ha
 obtain⟨b1,b2,b3,_⟩:=bH hb
 unfold dCw
 rw[aA (n:=b.1 - a.1) (by omega) (by omega),aA (n:=a.1 - b.1) (by omega) (by omega),aA (n:=b.2.1 - a.2.1) (by omega) (by omega),aA (n:=a.2.1 - b.2.1) (by omega) (by omega),
  aA (n:=b.2.2.1 - a.2.2.1) (by omega) (by omega),aA (n:=a.2.2.1 - b.2.2.1) (by omega) (by omega),af3]
 by_cases h1:a.1 - b.1=0
 ·rw[agd (show ¬(b.1 - a.1≠0) by omega),agd (show ¬(a.1 - b.1≠0) by omega)]
  by_cases h2:a.2.1 - b.2.1=0
  ·rw[agd (show ¬(b.2.1 - a.2.1≠0) by omega),agd (show ¬(a.2.1 - b.2.1≠0) by omega)];omega
  ·rw[age (show (b.2.1 - a.2.1≠0) by omega),age (show (a.2.1 - b.2.1≠0) by omega)];omega
 ·rw[age (show (b.1 - a.1≠0) by omega),age (show (a.1 - b.1≠0) by omega)];omega
def Txt (d:aa):Prop:=d.2.2.2.2.2.1.length+d.2.2.2.2.2.2.2.1.length<=maxLen
theorem BW (l:List aa) (hs:∀ d,d∈l->Txt d):pV l=some (eY l,()):=by
 unfold pV eY
 by_cases hlen:2000<l.length
 ·rw[age hlen,af6 (show (l.length:Int)>2000 by omega),af2]
 rw[agd hlen,af4 (show ¬(l.length:Int)>2000 by omega),af1]
 have loop:∀ (r:List aa) (i n:Nat),l.drop i=r->i<=l.length->(∀ q,bM l i=some q->bp q=0)->r.length<n->
  aC (β:=(Int×Unit)) (γ:=Unit) (iter (X:=pE) (β:=pz) n (l,l,(l.length:Int),(i:Int),()) lB) (fun _=>some (0,()))=some (dA r (bM l i) (nF 1 (l.take i)) (nF 2 (l.take i)),()):=by
  intro r
  induction r with
  | nil=>
   intro i n hd hi _ hn
   have:i=l.length:=by
    have:=congrArg List.length hd
    simp at this;omega
   subst this
   obtain⟨n,rfl⟩:∃ m,n=m+1:=⟨n - 1,by omega⟩
   rw[fk]
   unfold lB
   dsimp only
   rw[af4 (show ¬((l.length:Int)<(l.length:Int)) by omega),af1]
   rfl
  | cons d r ih=>
   intro i n hdr hi hq hn
   have hd:l[i]? =some d:=by
    have:=congrArg (·[0]?) hdr
    simpa [aeg] using this
   have hr':l.drop (i+1)=r:=by
    have:=congrArg List.tail hdr
    simpa [afb] using this
   have hlt:i<l.length:=(aej.1 hd).1
   obtain⟨n,rfl⟩:∃ m,n=m+1:=⟨n - 1,by simp at hn;omega⟩
   rw[fk]
   generalize hag:(fun y=>iter n y lB)=again
   unfold lB
   dsimp only
   rw[af6 (show (i:Int)<(l.length:Int) by omega),af2,bG hd,afO,DR,afO]
   simp only[dA]
   by_cases h1:1<=d.1/\d.1<=3652059
   rotate_left
   ·have e:bp d=1:=by unfold bp;rw[age h1]
    rw[af4 h1,age (show bp d≠0 by omega),e];rfl
   rw[af6 h1,ads,af1]
   have eby:(bif d.2.1 != 1 then some (d.2.1 != 2,()) else some (false,()))=some (!decide (1<=d.2.1/\d.2.1<=2),()):=by
    rw[abO]
    congr 2
    by_cases k1:d.2.1=1
    ·simp[k1]
    ·by_cases k2:d.2.1=2
     ·simp[k2]
     ·rw[cr k1,cr k2,af4 (by omega)];rfl
   rw[eby,afO]
   dsimp only
   by_cases h2:1<=d.2.1/\d.2.1<=2
   rotate_left
   ·have e:bp d=4:=by unfold bp;rw[agd (show ¬¬_ from fun e=>e h1),age h2]
    rw[af4 h2,age (show bp d≠0 by omega),e];rfl
   rw[af6 h2,ads,af1,jy,afO]
   dsimp only
   by_cases h3:1<=d.2.2.1/\d.2.2.1<=2000
   rotate_left
   ·have e:bp d=1:=by unfold bp;rw[agd (show ¬¬_ from fun e=>e h1),agd (show ¬¬_ from fun e=>e h2),age h3]
    rw[af4 h3,age (show bp d≠0 by omega),e];rfl
   rw[af6 h3,ads,af1,jy,afO]
   dsimp only
   by_cases h4:1<=d.2.2.2.1/\d.2.2.2.1<=11
   rotate_left
   ·have e:bp d=4:=by unfold bp;rw[agd (show ¬¬_ from fun e=>e h1),agd (show ¬¬_ from fun e=>e h2),agd (show ¬¬_ from fun e=>e h3),age h4]
    rw[af4 h4,age (show bp d≠0 by omega),e];rfl
   rw[af6 h4,ads,af1,PF,afO]
   dsimp only
   by_cases h5:(d.2.2.2.1=5\/d.2.2.2.1=6\/d.2.2.2.1=7\/d.2.2.2.1=9)↔d.2.1=2
   rotate_left
   ·have e:bp d=4:=by unfold bp;rw[agd (show ¬¬_ from fun e=>e h1),agd (show ¬¬_ from fun e=>e h2),agd (show ¬¬_ from fun e=>e h3),agd (show ¬¬_ from fun e=>e h4),age h5]
    have e2:(decide ((1<=d.2.2.2.1/\d.2.2.2.1<=4)\/d.2.2.2.1=8\/d.2.2.2.1=10\/d.2.2.2.1=11)==(d.2.1==1))=false:=by
     by_cases k:d.2.1=1
     ·rw[k,show ((1:Int)==1)=true from rfl,af4 (fun h=>h5 (by omega))];rfl
     ·rw[cL k,af6 (Classical.byContradiction fun h=>h5 (by omega))];rfl
    rw[e2,age (show bp d≠0 by omega),e];rfl
   have e5:(decide ((1<=d.2.2.2.1/\d.2.2.2.1<=4)\/d.2.2.2.1=8\/d.2.2.2.1=10\/d.2.2.2.1=11)==(d.2.1==1))=true:=by
    by_cases k:d.2.1=1
    ·rw[k,show ((1:Int)==1)=true from rfl,af6 (by omega)];rfl
    ·rw[cL k,af4 (by omega)];rfl
   rw[e5,ads,af1,jy,afO]
   dsimp only
   by_cases h6:1<=d.2.2.2.2.1/\d.2.2.2.2.1<=99999
   rotate_left
   ·have e:bp d=1:=by unfold bp;rw[agd (show ¬¬_ from fun e=>e h1),agd (show ¬¬_ from fun e=>e h2),agd (show ¬¬_ from fun e=>e h3),agd (show ¬¬_ from fun e=>e h4),agd (show ¬¬_ from fun e=>e h5),age h6]
    rw[af4 h6,age (show bp d≠0 by omega),e];rfl
   have ed:bp d=AO d:=by unfold bp;rw[agd (show ¬¬_ from fun e=>e h1),agd (show ¬¬_ from fun e=>e h2),agd (show ¬¬_ from fun e=>e h3),agd (show ¬¬_ from fun e=>e h4),agd (show ¬¬_ from fun e=>e h5),agd (show ¬¬_ from fun e=>e h6)]
   rw[af6 h6,ads,af1,Kv h4 (hs d (aeW hd)),afO, <- ed]
   dsimp only
   by_cases h7:bp d=0
   rotate_left
   ·rw[cr h7,age h7];rfl
   rw[h7,zne,af1,agd (show ¬(0:Int)≠0 from fun e=>e rfl)]
   have epr:(bif decide ((i:Int)>0) then Option.bind (idx l (w64 ((i:Int) - 1))) fun y10=>Option.bind (rL d y10) fun r11=>some (decide (r11.1<=0),()) else some (false,()))=some ((bM l i).any fun q=>decide (0<=dCw q d),()):=by
    cases i with
    | zero=>rfl
    | succ i=>
     obtain⟨q,hqq⟩:∃ q,l[i]? =some q:=⟨l[i],aeh (by omega)⟩
     rw[af6 (show ((i+1:Nat):Int)>0 by omega),af2,aA (n:=((i+1:Nat):Int) - 1) (by omega) (by omega),show ((i+1:Nat):Int) - 1=(i:Int) by omega,bG hqq,afO,Oj,afO]
     show some (decide (dCw d q<=0),())=some ((bM l (i+1)).any _,())
     rw[show bM l (i+1)=some q from hqq,ZW (hq q hqq) h7]
     rfl
   rw[epr,afO]
   dsimp only
   cases h8:((bM l i).any fun q=>decide (0<=dCw q d))
   rotate_left
   ·rfl
   rw[af1,agd (show ¬false=true from adm)]
   rw[cA (by simp only[adf,af7];omega),adN,ad3,Ua _ _ (by simp;omega),afO]
   dsimp only
   have htk:∀ b,nF b (l.take (i+1))=if d.2.1=b then d.2.2.1 else nF b (l.take i):=by
    intro b
    unfold nF
    rw[mX hd,List.foldl_append];rfl
   have hnext:∀ q,bM l (i+1)=some q->bp q=0:=by
    intro q hqq
    have:l[i]? =some q:=hqq
    rw[hd] at this;cases this;exact h7
   have ih':=ih (i+1) n hr' (by omega) hnext (by simp at hn;omega)
   rw[show bM l (i+1)=some d from hd,htk 1,htk 2] at ih'
   rw[aA (n:=(i:Int)+1) (by omega) (by omega)]
   have hi1:(i:Int)+1=((i+1:Nat):Int):=by omega
   by_cases k1:d.2.1=1
   ·rw[age k1]
    rw[age k1,agd (show ¬d.2.1=2 by omega)] at ih'
    rw[k1]
    by_cases h9:d.2.2.1=w64 (nF 1 (l.take i)+1)
    ·rw[show (d.2.2.1 != w64 (nF 1 (l.take i)+1))=false by simpa using h9,af1,agd (fun e=>e h9),hi1, <- hag]
     exact ih'
    ·rw[cr h9,age h9];rfl
   ·have k2:d.2.1=2:=by omega
    rw[agd k1]
    rw[agd k1,age k2] at ih'
    rw[k2]
    by_cases h9:d.2.2.1=w64 (nF 2 (l.take i)+1)
    ·rw[show (d.2.2.1 != w64 (nF 2 (l.take i)+1))=false by simpa using h9,af1,agd (fun e=>e h9),hi1, <- hag]
     exact ih'
    ·rw[cr h9,age h9];rfl
 exact loop l 0 _ rfl (afN _) (fun q hq=>by cases hq) (by omega)
end Go.Md
namespace Go.Md
open Go.Dn
abbrev Pd (d:aa):ah:=(d.2.1,d.2.2.1)
def leD (x y:aa):Bool:= !decide (Yu y x<0)
def Lex (a b:aa):Prop:=a.1<b.1\/(a.1=b.1/\(a.2.1<b.2.1\/(a.2.1=b.2.1/\a.2.2.1<=b.2.2.1)))
theorem VP (a b:aa):leD a b=true↔Lex a b:=by
 unfold leD Yu Lex
 by_cases h1:b.1 - a.1=0
 ·rw[show (b.1 - a.1==0)=true by simpa using h1,ads,af1]
  by_cases h2:b.2.1 - a.2.1=0
  ·rw[show (b.2.1 - a.2.1==0)=true by simpa using h2,ads,af1]
   simp only[adq,af5];omega
  ·rw[cL h2,adr,af2]
   simp only[adq,af5];omega
 ·rw[cL h1,adr,af2]
  simp only[adq,af5];omega
end Go.Md
namespace Go.Md
open Go.Dn
end Go.Md
namespace Go.Md
open Go.Dn
theorem abV {a b:aa} (ha:bp a=0) (hb:bp b=0):dCw a b<0↔¬Lex b a:=by
 obtain⟨a1,a2,a3,_⟩:=bH ha
 obtain⟨b1,b2,b3,_⟩:=bH hb
 unfold dCw Lex
 rw[aA (n:=a.1 - b.1) (by omega) (by omega),aA (n:=a.2.1 - b.2.1) (by omega) (by omega),aA (n:=a.2.2.1 - b.2.2.1) (by omega) (by omega)]
 by_cases h1:a.1 - b.1=0
 ·rw[agd (show ¬(a.1 - b.1≠0) by omega)]
  by_cases h2:a.2.1 - b.2.1=0
  ·rw[agd (show ¬(a.2.1 - b.2.1≠0) by omega)];omega
  ·rw[age h2];omega
 ·rw[age h1];omega
theorem KA:∀ (r:List aa) (p:Option aa) (nb ns:Int),0<=nb->nb<=2000->0<=ns->ns<=2000->(∀ q,p=some q->bp q=0)->dA r p nb ns=0-> (∀ d,d∈r->bp d=0/\(d.2.1=1->nb<d.2.2.1)/\(d.2.1≠1->ns<d.2.2.1)/\∀ q,p=some q->¬Lex d q)/\r.Pairwise (fun a b=>¬Lex b a)/\r.Pairwise (fun a b=>Pd a≠Pd b)
 | [],p,nb,ns,_,_,_,_,_,_=>⟨fun _ hd=>(nomatch hd),List.Pairwise.nil,List.Pairwise.nil⟩
 | d::r,p,nb,ns,h1,h2,h3,h4,hp,h=>by
  simp only[dA] at h
  by_cases hf:bp d=0
  rotate_left
  ·rw[age hf] at h;exact absurd h hf
  rw[agd (fun e=>e hf)] at h
  by_cases hpp:(p.any fun q=>decide (0<=dCw q d))=true
  ·rw[age hpp] at h;cases h
  rw[agd hpp] at h
  have hlex:∀ q,p=some q->¬Lex d q:=by
   rintro q rfl
   rw[<- abV (hp q rfl) hf]
   have:¬(0<=dCw q d):=fun e=>hpp (af6 e)
   omega
  obtain⟨_,_,d3,_⟩:=bH hf
  have step:∀ nb' ns',0<=nb'->nb'<=2000->0<=ns'->ns'<=2000->nb<=nb'->ns<=ns'->(d.2.1=1->nb<d.2.2.1/\nb'=d.2.2.1)->(d.2.1≠1->ns<d.2.2.1/\ns'=d.2.2.1)->dA r (some d) nb' ns'=0->
   (∀ e,e∈d::r->bp e=0/\(e.2.1=1->nb<e.2.2.1)/\(e.2.1≠1->ns<e.2.2.1)/\∀ q,p=some q->¬Lex e q)/\(d::r).Pairwise (fun a b=>¬Lex b a)/\(d::r).Pairwise (fun a b=>Pd a≠Pd b):=by
   intro nb' ns' g1 g2 g3 g4 g5 g6 g7 g8 hg
   obtain⟨i1,i2,i3⟩:=KA r (some d) nb' ns' g1 g2 g3 g4 (fun q hq=>by cases hq;exact hf) hg
   refine⟨fun e he=> ?_,List.Pairwise.cons (fun e he=>(i1 e he).2.2.2 d rfl) i2,List.Pairwise.cons (fun e he hk=> ?_) i3⟩
   ·rcases aeP.1 he with rfl | he
    ·exact⟨hf,fun e1=>(g7 e1).1,fun e1=>(g8 e1).1,hlex⟩
    ·obtain⟨j1,j2,j3,j4⟩:=i1 e he
     refine⟨j1,fun e1=>by have:=j2 e1;omega,fun e1=>by have:=j3 e1;omega,fun q hq hl=> ?_⟩
     have k1:=hlex q hq
     have k2:=j4 d rfl
     unfold Lex at*
     omega
   ·obtain⟨j1,j2,j3,j4⟩:=i1 e he
    have e1:d.2.1=e.2.1:=(Prod.mk.inj hk).1
    have e2:d.2.2.1=e.2.2.1:=(Prod.mk.inj hk).2
    by_cases hb:d.2.1=1
    ·have:=j2 (by omega)
     have:=(g7 hb).2
     omega
    ·have:=j3 (by omega)
     have:=(g8 hb).2
     omega
  by_cases hb:d.2.1=1
  ·rw[age hb] at h
   by_cases hn:d.2.2.1=w64 (nb+1)
   ·rw[agd (fun e=>e hn)] at h
    rw[aA (by omega) (by omega)] at hn
    exact step d.2.2.1 ns (by omega) (by omega) h3 h4 (by omega) (by omega) (fun _=>⟨by omega,rfl⟩) (fun e=>absurd hb e) h
   ·rw[age hn] at h;cases h
  ·rw[agd hb] at h
   by_cases hn:d.2.2.1=w64 (ns+1)
   ·rw[agd (fun e=>e hn)] at h
    rw[aA (by omega) (by omega)] at hn
    exact step nb d.2.2.1 h1 h2 (by omega) (by omega) (by omega) (by omega) (fun e=>absurd e hb) (fun _=>⟨by omega,rfl⟩) h
   ·rw[age hn] at h;cases h
theorem WO {l:List aa} (h:eY l=0):l.Pairwise (fun a b=>leD a b=true)/\l.Pairwise (fun a b=>Pd a≠Pd b):=by
 have hl:=(nh h).1
 unfold eY at h
 rw[agd (by omega)] at h
 obtain⟨_,i2,i3⟩:=KA l none 0 0 (by omega) (by omega) (by omega) (by omega) (fun q hq=>by cases hq) h
 refine⟨i2.imp fun {a b} hab=> ?_,i3⟩
 rw[VP]
 unfold Lex at*
 omega
end Go.Md
