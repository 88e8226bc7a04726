/-
  Plain facts: deeds, followed one behind the other. No condition.
-/
import Derived.Test.YtcpmaicaibdafaaGreatDoorYs
import Derived.Test.YtcpmaicaibdafaaGreatDoorYq
import Derived.Test.YtcpmaicaibdafaaGreatDoorYo
set_option linter.all false
namespace Go.Md
open Go.Dn
theorem RP {day:Int} {p:Option aQ} {x:aQ} (h:gl day p x=0):(1≤x.1∧x.1≤99999)∧(∀ q,p=some q→q.1<x.1)∧bT x.2.1=true∧qOk x.2.2.1 false=true∧bT x.2.2.2.1=true∧inR x.2.2.2.2.1 0 1000000000 4=true∧(day≤x.2.2.2.2.2∧x.2.2.2.2.2≤3652059):=by
 unfold gl at h
 split at h
 ·cases h
 ·rename_i h1
  split at h
  ·cases h
  ·rename_i h2
   split at h
   ·cases h
   ·rename_i h3
    split at h
    ·cases h
    ·rename_i h4
     split at h
     ·cases h
     ·rename_i h5
      split at h
      ·cases h
      ·rename_i h6
       split at h
       ·cases h
       ·rename_i h7
        refine⟨X4.1 h1,fun q hq=> ?_,by simpa using h3,by simpa using h4,by simpa using h5,by simpa using h6,X4.1 h7⟩
        subst hq
        have:¬x.1≤q.1:=fun e=>h2 (aaf e)
        omega
theorem wN {day:Int}:∀ {r:List aQ} {p:Option aQ},jZ day r p=0→
 (∀ x,x∈r→bT x.2.1=true∧qOk x.2.2.1 false=true∧bT x.2.2.2.1=true∧inR x.2.2.2.2.1 0 1000000000 4=true∧(1≤x.1∧x.1≤99999)∧(day≤x.2.2.2.2.2∧x.2.2.2.2.2≤3652059))∧(∀ q,p=some q→∀ x,x∈r→q.1<x.1)∧r.Pairwise (fun a b=>a.1<b.1)
 | [],p,_=>⟨nofun,fun _ _ _ h=>(nomatch h),List.Pairwise.nil⟩
 | y::r,p,h=>by
  simp only[jZ] at h
  by_cases hf:gl day p y=0
  ·rw[aam (fun e=>e hf)] at h
   obtain⟨a1,a2,a3⟩:=wN h
   obtain⟨b1,b2,b3,b4,b5,b6,b7⟩:=RP hf
   refine⟨fun x hx=> ?_,fun q hq x hx=> ?_,List.Pairwise.cons (fun x hx=>a2 y rfl x hx) a3⟩
   ·rcases Y7.1 hx with rfl | hx
    ·exact⟨b3,b4,b5,b6,b1,b7⟩
    ·exact a1 x hx
   ·rcases Y7.1 hx with rfl | hx
    ·exact b2 q hq
    ·have:=b2 q hq
     have:=a2 y rfl x hx
     omega
  ·rw[aan hf] at h
   exact absurd h hf
theorem Da {o:ai} (h:mY o=0):(1≤gj o∧gj o≤3652059)∧(0≤er o∧er o≤1000)∧(q7 o).length≤500∧q7 o≠[]∧jZ (gj o) (q7 o) none=0∧(bT (Lg o)=true∧bT (Iy o)=true∧bT (Lh o)=true∧Iy o≠Lh o):=by
 unfold mY at h
 split at h
 ·cases h
 ·rename_i h1
  split at h
  ·cases h
  ·rename_i h2
   split at h
   ·cases h
   ·rename_i h3
    split at h
    ·cases h
    ·rename_i h4
     split at h
     ·cases h
     ·rename_i h5
      split at h
      ·cases h
      ·rename_i h6
       refine⟨X4.1 h3,X4.1 h4,by omega,h5,h, ?_, ?_, ?_,h2⟩
       ·cases hb:bT (Lg o)
        ·exact absurd (.inl hb) h1
        ·rfl
       ·cases hb:bT (Iy o)
        ·exact absurd (.inr (.inl hb)) h1
        ·rfl
       ·cases hb:bT (Lh o)
        ·exact absurd (.inr (.inr hb)) h1
        ·rfl
def rS (x:aQ):ak:=⟨x.1,x.2.1,x.2.2.2.1,bE x.2.2.1,0,0,0,x.2.2.2.2.1,x.2.2.2.2.2, -1,0,0,0⟩
abbrev uZ (o:ai):List ak:=(q7 o).map rS
theorem Kj {n:Int}:∀ {A:List ak} {i:Nat},(∀ x,x∈A→x.no≠n)→bV n i A=none
 | [],_,_=>rfl
 | x::r,i,h=>by
  simp only[bV]
  rw[aam (fun e=>h x (by simp) e.symm)]
  exact Kj (fun y hy=>h y (by simp[hy]))
theorem Nf {α:Type} {l:List α} {i:Nat} {y:α} (h:l[i]? =some y):l.take (i+1)=l.take i++[y]:=by
 rw[Zq,h];rfl
theorem FV {o:ai} (ho:mY o=0) (l:List aa):jA o l []=some ((o,l,mapOf (uZ o),[],[],0,()),(uZ o).map ak.tup,()):=by
 obtain⟨_,_,hlen,_,hgo,_⟩:=Da ho
 obtain⟨hln,_,hpw⟩:=wN hgo
 obtain⟨onum,obuy,osel,oday,oext,lns⟩:=o
 change lns.length≤500 at hlen
 change ∀ x,x∈lns→_ at hln
 change lns.Pairwise _ at hpw
 unfold jA
 have:=Lb (f:=mC) (fun (_:Unit) (i:Nat)=>((lns,(lns.length:Int),(i:Int),onum,obuy,osel,oday,oext,lns,l,[],[],0,mapOf ((lns.take i).map rS),((lns.take i).map rS).map ak.tup,()):mD)) lns
  (fun (_:Unit) _ _ k=>k ()) (fun _=>some (Sum.inr (onum,obuy,osel,oday,oext,lns,l,[],[],0,mapOf (lns.map rS),(lns.map rS).map ak.tup,()))) (fun s i y again hy=>by
    have hi:i<lns.length:=(YL.1 hy).1
    unfold mC
    dsimp only
    rw[aaf (show (i:Int)<(lns.length:Int) by omega),aac,fW hy,ZZ,mO (hln y (Zd hy)).2.1,ZZ]
    have hno:bV y.1 0 ((lns.take i).map rS)=none:=Kj fun z hz=>by
     obtain⟨q,hq,rfl⟩:=Zc.1 hz
     obtain⟨j,hj⟩:=Zb.1 hq
     have hji:j<i:=by
      have:=(YL.1 hj).1
      simp at this;omega
     rw[YT hji] at hj
     have h1:=Zk.1 hpw j i (by omega) hi hji
     have e1:lns[j]=q:=by have:=YJ (show j<lns.length by omega);rw[hj] at this;exact (Option.some.inj this).symm
     have e2:lns[i]=y:=by have:=YJ hi;rw[hy] at this;exact (Option.some.inj this).symm
     rw[e1,e2] at h1
     show q.1≠y.1
     omega
    have hs:=Ld y.1 (rS y) rfl ((lns.take i).map rS) 0 hno
    rw[ZW] at hs
    rw[YX,aV (n:=(i:Int)+1) (by omega) (by omega)]
    have ht:(lns.take (i+1)).map rS=(lns.take i).map rS++[rS y]:=by rw[Nf hy,Y2];rfl
    rw[ht]
    refine congrArg again ?_
    refine Prod.ext rfl (Prod.ext rfl (Prod.ext rfl (Prod.ext rfl (Prod.ext rfl (Prod.ext rfl (Prod.ext rfl (Prod.ext rfl (Prod.ext rfl (Prod.ext rfl (Prod.ext rfl (Prod.ext rfl (Prod.ext rfl (Prod.ext hs (Prod.ext ?_ rfl))))))))))))))
    show List.map ak.tup _++[_]=List.map ak.tup (_++[rS y])
    rw[Y2];rfl) (fun s again=>by
    unfold mC
    dsimp only
    rw[aae (show ¬((lns.length:Int)<(lns.length:Int)) by omega),aab,List.take_length]) ()
 have hfor:∀ (r:List aQ) (i:Nat) (β:Type) (f:Option β),DC (fun (_:Unit) _ _ k=>k ()) (fun _=>f) r i ()=f:=by
  intro r
  induction r with
  | nil=>intro i β f;rfl
  | cons y r ih=>intro i β f;exact ih (i+1) β f
 refine (congrArg (fun z=>aK z _) ((this _ ?_).trans (hfor _ _ _ _))).trans rfl
 simp only[YY]
 omega
def pT (n:Int):ah:=((few 3 n).1,((few 3 n).2:Int))
theorem rW {n:Int} (h0:0≤n) (h1:n≤1000000000000000):oB n=some (pT n,()):=by
 unfold oB
 rw[mM n (by omega) (by omega),ZZ]
 have hb:n.natAbs<4294967296 ^ 99:=ZJ (show n.natAbs<4294967296 ^ 2 by omega) (ZU (by omega) (by omega))
 have:=BA n hb 3 (by omega)
 rw[show ((3:Nat):Int)=3 from rfl] at this
 dsimp only
 rw[this,ZZ,aan (by have:=(EB 3 n).2.2;omega)]
 rfl
def QV (d:ah):ah:=((few d.2.toNat d.1).1,((few d.2.toNat d.1).2:Int))
theorem LI {d:ah} (h0:0≤d.1) (h1:d.1≤1000000000000000) (h2:0≤d.2) (h3:d.2≤9):xZ d=some (QV d,()):=by
 unfold xZ
 have loop:∀ (n:Nat) (z:Int) (p:Nat),0≤z→z≤1000000000000000→p≤9→p<n→iter (X:=sP) (β:=sO) n (z,(p:Int),0,0,()) sN=some (Sum.inr ((few p z).1,((few p z).2:Int),0,0,())):=by
  intro n
  induction n with
  | zero=>intro z p _ _ _ h;omega
  | succ n ih=>
   intro z p hz hz1 hp hn
   rw[cQ]
   generalize hag:(fun y=>iter n y sN)=again
   unfold sN
   dsimp only
   cases p with
   | zero=>rfl
   | succ p=>
    rw[aaf (show ((p+1:Nat):Int)>0 by omega),aac,ZZ]
    dsimp only
    rw[Int.tmod_eq_emod_of_nonneg hz]
    by_cases hm:z % 10=0
    ·rw[show (z % 10==0)=true by simp[hm],aac,Yh hz,aV (n:=z / 10) (by omega) (by omega),aV (n:=((p+1:Nat):Int) - 1) (by omega) (by omega),
      show ((p+1:Nat):Int) - 1=(p:Int) by omega, ← hag]
     refine (ih (z / 10) p (by omega) (by omega) (by omega) (by omega)).trans ?_
     rw[show few (p+1) z=few p (z / 10) by rw[few,aan hm]]
    ·rw[show (z % 10==0)=false by simp[hm],aab,show few (p+1) z=(z,p+1) by rw[few,aam hm]]
 obtain⟨k,hk⟩:∃ k:Nat,d.2=k:=⟨d.2.toNat,by omega⟩
 rw[hk]
 have:=loop (d.1.natAbs+(Int.natAbs (k:Int)+(Int.natAbs (0:Int)+(Int.natAbs (0:Int)+2)))) d.1 k h0 h1 (by omega) (by omega)
 rw[this]
 unfold QV
 rw[hk]
 rfl
def jv (x:ak):ax:=(x.no,x.art,x.unit,pT x.ord,QV x.price,x.due,pT x.shp,pT x.rcv,pT x.ret,pT x.opn)
def Dd (x:ak):Prop:=0≤x.price.1∧x.price.1≤1000000000000000∧0≤x.price.2∧x.price.2≤9
theorem WR {x:ak} (h:LOk x):0≤x.opn∧x.opn≤1000000000000:=by
 have:=h.ret0;have:=h.retr;have:=h.rcvs;have:=h.ord1
 unfold ak.opn
 split<;>omega
theorem yM {A:List ak} {k:Nat} {x:ak} (h:A[k]? =some x) (hx:LOk x) (hp:Dd x):ki (some k) (A.map ak.tup)=some (jv x,()):=by
 obtain⟨p1,p2,p3,p4⟩:=hp
 obtain⟨q1,q2⟩:=WR hx
 have:=hx.ret0;have:=hx.retr;have:=hx.rcvs;have:=hx.shp1;have:=hx.yg;have:=hx.ord1
 unfold ki
 simp only[ZZ,qD h,Aj h hx]
 rw[rW (n:=x.ord) (by omega) (by omega),rW (n:=x.shp) (by omega) (by omega),rW (n:=x.rcv) (by omega) (by omega),rW (n:=x.ret) (by omega) (by omega),rW (n:=x.opn) (by omega) (by omega),LI p1 p2 p3 p4]
 rfl
end Go.Md
namespace Go.Md
open Go.Dn
theorem Ih {d:ah} (h:inR d 0 1000000000 4=true):0≤d.1∧d.1≤1000000000000000∧0≤d.2∧d.2≤9:=by
 unfold inR at h
 obtain⟨⟨h1,h2,h3⟩,h4,h5,h6⟩:=aat h
 refine⟨by omega,by omega,h2,h3⟩
theorem SP {l:List aa} {d:aa} {x:ak} (hw:WOk l x) (hl:∀ d,d∈l→dw d=0) (hp:Dd x):Dd (cH l d x).2:=by
 unfold cH
 by_cases h1:x.wish<0
 ·rw[aan h1];exact hp
 rw[aam h1]
 obtain⟨w,hw1,hw2⟩:=hw.kind (by omega)
 rw[D7 hw1]
 obtain⟨_,_,_,hk,_,_,hu⟩:=cW (hl w (Zd hw1))
 obtain⟨_,up,_⟩:=gz hu
 by_cases h2:dNo w≠dTo d
 ·rw[aan h2];exact hp
 rw[aam h2]
 by_cases h3:bJ d=5
 ·rw[aan h3]
  by_cases k2:bJ w=2
  ·rw[aan k2]
   split<;>exact hp
  ·rw[aam k2]
   by_cases k1:bJ w=1
   ·rw[aan k1];exact hp
   ·rw[aam k1]
    by_cases k3:bJ w=3
    ·rw[aan k3];exact hp
    ·rw[aam k3]
     have hk':1≤bJ w∧bJ w≤11:=hk
     exact Ih (up (by unfold usP;exact aaf (.inr (by omega))))
 ·rw[aam h3];exact hp
theorem Vl {ext:Int} {d:aa} {x:ak} (hp:Dd x):Dd (c9 ext d x).2:=by
 unfold c9
 split
 ·split
  ·exact hp
  ·split<;>exact hp
 ·split
  ·split<;>exact hp
  ·split<;>exact hp
theorem VN {o:ai} {l:List aa} {i:Nat} {d:aa} {x:ak} (hw:WOk l x) (hl:∀ d,d∈l→dw d=0) (hp:Dd x):Dd (fe o l i d x).2:=by
 have ha:=SP (d:=d) hw hl hp
 have hm:=Vl (ext:=er o) (d:=d) hp
 unfold fe
 split
 ·unfold Jw
  split
  ·exact hp
  ·split<;>exact hp
 ·split
  ·split<;>exact ha
  ·split
   ·split<;>exact hp
   ·split
    ·unfold Jt
     split
     ·exact hp
     ·split<;>exact hp
    ·split
     ·split<;>exact hm
     ·exact hm
structure Good (l:List aa) (A:List ak):Prop where
 sound:Sound l A
 pr:∀ x,x∈A→Dd x
theorem L8 {o:ai} {l:List aa} {i:Nat} {d:aa} {A:List ak} (hA:Good l A) (hl:∀ d,d∈l→dw d=0) (hd:l[i]? =some d):Good l (eN o l i d A).2:=by
 refine⟨(U6 hA.sound hl hd).1,fun x hx=> ?_⟩
 unfold eN at hx
 by_cases k1:bJ d=1
 ·rw[aan k1] at hx
  split at hx
  ·exact hA.pr x hx
  ·split at hx
   ·exact hA.pr x hx
   ·split at hx
    ·exact hA.pr x hx
    ·rcases Y6.1 hx with hx | hx
     ·exact hA.pr x hx
     ·simp only[Zg] at hx
      subst hx
      obtain⟨_,_,_,_,_,_,hu⟩:=cW (hl d (Zd hd))
      exact Ih ((gz hu).2.1 (by rw[k1];rfl))
 ·rw[aam k1] at hx
  split at hx
  ·exact hA.pr x hx
  ·split at hx
   ·rename_i y hy
    rcases Ze hx with hx | hx
    ·exact hA.pr x hx
    ·subst hx
     have hm:=Zd hy
     exact VN (hA.sound.line y hm).2 hl (hA.pr y hm)
   ·exact hA.pr x hx
def P8 (n:Int) (A:List ak):Option ak:=(mq n A).bind fun k=>A[k]?
theorem Tf {n:Int} {A:List ak} {k:Nat} {x:ak} (h:mq n A=some k) (hx:A[k]? =some x):P8 n A=some x:=by unfold P8;rw[h];exact hx
theorem Ry {o:ai} {l:List aa} {i:Nat} {d:aa} {A:List ak} (hA:Sound l A) (hl:∀ d,d∈l→dw d=0) (hd:l[i]? =some d) (h0:(eN o l i d A).1=0):
 ∃ k x,mq (oo d) (eN o l i d A).2=some k∧(eN o l i d A).2[k]? =some x:=by
 unfold eN at h0 ⊢
 by_cases k1:bJ d=1
 ·rw[aan k1] at h0 ⊢
  split at h0
  ·cases h0
  ·rename_i hf
   split at h0
   ·cases h0
   ·rename_i h5
    split at h0
    ·cases h0
    ·rename_i h6
     rw[aam h5,aam h6]
     refine⟨A.length,Bp i d, ?_,by simp⟩
     show bV (oo d) 0 (A++[Bp i d])=_
     rw[Mn,show bV (oo d) 0 A=none from hf,aan (show oo d=(Bp i d).no from rfl)]
     simp
 ·rw[aam k1] at h0 ⊢
  split at h0
  ·cases h0
  ·rename_i k hk
   obtain⟨x,hx,hxn⟩:=Mp hk
   rw[hx]
   dsimp only
   obtain⟨h1,h2⟩:=hA.line x (Zd hx)
   refine⟨k,_, ?_,Jf hx _⟩
   show bV (oo d) 0 (A.set k _)=_
   rw[S5 A 0 (fun z hz=>by rw[hx] at hz;cases hz;exact (I7 (o:=o) h1 h2 hl hd).2.2.1)]
   exact hk
def Re (wt:Int) (i:Nat) (d:aa) (A:List ak) (pts:List aH):List aH:=
 if oo d=wt then (match P8 (oo d) A with | some x=>pts++[((i:Int),jv x)] | none=>pts) else pts
def rq (o:ai) (l:List aa) (wt day:Int):List aa→Nat→List ak→List (Int×Int)→List aH→List ak×List (Int×Int)×List aH
 | [],_,A,ref,pts=>(A,ref,pts)
 | d::r,i,A,ref,pts=>
  if day<d.1 then (A,ref,pts)
  else if (eN o l i d A).1≠0 then rq o l wt day r (i+1) (eN o l i d A).2 (ref++[((i:Int),(eN o l i d A).1)]) pts
  else rq o l wt day r (i+1) (eN o l i d A).2 ref (Re wt i d (eN o l i d A).2 pts)
theorem tK {β:Type} {b:Bool} (h:b=true) (x:Option β):chk b x=x:=by rw[h];rfl
theorem Vv {onum obuy osel:Bys} {oday oext:Int} {olns:List aQ} {l:List aa} {wt day:Int} (he0:0≤oext) (he1:oext≤1000) (hl:∀ d,d∈l→dw d=0) (hlen:l.length≤2000):
 ∀ (r:List aa) (i n:Nat) (A:List ak) (ref:List (Int×Int)) (pts:List aH),l.drop i=r→i≤l.length→Good l A→ref.length≤i→pts.length≤i→r.length<n→
  iter (X:=lI) (β:=lH) n (day,l,(l.length:Int),(i:Int),onum,obuy,osel,oday,oext,olns,l,mapOf A,ref,pts,wt,A.map ak.tup,()) iS=
   some (Sum.inr (onum,obuy,osel,oday,oext,olns,l,mapOf (rq (onum,obuy,osel,oday,oext,olns) l wt day r i A ref pts).1,(rq (onum,obuy,osel,oday,oext,olns) l wt day r i A ref pts).2.1,(rq (onum,obuy,osel,oday,oext,olns) l wt day r i A ref pts).2.2,wt,(rq (onum,obuy,osel,oday,oext,olns) l wt day r i A ref pts).1.map ak.tup,())):=by
 intro r
 induction r with
 | nil=>
  intro i n A ref pts hd hi hA hr hp hn
  have:i=l.length:=by
   have:=congrArg List.length hd
   simp at this;omega
  subst this
  obtain⟨n,rfl⟩:∃ m,n=m+1:=⟨n - 1,by omega⟩
  rw[cQ]
  unfold iS
  dsimp only
  rw[aae (show ¬((l.length:Int)<(l.length:Int)) by omega),aab]
  rfl
 | cons d r ih=>
  intro i n A ref pts hdr hi hA hr hp hn
  have hd:l[i]? =some d:=by
   have:=congrArg (·[0]?) hdr
   simpa [YI] using this
  have hr':l.drop (i+1)=r:=by
   have:=congrArg List.tail hdr
   simpa [Zp] using this
  have hlt:i<l.length:=(YL.1 hd).1
  obtain⟨n,rfl⟩:∃ m,n=m+1:=⟨n - 1,by simp at hn;omega⟩
  rw[cQ]
  generalize hag:(fun y=>iter n y iS)=again
  unfold iS
  dsimp only
  rw[aaf (show (i:Int)<(l.length:Int) by omega),aac,fW hd,ZZ]
  have hdeed:=DW (o:=(onum,obuy,osel,oday,oext,olns)) (ref:=ref) (pts:=pts) (wt:=wt) hA.sound hl hd he0 he1
  have hgood:=L8 (o:=(onum,obuy,osel,oday,oext,olns)) hA hl hd
  by_cases hday:day<d.1
  ·rw[aaf (show d.1>day from hday),aac]
   simp only[rq,aan hday]
  ·rw[aae (show ¬d.1>day from hday),aab]
   rw[hdeed,ZZ]
   dsimp only
   rw[aV (n:=(i:Int)+1) (by omega) (by omega)]
   simp only[rq,aam hday]
   have DJ:maxLen=9223372036854775807:=rfl
   have hi1:(i:Int)+1=((i+1:Nat):Int):=by omega
   by_cases he:(eN (onum,obuy,osel,oday,oext,olns) l i d A).1=0
   ·rw[aam (fun h=>h he),he]
    rw[zne,aab]
    by_cases hw:oo d=wt
    ·obtain⟨k,x,hk,hx⟩:=Ry hA.sound hl hd he
     have hxm:=Zd hx
     rw[show (d.2.2.2.2.1==wt)=true by simpa using hw,aac,iK,show bV d.2.2.2.2.1 0 _=some k from hk,
      yM hx (hgood.sound.line x hxm).1 (hgood.pr x hxm),ZZ]
     rw[tK (by rw[XN];exact⟨aaf (by omega),aaf (by omega)⟩)]
     have hpt:Re wt i d (eN (onum,obuy,osel,oday,oext,olns) l i d A).2 pts=pts++[((i:Int),jv x)]:=by
      unfold Re
      rw[aan hw,Tf hk hx]
     rw[hpt,hi1, ← hag]
     exact ih (i+1) n _ ref _ hr' (by omega) hgood (by omega) (by simp;omega) (by simp at hn;omega)
    ·rw[show (d.2.2.2.2.1==wt)=false by simpa using hw,aab]
     have hpt:Re wt i d (eN (onum,obuy,osel,oday,oext,olns) l i d A).2 pts=pts:=by
      unfold Re
      rw[aam hw]
     rw[hpt,hi1, ← hag]
     exact ih (i+1) n _ ref pts hr' (by omega) hgood (by omega) (by omega) (by simp at hn;omega)
   ·rw[aan he,eD he,aac]
    rw[tK (by rw[XN];exact⟨aaf (by omega),aaf (by omega)⟩)]
    rw[hi1, ← hag]
    exact ih (i+1) n _ _ pts hr' (by omega) hgood (by simp;omega) (by omega) (by simp at hn;omega)
theorem ES {o:ai} {l:List aa} {wt day:Int} {A:List ak} (he:0≤er o∧er o≤1000) (hl:∀ d,d∈l→dw d=0) (hlen:l.length≤2000) (hA:Good l A):
 iR (o,l,mapOf A,[],[],wt,()) day (A.map ak.tup)=some ((o,l,mapOf (rq o l wt day l 0 A [] []).1,(rq o l wt day l 0 A [] []).2.1,(rq o l wt day l 0 A [] []).2.2,wt,()),(rq o l wt day l 0 A [] []).1.map ak.tup,()):=by
 obtain⟨onum,obuy,osel,oday,oext,olns⟩:=o
 unfold iR
 refine (congrArg (fun z=>aK z _) (Vv (onum:=onum) (obuy:=obuy) (osel:=osel) (oday:=oday) (olns:=olns) (wt:=wt) (day:=day) he.1 he.2 hl hlen l 0 _ A [] [] rfl (ZX _) hA (ZX _) (ZX _) ?_)).trans rfl
 dsimp only
 omega
theorem MM {o:ai} (ho:mY o=0) (l:List aa):Good l (uZ o):=by
 obtain⟨_,_,_,_,hgo,_⟩:=Da ho
 obtain⟨hln,_,_⟩:=wN hgo
 refine⟨⟨fun x hx=> ?_⟩,fun x hx=> ?_⟩
 ·obtain⟨q,hq,rfl⟩:=Zc.1 hx
  obtain⟨_,h2,_⟩:=hln q hq
  obtain⟨u0,u1,_⟩:=uE h2
  exact⟨⟨by show (0:Int)≤0;omega,by show (0:Int)≤0;omega,by show (0:Int)≤0;omega,by show (0:Int)≤_;omega,u0,u1,fun e=>absurd rfl e⟩,⟨by show (-1:Int)≤ -1;omega,fun h=>by have:(0:Int)≤ -1:=h;omega⟩⟩
 ·obtain⟨q,hq,rfl⟩:=Zc.1 hx
  obtain⟨_,_,_,h4,_⟩:=hln q hq
  exact Ih h4
def vn (o:ai) (l:List aa) (wt day:Int):List ak×List (Int×Int)×List aH:=rq o l wt day l 0 (uZ o) [] []
def eo (o:ai) (l:List aa):Int:=if mY o≠0 then mY o else rO l
theorem zT {o:ai} {l:List aa} (h:eo o l=0):mY o=0∧rO l=0:=by
 unfold eo at h
 split at h
 ·rename_i h1;exact absurd h h1
 ·rename_i h1;exact⟨X4.1 h1,h⟩
theorem start_eq {o:ai} {l:List aa} (h:eo o l=0) (wt day:Int):∃ q,jA o l []=some ((o,l,mapOf (uZ o),[],[],0,()),(uZ o).map ak.tup,())∧
 iR (o,l,mapOf (uZ o),[],[],wt,()) day ((uZ o).map ak.tup)=some ((o,l,mapOf (vn o l wt day).1,(vn o l wt day).2.1,(vn o l wt day).2.2,wt,()),(vn o l wt day).1.map ak.tup,())∧q=():=by
 obtain⟨h1,h2⟩:=zT h
 obtain⟨h3,h4⟩:=zI h2
 exact⟨(),FV h1 l,ES (Da h1).2.1 h4 h3 (MM h1 l),rfl⟩
theorem PO (o:ai) (l:List aa) (day:Int):Bh o l day []=(if eo o l≠0 then some (none,eo o l,[],()) else if ¬(1≤day∧day≤3652059) then some (none,1,[],()) else none):=by
 unfold Bh
 rw[Ck,ZZ,mU]
 dsimp only
 by_cases h:eo o l=0
 ·rw[aam (show ¬eo o l≠0 from fun e=>e h),show (if mY o≠0 then mY o else rO l)=0 from h,zne,aab,ZZ]
  by_cases hd:1≤day∧day≤3652059
  ·rw[aam (show ¬¬(1≤day∧day≤3652059) from fun e=>e hd),aaf hd]
   obtain⟨_,e1,e2,_⟩:=start_eq h 0 day
   dsimp only
   rw[XY,aab,e1,ZZ]
   dsimp only
   rw[e2];rfl
  ·rw[aan hd,aae hd];rfl
 ·rw[aan (show eo o l≠0 from h),show ((if mY o≠0 then mY o else rO l) != 0)=true from eD h,aac]
  rfl
theorem RQ {o:ai} {l:List aa} {day:Int} (h:eo o l=0) (hd:1≤day∧day≤3652059):FT o l day []=some ((o,l,mapOf (vn o l 0 day).1,(vn o l 0 day).2.1,(vn o l 0 day).2.2,0,()),0,(vn o l 0 day).1.map ak.tup,()):=by
 unfold FT
 rw[Ck,ZZ,mU]
 dsimp only
 rw[show (if mY o≠0 then mY o else rO l)=0 from h,zne,aab,ZZ,aaf hd]
 obtain⟨_,e1,e2,_⟩:=start_eq h 0 day
 dsimp only
 rw[XY,aab,e1,ZZ]
 dsimp only
 rw[e2];rfl
end Go.Md
namespace Go.Md
open Go.Dn
end Go.Md
namespace Go.Md
open Go.Dn
structure Pts (l:List aa) (wt:Int) (n:Nat) (A:List ak) (pts:List aH):Prop where
 pt:∀ (j:Nat) (p:aH),pts[j]? =some p→0≤p.1∧p.1<n∧(∃ d,idx l p.1=some d∧oo d=wt)∧∀ q,0<j→pts[j - 1]? =some q→q.1<p.1
 last:∀ p,pts.getLast? =some p→∃ x,P8 wt A=some x∧p.2=jv x
theorem FR {α β:Type} {f:α→Option β} {g:Option β}:Jn (none:Option α) f g=g:=rfl
end Go.Md
namespace Go.Md
open Go.Dn
end Go.Md
namespace Go.Md
open Go.Dn
end Go.Md
namespace Go.Md
open Go.Dn
end Go.Md
namespace Go.Md
open Go.Dn
end Go.Md
namespace Go.Md
open Go.Dn
end Go.Md
