/-
  Plain facts: deeds, followed one behind the other. No condition.
-/
import Derived.Test.YtcpmaicaibdafaaGreatDoorXs
import Derived.Test.YtcpmaicaibdafaaGreatDoorXq
import Derived.Test.YtcpmaicaibdafaaGreatDoorXo
set_option linter.all false
namespace Go.Md
open Go.Dn
theorem TM {day:Int} {p:Option aY} {x:aY} (h:iS day p x=0):(1≤x.1∧x.1≤99999)∧(∀ q,p=some q→q.1<x.1)∧cz x.2.1=true∧qOk x.2.2.1 false=true∧cz x.2.2.2.1=true∧inR x.2.2.2.2.1 0 1000000000 4=true∧(day≤x.2.2.2.2.2∧x.2.2.2.2.2≤3652059):=by
 unfold iS at h
 split at h
 ·cases h
 ·rename_i h1
  split at h
  ·cases h
  ·rename_i h2
   split at h
   ·cases h
   ·rename_i h3
    split at h
    ·cases h
    ·rename_i h4
     split at h
     ·cases h
     ·rename_i h5
      split at h
      ·cases h
      ·rename_i h6
       split at h
       ·cases h
       ·rename_i h7
        refine⟨aah.1 h1,fun q hq=> ?_,by simpa using h3,by simpa using h4,by simpa using h5,by simpa using h6,aah.1 h7⟩
        subst hq
        have:¬x.1≤q.1:=fun e=>h2 (acF e)
        omega
theorem za {day:Int}:∀ {r:List aY} {p:Option aY},mL day r p=0→
 (∀ x,x∈r→cz x.2.1=true∧qOk x.2.2.1 false=true∧cz x.2.2.2.1=true∧inR x.2.2.2.2.1 0 1000000000 4=true∧(1≤x.1∧x.1≤99999)∧(day≤x.2.2.2.2.2∧x.2.2.2.2.2≤3652059))∧(∀ q,p=some q→∀ x,x∈r→q.1<x.1)∧r.Pairwise (fun a b=>a.1<b.1)
 | [],p,_=>⟨nofun,fun _ _ _ h=>(nomatch h),List.Pairwise.nil⟩
 | y::r,p,h=>by
  simp only[mL] at h
  by_cases hf:iS day p y=0
  ·rw[acM (fun e=>e hf)] at h
   obtain⟨a1,a2,a3⟩:=za h
   obtain⟨b1,b2,b3,b4,b5,b6,b7⟩:=TM hf
   refine⟨fun x hx=> ?_,fun q hq x hx=> ?_,List.Pairwise.cons (fun x hx=>a2 y rfl x hx) a3⟩
   ·rcases abp.1 hx with rfl | hx
    ·exact⟨b3,b4,b5,b6,b1,b7⟩
    ·exact a1 x hx
   ·rcases abp.1 hx with rfl | hx
    ·exact b2 q hq
    ·have:=b2 q hq
     have:=a2 y rfl x hx
     omega
  ·rw[acN hf] at h
   exact absurd h hf
theorem Gt {o:ai} (h:s7 o=0):(1≤iR o∧iR o≤3652059)∧(0≤fM o∧fM o≤1000)∧(uf o).length≤500∧uf o≠[]∧mL (iR o) (uf o) none=0∧(cz (ND o)=true∧cz (La o)=true∧cz (NF o)=true∧La o≠NF o):=by
 unfold s7 at h
 split at h
 ·cases h
 ·rename_i h1
  split at h
  ·cases h
  ·rename_i h2
   split at h
   ·cases h
   ·rename_i h3
    split at h
    ·cases h
    ·rename_i h4
     split at h
     ·cases h
     ·rename_i h5
      split at h
      ·cases h
      ·rename_i h6
       refine⟨aah.1 h3,aah.1 h4,by omega,h5,h, ?_, ?_, ?_,h2⟩
       ·cases hb:cz (ND o)
        ·exact absurd (.inl hb) h1
        ·rfl
       ·cases hb:cz (La o)
        ·exact absurd (.inr (.inl hb)) h1
        ·rfl
       ·cases hb:cz (NF o)
        ·exact absurd (.inr (.inr hb)) h1
        ·rfl
def uH (x:aY):ak:=⟨x.1,x.2.1,x.2.2.2.1,bH x.2.2.1,0,0,0,x.2.2.2.2.1,x.2.2.2.2.2, -1,0,0,0⟩
abbrev xB (o:ai):List ak:=(uf o).map uH
theorem MR {n:Int}:∀ {A:List ak} {i:Nat},(∀ x,x∈A→x.no≠n)→bZ n i A=none
 | [],_,_=>rfl
 | x::r,i,h=>by
  simp only[bZ]
  rw[acM (fun e=>h x (by simp) e.symm)]
  exact MR (fun y hy=>h y (by simp[hy]))
theorem Pq {α:Type} {l:List α} {i:Nat} {y:α} (h:l[i]? =some y):l.take (i+1)=l.take i++[y]:=by
 rw[abJ,h];rfl
theorem I3 {o:ai} (ho:s7 o=0) (l:List aa):l7 o l []=some ((o,l,mapOf (xB o),[],[],0,()),(xB o).map ak.tup,()):=by
 obtain⟨_,_,hlen,_,hgo,_⟩:=Gt ho
 obtain⟨hln,_,hpw⟩:=za hgo
 obtain⟨onum,obuy,osel,oday,oext,lns⟩:=o
 change lns.length≤500 at hlen
 change ∀ x,x∈lns→_ at hln
 change lns.Pairwise _ at hpw
 unfold l7
 have:=Nz (f:=pe) (fun (_:Unit) (i:Nat)=>((lns,(lns.length:Int),(i:Int),onum,obuy,osel,oday,oext,lns,l,[],[],0,mapOf ((lns.take i).map uH),((lns.take i).map uH).map ak.tup,()):pg)) lns
  (fun (_:Unit) _ _ k=>k ()) (fun _=>some (Sum.inr (onum,obuy,osel,oday,oext,lns,l,[],[],0,mapOf (lns.map uH),(lns.map uH).map ak.tup,()))) (fun s i y again hy=>by
    have hi:i<lns.length:=(aa2.1 hy).1
    unfold pe
    dsimp only
    rw[acF (show (i:Int)<(lns.length:Int) by omega),acC,iK hy,acn,pL (hln y (abw hy)).2.1,acn]
    have hno:bZ y.1 0 ((lns.take i).map uH)=none:=MR fun z hz=>by
     obtain⟨q,hq,rfl⟩:=abv.1 hz
     obtain⟨j,hj⟩:=abu.1 hq
     have hji:j<i:=by
      have:=(aa2.1 hj).1
      simp at this;omega
     rw[aba hji] at hj
     have h1:=abD.1 hpw j i (by omega) hi hji
     have e1:lns[j]=q:=by have:=aa0 (show j<lns.length by omega);rw[hj] at this;exact (Option.some.inj this).symm
     have e2:lns[i]=y:=by have:=aa0 hi;rw[hy] at this;exact (Option.some.inj this).symm
     rw[e1,e2] at h1
     show q.1≠y.1
     omega
    have hs:=NB y.1 (uH y) rfl ((lns.take i).map uH) 0 hno
    rw[aci] at hs
    rw[abf,au (n:=(i:Int)+1) (by omega) (by omega)]
    have ht:(lns.take (i+1)).map uH=(lns.take i).map uH++[uH y]:=by rw[Pq hy,abk];rfl
    rw[ht]
    refine congrArg again ?_
    refine Prod.ext rfl (Prod.ext rfl (Prod.ext rfl (Prod.ext rfl (Prod.ext rfl (Prod.ext rfl (Prod.ext rfl (Prod.ext rfl (Prod.ext rfl (Prod.ext rfl (Prod.ext rfl (Prod.ext rfl (Prod.ext rfl (Prod.ext hs (Prod.ext ?_ rfl))))))))))))))
    show List.map ak.tup _++[_]=List.map ak.tup (_++[uH y])
    rw[abk];rfl) (fun s again=>by
    unfold pe
    dsimp only
    rw[acE (show ¬((lns.length:Int)<(lns.length:Int)) by omega),acB,List.take_length]) ()
 have hfor:∀ (r:List aY) (i:Nat) (β:Type) (f:Option β),GG (fun (_:Unit) _ _ k=>k ()) (fun _=>f) r i ()=f:=by
  intro r
  induction r with
  | nil=>intro i β f;rfl
  | cons y r ih=>intro i β f;exact ih (i+1) β f
 refine (congrArg (fun z=>aM z _) ((this _ ?_).trans (hfor _ _ _ _))).trans rfl
 simp only[abg]
 omega
def Cj (n:Int):ah:=((few 3 n).1,((few 3 n).2:Int))
theorem uK {n:Int} (h0:0≤n) (h1:n≤1000000000000000):rj n=some (Cj n,()):=by
 unfold rj
 rw[nr n (by omega) (by omega),acn]
 have hb:n.natAbs<4294967296 ^ 99:=ab2 (show n.natAbs<4294967296 ^ 2 by omega) (acg (by omega) (by omega))
 have:=Ev n hb 3 (by omega)
 rw[show ((3:Nat):Int)=3 from rfl] at this
 dsimp only
 rw[this,acn,acN (by have:=(HL 3 n).2.2;omega)]
 rfl
def SF (d:ah):ah:=((few d.2.toNat d.1).1,((few d.2.toNat d.1).2:Int))
theorem N3 {d:ah} (h0:0≤d.1) (h1:d.1≤1000000000000000) (h2:0≤d.2) (h3:d.2≤9):Al d=some (SF d,()):=by
 unfold Al
 have loop:∀ (n:Nat) (z:Int) (p:Nat),0≤z→z≤1000000000000000→p≤9→p<n→iter (X:=vw) (β:=vu) n (z,(p:Int),0,0,()) vt=some (Sum.inr ((few p z).1,((few p z).2:Int),0,0,())):=by
  intro n
  induction n with
  | zero=>intro z p _ _ _ h;omega
  | succ n ih=>
   intro z p hz hz1 hp hn
   rw[bQ]
   generalize hag:(fun y=>iter n y vt)=again
   unfold vt
   dsimp only
   cases p with
   | zero=>rfl
   | succ p=>
    rw[acF (show ((p+1:Nat):Int)>0 by omega),acC,acn]
    dsimp only
    rw[Int.tmod_eq_emod_of_nonneg hz]
    by_cases hm:z % 10=0
    ·rw[show (z % 10==0)=true by simp[hm],acC,aax hz,au (n:=z / 10) (by omega) (by omega),au (n:=((p+1:Nat):Int) - 1) (by omega) (by omega),
      show ((p+1:Nat):Int) - 1=(p:Int) by omega, ← hag]
     refine (ih (z / 10) p (by omega) (by omega) (by omega) (by omega)).trans ?_
     rw[show few (p+1) z=few p (z / 10) by rw[few,acN hm]]
    ·rw[show (z % 10==0)=false by simp[hm],acB,show few (p+1) z=(z,p+1) by rw[few,acM hm]]
 obtain⟨k,hk⟩:∃ k:Nat,d.2=k:=⟨d.2.toNat,by omega⟩
 rw[hk]
 have:=loop (d.1.natAbs+(Int.natAbs (k:Int)+(Int.natAbs (0:Int)+(Int.natAbs (0:Int)+2)))) d.1 k h0 h1 (by omega) (by omega)
 rw[this]
 unfold SF
 rw[hk]
 rfl
def mK (x:ak):aF:=(x.no,x.art,x.unit,Cj x.ord,SF x.price,x.due,Cj x.shp,Cj x.rcv,Cj x.ret,Cj x.opn)
def Gx (x:ak):Prop:=0≤x.price.1∧x.price.1≤1000000000000000∧0≤x.price.2∧x.price.2≤9
theorem Y8 {x:ak} (h:LOk x):0≤x.opn∧x.opn≤1000000000000:=by
 have:=h.ret0;have:=h.retr;have:=h.rcvs;have:=h.ord1
 unfold ak.opn
 split<;>omega
theorem BD {A:List ak} {k:Nat} {x:ak} (h:A[k]? =some x) (hx:LOk x) (hp:Gx x):mO (some k) (A.map ak.tup)=some (mK x,()):=by
 obtain⟨p1,p2,p3,p4⟩:=hp
 obtain⟨q1,q2⟩:=Y8 hx
 have:=hx.ret0;have:=hx.retr;have:=hx.rcvs;have:=hx.shp1;have:=hx.AZ;have:=hx.ord1
 unfold mO
 simp only[acn,tv h,C7 h hx]
 rw[uK (n:=x.ord) (by omega) (by omega),uK (n:=x.shp) (by omega) (by omega),uK (n:=x.rcv) (by omega) (by omega),uK (n:=x.ret) (by omega) (by omega),uK (n:=x.opn) (by omega) (by omega),N3 p1 p2 p3 p4]
 rfl
end Go.Md
namespace Go.Md
open Go.Dn
theorem KR {d:ah} (h:inR d 0 1000000000 4=true):0≤d.1∧d.1≤1000000000000000∧0≤d.2∧d.2≤9:=by
 unfold inR at h
 obtain⟨⟨h1,h2,h3⟩,h4,h5,h6⟩:=acU h
 refine⟨by omega,by omega,h2,h3⟩
theorem UP {l:List aa} {d:aa} {x:ak} (hw:WOk l x) (hl:∀ d,d∈l→dX d=0) (hp:Gx x):Gx (dh l d x).2:=by
 unfold dh
 by_cases h1:x.wish<0
 ·rw[acN h1];exact hp
 rw[acM h1]
 obtain⟨w,hw1,hw2⟩:=hw.kind (by omega)
 rw[G8 hw1]
 obtain⟨_,_,_,hk,_,_,hu⟩:=ef (hl w (abw hw1))
 obtain⟨_,up,_⟩:=ja hu
 by_cases h2:dNo w≠dTo d
 ·rw[acN h2];exact hp
 rw[acM h2]
 by_cases h3:bN d=5
 ·rw[acN h3]
  by_cases k2:bN w=2
  ·rw[acN k2]
   split<;>exact hp
  ·rw[acM k2]
   by_cases k1:bN w=1
   ·rw[acN k1];exact hp
   ·rw[acM k1]
    by_cases k3:bN w=3
    ·rw[acN k3];exact hp
    ·rw[acM k3]
     have hk':1≤bN w∧bN w≤11:=hk
     exact KR (up (by unfold usP;exact acF (.inr (by omega))))
 ·rw[acM h3];exact hp
theorem XA {ext:Int} {d:aa} {x:ak} (hp:Gx x):Gx (dN ext d x).2:=by
 unfold dN
 split
 ·split
  ·exact hp
  ·split<;>exact hp
 ·split
  ·split<;>exact hp
  ·split<;>exact hp
theorem X9 {o:ai} {l:List aa} {i:Nat} {d:aa} {x:ak} (hw:WOk l x) (hl:∀ d,d∈l→dX d=0) (hp:Gx x):Gx (gI o l i d x).2:=by
 have ha:=UP (d:=d) hw hl hp
 have hm:=XA (ext:=fM o) (d:=d) hp
 unfold gI
 split
 ·unfold Me
  split
  ·exact hp
  ·split<;>exact hp
 ·split
  ·split<;>exact ha
  ·split
   ·split<;>exact hp
   ·split
    ·unfold Ma
     split
     ·exact hp
     ·split<;>exact hp
    ·split
     ·split<;>exact hm
     ·exact hm
structure Good (l:List aa) (A:List ak):Prop where
 sound:Sound l A
 pr:∀ x,x∈A→Gx x
theorem Od {o:ai} {l:List aa} {i:Nat} {d:aa} {A:List ak} (hA:Good l A) (hl:∀ d,d∈l→dX d=0) (hd:l[i]? =some d):Good l (gJ o l i d A).2:=by
 refine⟨(Xi hA.sound hl hd).1,fun x hx=> ?_⟩
 unfold gJ at hx
 by_cases k1:bN d=1
 ·rw[acN k1] at hx
  split at hx
  ·exact hA.pr x hx
  ·split at hx
   ·exact hA.pr x hx
   ·split at hx
    ·exact hA.pr x hx
    ·rcases abo.1 hx with hx | hx
     ·exact hA.pr x hx
     ·simp only[abz] at hx
      subst hx
      obtain⟨_,_,_,_,_,_,hu⟩:=ef (hl d (abw hd))
      exact KR ((ja hu).2.1 (by rw[k1];rfl))
 ·rw[acM k1] at hx
  split at hx
  ·exact hA.pr x hx
  ·split at hx
   ·rename_i y hy
    rcases abx hx with hx | hx
    ·exact hA.pr x hx
    ·subst hx
     have hm:=abw hy
     exact X9 (hA.sound.line y hm).2 hl (hA.pr y hm)
   ·exact hA.pr x hx
def RT (n:Int) (A:List ak):Option ak:=(oU n A).bind fun k=>A[k]?
theorem Vg {n:Int} {A:List ak} {k:Nat} {x:ak} (h:oU n A=some k) (hx:A[k]? =some x):RT n A=some x:=by unfold RT;rw[h];exact hx
theorem Tw {o:ai} {l:List aa} {i:Nat} {d:aa} {A:List ak} (hA:Sound l A) (hl:∀ d,d∈l→dX d=0) (hd:l[i]? =some d) (h0:(gJ o l i d A).1=0):
 ∃ k x,oU (qW d) (gJ o l i d A).2=some k∧(gJ o l i d A).2[k]? =some x:=by
 unfold gJ at h0 ⊢
 by_cases k1:bN d=1
 ·rw[acN k1] at h0 ⊢
  split at h0
  ·cases h0
  ·rename_i hf
   split at h0
   ·cases h0
   ·rename_i h5
    split at h0
    ·cases h0
    ·rename_i h6
     rw[acM h5,acM h6]
     refine⟨A.length,Em i d, ?_,by simp⟩
     show bZ (qW d) 0 (A++[Em i d])=_
     rw[Ot,show bZ (qW d) 0 A=none from hf,acN (show qW d=(Em i d).no from rfl)]
     simp
 ·rw[acM k1] at h0 ⊢
  split at h0
  ·cases h0
  ·rename_i k hk
   obtain⟨x,hx,hxn⟩:=Ov hk
   rw[hx]
   dsimp only
   obtain⟨h1,h2⟩:=hA.line x (abw hx)
   refine⟨k,_, ?_,LU hx _⟩
   show bZ (qW d) 0 (A.set k _)=_
   rw[UZ A 0 (fun z hz=>by rw[hx] at hz;cases hz;exact (LK (o:=o) h1 h2 hl hd).2.2.1)]
   exact hk
def S7 (wt:Int) (i:Nat) (d:aa) (A:List ak) (pts:List aJ):List aJ:=
 if qW d=wt then (match RT (qW d) A with | some x=>pts++[((i:Int),mK x)] | none=>pts) else pts
def ya (o:ai) (l:List aa) (wt day:Int):List aa→Nat→List ak→List (Int×Int)→List aJ→List ak×List (Int×Int)×List aJ
 | [],_,A,ref,pts=>(A,ref,pts)
 | d::r,i,A,ref,pts=>
  if day<d.1 then (A,ref,pts)
  else if (gJ o l i d A).1≠0 then ya o l wt day r (i+1) (gJ o l i d A).2 (ref++[((i:Int),(gJ o l i d A).1)]) pts
  else ya o l wt day r (i+1) (gJ o l i d A).2 ref (S7 wt i d (gJ o l i d A).2 pts)
theorem tL {β:Type} {b:Bool} (h:b=true) (x:Option β):chk b x=x:=by rw[h];rfl
theorem XK {onum obuy osel:Bys} {oday oext:Int} {olns:List aY} {l:List aa} {wt day:Int} (he0:0≤oext) (he1:oext≤1000) (hl:∀ d,d∈l→dX d=0) (hlen:l.length≤2000):
 ∀ (r:List aa) (i n:Nat) (A:List ak) (ref:List (Int×Int)) (pts:List aJ),l.drop i=r→i≤l.length→Good l A→ref.length≤i→pts.length≤i→r.length<n→
  iter (X:=oo) (β:=om) n (day,l,(l.length:Int),(i:Int),onum,obuy,osel,oday,oext,olns,l,mapOf A,ref,pts,wt,A.map ak.tup,()) kN=
   some (Sum.inr (onum,obuy,osel,oday,oext,olns,l,mapOf (ya (onum,obuy,osel,oday,oext,olns) l wt day r i A ref pts).1,(ya (onum,obuy,osel,oday,oext,olns) l wt day r i A ref pts).2.1,(ya (onum,obuy,osel,oday,oext,olns) l wt day r i A ref pts).2.2,wt,(ya (onum,obuy,osel,oday,oext,olns) l wt day r i A ref pts).1.map ak.tup,())):=by
 intro r
 induction r with
 | nil=>
  intro i n A ref pts hd hi hA hr hp hn
  have:i=l.length:=by
   have:=congrArg List.length hd
   simp at this;omega
  subst this
  obtain⟨n,rfl⟩:∃ m,n=m+1:=⟨n - 1,by omega⟩
  rw[bQ]
  unfold kN
  dsimp only
  rw[acE (show ¬((l.length:Int)<(l.length:Int)) by omega),acB]
  rfl
 | cons d r ih=>
  intro i n A ref pts hdr hi hA hr hp hn
  have hd:l[i]? =some d:=by
   have:=congrArg (·[0]?) hdr
   simpa [aaZ] using this
  have hr':l.drop (i+1)=r:=by
   have:=congrArg List.tail hdr
   simpa [abI] using this
  have hlt:i<l.length:=(aa2.1 hd).1
  obtain⟨n,rfl⟩:∃ m,n=m+1:=⟨n - 1,by simp at hn;omega⟩
  rw[bQ]
  generalize hag:(fun y=>iter n y kN)=again
  unfold kN
  dsimp only
  rw[acF (show (i:Int)<(l.length:Int) by omega),acC,iK hd,acn]
  have hdeed:=GX (o:=(onum,obuy,osel,oday,oext,olns)) (ref:=ref) (pts:=pts) (wt:=wt) hA.sound hl hd he0 he1
  have hgood:=Od (o:=(onum,obuy,osel,oday,oext,olns)) hA hl hd
  by_cases hday:day<d.1
  ·rw[acF (show d.1>day from hday),acC]
   simp only[ya,acN hday]
  ·rw[acE (show ¬d.1>day from hday),acB]
   rw[hdeed,acn]
   dsimp only
   rw[au (n:=(i:Int)+1) (by omega) (by omega)]
   simp only[ya,acM hday]
   have Nx:maxLen=9223372036854775807:=rfl
   have hi1:(i:Int)+1=((i+1:Nat):Int):=by omega
   by_cases he:(gJ (onum,obuy,osel,oday,oext,olns) l i d A).1=0
   ·rw[acM (fun h=>h he),he]
    rw[zne,acB]
    by_cases hw:qW d=wt
    ·obtain⟨k,x,hk,hx⟩:=Tw hA.sound hl hd he
     have hxm:=abw hx
     rw[show (d.2.2.2.2.1==wt)=true by simpa using hw,acC,kD,show bZ d.2.2.2.2.1 0 _=some k from hk,
      BD hx (hgood.sound.line x hxm).1 (hgood.pr x hxm),acn]
     rw[tL (by rw[Z2];exact⟨acF (by omega),acF (by omega)⟩)]
     have hpt:S7 wt i d (gJ (onum,obuy,osel,oday,oext,olns) l i d A).2 pts=pts++[((i:Int),mK x)]:=by
      unfold S7
      rw[acN hw,Vg hk hx]
     rw[hpt,hi1, ← hag]
     exact ih (i+1) n _ ref _ hr' (by omega) hgood (by omega) (by simp;omega) (by simp at hn;omega)
    ·rw[show (d.2.2.2.2.1==wt)=false by simpa using hw,acB]
     have hpt:S7 wt i d (gJ (onum,obuy,osel,oday,oext,olns) l i d A).2 pts=pts:=by
      unfold S7
      rw[acM hw]
     rw[hpt,hi1, ← hag]
     exact ih (i+1) n _ ref pts hr' (by omega) hgood (by omega) (by omega) (by simp at hn;omega)
   ·rw[acN he,jy he,acC]
    rw[tL (by rw[Z2];exact⟨acF (by omega),acF (by omega)⟩)]
    rw[hi1, ← hag]
    exact ih (i+1) n _ _ pts hr' (by omega) hgood (by simp;omega) (by omega) (by simp at hn;omega)
theorem H6 {o:ai} {l:List aa} {wt day:Int} {A:List ak} (he:0≤fM o∧fM o≤1000) (hl:∀ d,d∈l→dX d=0) (hlen:l.length≤2000) (hA:Good l A):
 kM (o,l,mapOf A,[],[],wt,()) day (A.map ak.tup)=some ((o,l,mapOf (ya o l wt day l 0 A [] []).1,(ya o l wt day l 0 A [] []).2.1,(ya o l wt day l 0 A [] []).2.2,wt,()),(ya o l wt day l 0 A [] []).1.map ak.tup,()):=by
 obtain⟨onum,obuy,osel,oday,oext,olns⟩:=o
 unfold kM
 refine (congrArg (fun z=>aM z _) (XK (onum:=onum) (obuy:=obuy) (osel:=osel) (oday:=oday) (olns:=olns) (wt:=wt) (day:=day) he.1 he.2 hl hlen l 0 _ A [] [] rfl (acj _) hA (acj _) (acj _) ?_)).trans rfl
 dsimp only
 omega
theorem ON {o:ai} (ho:s7 o=0) (l:List aa):Good l (xB o):=by
 obtain⟨_,_,_,_,hgo,_⟩:=Gt ho
 obtain⟨hln,_,_⟩:=za hgo
 refine⟨⟨fun x hx=> ?_⟩,fun x hx=> ?_⟩
 ·obtain⟨q,hq,rfl⟩:=abv.1 hx
  obtain⟨_,h2,_⟩:=hln q hq
  obtain⟨u0,u1,_⟩:=wX h2
  exact⟨⟨by show (0:Int)≤0;omega,by show (0:Int)≤0;omega,by show (0:Int)≤0;omega,by show (0:Int)≤_;omega,u0,u1,fun e=>absurd rfl e⟩,⟨by show (-1:Int)≤ -1;omega,fun h=>by have:(0:Int)≤ -1:=h;omega⟩⟩
 ·obtain⟨q,hq,rfl⟩:=abv.1 hx
  obtain⟨_,_,_,h4,_⟩:=hln q hq
  exact KR h4
def BF (o:ai) (l:List aa) (wt day:Int):List ak×List (Int×Int)×List aJ:=ya o l wt day l 0 (xB o) [] []
def mo (o:ai) (l:List aa):Int:=if s7 o≠0 then s7 o else wz l
theorem Kf {o:ai} {l:List aa} (h:mo o l=0):s7 o=0∧wz l=0:=by
 unfold mo at h
 split at h
 ·rename_i h1;exact absurd h h1
 ·rename_i h1;exact⟨aah.1 h1,h⟩
theorem start_eq {o:ai} {l:List aa} (h:mo o l=0) (wt day:Int):∃ q,l7 o l []=some ((o,l,mapOf (xB o),[],[],0,()),(xB o).map ak.tup,())∧
 kM (o,l,mapOf (xB o),[],[],wt,()) day ((xB o).map ak.tup)=some ((o,l,mapOf (BF o l wt day).1,(BF o l wt day).2.1,(BF o l wt day).2.2,wt,()),(BF o l wt day).1.map ak.tup,())∧q=():=by
 obtain⟨h1,h2⟩:=Kf h
 obtain⟨h3,h4⟩:=MM h2
 exact⟨(),I3 h1 l,H6 (Gt h1).2.1 h4 h3 (ON h1 l),rfl⟩
theorem RC (o:ai) (l:List aa) (day:Int):Ed o l day []=(if mo o l≠0 then some (none,mo o l,[],()) else if ¬(1≤day∧day≤3652059) then some (none,1,[],()) else none):=by
 unfold Ed
 rw[Fk,acn,nC]
 dsimp only
 by_cases h:mo o l=0
 ·rw[acM (show ¬mo o l≠0 from fun e=>e h),show (if s7 o≠0 then s7 o else wz l)=0 from h,zne,acB,acn]
  by_cases hd:1≤day∧day≤3652059
  ·rw[acM (show ¬¬(1≤day∧day≤3652059) from fun e=>e hd),acF hd]
   obtain⟨_,e1,e2,_⟩:=start_eq h 0 day
   dsimp only
   rw[aad,acB,e1,acn]
   dsimp only
   rw[e2];rfl
  ·rw[acN hd,acE hd];rfl
 ·rw[acN (show mo o l≠0 from h),show ((if s7 o≠0 then s7 o else wz l) != 0)=true from jy h,acC]
  rfl
theorem TN {o:ai} {l:List aa} {day:Int} (h:mo o l=0) (hd:1≤day∧day≤3652059):IZ o l day []=some ((o,l,mapOf (BF o l 0 day).1,(BF o l 0 day).2.1,(BF o l 0 day).2.2,0,()),0,(BF o l 0 day).1.map ak.tup,()):=by
 unfold IZ
 rw[Fk,acn,nC]
 dsimp only
 rw[show (if s7 o≠0 then s7 o else wz l)=0 from h,zne,acB,acn,acF hd]
 obtain⟨_,e1,e2,_⟩:=start_eq h 0 day
 dsimp only
 rw[aad,acB,e1,acn]
 dsimp only
 rw[e2];rfl
end Go.Md
namespace Go.Md
open Go.Dn
end Go.Md
namespace Go.Md
open Go.Dn
structure Pts (l:List aa) (wt:Int) (n:Nat) (A:List ak) (pts:List aJ):Prop where
 pt:∀ (j:Nat) (p:aJ),pts[j]? =some p→0≤p.1∧p.1<n∧(∃ d,idx l p.1=some d∧qW d=wt)∧∀ q,0<j→pts[j - 1]? =some q→q.1<p.1
 last:∀ p,pts.getLast? =some p→∃ x,RT wt A=some x∧p.2=mK x
def st0:aF:=(0,[],[],(0,0),(0,0),0,(0,0),(0,0),(0,0),0,0)
theorem OZ {α β:Type} {f:α→Option β} {g:Option β}:OY (none:Option α) f g=g:=rfl
end Go.Md
namespace Go.Md
open Go.Dn
end Go.Md
namespace Go.Md
open Go.Dn
end Go.Md
namespace Go.Md
open Go.Dn
end Go.Md
namespace Go.Md
open Go.Dn
end Go.Md
namespace Go.Md
open Go.Dn
end Go.Md
