/-
  Plain facts: deeds, followed one behind the other. No condition.
-/
import Derived.Test.YtcpmaicaibdafaaGreatDoorWs
import Derived.Test.YtcpmaicaibdafaaGreatDoorWq
import Derived.Test.YtcpmaicaibdafaaGreatDoorWo
set_option linter.all false
namespace Go.Md
open Go.Dn
theorem Yn {day:Int} {p:Option aH} {x:aH} (h:dI day p x=0):(1≤x.1∧x.1≤99999)∧(∀ q,p=some q→q.1<x.1)∧bV x.2.1=true∧qOk x.2.2.1 false=true∧bV x.2.2.2.1=true∧inR x.2.2.2.2.1 0 1000000000 4=true∧(day≤x.2.2.2.2.2∧x.2.2.2.2.2≤3652059):=by
 unfold dI at h
 split at h
 ·cases h
 ·rename_i h1
  split at h
  ·cases h
  ·rename_i h2
   split at h
   ·cases h
   ·rename_i h3
    split at h
    ·cases h
    ·rename_i h4
     split at h
     ·cases h
     ·rename_i h5
      split at h
      ·cases h
      ·rename_i h6
       split at h
       ·cases h
       ·rename_i h7
        refine⟨afJ.1 h1,fun q hq=> ?_,by simpa using h3,by simpa using h4,by simpa using h5,by simpa using h6,afJ.1 h7⟩
        subst hq
        have:¬x.1≤q.1:=fun e=>h2 (aim e)
        omega
theorem oN {day:Int}:∀ {r:List aH} {p:Option aH},jM day r p=0→
 (∀ x,x∈r→bV x.2.1=true∧qOk x.2.2.1 false=true∧bV x.2.2.2.1=true∧inR x.2.2.2.2.1 0 1000000000 4=true∧(1≤x.1∧x.1≤99999)∧(day≤x.2.2.2.2.2∧x.2.2.2.2.2≤3652059))∧(∀ q,p=some q→∀ x,x∈r→q.1<x.1)∧r.Pairwise (fun a b=>a.1<b.1)
 | [],p,_=>⟨nofun,fun _ _ _ h=>(nomatch h),List.Pairwise.nil⟩
 | y::r,p,h=>by
  simp only[jM] at h
  by_cases hf:dI day p y=0
  ·rw[aiu (fun e=>e hf)] at h
   obtain⟨a1,a2,a3⟩:=oN h
   obtain⟨b1,b2,b3,b4,b5,b6,b7⟩:=Yn hf
   refine⟨fun x hx=> ?_,fun q hq x hx=> ?_,List.Pairwise.cons (fun x hx=>a2 y rfl x hx) a3⟩
   ·rcases ag4.1 hx with rfl | hx
    ·exact⟨b3,b4,b5,b6,b1,b7⟩
    ·exact a1 x hx
   ·rcases ag4.1 hx with rfl | hx
    ·exact b2 q hq
    ·have:=b2 q hq
     have:=a2 y rfl x hx
     omega
  ·rw[aiv hf] at h
   exact absurd h hf
theorem vN {o:aj} (h:kK o=0):(1≤dA o∧dA o≤3652059)∧(0≤cm o∧cm o≤1000)∧(jc o).length≤500∧jc o≠[]∧jM (dA o) (jc o) none=0∧(bV (FU o)=true∧bV (FT o)=true∧bV (KA o)=true∧FT o≠KA o):=by
 unfold kK at h
 split at h
 ·cases h
 ·rename_i h1
  split at h
  ·cases h
  ·rename_i h2
   split at h
   ·cases h
   ·rename_i h3
    split at h
    ·cases h
    ·rename_i h4
     split at h
     ·cases h
     ·rename_i h5
      split at h
      ·cases h
      ·rename_i h6
       refine⟨afJ.1 h3,afJ.1 h4,by omega,h5,h, ?_, ?_, ?_,h2⟩
       ·cases hb:bV (FU o)
        ·exact absurd (.inl hb) h1
        ·rfl
       ·cases hb:bV (FT o)
        ·exact absurd (.inr (.inl hb)) h1
        ·rfl
       ·cases hb:bV (KA o)
        ·exact absurd (.inr (.inr hb)) h1
        ·rfl
def lM (x:aH):ak:=⟨x.1,x.2.1,x.2.2.2.1,aW x.2.2.1,0,0,0,x.2.2.2.2.1,x.2.2.2.2.2, -1,0,0,0⟩
abbrev jV (o:aj):List ak:=(jc o).map lM
theorem Ik {n:Int}:∀ {A:List ak} {i:Nat},(∀ x,x∈A→x.no≠n)→cB n i A=none
 | [],_,_=>rfl
 | x::r,i,h=>by
  simp only[cB]
  rw[aiu (fun e=>h x (by simp) e.symm)]
  exact Ik (fun y hy=>h y (by simp[hy]))
theorem lF {α:Type} {l:List α} {i:Nat} {y:α} (h:l[i]? =some y):l.take (i+1)=l.take i++[y]:=by
 rw[ahp,h];rfl
theorem KF {o:aj} (ho:kK o=0) (l:List aa):jW o l []=some ((o,l,mapOf (jV o),[],[],0,()),(jV o).map ak.tup,()):=by
 obtain⟨_,_,hlen,_,hgo,_⟩:=vN ho
 obtain⟨hln,_,hpw⟩:=oN hgo
 obtain⟨onum,obuy,osel,oday,oext,lns⟩:=o
 change lns.length≤500 at hlen
 change ∀ x,x∈lns→_ at hln
 change lns.Pairwise _ at hpw
 unfold jW
 have:=Kr (f:=nr) (fun (_:Unit) (i:Nat)=>((lns,(lns.length:Int),(i:Int),onum,obuy,osel,oday,oext,lns,l,[],[],0,mapOf ((lns.take i).map lM),((lns.take i).map lM).map ak.tup,()):nt)) lns
  (fun (_:Unit) _ _ k=>k ()) (fun _=>some (Sum.inr (onum,obuy,osel,oday,oext,lns,l,[],[],0,mapOf (lns.map lM),(lns.map lM).map ak.tup,()))) (fun s i y again hy=>by
    have hi:i<lns.length:=(agD.1 hy).1
    unfold nr
    dsimp only
    rw[aim (show (i:Int)<(lns.length:Int) by omega),aii,cM hy,ah4,nC (hln y (ahb hy)).2.1,ah4]
    have hno:cB y.1 0 ((lns.take i).map lM)=none:=Ik fun z hz=>by
     obtain⟨q,hq,rfl⟩:=ag9.1 hz
     obtain⟨j,hj⟩:=ag8.1 hq
     have hji:j<i:=by
      have:=(agD.1 hj).1
      simp at this;omega
     rw[agL hji] at hj
     have h1:=ahi.1 hpw j i (by omega) hi hji
     have e1:lns[j]=q:=by have:=agB (show j<lns.length by omega);rw[hj] at this;exact (Option.some.inj this).symm
     have e2:lns[i]=y:=by have:=agB hi;rw[hy] at this;exact (Option.some.inj this).symm
     rw[e1,e2] at h1
     show q.1≠y.1
     omega
    have hs:=Qp y.1 (lM y) rfl ((lns.take i).map lM) 0 hno
    rw[ah1] at hs
    rw[agQ,av (n:=(i:Int)+1) (by omega) (by omega)]
    have ht:(lns.take (i+1)).map lM=(lns.take i).map lM++[lM y]:=by rw[lF hy,agW];rfl
    rw[ht]
    refine congrArg again ?_
    refine Prod.ext rfl (Prod.ext rfl (Prod.ext rfl (Prod.ext rfl (Prod.ext rfl (Prod.ext rfl (Prod.ext rfl (Prod.ext rfl (Prod.ext rfl (Prod.ext rfl (Prod.ext rfl (Prod.ext rfl (Prod.ext rfl (Prod.ext hs (Prod.ext ?_ rfl))))))))))))))
    show List.map ak.tup _++[_]=List.map ak.tup (_++[lM y])
    rw[agW];rfl) (fun s again=>by
    unfold nr
    dsimp only
    rw[aik (show ¬((lns.length:Int)<(lns.length:Int)) by omega),aih,aht]) ()
 have hfor:∀ (r:List aH) (i:Nat) (β:Type) (f:Option β),FJ (fun (_:Unit) _ _ k=>k ()) (fun _=>f) r i ()=f:=by
  intro r
  induction r with
  | nil=>intro i β f;rfl
  | cons y r ih=>intro i β f;exact ih (i+1) β f
 refine (congrArg (fun z=>az z _) ((this _ ?_).trans (hfor _ _ _ _))).trans rfl
 simp only[agR]
 omega
def bR (n:Int):ah:=((few 3 n).1,((few 3 n).2:Int))
theorem tF {n:Int} (h0:0≤n) (h1:n≤1000000000000000):pP n=some (bR n,()):=by
 unfold pP
 rw[nA n (by omega) (by omega),ah4]
 have hb:n.natAbs<4294967296 ^ 99:=ahK (show n.natAbs<4294967296 ^ 2 by omega) (ahZ (by omega) (by omega))
 have:=PC n hb 3 (by omega)
 rw[show ((3:Nat):Int)=3 from rfl] at this
 dsimp only
 rw[this,ah4,aiv (by have:=(EY 3 n).2.2;omega)]
 rfl
def pM (d:ah):ah:=((few d.2.toNat d.1).1,((few d.2.toNat d.1).2:Int))
theorem QK {d:ah} (h0:0≤d.1) (h1:d.1≤1000000000000000) (h2:0≤d.2) (h3:d.2≤9):AF d=some (pM d,()):=by
 unfold AF
 have loop:∀ (n:Nat) (z:Int) (p:Nat),0≤z→z≤1000000000000000→p≤9→p<n→iter (X:=uP) (β:=uO) n (z,(p:Int),0,0,()) uN=some (Sum.inr ((few p z).1,((few p z).2:Int),0,0,())):=by
  intro n
  induction n with
  | zero=>intro z p _ _ _ h;omega
  | succ n ih=>
   intro z p hz hz1 hp hn
   rw[br]
   generalize hag:(fun y=>iter n y uN)=again
   unfold uN
   dsimp only
   cases p with
   | zero=>rfl
   | succ p=>
    rw[aim (show ((p+1:Nat):Int)>0 by omega),aii,ah4]
    dsimp only
    rw[af3 hz]
    by_cases hm:z % 10=0
    ·rw[show (z % 10==0)=true by simp[hm],aii,af2 hz,av (n:=z / 10) (by omega) (by omega),av (n:=((p+1:Nat):Int) - 1) (by omega) (by omega),
      show ((p+1:Nat):Int) - 1=(p:Int) by omega, ← hag]
     refine (ih (z / 10) p (by omega) (by omega) (by omega) (by omega)).trans ?_
     rw[show few (p+1) z=few p (z / 10) by rw[few,aiv hm]]
    ·rw[show (z % 10==0)=false by simp[hm],aih,show few (p+1) z=(z,p+1) by rw[few,aiu hm]]
 obtain⟨k,hk⟩:∃ k:Nat,d.2=k:=⟨d.2.toNat,by omega⟩
 rw[hk]
 have:=loop (d.1.natAbs+(Int.natAbs (k:Int)+(Int.natAbs (0:Int)+(Int.natAbs (0:Int)+2)))) d.1 k h0 h1 (by omega) (by omega)
 rw[this]
 unfold pM
 rw[hk]
 rfl
def bL (x:ak):ax:=(x.no,x.art,x.unit,bR x.ord,pM x.price,x.due,bR x.shp,bR x.rcv,bR x.ret,bR x.opn)
def HL (x:ak):Prop:=0≤x.price.1∧x.price.1≤1000000000000000∧0≤x.price.2∧x.price.2≤9
theorem abN {x:ak} (h:LOk x):0≤x.opn∧x.opn≤1000000000000:=by
 have:=h.ret0;have:=h.retr;have:=h.rcvs;have:=h.ord1
 unfold ak.opn
 split<;>omega
theorem BP {A:List ak} {k:Nat} {x:ak} (h:A[k]? =some x) (hx:LOk x) (hp:HL x):kN (some k) (A.map ak.tup)=some (bL x,()):=by
 obtain⟨p1,p2,p3,p4⟩:=hp
 obtain⟨q1,q2⟩:=abN hx
 have:=hx.ret0;have:=hx.retr;have:=hx.rcvs;have:=hx.shp1;have:=hx.uC;have:=hx.ord1
 unfold kN
 simp only[ah4,rU h,Dl h hx]
 rw[tF (n:=x.ord) (by omega) (by omega),tF (n:=x.shp) (by omega) (by omega),tF (n:=x.rcv) (by omega) (by omega),tF (n:=x.ret) (by omega) (by omega),tF (n:=x.opn) (by omega) (by omega),QK p1 p2 p3 p4]
 rfl
end Go.Md
namespace Go.Md
open Go.Dn
theorem G7 {d:ah} (h:inR d 0 1000000000 4=true):0≤d.1∧d.1≤1000000000000000∧0≤d.2∧d.2≤9:=by
 unfold inR at h
 obtain⟨⟨h1,h2,h3⟩,h4,h5,h6⟩:=aiB h
 refine⟨by omega,by omega,h2,h3⟩
theorem Zy {l:List aa} {d:aa} {x:ak} (hw:WOk l x) (hl:∀ d,d∈l→bF d=0) (hp:HL x):HL (bZ l d x).2:=by
 unfold bZ
 by_cases h1:x.wish<0
 ·rw[aiv h1];exact hp
 rw[aiu h1]
 obtain⟨w,hw1,hw2⟩:=hw.kind (by omega)
 rw[uw hw1]
 obtain⟨_,_,_,hk,_,_,hu⟩:=bU (hl w (ahb hw1))
 obtain⟨_,up,_⟩:=dR hu
 by_cases h2:dNo w≠dTo d
 ·rw[aiv h2];exact hp
 rw[aiu h2]
 by_cases h3:aL d=5
 ·rw[aiv h3]
  by_cases k2:aL w=2
  ·rw[aiv k2]
   split<;>exact hp
  ·rw[aiu k2]
   by_cases k1:aL w=1
   ·rw[aiv k1];exact hp
   ·rw[aiu k1]
    by_cases k3:aL w=3
    ·rw[aiv k3];exact hp
    ·rw[aiu k3]
     have hk':1≤aL w∧aL w≤11:=hk
     exact G7 (up (by unfold usP;exact aim (.inr (by omega))))
 ·rw[aiu h3];exact hp
theorem acL {ext:Int} {d:aa} {x:ak} (hp:HL x):HL (cR ext d x).2:=by
 unfold cR
 split
 ·split
  ·exact hp
  ·split<;>exact hp
 ·split
  ·split<;>exact hp
  ·split<;>exact hp
theorem adg {o:aj} {l:List aa} {i:Nat} {d:aa} {x:ak} (hw:WOk l x) (hl:∀ d,d∈l→bF d=0) (hp:HL x):HL (bA o l i d x).2:=by
 have ha:=Zy (d:=d) hw hl hp
 have hm:=acL (ext:=cm o) (d:=d) hp
 unfold bA
 split
 ·unfold vk
  split
  ·exact hp
  ·split<;>exact hp
 ·split
  ·split<;>exact ha
  ·split
   ·split<;>exact hp
   ·split
    ·unfold EP
     split
     ·exact hp
     ·split<;>exact hp
    ·split
     ·split<;>exact hm
     ·exact hm
structure Good (l:List aa) (A:List ak):Prop where
 sound:Sound l A
 pr:∀ x,x∈A→HL x
theorem Ew {o:aj} {l:List aa} {i:Nat} {d:aa} {A:List ak} (hA:Good l A) (hl:∀ d,d∈l→bF d=0) (hd:l[i]? =some d):Good l (cE o l i d A).2:=by
 refine⟨(Wy hA.sound hl hd).1,fun x hx=> ?_⟩
 unfold cE at hx
 by_cases k1:aL d=1
 ·rw[aiv k1] at hx
  split at hx
  ·exact hA.pr x hx
  ·split at hx
   ·exact hA.pr x hx
   ·split at hx
    ·exact hA.pr x hx
    ·rcases ag1.1 hx with hx | hx
     ·exact hA.pr x hx
     ·simp only[ahf] at hx
      subst hx
      obtain⟨_,_,_,_,_,_,hu⟩:=bU (hl d (ahb hd))
      exact G7 ((dR hu).2.1 (by rw[k1];rfl))
 ·rw[aiu k1] at hx
  split at hx
  ·exact hA.pr x hx
  ·split at hx
   ·rename_i y hy
    rcases ahd hx with hx | hx
    ·exact hA.pr x hx
    ·subst hx
     have hm:=ahb hy
     exact adg (hA.sound.line y hm).2 hl (hA.pr y hm)
   ·exact hA.pr x hx
def ot (n:Int) (A:List ak):Option ak:=(eL n A).bind fun k=>A[k]?
theorem EF {n:Int} {A:List ak} {k:Nat} {x:ak} (h:eL n A=some k) (hx:A[k]? =some x):ot n A=some x:=by unfold ot;rw[h];exact hx
theorem OX {o:aj} {l:List aa} {i:Nat} {d:aa} {A:List ak} (hA:Sound l A) (hl:∀ d,d∈l→bF d=0) (hd:l[i]? =some d) (h0:(cE o l i d A).1=0):
 ∃ k x,eL (dH d) (cE o l i d A).2=some k∧(cE o l i d A).2[k]? =some x:=by
 unfold cE at h0 ⊢
 by_cases k1:aL d=1
 ·rw[aiv k1] at h0 ⊢
  split at h0
  ·cases h0
  ·rename_i hf
   split at h0
   ·cases h0
   ·rename_i h5
    split at h0
    ·cases h0
    ·rename_i h6
     rw[aiu h5,aiu h6]
     refine⟨A.length,gC i d, ?_,by simp⟩
     show cB (dH d) 0 (A++[gC i d])=_
     rw[EC,show cB (dH d) 0 A=none from hf,aiv (show dH d=(gC i d).no from rfl)]
     simp
 ·rw[aiu k1] at h0 ⊢
  split at h0
  ·cases h0
  ·rename_i k hk
   obtain⟨x,hx,hxn⟩:=wZ hk
   rw[hx]
   dsimp only
   obtain⟨h1,h2⟩:=hA.line x (ahb hx)
   refine⟨k,_, ?_,NZ hx _⟩
   show cB (dH d) 0 (A.set k _)=_
   rw[Kj A 0 (fun z hz=>by rw[hx] at hz;cases hz;exact (EW (o:=o) h1 h2 hl hd).2.2.1)]
   exact hk
def vU (wt:Int) (i:Nat) (d:aa) (A:List ak) (pts:List aI):List aI:=
 if dH d=wt then (match ot (dH d) A with | some x=>pts++[((i:Int),bL x)] | none=>pts) else pts
def jf (o:aj) (l:List aa) (wt day:Int):List aa→Nat→List ak→List (Int×Int)→List aI→List ak×List (Int×Int)×List aI
 | [],_,A,ref,pts=>(A,ref,pts)
 | d::r,i,A,ref,pts=>
  if day<d.1 then (A,ref,pts)
  else if (cE o l i d A).1≠0 then jf o l wt day r (i+1) (cE o l i d A).2 (ref++[((i:Int),(cE o l i d A).1)]) pts
  else jf o l wt day r (i+1) (cE o l i d A).2 ref (vU wt i d (cE o l i d A).2 pts)
theorem fh {β:Type} {b:Bool} (h:b=true) (x:Option β):chk b x=x:=by rw[h];rfl
theorem acT {onum obuy osel:Bys} {oday oext:Int} {olns:List aH} {l:List aa} {wt day:Int} (he0:0≤oext) (he1:oext≤1000) (hl:∀ d,d∈l→bF d=0) (hlen:l.length≤2000):
 ∀ (r:List aa) (i n:Nat) (A:List ak) (ref:List (Int×Int)) (pts:List aI),l.drop i=r→i≤l.length→Good l A→ref.length≤i→pts.length≤i→r.length<n→
  iter (X:=mu) (β:=mq) n (day,l,(l.length:Int),(i:Int),onum,obuy,osel,oday,oext,olns,l,mapOf A,ref,pts,wt,A.map ak.tup,()) jl=
   some (Sum.inr (onum,obuy,osel,oday,oext,olns,l,mapOf (jf (onum,obuy,osel,oday,oext,olns) l wt day r i A ref pts).1,(jf (onum,obuy,osel,oday,oext,olns) l wt day r i A ref pts).2.1,(jf (onum,obuy,osel,oday,oext,olns) l wt day r i A ref pts).2.2,wt,(jf (onum,obuy,osel,oday,oext,olns) l wt day r i A ref pts).1.map ak.tup,())):=by
 intro r
 induction r with
 | nil=>
  intro i n A ref pts hd hi hA hr hp hn
  have:i=l.length:=by
   have:=congrArg List.length hd
   simp at this;omega
  subst this
  obtain⟨n,rfl⟩:∃ m,n=m+1:=⟨n - 1,by omega⟩
  rw[br]
  unfold jl
  dsimp only
  rw[aik (show ¬((l.length:Int)<(l.length:Int)) by omega),aih]
  rfl
 | cons d r ih=>
  intro i n A ref pts hdr hi hA hr hp hn
  have hd:l[i]? =some d:=by
   have:=congrArg (·[0]?) hdr
   simpa [agA] using this
  have hr':l.drop (i+1)=r:=by
   have:=congrArg List.tail hdr
   simpa [aho] using this
  have hlt:i<l.length:=(agD.1 hd).1
  obtain⟨n,rfl⟩:∃ m,n=m+1:=⟨n - 1,by simp at hn;omega⟩
  rw[br]
  generalize hag:(fun y=>iter n y jl)=again
  unfold jl
  dsimp only
  rw[aim (show (i:Int)<(l.length:Int) by omega),aii,cM hd,ah4]
  have hdeed:=Io (o:=(onum,obuy,osel,oday,oext,olns)) (ref:=ref) (pts:=pts) (wt:=wt) hA.sound hl hd he0 he1
  have hgood:=Ew (o:=(onum,obuy,osel,oday,oext,olns)) hA hl hd
  by_cases hday:day<d.1
  ·rw[aim (show d.1>day from hday),aii]
   simp only[jf,aiv hday]
  ·rw[aik (show ¬d.1>day from hday),aih]
   rw[hdeed,ah4]
   dsimp only
   rw[av (n:=(i:Int)+1) (by omega) (by omega)]
   simp only[jf,aiu hday]
   have sH:maxLen=9223372036854775807:=rfl
   have hi1:(i:Int)+1=((i+1:Nat):Int):=by omega
   by_cases he:(cE (onum,obuy,osel,oday,oext,olns) l i d A).1=0
   ·rw[aiu (fun h=>h he),he]
    rw[zne,aih]
    by_cases hw:dH d=wt
    ·obtain⟨k,x,hk,hx⟩:=OX hA.sound hl hd he
     have hxm:=ahb hx
     rw[show (d.2.2.2.2.1==wt)=true by simpa using hw,aii,jb,show cB d.2.2.2.2.1 0 _=some k from hk,
      BP hx (hgood.sound.line x hxm).1 (hgood.pr x hxm),ah4]
     rw[fh (by rw[afr];exact⟨aim (by omega),aim (by omega)⟩)]
     have hpt:vU wt i d (cE (onum,obuy,osel,oday,oext,olns) l i d A).2 pts=pts++[((i:Int),bL x)]:=by
      unfold vU
      rw[aiv hw,EF hk hx]
     rw[hpt,hi1, ← hag]
     exact ih (i+1) n _ ref _ hr' (by omega) hgood (by omega) (by simp;omega) (by simp at hn;omega)
    ·rw[show (d.2.2.2.2.1==wt)=false by simpa using hw,aih]
     have hpt:vU wt i d (cE (onum,obuy,osel,oday,oext,olns) l i d A).2 pts=pts:=by
      unfold vU
      rw[aiu hw]
     rw[hpt,hi1, ← hag]
     exact ih (i+1) n _ ref pts hr' (by omega) hgood (by omega) (by omega) (by simp at hn;omega)
   ·rw[aiv he,cq he,aii]
    rw[fh (by rw[afr];exact⟨aim (by omega),aim (by omega)⟩)]
    rw[hi1, ← hag]
    exact ih (i+1) n _ _ pts hr' (by omega) hgood (by simp;omega) (by omega) (by simp at hn;omega)
theorem Jn {o:aj} {l:List aa} {wt day:Int} {A:List ak} (he:0≤cm o∧cm o≤1000) (hl:∀ d,d∈l→bF d=0) (hlen:l.length≤2000) (hA:Good l A):
 jk (o,l,mapOf A,[],[],wt,()) day (A.map ak.tup)=some ((o,l,mapOf (jf o l wt day l 0 A [] []).1,(jf o l wt day l 0 A [] []).2.1,(jf o l wt day l 0 A [] []).2.2,wt,()),(jf o l wt day l 0 A [] []).1.map ak.tup,()):=by
 obtain⟨onum,obuy,osel,oday,oext,olns⟩:=o
 unfold jk
 refine (congrArg (fun z=>az z _) (acT (onum:=onum) (obuy:=obuy) (osel:=osel) (oday:=oday) (olns:=olns) (wt:=wt) (day:=day) he.1 he.2 hl hlen l 0 _ A [] [] rfl (ah2 _) hA (ah2 _) (ah2 _) ?_)).trans rfl
 dsimp only
 omega
theorem EI {o:aj} (ho:kK o=0) (l:List aa):Good l (jV o):=by
 obtain⟨_,_,_,_,hgo,_⟩:=vN ho
 obtain⟨hln,_,_⟩:=oN hgo
 refine⟨⟨fun x hx=> ?_⟩,fun x hx=> ?_⟩
 ·obtain⟨q,hq,rfl⟩:=ag9.1 hx
  obtain⟨_,h2,_⟩:=hln q hq
  obtain⟨u0,u1,_⟩:=lY h2
  exact⟨⟨by show (0:Int)≤0;omega,by show (0:Int)≤0;omega,by show (0:Int)≤0;omega,by show (0:Int)≤_;omega,u0,u1,fun e=>absurd rfl e⟩,⟨by show (-1:Int)≤ -1;omega,fun h=>by have:(0:Int)≤ -1:=h;omega⟩⟩
 ·obtain⟨q,hq,rfl⟩:=ag9.1 hx
  obtain⟨_,_,_,h4,_⟩:=hln q hq
  exact G7 h4
def vA (o:aj) (l:List aa) (wt day:Int):List ak×List (Int×Int)×List aI:=jf o l wt day l 0 (jV o) [] []
def fL (o:aj) (l:List aa):Int:=if kK o≠0 then kK o else lH l
theorem GV {o:aj} {l:List aa} (h:fL o l=0):kK o=0∧lH l=0:=by
 unfold fL at h
 split at h
 ·rename_i h1;exact absurd h h1
 ·rename_i h1;exact⟨afJ.1 h1,h⟩
theorem start_eq {o:aj} {l:List aa} (h:fL o l=0) (wt day:Int):∃ q,jW o l []=some ((o,l,mapOf (jV o),[],[],0,()),(jV o).map ak.tup,())∧
 jk (o,l,mapOf (jV o),[],[],wt,()) day ((jV o).map ak.tup)=some ((o,l,mapOf (vA o l wt day).1,(vA o l wt day).2.1,(vA o l wt day).2.2,wt,()),(vA o l wt day).1.map ak.tup,())∧q=():=by
 obtain⟨h1,h2⟩:=GV h
 obtain⟨h3,h4⟩:=Cz h2
 exact⟨(),KF h1 l,Jn (vN h1).2.1 h4 h3 (EI h1 l),rfl⟩
theorem Vy (o:aj) (l:List aa) (day:Int):EJ o l day []=(if fL o l≠0 then some (none,fL o l,[],()) else if ¬(1≤day∧day≤3652059) then some (none,1,[],()) else none):=by
 unfold EJ
 rw[FV,ah4,rq]
 dsimp only
 by_cases h:fL o l=0
 ·rw[aiu (show ¬fL o l≠0 from fun e=>e h),show (if kK o≠0 then kK o else lH l)=0 from h,zne,aih,ah4]
  by_cases hd:1≤day∧day≤3652059
  ·rw[aiu (show ¬¬(1≤day∧day≤3652059) from fun e=>e hd),aim hd]
   obtain⟨_,e1,e2,_⟩:=start_eq h 0 day
   dsimp only
   rw[afE,aih,e1,ah4]
   dsimp only
   rw[e2];rfl
  ·rw[aiv hd,aik hd];rfl
 ·rw[aiv (show fL o l≠0 from h),show ((if kK o≠0 then kK o else lH l) != 0)=true from cq h,aii]
  rfl
theorem Yo {o:aj} {l:List aa} {day:Int} (h:fL o l=0) (hd:1≤day∧day≤3652059):KD o l day []=some ((o,l,mapOf (vA o l 0 day).1,(vA o l 0 day).2.1,(vA o l 0 day).2.2,0,()),0,(vA o l 0 day).1.map ak.tup,()):=by
 unfold KD
 rw[FV,ah4,rq]
 dsimp only
 rw[show (if kK o≠0 then kK o else lH l)=0 from h,zne,aih,ah4,aim hd]
 obtain⟨_,e1,e2,_⟩:=start_eq h 0 day
 dsimp only
 rw[afE,aih,e1,ah4]
 dsimp only
 rw[e2];rfl
end Go.Md
namespace Go.Md
open Go.Dn
end Go.Md
namespace Go.Md
open Go.Dn
theorem abv {n:Int} {A:List ak} {y:ak} (h:y.no≠n):ot n (A++[y])=ot n A:=by
 unfold ot
 have:eL n (A++[y])=eL n A:=by
  unfold eL
  rw[EC,aiu (fun e=>h e.symm),Option.or_none]
 rw[this]
 cases hk:eL n A with
 | none=>rfl
 | some k=>
  obtain⟨x,hx,_⟩:=wZ hk
  have:=(agD.1 hx).1
  simp only[ah4]
  rw[agw this]
theorem abw {n:Int} {A:List ak} {k:Nat} {x y:ak} (hx:A[k]? =some x) (hn:x.no≠n) (hy:y.no=x.no):ot n (A.set k y)=ot n A:=by
 unfold ot
 have:eL n (A.set k y)=eL n A:=Kj A 0 (fun z hz=>by rw[hx] at hz;cases hz;exact hy)
 rw[this]
 cases hj:eL n A with
 | none=>rfl
 | some j=>
  obtain⟨z,hz,hzn⟩:=wZ hj
  simp only[ah4]
  have hjk:k≠j:=fun e=>by subst e;rw[hx] at hz;cases hz;exact hn hzn
  rw[agI hjk]
theorem X3 {o:aj} {l:List aa} {i:Nat} {d:aa} {A:List ak} {n:Int} (hA:Sound l A) (hl:∀ d,d∈l→bF d=0) (hd:l[i]? =some d) (hn:dH d≠n):
 ot n (cE o l i d A).2=ot n A:=by
 unfold cE
 by_cases k1:aL d=1
 ·rw[aiv k1]
  split
  ·rfl
  ·split
   ·rfl
   ·split
    ·rfl
    ·exact abv hn
 ·rw[aiu k1]
  split
  ·rfl
  ·rename_i k hk
   obtain⟨x,hx,hxn⟩:=wZ hk
   rw[hx]
   obtain⟨h1,h2⟩:=hA.line x (ahb hx)
   exact abw hx (by rw[hxn];exact hn) (EW (o:=o) h1 h2 hl hd).2.2.1
theorem TV {o:aj} {l:List aa} (wt wt' day:Int):∀ (r:List aa) (i:Nat) (A:List ak) (ref:List (Int×Int)) (pts pts':List aI),
 (jf o l wt day r i A ref pts).1=(jf o l wt' day r i A ref pts').1∧(jf o l wt day r i A ref pts).2.1=(jf o l wt' day r i A ref pts').2.1
 | [],_,_,_,_,_=>⟨rfl,rfl⟩
 | d::r,i,A,ref,pts,pts'=>by
  simp only[jf]
  split
  ·exact⟨rfl,rfl⟩
  ·split
   ·exact TV wt wt' day r _ _ _ _ _
   ·exact TV wt wt' day r _ _ _ _ _
structure Pts (l:List aa) (wt:Int) (n:Nat) (A:List ak) (pts:List aI):Prop where
 pt:∀ (j:Nat) (p:aI),pts[j]? =some p→0≤p.1∧p.1<n∧(∃ d,idx l p.1=some d∧dH d=wt)∧∀ q,0<j→pts[j - 1]? =some q→q.1<p.1
 last:∀ p,pts.getLast? =some p→∃ x,ot wt A=some x∧p.2=bL x
theorem KC {α β:Type} {f:α→Option β} {g:Option β}:KB (none:Option α) f g=g:=rfl
end Go.Md
namespace Go.Md
open Go.Dn
end Go.Md
namespace Go.Md
open Go.Dn
theorem nU (a b c:Int):lT a b c=some (decide (b≤a∧a≤c),()):=by
 unfold lT
 by_cases h:b≤a
 ·rw[aK h];simp[h]
 ·rw[aN h];simp[h]
theorem UL {a b:ah} (ha:b8 a) (hb:b8 b):wg a b=some ((bX a - bX b).sign,()):=KJ ha hb
theorem NS:b8 ((1000000000,0):ah)∧bX ((1000000000,0):ah)=1000000000*10 ^ 9:=⟨⟨by decide,by decide,by decide⟩,by simp[bX]⟩
theorem YQ {d:ah} (hd:b8 d) (pl:Int):inR d 0 1000000000 pl=(!decide (d.1<0)&&(!decide ((bX d - 1000000000*10 ^ 9).sign>0)&& !decide (d.2>pl))):=by
 have h1:(bX d - 1000000000*10 ^ 9).sign>0↔¬d.1≤1000000000*10 ^ d.2.toNat:=by
  rw[← Ti hd.2.1 hd.2.2,gt_iff_lt,Int.sign_pos_iff]
  omega
 unfold inR
 rw[afv]
 simp only[ain,afr,afC,ail]
 rw[h1]
 constructor
 ·rintro⟨_,h2,h3,h4⟩;exact⟨by omega,fun h=>h h4,by omega⟩
 ·rintro⟨h2,h3,h4⟩;exact⟨hd,by omega,by omega,afJ.1 h3⟩
theorem YR {d:ah} (hd:¬b8 d) (a b pl:Int):inR d a b pl=false:=aik (fun h=>hd h.1)
theorem BQ (d:ah) (z:Bool):nT d z=some (if qOk d z=true then 0 else 1,()):=by
 unfold nT qOk Ce
 simp only[ah4]
 rw[uG,ah4]
 by_cases hd:b8 d
 ·rw[aiv hd,YQ hd 3,UL hd NS.1,NS.2]
  generalize decide (d.1<0)=b1
  generalize (bX d - 1000000000*10 ^ 9).sign=sg
  generalize decide (d.2>3)=b3
  generalize (d.1==0)=b4
  simp only[ah4]
  generalize decide (sg>0)=b2
  cases b1<;>cases b4<;>cases z<;>cases b2<;>cases b3<;>rfl
 ·rw[aiu hd,YR hd]
  rfl
theorem Ga (d:ah):tW d=some (if inR d 0 1000000000 4=true then 0 else 1,()):=by
 unfold tW Ce
 simp only[ah4]
 rw[uG,ah4]
 by_cases hd:b8 d
 ·rw[aiv hd,YQ hd 4,UL hd NS.1,NS.2]
  generalize decide (d.1<0)=b1
  generalize (bX d - 1000000000*10 ^ 9).sign=sg
  generalize decide (d.2>4)=b3
  simp only[ah4]
  generalize decide (sg>0)=b2
  cases b1<;>cases b2<;>cases b3<;>rfl
 ·rw[aiu hd,YR hd]
  rfl
theorem Nz {k:Int} (hk:1≤k∧k≤11):Hu k=some ((usQ k,usP k,usU k,usA k,usT k),()):=by
 have:k=1∨k=2∨k=3∨k=4∨k=5∨k=6∨k=7∨k=8∨k=9∨k=10∨k=11:=by omega
 rcases this with rfl | rfl | rfl | rfl | rfl | rfl | rfl | rfl | rfl | rfl | rfl<;>rfl
theorem aeb (a b:Bool):(bif a then some (b,()) else some (false,()))=some (a&&b,()):=by cases a<;>rfl
theorem bOr (a b:Bool):(bif a then some (true,()) else some (b,()))=some (a||b,()):=by cases a<;>rfl
theorem bAO (a b x:Bool):(bif a then some (b||x,()) else some (x,()))=some (a&&b||x,()):=by cases a<;>rfl
theorem ae7 (b:Bool):((if b=true then (0:Int) else 1) != 0)= !b:=by cases b<;>rfl
theorem aeN {β:Type} (x:Option β):chk true x=x:=rfl
theorem adi (a b:Bys):((a++b)==[])=((a==[])&&(b==[])):=by cases a<;>cases b<;>rfl
theorem OP {d:aa} (hk:1≤d.2.2.2.1∧d.2.2.2.1≤11) (hs:d.2.2.2.2.2.1.length+d.2.2.2.2.2.2.2.1.length≤maxLen):xD d=some (ES d,()):=by
 unfold xD ES SE
 rw[Nz hk,ah4]
 simp only[BQ,Ga,yE,rL,nU,ah4,aim hs,aeN,ae7,adi]
 rw[show decide (1≤d.2.2.2.2.2.2.2.2.2.1∧d.2.2.2.2.2.2.2.2.2.1≤3652059)=AX d.2.2.2.2.2.2.2.2.2.1 from rfl,show decide (1≤d.2.2.2.2.2.2.2.2.2.2∧d.2.2.2.2.2.2.2.2.2.2≤2000)=DW d.2.2.2.2.2.2.2.2.2.2 from rfl]
 generalize usQ d.2.2.2.1=uq
 generalize usP d.2.2.2.1=up
 generalize usU d.2.2.2.1=uu
 generalize usA d.2.2.2.1=ua
 generalize usT d.2.2.2.1=ut
 generalize (d.2.2.2.1==2)=k2
 generalize qOk d.2.2.2.2.2.2.1 k2=q
 generalize inR d.2.2.2.2.2.2.2.2.1 0 1000000000 4=p
 generalize AX d.2.2.2.2.2.2.2.2.2.1=dy
 generalize DW d.2.2.2.2.2.2.2.2.2.2=tt
 generalize bV d.2.2.2.2.2.1=n1
 generalize bV d.2.2.2.2.2.2.2.1=n2
 generalize (d.2.2.2.2.2.1==[])=e1
 generalize (d.2.2.2.2.2.2.2.1==[])=e2
 generalize (d.2.2.2.2.2.2.2.2.2.1 != 0)=un
 generalize (d.2.2.2.2.2.2.2.2.2.2 != 0)=to
 simp only[aft]
 generalize (d.2.2.2.2.2.2.1.1==0&&d.2.2.2.2.2.2.1.2==0)=q0
 generalize (d.2.2.2.2.2.2.2.2.1.1==0&&d.2.2.2.2.2.2.2.2.1.2==0)=p0
 simp only[aeb,bOr,bAO,ah4]
 generalize h1:(uq&& !q)=c1
 cases c1
 ·simp only[aih]
  generalize h2:(up&& !p)=c2
  cases c2
  ·simp only[aih]
   generalize h3:(uu&& !dy)=c3
   cases c3
   ·simp only[aih]
    generalize h4:(ua&&(!n1|| !n2))=c4
    cases c4
    ·simp only[aih]
     generalize h5:(ut&& !tt)=c5
     cases c5
     ·simp only[aih]
      have e:((!uq&& !q0)||((!up&& !p0)||((!uu&&un)||((!ua&& !(e1&&e2))||(!ut&&to)))))=((!ua&& !e1)||((!uq&& !q0)||((!ua&& !e2)||((!up&& !p0)||((!uu&&un)||(!ut&&to)))))):=by
       generalize (!uq&& !q0)=x1
       generalize (!up&& !p0)=x2
       generalize (!uu&&un)=x3
       generalize (!ut&&to)=x4
       cases ua<;>cases e1<;>cases e2<;>cases x1<;>cases x2<;>cases x3<;>cases x4<;>rfl
      rw[e]
      generalize ((!ua&& !e1)||((!uq&& !q0)||((!ua&& !e2)||((!up&& !p0)||((!uu&&un)||(!ut&&to))))))=c6
      cases c6<;>rfl
     ·rfl
    ·rfl
   ·rfl
  ·rfl
 ·rfl
theorem TQ (k:Int):CP k=some (decide ((1≤k∧k≤4)∨k=8∨k=10∨k=11),()):=by
 unfold CP
 rw[nU,ah4]
 dsimp only
 by_cases h1:1≤k∧k≤4
 ·rw[aim h1,aii,aim (.inl h1)]
 ·rw[aik h1,aih]
  by_cases h2:k=8
  ·subst h2;rfl
  ·rw[dx h2,aih]
   by_cases h3:k=10
   ·subst h3;rfl
   ·rw[dx h3,aih]
    by_cases h4:k=11
    ·subst h4;rfl
    ·rw[dx h4,aik (fun h=>by omega)]
theorem Sj (a b:aa):wh a b=some (dCw a b,()):=by
 unfold wh dCw
 generalize w64 (a.1 - b.1)=x
 generalize w64 (a.2.1 - b.2.1)=y
 generalize w64 (a.2.2.1 - b.2.2.1)=z
 simp only[agO,agR]
 have key:iter (X:=uZ) (β:=uY) 8 (3,0,[x,y,z],()) Bn=(bif x != 0 then some (Sum.inl (x,())) else bif y != 0 then some (Sum.inl (y,())) else bif z != 0 then some (Sum.inl (z,())) else some (Sum.inr ())):=by kernel_rfl
 show az (β:=(Int×Unit)) (γ:=Unit) (iter 8 (3,0,[x,y,z],()) Bn) _=_
 rw[key]
 by_cases hx:x=0
 ·subst hx
  by_cases hy:y=0
  ·subst hy
   by_cases hz:z=0
   ·subst hz;rfl
   ·have:(z != 0)=true:=by simp[hz]
    rw[this];simp[az]
  ·have:(y != 0)=true:=by simp[hy]
   rw[this];simp[az,hy]
 ·have:(x != 0)=true:=by simp[hx]
  rw[this];simp[az,hx]
def qG (b:Int) (l:List aa):Int:=l.foldl (fun m d=>if d.2.1=b then d.2.2.1 else m) 0
theorem Xm (b:Int) (l:List aa) (hl:l.length≤2000):Hp l b=some (qG b l,()):=by
 unfold Hp
 have:∀ n,l.length<n→iter (X:=wj) (β:=Bp) n (b,0,l,(l.length:Int),0,()) Bo=some (Sum.inr (qG b l,())):=by
  intro n hn
  refine cN (Inv:=fun i X=>X=((b,qG b (l.take i),l,(l.length:Int),(i:Int),()):wj)) l.length (fun z=>z=some (Sum.inr (qG b l,()))) ?_ ?_ n 0 _ rfl (ah2 _) (by omega)
  ·rintro i X again hi rfl hag
   unfold Bo
   dsimp only
   obtain⟨y,hy⟩:∃ y,l[i]? =some y:=⟨l[i],agB hi⟩
   rw[aim (show (i:Int)<(l.length:Int) by omega),aii,cM hy,ah4,av (n:=(i:Int)+1) (by omega) (by omega)]
   have e:qG b (l.take (i+1))=if y.2.1=b then y.2.2.1 else qG b (l.take i):=by
    unfold qG
    rw[lF hy,List.foldl_append];rfl
   by_cases hb:y.2.1=b
   ·rw[show (y.2.1==b)=true by simpa using hb,aii]
    rw[aiv hb] at e
    exact hag _ (by rw[e];rfl)
   ·rw[dx hb,aih]
    rw[aiu hb] at e
    exact hag _ (by rw[e];rfl)
  ·rintro X again rfl
   unfold Bo
   dsimp only
   rw[aik (show ¬(l.length:Int)<(l.length:Int) by omega),aih,aht]
 rw[this _ (by omega)]
 rfl
theorem aco {a b:aa} (ha:bF a=0) (hb:bF b=0):decide (dCw b a≤0)=decide (0≤dCw a b):=by
 obtain⟨a1,a2,a3,_⟩:=bU ha
 obtain⟨b1,b2,b3,_⟩:=bU hb
 unfold dCw
 rw[av (n:=b.1 - a.1) (by omega) (by omega),av (n:=a.1 - b.1) (by omega) (by omega),av (n:=b.2.1 - a.2.1) (by omega) (by omega),av (n:=a.2.1 - b.2.1) (by omega) (by omega),
  av (n:=b.2.2.1 - a.2.2.1) (by omega) (by omega),av (n:=a.2.2.1 - b.2.2.1) (by omega) (by omega),aij]
 by_cases h1:a.1 - b.1=0
 ·rw[aiu (show ¬(b.1 - a.1≠0) by omega),aiu (show ¬(a.1 - b.1≠0) by omega)]
  by_cases h2:a.2.1 - b.2.1=0
  ·rw[aiu (show ¬(b.2.1 - a.2.1≠0) by omega),aiu (show ¬(a.2.1 - b.2.1≠0) by omega)];omega
  ·rw[aiv (show (b.2.1 - a.2.1≠0) by omega),aiv (show (a.2.1 - b.2.1≠0) by omega)];omega
 ·rw[aiv (show (b.1 - a.1≠0) by omega),aiv (show (a.1 - b.1≠0) by omega)];omega
def Txt (d:aa):Prop:=d.2.2.2.2.2.1.length+d.2.2.2.2.2.2.2.1.length≤maxLen
theorem F8 (l:List aa) (hs:∀ d,d∈l→Txt d):tU l=some (lH l,()):=by
 unfold tU lH
 by_cases hlen:2000<l.length
 ·rw[aiv hlen,aim (show (l.length:Int)>2000 by omega),aii]
 rw[aiu hlen,aik (show ¬(l.length:Int)>2000 by omega),aih]
 have loop:∀ (r:List aa) (i n:Nat),l.drop i=r→i≤l.length→(∀ q,bK l i=some q→bF q=0)→r.length<n→
  az (β:=(Int×Unit)) (γ:=Unit) (iter (X:=sZ) (β:=sY) n (l,l,(l.length:Int),(i:Int),()) nS) (fun _=>some (0,()))=some (dN r (bK l i) (qG 1 (l.take i)) (qG 2 (l.take i)),()):=by
  intro r
  induction r with
  | nil=>
   intro i n hd hi _ hn
   have:i=l.length:=by
    have:=congrArg List.length hd
    simp at this;omega
   subst this
   obtain⟨n,rfl⟩:∃ m,n=m+1:=⟨n - 1,by omega⟩
   rw[br]
   unfold nS
   dsimp only
   rw[aik (show ¬((l.length:Int)<(l.length:Int)) by omega),aih]
   rfl
  | cons d r ih=>
   intro i n hdr hi hq hn
   have hd:l[i]? =some d:=by
    have:=congrArg (·[0]?) hdr
    simpa [agA] using this
   have hr':l.drop (i+1)=r:=by
    have:=congrArg List.tail hdr
    simpa [aho] using this
   have hlt:i<l.length:=(agD.1 hd).1
   obtain⟨n,rfl⟩:∃ m,n=m+1:=⟨n - 1,by simp at hn;omega⟩
   rw[br]
   generalize hag:(fun y=>iter n y nS)=again
   unfold nS
   dsimp only
   rw[aim (show (i:Int)<(l.length:Int) by omega),aii,cM hd,ah4,yE,ah4]
   simp only[dN]
   by_cases h1:1≤d.1∧d.1≤3652059
   rotate_left
   ·have e:bF d=1:=by unfold bF;rw[aiv h1]
    rw[aik h1,aiv (show bF d≠0 by omega),e];rfl
   rw[aim h1,afE,aih]
   have eby:(bif d.2.1 != 1 then some (d.2.1 != 2,()) else some (false,()))=some (!decide (1≤d.2.1∧d.2.1≤2),()):=by
    rw[aeb]
    congr 2
    by_cases k1:d.2.1=1
    ·simp[k1]
    ·by_cases k2:d.2.1=2
     ·simp[k2]
     ·rw[cq k1,cq k2,aik (by omega)];rfl
   rw[eby,ah4]
   dsimp only
   by_cases h2:1≤d.2.1∧d.2.1≤2
   rotate_left
   ·have e:bF d=4:=by unfold bF;rw[aiu (show ¬¬_ from fun e=>e h1),aiv h2]
    rw[aik h2,aiv (show bF d≠0 by omega),e];rfl
   rw[aim h2,afE,aih,nU,ah4]
   dsimp only
   by_cases h3:1≤d.2.2.1∧d.2.2.1≤2000
   rotate_left
   ·have e:bF d=1:=by unfold bF;rw[aiu (show ¬¬_ from fun e=>e h1),aiu (show ¬¬_ from fun e=>e h2),aiv h3]
    rw[aik h3,aiv (show bF d≠0 by omega),e];rfl
   rw[aim h3,afE,aih,nU,ah4]
   dsimp only
   by_cases h4:1≤d.2.2.2.1∧d.2.2.2.1≤11
   rotate_left
   ·have e:bF d=4:=by unfold bF;rw[aiu (show ¬¬_ from fun e=>e h1),aiu (show ¬¬_ from fun e=>e h2),aiu (show ¬¬_ from fun e=>e h3),aiv h4]
    rw[aik h4,aiv (show bF d≠0 by omega),e];rfl
   rw[aim h4,afE,aih,TQ,ah4]
   dsimp only
   by_cases h5:(d.2.2.2.1=5∨d.2.2.2.1=6∨d.2.2.2.1=7∨d.2.2.2.1=9)↔d.2.1=2
   rotate_left
   ·have e:bF d=4:=by unfold bF;rw[aiu (show ¬¬_ from fun e=>e h1),aiu (show ¬¬_ from fun e=>e h2),aiu (show ¬¬_ from fun e=>e h3),aiu (show ¬¬_ from fun e=>e h4),aiv h5]
    have e2:(decide ((1≤d.2.2.2.1∧d.2.2.2.1≤4)∨d.2.2.2.1=8∨d.2.2.2.1=10∨d.2.2.2.1=11)==(d.2.1==1))=false:=by
     by_cases k:d.2.1=1
     ·rw[k,show ((1:Int)==1)=true from rfl,aik (fun h=>h5 (by omega))];rfl
     ·rw[dx k,aim (Classical.byContradiction fun h=>h5 (by omega))];rfl
    rw[e2,aiv (show bF d≠0 by omega),e];rfl
   have e5:(decide ((1≤d.2.2.2.1∧d.2.2.2.1≤4)∨d.2.2.2.1=8∨d.2.2.2.1=10∨d.2.2.2.1=11)==(d.2.1==1))=true:=by
    by_cases k:d.2.1=1
    ·rw[k,show ((1:Int)==1)=true from rfl,aim (by omega)];rfl
    ·rw[dx k,aik (by omega)];rfl
   rw[e5,afE,aih,nU,ah4]
   dsimp only
   by_cases h6:1≤d.2.2.2.2.1∧d.2.2.2.2.1≤99999
   rotate_left
   ·have e:bF d=1:=by unfold bF;rw[aiu (show ¬¬_ from fun e=>e h1),aiu (show ¬¬_ from fun e=>e h2),aiu (show ¬¬_ from fun e=>e h3),aiu (show ¬¬_ from fun e=>e h4),aiu (show ¬¬_ from fun e=>e h5),aiv h6]
    rw[aik h6,aiv (show bF d≠0 by omega),e];rfl
   have ed:bF d=ES d:=by unfold bF;rw[aiu (show ¬¬_ from fun e=>e h1),aiu (show ¬¬_ from fun e=>e h2),aiu (show ¬¬_ from fun e=>e h3),aiu (show ¬¬_ from fun e=>e h4),aiu (show ¬¬_ from fun e=>e h5),aiu (show ¬¬_ from fun e=>e h6)]
   rw[aim h6,afE,aih,OP h4 (hs d (ahb hd)),ah4, ← ed]
   dsimp only
   by_cases h7:bF d=0
   rotate_left
   ·rw[cq h7,aiv h7];rfl
   rw[h7,zne,aih,aiu (show ¬(0:Int)≠0 from fun e=>e rfl)]
   have epr:(bif decide ((i:Int)>0) then Option.bind (idx l (w64 ((i:Int) - 1))) fun y10=>Option.bind (wh d y10) fun r11=>some (decide (r11.1≤0),()) else some (false,()))=some ((bK l i).any fun q=>decide (0≤dCw q d),()):=by
    cases i with
    | zero=>rfl
    | succ i=>
     obtain⟨q,hqq⟩:∃ q,l[i]? =some q:=⟨l[i],agB (by omega)⟩
     rw[aim (show ((i+1:Nat):Int)>0 by omega),aii,av (n:=((i+1:Nat):Int) - 1) (by omega) (by omega),show ((i+1:Nat):Int) - 1=(i:Int) by omega,cM hqq,ah4,Sj,ah4]
     show some (decide (dCw d q≤0),())=some ((bK l (i+1)).any _,())
     rw[show bK l (i+1)=some q from hqq,aco (hq q hqq) h7]
     rfl
   rw[epr,ah4]
   dsimp only
   cases h8:((bK l i).any fun q=>decide (0≤dCw q d))
   rotate_left
   ·rfl
   rw[aih,aiu (show ¬false=true from afy)]
   rw[fh (by simp only[afr,ain];omega),af4,agl,Xm _ _ (by simp;omega),ah4]
   dsimp only
   have htk:∀ b,qG b (l.take (i+1))=if d.2.1=b then d.2.2.1 else qG b (l.take i):=by
    intro b
    unfold qG
    rw[lF hd,List.foldl_append];rfl
   have hnext:∀ q,bK l (i+1)=some q→bF q=0:=by
    intro q hqq
    have:l[i]? =some q:=hqq
    rw[hd] at this;cases this;exact h7
   have ih':=ih (i+1) n hr' (by omega) hnext (by simp at hn;omega)
   rw[show bK l (i+1)=some d from hd,htk 1,htk 2] at ih'
   rw[av (n:=(i:Int)+1) (by omega) (by omega)]
   have hi1:(i:Int)+1=((i+1:Nat):Int):=by omega
   by_cases k1:d.2.1=1
   ·rw[aiv k1]
    rw[aiv k1,aiu (show ¬d.2.1=2 by omega)] at ih'
    rw[k1]
    by_cases h9:d.2.2.1=w64 (qG 1 (l.take i)+1)
    ·rw[show (d.2.2.1 != w64 (qG 1 (l.take i)+1))=false by simpa using h9,aih,aiu (fun e=>e h9),hi1, ← hag]
     exact ih'
    ·rw[cq h9,aiv h9];rfl
   ·have k2:d.2.1=2:=by omega
    rw[aiu k1]
    rw[aiu k1,aiv k2] at ih'
    rw[k2]
    by_cases h9:d.2.2.1=w64 (qG 2 (l.take i)+1)
    ·rw[show (d.2.2.1 != w64 (qG 2 (l.take i)+1))=false by simpa using h9,aih,aiu (fun e=>e h9),hi1, ← hag]
     exact ih'
    ·rw[cq h9,aiv h9];rfl
 exact loop l 0 _ rfl (ah2 _) (fun q hq=>by cases hq) (by omega)
end Go.Md
namespace Go.Md
open Go.Dn
abbrev Th (d:aa):ah:=(d.2.1,d.2.2.1)
def leD (x y:aa):Bool:= !decide (aa5 y x<0)
def Lex (a b:aa):Prop:=a.1<b.1∨(a.1=b.1∧(a.2.1<b.2.1∨(a.2.1=b.2.1∧a.2.2.1≤b.2.2.1)))
theorem Y4 (a b:aa):leD a b=true↔Lex a b:=by
 unfold leD aa5 Lex
 by_cases h1:b.1 - a.1=0
 ·rw[show (b.1 - a.1==0)=true by simpa using h1,afE,aih]
  by_cases h2:b.2.1 - a.2.1=0
  ·rw[show (b.2.1 - a.2.1==0)=true by simpa using h2,afE,aih]
   simp only[afC,ail];omega
  ·rw[dx h2,afD,aii]
   simp only[afC,ail];omega
 ·rw[dx h1,afD,aii]
  simp only[afC,ail];omega
end Go.Md
namespace Go.Md
open Go.Dn
end Go.Md
namespace Go.Md
open Go.Dn
theorem aef {a b:aa} (ha:bF a=0) (hb:bF b=0):dCw a b<0↔¬Lex b a:=by
 obtain⟨a1,a2,a3,_⟩:=bU ha
 obtain⟨b1,b2,b3,_⟩:=bU hb
 unfold dCw Lex
 rw[av (n:=a.1 - b.1) (by omega) (by omega),av (n:=a.2.1 - b.2.1) (by omega) (by omega),av (n:=a.2.2.1 - b.2.2.1) (by omega) (by omega)]
 by_cases h1:a.1 - b.1=0
 ·rw[aiu (show ¬(a.1 - b.1≠0) by omega)]
  by_cases h2:a.2.1 - b.2.1=0
  ·rw[aiu (show ¬(a.2.1 - b.2.1≠0) by omega)];omega
  ·rw[aiv h2];omega
 ·rw[aiv h1];omega
theorem OY:∀ (r:List aa) (p:Option aa) (nb ns:Int),0≤nb→nb≤2000→0≤ns→ns≤2000→(∀ q,p=some q→bF q=0)→dN r p nb ns=0→
 (∀ d,d∈r→bF d=0∧(d.2.1=1→nb<d.2.2.1)∧(d.2.1≠1→ns<d.2.2.1)∧∀ q,p=some q→¬Lex d q)∧r.Pairwise (fun a b=>¬Lex b a)∧r.Pairwise (fun a b=>Th a≠Th b)
 | [],p,nb,ns,_,_,_,_,_,_=>⟨fun _ hd=>(nomatch hd),List.Pairwise.nil,List.Pairwise.nil⟩
 | d::r,p,nb,ns,h1,h2,h3,h4,hp,h=>by
  simp only[dN] at h
  by_cases hf:bF d=0
  rotate_left
  ·rw[aiv hf] at h;exact absurd h hf
  rw[aiu (fun e=>e hf)] at h
  by_cases hpp:(p.any fun q=>decide (0≤dCw q d))=true
  ·rw[aiv hpp] at h;cases h
  rw[aiu hpp] at h
  have hlex:∀ q,p=some q→¬Lex d q:=by
   rintro q rfl
   rw[← aef (hp q rfl) hf]
   have:¬(0≤dCw q d):=fun e=>hpp (aim e)
   omega
  obtain⟨_,_,d3,_⟩:=bU hf
  have step:∀ nb' ns',0≤nb'→nb'≤2000→0≤ns'→ns'≤2000→nb≤nb'→ns≤ns'→(d.2.1=1→nb<d.2.2.1∧nb'=d.2.2.1)→(d.2.1≠1→ns<d.2.2.1∧ns'=d.2.2.1)→dN r (some d) nb' ns'=0→
   (∀ e,e∈d::r→bF e=0∧(e.2.1=1→nb<e.2.2.1)∧(e.2.1≠1→ns<e.2.2.1)∧∀ q,p=some q→¬Lex e q)∧(d::r).Pairwise (fun a b=>¬Lex b a)∧(d::r).Pairwise (fun a b=>Th a≠Th b):=by
   intro nb' ns' g1 g2 g3 g4 g5 g6 g7 g8 hg
   obtain⟨i1,i2,i3⟩:=OY r (some d) nb' ns' g1 g2 g3 g4 (fun q hq=>by cases hq;exact hf) hg
   refine⟨fun e he=> ?_,List.Pairwise.cons (fun e he=>(i1 e he).2.2.2 d rfl) i2,List.Pairwise.cons (fun e he hk=> ?_) i3⟩
   ·rcases ag4.1 he with rfl | he
    ·exact⟨hf,fun e1=>(g7 e1).1,fun e1=>(g8 e1).1,hlex⟩
    ·obtain⟨j1,j2,j3,j4⟩:=i1 e he
     refine⟨j1,fun e1=>by have:=j2 e1;omega,fun e1=>by have:=j3 e1;omega,fun q hq hl=> ?_⟩
     have k1:=hlex q hq
     have k2:=j4 d rfl
     unfold Lex at*
     omega
   ·obtain⟨j1,j2,j3,j4⟩:=i1 e he
    have e1:d.2.1=e.2.1:=(Prod.mk.inj hk).1
    have e2:d.2.2.1=e.2.2.1:=(Prod.mk.inj hk).2
    by_cases hb:d.2.1=1
    ·have:=j2 (by omega)
     have:=(g7 hb).2
     omega
    ·have:=j3 (by omega)
     have:=(g8 hb).2
     omega
  by_cases hb:d.2.1=1
  ·rw[aiv hb] at h
   by_cases hn:d.2.2.1=w64 (nb+1)
   ·rw[aiu (fun e=>e hn)] at h
    rw[av (by omega) (by omega)] at hn
    exact step d.2.2.1 ns (by omega) (by omega) h3 h4 (by omega) (by omega) (fun _=>⟨by omega,rfl⟩) (fun e=>absurd hb e) h
   ·rw[aiv hn] at h;cases h
  ·rw[aiu hb] at h
   by_cases hn:d.2.2.1=w64 (ns+1)
   ·rw[aiu (fun e=>e hn)] at h
    rw[av (by omega) (by omega)] at hn
    exact step nb d.2.2.1 h1 h2 (by omega) (by omega) (by omega) (by omega) (fun e=>absurd e hb) (fun _=>⟨by omega,rfl⟩) h
   ·rw[aiv hn] at h;cases h
theorem ZI {l:List aa} (h:lH l=0):l.Pairwise (fun a b=>leD a b=true)∧l.Pairwise (fun a b=>Th a≠Th b):=by
 have hl:=(Cz h).1
 unfold lH at h
 rw[aiu (by omega)] at h
 obtain⟨_,i2,i3⟩:=OY l none 0 0 (by omega) (by omega) (by omega) (by omega) (fun q hq=>by cases hq) h
 refine⟨i2.imp fun {a b} hab=> ?_,i3⟩
 rw[Y4]
 unfold Lex at*
 omega
end Go.Md
