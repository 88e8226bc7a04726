/-
  Plain facts: deeds, followed one behind the other. No condition.
-/
import Derived.Test.YtcndcnfjdanbeaaGreatDoorXs
import Derived.Test.YtcndcnfjdanbeaaGreatDoorXq
import Derived.Test.YtcndcnfjdanbeaaGreatDoorXo
set_option linter.all false
namespace Go.Md
open Go.Dn
theorem aah {day:Int} {p:Option aL} {x:aL} (h:di day p x=0):(1≤x.1∧x.1≤99999)∧(∀ q,p=some q→q.1<x.1)∧c9 x.2.1=true∧qOk x.2.2.1 false=true∧c9 x.2.2.2.1=true∧inR x.2.2.2.2.1 0 1000000000 4=true∧(day≤x.2.2.2.2.2∧x.2.2.2.2.2≤3652059):=by
 unfold di at h
 split at h
 ·cases h
 ·rename_i h1
  split at h
  ·cases h
  ·rename_i h2
   split at h
   ·cases h
   ·rename_i h3
    split at h
    ·cases h
    ·rename_i h4
     split at h
     ·cases h
     ·rename_i h5
      split at h
      ·cases h
      ·rename_i h6
       split at h
       ·cases h
       ·rename_i h7
        refine⟨ahb.1 h1,fun q hq=> ?_,by simpa using h3,by simpa using h4,by simpa using h5,by simpa using h6,ahb.1 h7⟩
        subst hq
        have:¬x.1≤q.1:=fun e=>h2 (ajG e)
        omega
theorem mL {day:Int}:∀ {r:List aL} {p:Option aL},jS day r p=0→
 (∀ x,x∈r→c9 x.2.1=true∧qOk x.2.2.1 false=true∧c9 x.2.2.2.1=true∧inR x.2.2.2.2.1 0 1000000000 4=true∧(1≤x.1∧x.1≤99999)∧(day≤x.2.2.2.2.2∧x.2.2.2.2.2≤3652059))∧(∀ q,p=some q→∀ x,x∈r→q.1<x.1)∧r.Pairwise (fun a b=>a.1<b.1)
 | [],p,_=>⟨nofun,fun _ _ _ h=>(nomatch h),List.Pairwise.nil⟩
 | y::r,p,h=>by
  simp only[jS] at h
  by_cases hf:di day p y=0
  ·rw[ajN (fun e=>e hf)] at h
   obtain⟨a1,a2,a3⟩:=mL h
   obtain⟨b1,b2,b3,b4,b5,b6,b7⟩:=aah hf
   refine⟨fun x hx=> ?_,fun q hq x hx=> ?_,List.Pairwise.cons (fun x hx=>a2 y rfl x hx) a3⟩
   ·rcases ais.1 hx with rfl | hx
    ·exact⟨b3,b4,b5,b6,b1,b7⟩
    ·exact a1 x hx
   ·rcases ais.1 hx with rfl | hx
    ·exact b2 q hq
    ·have:=b2 q hq
     have:=a2 y rfl x hx
     omega
  ·rw[ajO hf] at h
   exact absurd h hf
theorem nH {o:aj} (h:jI o=0):(1≤cG o∧cG o≤3652059)∧(0≤bX o∧bX o≤1000)∧(je o).length≤500∧je o≠[]∧jS (cG o) (je o) none=0∧(c9 (GK o)=true∧c9 (GJ o)=true∧c9 (LR o)=true∧GJ o≠LR o):=by
 unfold jI at h
 split at h
 ·cases h
 ·rename_i h1
  split at h
  ·cases h
  ·rename_i h2
   split at h
   ·cases h
   ·rename_i h3
    split at h
    ·cases h
    ·rename_i h4
     split at h
     ·cases h
     ·rename_i h5
      split at h
      ·cases h
      ·rename_i h6
       refine⟨ahb.1 h3,ahb.1 h4,by omega,h5,h, ?_, ?_, ?_,h2⟩
       ·cases hb:c9 (GK o)
        ·exact absurd (.inl hb) h1
        ·rfl
       ·cases hb:c9 (GJ o)
        ·exact absurd (.inr (.inl hb)) h1
        ·rfl
       ·cases hb:c9 (LR o)
        ·exact absurd (.inr (.inr hb)) h1
        ·rfl
def lI (x:aL):ai:=⟨x.1,x.2.1,x.2.2.2.1,aR x.2.2.1,0,0,0,x.2.2.2.2.1,x.2.2.2.2.2, -1,0,0,0⟩
abbrev jm (o:aj):List ai:=(je o).map lI
theorem IZ {n:Int}:∀ {A:List ai} {i:Nat},(∀ x,x∈A→x.no≠n)→bU n i A=none
 | [],_,_=>rfl
 | x::r,i,h=>by
  simp only[bU]
  rw[ajN (fun e=>h x (by simp) e.symm)]
  exact IZ (fun y hy=>h y (by simp[hy]))
theorem gG {α:Type} {l:List α} {i:Nat} {y:α} (h:l[i]? =some y):l.take (i+1)=l.take i++[y]:=by
 rw[aiO,h];rfl
theorem L6 {o:aj} (ho:jI o=0) (l:List aa):iy o l []=some ((o,l,mapOf (jm o),[],[],0,()),(jm o).map ai.tup,()):=by
 obtain⟨_,_,hlen,_,hgo,_⟩:=nH ho
 obtain⟨hln,_,hpw⟩:=mL hgo
 obtain⟨onum,obuy,osel,oday,oext,lns⟩:=o
 change lns.length≤500 at hlen
 change ∀ x,x∈lns→_ at hln
 change lns.Pairwise _ at hpw
 unfold iy
 have:=LJ (f:=nx) (fun (_:Unit) (i:Nat)=>((lns,(lns.length:Int),(i:Int),onum,obuy,osel,oday,oext,lns,l,[],[],0,mapOf ((lns.take i).map lI),((lns.take i).map lI).map ai.tup,()):ny)) lns
  (fun (_:Unit) _ _ k=>k ()) (fun _=>some (Sum.inr (onum,obuy,osel,oday,oext,lns,l,[],[],0,mapOf (lns.map lI),(lns.map lI).map ai.tup,()))) (fun s i y again hy=>by
    have hi:i<lns.length:=(ahZ.1 hy).1
    unfold nx
    dsimp only
    rw[ajG (show (i:Int)<(lns.length:Int) by omega),ajC,bR hy,ajq,nM (hln y (aiz hy)).2.1,ajq]
    have hno:bU y.1 0 ((lns.take i).map lI)=none:=IZ fun z hz=>by
     obtain⟨q,hq,rfl⟩:=aiy.1 hz
     obtain⟨j,hj⟩:=aix.1 hq
     have hji:j<i:=by
      have:=(ahZ.1 hj).1
      simp at this;omega
     rw[ah6 hji] at hj
     have h1:=aiH.1 hpw j i (by omega) hi hji
     have e1:lns[j]=q:=by have:=ahX (show j<lns.length by omega);rw[hj] at this;exact (Option.some.inj this).symm
     have e2:lns[i]=y:=by have:=ahX hi;rw[hy] at this;exact (Option.some.inj this).symm
     rw[e1,e2] at h1
     show q.1≠y.1
     omega
    have hs:=Sl y.1 (lI y) rfl ((lns.take i).map lI) 0 hno
    rw[ajn] at hs
    rw[aid,av (n:=(i:Int)+1) (by omega) (by omega)]
    have ht:(lns.take (i+1)).map lI=(lns.take i).map lI++[lI y]:=by rw[gG hy,ail];rfl
    rw[ht]
    refine congrArg again ?_
    refine Prod.ext rfl (Prod.ext rfl (Prod.ext rfl (Prod.ext rfl (Prod.ext rfl (Prod.ext rfl (Prod.ext rfl (Prod.ext rfl (Prod.ext rfl (Prod.ext rfl (Prod.ext rfl (Prod.ext rfl (Prod.ext rfl (Prod.ext hs (Prod.ext ?_ rfl))))))))))))))
    show List.map ai.tup _++[_]=List.map ai.tup (_++[lI y])
    rw[ail];rfl) (fun s again=>by
    unfold nx
    dsimp only
    rw[ajE (show ¬((lns.length:Int)<(lns.length:Int)) by omega),ajB,aiS]) ()
 have hfor:∀ (r:List aL) (i:Nat) (β:Type) (f:Option β),Gq (fun (_:Unit) _ _ k=>k ()) (fun _=>f) r i ()=f:=by
  intro r
  induction r with
  | nil=>intro i β f;rfl
  | cons y r ih=>intro i β f;exact ih (i+1) β f
 refine (congrArg (fun z=>aI z _) ((this _ ?_).trans (hfor _ _ _ _))).trans rfl
 simp only[aie]
 omega
def bM (n:Int):ah:=((few 3 n).1,((few 3 n).2:Int))
theorem pz {n:Int} (h0:0≤n) (h1:n≤1000000000000000):nA n=some (bM n,()):=by
 unfold nA
 rw[RF n (by omega) (by omega),ajq]
 have hb:n.natAbs<4294967296 ^ 99:=ai8 (show n.natAbs<4294967296 ^ 2 by omega) (ajl (by omega) (by omega))
 have:=RJ n hb 3 (by omega)
 rw[show ((3:Nat):Int)=3 from rfl] at this
 dsimp only
 rw[this,ajq,ajO (by have:=(PV 3 n).2.2;omega)]
 rfl
def qa (d:ah):ah:=((few d.2.toNat d.1).1,((few d.2.toNat d.1).2:Int))
theorem SP {d:ah} (h0:0≤d.1) (h1:d.1≤1000000000000000) (h2:0≤d.2) (h3:d.2≤9):zY d=some (qa d,()):=by
 unfold zY
 have loop:∀ (n:Nat) (z:Int) (p:Nat),0≤z→z≤1000000000000000→p≤9→p<n→iter (X:=uG) (β:=uF) n (z,(p:Int),0,0,()) uE=some (Sum.inr ((few p z).1,((few p z).2:Int),0,0,())):=by
  intro n
  induction n with
  | zero=>intro z p _ _ _ h;omega
  | succ n ih=>
   intro z p hz hz1 hp hn
   rw[cl]
   generalize hag:(fun y=>iter n y uE)=again
   unfold uE
   dsimp only
   cases p with
   | zero=>rfl
   | succ p=>
    rw[ajG (show ((p+1:Nat):Int)>0 by omega),ajC,ajq]
    dsimp only
    rw[ahr hz]
    by_cases hm:z % 10=0
    ·rw[show (z % 10==0)=true by simp[hm],ajC,ahq hz,av (n:=z / 10) (by omega) (by omega),av (n:=((p+1:Nat):Int) - 1) (by omega) (by omega),
      show ((p+1:Nat):Int) - 1=(p:Int) by omega, ← hag]
     refine (ih (z / 10) p (by omega) (by omega) (by omega) (by omega)).trans ?_
     rw[show few (p+1) z=few p (z / 10) by rw[few,ajO hm]]
    ·rw[show (z % 10==0)=false by simp[hm],ajB,show few (p+1) z=(z,p+1) by rw[few,ajN hm]]
 obtain⟨k,hk⟩:∃ k:Nat,d.2=k:=⟨d.2.toNat,by omega⟩
 rw[hk]
 have:=loop (d.1.natAbs+(Int.natAbs (k:Int)+(Int.natAbs (0:Int)+(Int.natAbs (0:Int)+2)))) d.1 k h0 h1 (by omega) (by omega)
 rw[this]
 unfold qa
 rw[hk]
 rfl
def aW (x:ai):bn:=(x.no,x.art,x.unit,bM x.ord,qa x.price,x.due,bM x.shp,bM x.rcv,bM x.ret,bM x.opn)
def Nw (x:ai):Prop:=0≤x.price.1∧x.price.1≤1000000000000000∧0≤x.price.2∧x.price.2≤9
theorem Pf {x:ai} (h:LOk x):0≤x.opn∧x.opn≤1000000000000:=by
 have:=h.ret0;have:=h.retr;have:=h.rcvs;have:=h.ord1
 unfold ai.opn
 split<;>omega
theorem BN {A:List ai} {k:Nat} {x:ai} (h:A[k]? =some x) (hx:LOk x) (hp:Nw x):oc (some k) (A.map ai.tup)=some (aW x,()):=by
 obtain⟨p1,p2,p3,p4⟩:=hp
 obtain⟨q1,q2⟩:=Pf hx
 have:=hx.ret0;have:=hx.retr;have:=hx.rcvs;have:=hx.shp1;have:=hx.uA;have:=hx.ord1
 unfold oc
 simp only[ajq,fV h,lN h hx]
 rw[pz (n:=x.ord) (by omega) (by omega),pz (n:=x.shp) (by omega) (by omega),pz (n:=x.rcv) (by omega) (by omega),pz (n:=x.ret) (by omega) (by omega),pz (n:=x.opn) (by omega) (by omega),SP p1 p2 p3 p4]
 rfl
end Go.Md
namespace Go.Md
open Go.Dn
theorem Ik {d:ah} (h:inR d 0 1000000000 4=true):0≤d.1∧d.1≤1000000000000000∧0≤d.2∧d.2≤9:=by
 unfold inR at h
 obtain⟨⟨h1,h2,h3⟩,h4,h5,h6⟩:=ajU h
 refine⟨by omega,by omega,h2,h3⟩
theorem abh {l:List aa} {d:aa} {x:ai} (hw:WOk l x) (hl:∀ d,d∈l→bf d=0) (hp:Nw x):Nw (br l d x).2:=by
 unfold br
 by_cases h1:x.wish<0
 ·rw[ajO h1];exact hp
 rw[ajN h1]
 obtain⟨w,hw1,hw2⟩:=hw.kind (by omega)
 rw[iZ hw1]
 obtain⟨_,_,_,hk,_,_,hu⟩:=bz (hl w (aiz hw1))
 obtain⟨_,up,_⟩:=cR hu
 by_cases h2:dNo w≠dTo d
 ·rw[ajO h2];exact hp
 rw[ajN h2]
 by_cases h3:aF d=5
 ·rw[ajO h3]
  by_cases k2:aF w=2
  ·rw[ajO k2]
   split<;>exact hp
  ·rw[ajN k2]
   by_cases k1:aF w=1
   ·rw[ajO k1];exact hp
   ·rw[ajN k1]
    by_cases k3:aF w=3
    ·rw[ajO k3];exact hp
    ·rw[ajN k3]
     have hk':1≤aF w∧aF w≤11:=hk
     exact Ik (up (by unfold usP;exact ajG (.inr (by omega))))
 ·rw[ajN h3];exact hp
theorem aes {ext:Int} {d:aa} {x:ai} (hp:Nw x):Nw (cm ext d x).2:=by
 unfold cm
 split
 ·split
  ·exact hp
  ·split<;>exact hp
 ·split
  ·split<;>exact hp
  ·split<;>exact hp
theorem ae1 {o:aj} {l:List aa} {i:Nat} {d:aa} {x:ai} (hw:WOk l x) (hl:∀ d,d∈l→bf d=0) (hp:Nw x):Nw (aV o l i d x).2:=by
 have ha:=abh (d:=d) hw hl hp
 have hm:=aes (ext:=bX o) (d:=d) hp
 unfold aV
 split
 ·unfold oV
  split
  ·exact hp
  ·split<;>exact hp
 ·split
  ·split<;>exact ha
  ·split
   ·split<;>exact hp
   ·split
    ·unfold Bi
     split
     ·exact hp
     ·split<;>exact hp
    ·split
     ·split<;>exact hm
     ·exact hm
structure Good (l:List aa) (A:List ai):Prop where
 sound:Sound l A
 pr:∀ x,x∈A→Nw x
theorem wL {o:aj} {l:List aa} {i:Nat} {d:aa} {A:List ai} (hA:Good l A) (hl:∀ d,d∈l→bf d=0) (hd:l[i]? =some d):Good l (bN o l i d A).2:=by
 refine⟨(X8 hA.sound hl hd).1,fun x hx=> ?_⟩
 unfold bN at hx
 by_cases k1:aF d=1
 ·rw[ajO k1] at hx
  split at hx
  ·exact hA.pr x hx
  ·split at hx
   ·exact hA.pr x hx
   ·split at hx
    ·exact hA.pr x hx
    ·rcases aip.1 hx with hx | hx
     ·exact hA.pr x hx
     ·simp only[aiD] at hx
      subst hx
      obtain⟨_,_,_,_,_,_,hu⟩:=bz (hl d (aiz hd))
      exact Ik ((cR hu).2.1 (by rw[k1];rfl))
 ·rw[ajN k1] at hx
  split at hx
  ·exact hA.pr x hx
  ·split at hx
   ·rename_i y hy
    rcases aiB hx with hx | hx
    ·exact hA.pr x hx
    ·subst hx
     have hm:=aiz hy
     exact ae1 (hA.sound.line y hm).2 hl (hA.pr y hm)
   ·exact hA.pr x hx
def jD (n:Int) (A:List ai):Option ai:=(dH n A).bind fun k=>A[k]?
theorem Ax {n:Int} {A:List ai} {k:Nat} {x:ai} (h:dH n A=some k) (hx:A[k]? =some x):jD n A=some x:=by unfold jD;rw[h];exact hx
theorem Rg {o:aj} {l:List aa} {i:Nat} {d:aa} {A:List ai} (hA:Sound l A) (hl:∀ d,d∈l→bf d=0) (hd:l[i]? =some d) (h0:(bN o l i d A).1=0):
 ∃ k x,dH (bA d) (bN o l i d A).2=some k∧(bN o l i d A).2[k]? =some x:=by
 unfold bN at h0 ⊢
 by_cases k1:aF d=1
 ·rw[ajO k1] at h0 ⊢
  split at h0
  ·cases h0
  ·rename_i hf
   split at h0
   ·cases h0
   ·rename_i h5
    split at h0
    ·cases h0
    ·rename_i h6
     rw[ajN h5,ajN h6]
     refine⟨A.length,fY i d, ?_,by simp⟩
     show bU (bA d) 0 (A++[fY i d])=_
     rw[Fh,show bU (bA d) 0 A=none from hf,ajO (show bA d=(fY i d).no from rfl)]
     simp
 ·rw[ajN k1] at h0 ⊢
  split at h0
  ·cases h0
  ·rename_i k hk
   obtain⟨x,hx,hxn⟩:=pU hk
   rw[hx]
   dsimp only
   obtain⟨h1,h2⟩:=hA.line x (aiz hx)
   refine⟨k,_, ?_,PZ hx _⟩
   show bU (bA d) 0 (A.set k _)=_
   rw[Lu A 0 (fun z hz=>by rw[hx] at hz;cases hz;exact (BS (o:=o) h1 h2 hl hd).2.2.1)]
   exact hk
def vN (wt:Int) (i:Nat) (d:aa) (A:List ai) (pts:List aC):List aC:=
 if bA d=wt then (match jD (bA d) A with | some x=>pts++[((i:Int),aW x)] | none=>pts) else pts
def gV (o:aj) (l:List aa) (wt day:Int):List aa→Nat→List ai→List (Int×Int)→List aC→List ai×List (Int×Int)×List aC
 | [],_,A,ref,pts=>(A,ref,pts)
 | d::r,i,A,ref,pts=>
  if day<d.1 then (A,ref,pts)
  else if (bN o l i d A).1≠0 then gV o l wt day r (i+1) (bN o l i d A).2 (ref++[((i:Int),(bN o l i d A).1)]) pts
  else gV o l wt day r (i+1) (bN o l i d A).2 ref (vN wt i d (bN o l i d A).2 pts)
theorem bK {β:Type} {b:Bool} (h:b=true) (x:Option β):chk b x=x:=by rw[h];rfl
theorem aeI {onum obuy osel:Bys} {oday oext:Int} {olns:List aL} {l:List aa} {wt day:Int} (he0:0≤oext) (he1:oext≤1000) (hl:∀ d,d∈l→bf d=0) (hlen:l.length≤2000):
 ∀ (r:List aa) (i n:Nat) (A:List ai) (ref:List (Int×Int)) (pts:List aC),l.drop i=r→i≤l.length→Good l A→ref.length≤i→pts.length≤i→r.length<n→
  iter (X:=mw) (β:=mu) n (day,l,(l.length:Int),(i:Int),onum,obuy,osel,oday,oext,olns,l,mapOf A,ref,pts,wt,A.map ai.tup,()) jt=
   some (Sum.inr (onum,obuy,osel,oday,oext,olns,l,mapOf (gV (onum,obuy,osel,oday,oext,olns) l wt day r i A ref pts).1,(gV (onum,obuy,osel,oday,oext,olns) l wt day r i A ref pts).2.1,(gV (onum,obuy,osel,oday,oext,olns) l wt day r i A ref pts).2.2,wt,(gV (onum,obuy,osel,oday,oext,olns) l wt day r i A ref pts).1.map ai.tup,())):=by
 intro r
 induction r with
 | nil=>
  intro i n A ref pts hd hi hA hr hp hn
  have:i=l.length:=by
   have:=congrArg List.length hd
   simp at this;omega
  subst this
  obtain⟨n,rfl⟩:∃ m,n=m+1:=⟨n - 1,by omega⟩
  rw[cl]
  unfold jt
  dsimp only
  rw[ajE (show ¬((l.length:Int)<(l.length:Int)) by omega),ajB]
  rfl
 | cons d r ih=>
  intro i n A ref pts hdr hi hA hr hp hn
  have hd:l[i]? =some d:=by
   have:=congrArg (·[0]?) hdr
   simpa [ahW] using this
  have hr':l.drop (i+1)=r:=by
   have:=congrArg List.tail hdr
   simpa [aiN] using this
  have hlt:i<l.length:=(ahZ.1 hd).1
  obtain⟨n,rfl⟩:∃ m,n=m+1:=⟨n - 1,by simp at hn;omega⟩
  rw[cl]
  generalize hag:(fun y=>iter n y jt)=again
  unfold jt
  dsimp only
  rw[ajG (show (i:Int)<(l.length:Int) by omega),ajC,bR hd,ajq]
  have hdeed:=Jt (o:=(onum,obuy,osel,oday,oext,olns)) (ref:=ref) (pts:=pts) (wt:=wt) hA.sound hl hd he0 he1
  have hgood:=wL (o:=(onum,obuy,osel,oday,oext,olns)) hA hl hd
  by_cases hday:day<d.1
  ·rw[ajG (show d.1>day from hday),ajC]
   simp only[gV,ajO hday]
  ·rw[ajE (show ¬d.1>day from hday),ajB]
   rw[hdeed,ajq]
   dsimp only
   rw[av (n:=(i:Int)+1) (by omega) (by omega)]
   simp only[gV,ajN hday]
   have nq:maxLen=9223372036854775807:=rfl
   have hi1:(i:Int)+1=((i+1:Nat):Int):=by omega
   by_cases he:(bN (onum,obuy,osel,oday,oext,olns) l i d A).1=0
   ·rw[ajN (fun h=>h he),he]
    rw[zne,ajB]
    by_cases hw:bA d=wt
    ·obtain⟨k,x,hk,hx⟩:=Rg hA.sound hl hd he
     have hxm:=aiz hx
     rw[show (d.2.2.2.2.1==wt)=true by simpa using hw,ajC,gv,show bU d.2.2.2.2.1 0 _=some k from hk,
      BN hx (hgood.sound.line x hxm).1 (hgood.pr x hxm),ajq]
     rw[bK (by rw[agW];exact⟨ajG (by omega),ajG (by omega)⟩)]
     have hpt:vN wt i d (bN (onum,obuy,osel,oday,oext,olns) l i d A).2 pts=pts++[((i:Int),aW x)]:=by
      unfold vN
      rw[ajO hw,Ax hk hx]
     rw[hpt,hi1, ← hag]
     exact ih (i+1) n _ ref _ hr' (by omega) hgood (by omega) (by simp;omega) (by simp at hn;omega)
    ·rw[show (d.2.2.2.2.1==wt)=false by simpa using hw,ajB]
     have hpt:vN wt i d (bN (onum,obuy,osel,oday,oext,olns) l i d A).2 pts=pts:=by
      unfold vN
      rw[ajN hw]
     rw[hpt,hi1, ← hag]
     exact ih (i+1) n _ ref pts hr' (by omega) hgood (by omega) (by omega) (by simp at hn;omega)
   ·rw[ajO he,cI he,ajC]
    rw[bK (by rw[agW];exact⟨ajG (by omega),ajG (by omega)⟩)]
    rw[hi1, ← hag]
    exact ih (i+1) n _ _ pts hr' (by omega) hgood (by simp;omega) (by omega) (by simp at hn;omega)
theorem KL {o:aj} {l:List aa} {wt day:Int} {A:List ai} (he:0≤bX o∧bX o≤1000) (hl:∀ d,d∈l→bf d=0) (hlen:l.length≤2000) (hA:Good l A):
 gQ (o,l,mapOf A,[],[],wt,()) day (A.map ai.tup)=some ((o,l,mapOf (gV o l wt day l 0 A [] []).1,(gV o l wt day l 0 A [] []).2.1,(gV o l wt day l 0 A [] []).2.2,wt,()),(gV o l wt day l 0 A [] []).1.map ai.tup,()):=by
 obtain⟨onum,obuy,osel,oday,oext,olns⟩:=o
 unfold gQ
 refine (congrArg (fun z=>aI z _) (aeI (onum:=onum) (obuy:=obuy) (osel:=osel) (oday:=oday) (olns:=olns) (wt:=wt) (day:=day) he.1 he.2 hl hlen l 0 _ A [] [] rfl (ajo _) hA (ajo _) (ajo _) ?_)).trans rfl
 dsimp only
 omega
theorem wR {o:aj} (ho:jI o=0) (l:List aa):Good l (jm o):=by
 obtain⟨_,_,_,_,hgo,_⟩:=nH ho
 obtain⟨hln,_,_⟩:=mL hgo
 refine⟨⟨fun x hx=> ?_⟩,fun x hx=> ?_⟩
 ·obtain⟨q,hq,rfl⟩:=aiy.1 hx
  obtain⟨_,h2,_⟩:=hln q hq
  obtain⟨u0,u1,_⟩:=l6 h2
  exact⟨⟨by show (0:Int)≤0;omega,by show (0:Int)≤0;omega,by show (0:Int)≤0;omega,by show (0:Int)≤_;omega,u0,u1,fun e=>absurd rfl e⟩,⟨by show (-1:Int)≤ -1;omega,fun h=>by have:(0:Int)≤ -1:=h;omega⟩⟩
 ·obtain⟨q,hq,rfl⟩:=aiy.1 hx
  obtain⟨_,_,_,h4,_⟩:=hln q hq
  exact Ik h4
def fe (o:aj) (l:List aa) (wt day:Int):List ai×List (Int×Int)×List aC:=gV o l wt day l 0 (jm o) [] []
def dX (o:aj) (l:List aa):Int:=if jI o≠0 then jI o else gM l
theorem pQ {o:aj} {l:List aa} (h:dX o l=0):jI o=0∧gM l=0:=by
 unfold dX at h
 split at h
 ·rename_i h1;exact absurd h h1
 ·rename_i h1;exact⟨ahb.1 h1,h⟩
theorem start_eq {o:aj} {l:List aa} (h:dX o l=0) (wt day:Int):∃ q,iy o l []=some ((o,l,mapOf (jm o),[],[],0,()),(jm o).map ai.tup,())∧
 gQ (o,l,mapOf (jm o),[],[],wt,()) day ((jm o).map ai.tup)=some ((o,l,mapOf (fe o l wt day).1,(fe o l wt day).2.1,(fe o l wt day).2.2,wt,()),(fe o l wt day).1.map ai.tup,())∧q=():=by
 obtain⟨h1,h2⟩:=pQ h
 obtain⟨h3,h4⟩:=iM h2
 exact⟨(),L6 h1 l,KL (nH h1).2.1 h4 h3 (wR h1 l),rfl⟩
theorem Ew (o:aj) (l:List aa) (day:Int):wY o l day []=(if dX o l≠0 then some (none,dX o l,[],()) else if ¬(1≤day∧day≤3652059) then some (none,1,[],()) else none):=by
 unfold wY
 rw[zh,ajq,rz]
 dsimp only
 by_cases h:dX o l=0
 ·rw[ajN (show ¬dX o l≠0 from fun e=>e h),show (if jI o≠0 then jI o else gM l)=0 from h,zne,ajB,ajq]
  by_cases hd:1≤day∧day≤3652059
  ·rw[ajN (show ¬¬(1≤day∧day≤3652059) from fun e=>e hd),ajG hd]
   obtain⟨_,e1,e2,_⟩:=start_eq h 0 day
   dsimp only
   rw[ag7,ajB,e1,ajq]
   dsimp only
   rw[e2];rfl
  ·rw[ajO hd,ajE hd];rfl
 ·rw[ajO (show dX o l≠0 from h),show ((if jI o≠0 then jI o else gM l) != 0)=true from cI h,ajC]
  rfl
theorem Js {o:aj} {l:List aa} {day:Int} (h:dX o l=0) (hd:1≤day∧day≤3652059):Cj o l day []=some ((o,l,mapOf (fe o l 0 day).1,(fe o l 0 day).2.1,(fe o l 0 day).2.2,0,()),0,(fe o l 0 day).1.map ai.tup,()):=by
 unfold Cj
 rw[zh,ajq,rz]
 dsimp only
 rw[show (if jI o≠0 then jI o else gM l)=0 from h,zne,ajB,ajq,ajG hd]
 obtain⟨_,e1,e2,_⟩:=start_eq h 0 day
 dsimp only
 rw[ag7,ajB,e1,ajq]
 dsimp only
 rw[e2];rfl
end Go.Md
namespace Go.Md
open Go.Dn
theorem afU:Sk=some (true,()):=by kernel_rfl
end Go.Md
namespace Go.Md
open Go.Dn
theorem adi {n:Int} {A:List ai} {y:ai} (h:y.no≠n):jD n (A++[y])=jD n A:=by
 unfold jD
 have:dH n (A++[y])=dH n A:=by
  unfold dH
  rw[Fh,ajN (fun e=>h e.symm),Option.or_none]
 rw[this]
 cases hk:dH n A with
 | none=>rfl
 | some k=>
  obtain⟨x,hx,_⟩:=pU hk
  have:=(ahZ.1 hx).1
  simp only[ajq]
  rw[ahS this]
theorem adj {n:Int} {A:List ai} {k:Nat} {x y:ai} (hx:A[k]? =some x) (hn:x.no≠n) (hy:y.no=x.no):jD n (A.set k y)=jD n A:=by
 unfold jD
 have:dH n (A.set k y)=dH n A:=Lu A 0 (fun z hz=>by rw[hx] at hz;cases hz;exact hy)
 rw[this]
 cases hj:dH n A with
 | none=>rfl
 | some j=>
  obtain⟨z,hz,hzn⟩:=pU hj
  simp only[ajq]
  have hjk:k≠j:=fun e=>by subst e;rw[hx] at hz;cases hz;exact hn hzn
  rw[ah3 hjk]
theorem ZH {o:aj} {l:List aa} {i:Nat} {d:aa} {A:List ai} {n:Int} (hA:Sound l A) (hl:∀ d,d∈l→bf d=0) (hd:l[i]? =some d) (hn:bA d≠n):
 jD n (bN o l i d A).2=jD n A:=by
 unfold bN
 by_cases k1:aF d=1
 ·rw[ajO k1]
  split
  ·rfl
  ·split
   ·rfl
   ·split
    ·rfl
    ·exact adi hn
 ·rw[ajN k1]
  split
  ·rfl
  ·rename_i k hk
   obtain⟨x,hx,hxn⟩:=pU hk
   rw[hx]
   obtain⟨h1,h2⟩:=hA.line x (aiz hx)
   exact adj hx (by rw[hxn];exact hn) (BS (o:=o) h1 h2 hl hd).2.2.1
theorem VO {o:aj} {l:List aa} (wt wt' day:Int):∀ (r:List aa) (i:Nat) (A:List ai) (ref:List (Int×Int)) (pts pts':List aC),
 (gV o l wt day r i A ref pts).1=(gV o l wt' day r i A ref pts').1∧(gV o l wt day r i A ref pts).2.1=(gV o l wt' day r i A ref pts').2.1
 | [],_,_,_,_,_=>⟨rfl,rfl⟩
 | d::r,i,A,ref,pts,pts'=>by
  simp only[gV]
  split
  ·exact⟨rfl,rfl⟩
  ·split
   ·exact VO wt wt' day r _ _ _ _ _
   ·exact VO wt wt' day r _ _ _ _ _
structure Pts (l:List aa) (wt:Int) (n:Nat) (A:List ai) (pts:List aC):Prop where
 pt:∀ (j:Nat) (p:aC),pts[j]? =some p→0≤p.1∧p.1<n∧(∃ d,idx l p.1=some d∧bA d=wt)∧∀ q,0<j→pts[j - 1]? =some q→q.1<p.1
 last:∀ p,pts.getLast? =some p→∃ x,jD wt A=some x∧p.2=aW x
theorem LY {α β:Type} {f:α→Option β} {g:Option β}:Uh (none:Option α) f g=g:=rfl
end Go.Md
namespace Go.Md
open Go.Dn
theorem Zx {l:List aa} {x:ai} (d':aa) (hw:WOk l x) (h:¬x.wish<0):gd (l++[d']) x=gd l x:=by
 obtain⟨w,hw1,_⟩:=hw.kind (by omega)
 have hlt:=(ahZ.1 hw1).1
 rw[iZ hw1]
 exact iZ (by rw[ahS hlt];exact hw1)
theorem ZB {l:List aa} {d d':aa} {x:ai} (hw:WOk l x):br (l++[d']) d x=br l d x:=by
 unfold br
 by_cases h:x.wish<0
 ·rw[ajO h,ajO h]
 ·rw[ajN h,ajN h,Zx d' hw h]
theorem adX {o:aj} {l:List aa} {i:Nat} {d d':aa} {x:ai} (hw:WOk l x):aV o (l++[d']) i d x=aV o l i d x:=by
 unfold aV
 rw[ZB hw]
theorem acQ {o:aj} {l:List aa} {i:Nat} {d d':aa} {A:List ai} (hA:Sound l A):bN o (l++[d']) i d A=bN o l i d A:=by
 unfold bN
 split
 ·rfl
 ·split
  ·rfl
  ·split
   ·rename_i x hx
    rw[adX (hA.line x (aiz hx)).2]
   ·rfl
theorem Mk (l:List aa) (hl:l.length≤2000):mC l=some (l,()):=by
 have nq:maxLen=9223372036854775807:=rfl
 have hc:(decide ((0+(List.length l))*120≤140737488355328)&&decide (0+(List.length l)≤maxLen))=true:=by
  rw[agW];exact⟨ajG (by omega),ajG (by omega)⟩
 unfold mC
 rw[bK hc]
 cases l with
 | nil=>simp[both]
 | cons x r=>rfl
end Go.Md
namespace Go.Md
open Go.Dn
theorem ot (a b c:Int):lQ a b c=some (decide (b≤a∧a≤c),()):=by
 unfold lQ
 by_cases h:b≤a
 ·rw[aX h];simp[h]
 ·rw[bh h];simp[h]
theorem WI {a b:ah} (ha:ic a) (hb:ic b):vR a b=some ((nk a - nk b).sign,()):=ab0 ha hb
theorem PO:ic ((1000000000,0):ah)∧nk ((1000000000,0):ah)=1000000000*10 ^ 9:=⟨⟨by decide,by decide,by decide⟩,by simp[nk]⟩
theorem aaH {d:ah} (hd:ic d) (pl:Int):inR d 0 1000000000 pl=(!decide (d.1<0)&&(!decide ((nk d - 1000000000*10 ^ 9).sign>0)&& !decide (d.2>pl))):=by
 have h1:(nk d - 1000000000*10 ^ 9).sign>0↔¬d.1≤1000000000*10 ^ d.2.toNat:=by
  rw[← ae7 hd.2.1 hd.2.2,gt_iff_lt,Int.sign_pos_iff]
  omega
 unfold inR
 rw[agZ]
 simp only[ajH,agW,ag5,ajF]
 rw[h1]
 constructor
 ·rintro⟨_,h2,h3,h4⟩;exact⟨by omega,fun h=>h h4,by omega⟩
 ·rintro⟨h2,h3,h4⟩;exact⟨hd,by omega,by omega,ahb.1 h3⟩
theorem aaI {d:ah} (hd:¬ic d) (a b pl:Int):inR d a b pl=false:=ajE (fun h=>hd h.1)
theorem BP (d:ah) (z:Bool):oo d z=some (if qOk d z=true then 0 else 1,()):=by
 unfold oo qOk Cq
 simp only[ajq]
 rw[BO,ajq]
 by_cases hd:ic d
 ·rw[ajO hd,aaH hd 3,WI hd PO.1,PO.2]
  generalize decide (d.1<0)=b1
  generalize (nk d - 1000000000*10 ^ 9).sign=sg
  generalize decide (d.2>3)=b3
  generalize (d.1==0)=b4
  simp only[ajq]
  generalize decide (sg>0)=b2
  cases b1<;>cases b4<;>cases z<;>cases b2<;>cases b3<;>rfl
 ·rw[ajN hd,aaI hd]
  rfl
theorem GZ (d:ah):tT d=some (if inR d 0 1000000000 4=true then 0 else 1,()):=by
 unfold tT Cq
 simp only[ajq]
 rw[BO,ajq]
 by_cases hd:ic d
 ·rw[ajO hd,aaH hd 4,WI hd PO.1,PO.2]
  generalize decide (d.1<0)=b1
  generalize (nk d - 1000000000*10 ^ 9).sign=sg
  generalize decide (d.2>4)=b3
  simp only[ajq]
  generalize decide (sg>0)=b2
  cases b1<;>cases b2<;>cases b3<;>rfl
 ·rw[ajN hd,aaI hd]
  rfl
theorem G9 {k:Int} (hk:1≤k∧k≤11):D7 k=some ((usQ k,usP k,usU k,usA k,usT k),()):=by
 have:k=1∨k=2∨k=3∨k=4∨k=5∨k=6∨k=7∨k=8∨k=9∨k=10∨k=11:=by omega
 rcases this with rfl | rfl | rfl | rfl | rfl | rfl | rfl | rfl | rfl | rfl | rfl<;>rfl
theorem afV (a b:Bool):(bif a then some (b,()) else some (false,()))=some (a&&b,()):=by cases a<;>rfl
theorem bOr (a b:Bool):(bif a then some (true,()) else some (b,()))=some (a||b,()):=by cases a<;>rfl
theorem bAO (a b x:Bool):(bif a then some (b||x,()) else some (x,()))=some (a&&b||x,()):=by cases a<;>rfl
theorem agG (b:Bool):((if b=true then (0:Int) else 1) != 0)= !b:=by cases b<;>rfl
theorem agp {β:Type} (x:Option β):chk true x=x:=rfl
theorem ae3 (a b:Bys):((a++b)==[])=((a==[])&&(b==[])):=by cases a<;>cases b<;>rfl
theorem QK {d:aa} (hk:1≤d.2.2.2.1∧d.2.2.2.1≤11) (hs:d.2.2.2.2.2.1.length+d.2.2.2.2.2.2.2.1.length≤maxLen):xj d=some (C7 d,()):=by
 unfold xj C7 PD
 rw[G9 hk,ajq]
 simp only[BP,GZ,CJ,GS,ot,ajq,ajG hs,agp,agG,ae3]
 rw[show decide (1≤d.2.2.2.2.2.2.2.2.2.1∧d.2.2.2.2.2.2.2.2.2.1≤3652059)=yI d.2.2.2.2.2.2.2.2.2.1 from rfl,show decide (1≤d.2.2.2.2.2.2.2.2.2.2∧d.2.2.2.2.2.2.2.2.2.2≤2000)=Cb d.2.2.2.2.2.2.2.2.2.2 from rfl]
 generalize usQ d.2.2.2.1=uq
 generalize usP d.2.2.2.1=up
 generalize usU d.2.2.2.1=uu
 generalize usA d.2.2.2.1=ua
 generalize usT d.2.2.2.1=ut
 generalize (d.2.2.2.1==2)=k2
 generalize qOk d.2.2.2.2.2.2.1 k2=q
 generalize inR d.2.2.2.2.2.2.2.2.1 0 1000000000 4=p
 generalize yI d.2.2.2.2.2.2.2.2.2.1=dy
 generalize Cb d.2.2.2.2.2.2.2.2.2.2=tt
 generalize c9 d.2.2.2.2.2.1=n1
 generalize c9 d.2.2.2.2.2.2.2.1=n2
 generalize (d.2.2.2.2.2.1==[])=e1
 generalize (d.2.2.2.2.2.2.2.1==[])=e2
 generalize (d.2.2.2.2.2.2.2.2.2.1 != 0)=un
 generalize (d.2.2.2.2.2.2.2.2.2.2 != 0)=to
 simp only[agY]
 generalize (d.2.2.2.2.2.2.1.1==0&&d.2.2.2.2.2.2.1.2==0)=q0
 generalize (d.2.2.2.2.2.2.2.2.1.1==0&&d.2.2.2.2.2.2.2.2.1.2==0)=p0
 simp only[afV,bOr,bAO,ajq]
 generalize h1:(uq&& !q)=c1
 cases c1
 ·simp only[ajB]
  generalize h2:(up&& !p)=c2
  cases c2
  ·simp only[ajB]
   generalize h3:(uu&& !dy)=c3
   cases c3
   ·simp only[ajB]
    generalize h4:(ua&&(!n1|| !n2))=c4
    cases c4
    ·simp only[ajB]
     generalize h5:(ut&& !tt)=c5
     cases c5
     ·simp only[ajB]
      have e:((!uq&& !q0)||((!up&& !p0)||((!uu&&un)||((!ua&& !(e1&&e2))||(!ut&&to)))))=((!ua&& !e1)||((!uq&& !q0)||((!ua&& !e2)||((!up&& !p0)||((!uu&&un)||(!ut&&to)))))):=by
       generalize (!uq&& !q0)=x1
       generalize (!up&& !p0)=x2
       generalize (!uu&&un)=x3
       generalize (!ut&&to)=x4
       cases ua<;>cases e1<;>cases e2<;>cases x1<;>cases x2<;>cases x3<;>cases x4<;>rfl
      rw[e]
      generalize ((!ua&& !e1)||((!uq&& !q0)||((!ua&& !e2)||((!up&& !p0)||((!uu&&un)||(!ut&&to))))))=c6
      cases c6<;>rfl
     ·rfl
    ·rfl
   ·rfl
  ·rfl
 ·rfl
theorem VL (k:Int):CX k=some (decide ((1≤k∧k≤4)∨k=8∨k=10∨k=11),()):=by
 unfold CX
 rw[ot,ajq]
 dsimp only
 by_cases h1:1≤k∧k≤4
 ·rw[ajG h1,ajC,ajG (.inl h1)]
 ·rw[ajE h1,ajB]
  by_cases h2:k=8
  ·subst h2;rfl
  ·rw[cr h2,ajB]
   by_cases h3:k=10
   ·subst h3;rfl
   ·rw[cr h3,ajB]
    by_cases h4:k=11
    ·subst h4;rfl
    ·rw[cr h4,ajE (fun h=>by omega)]
theorem Ux (a b:aa):vS a b=some (dCw a b,()):=by
 unfold vS dCw
 generalize w64 (a.1 - b.1)=x
 generalize w64 (a.2.1 - b.2.1)=y
 generalize w64 (a.2.2.1 - b.2.2.1)=z
 simp only[aia,aie]
 have key:iter (X:=uV) (β:=uU) 8 (3,0,[x,y,z],()) A8=(bif x != 0 then some (Sum.inl (x,())) else bif y != 0 then some (Sum.inl (y,())) else bif z != 0 then some (Sum.inl (z,())) else some (Sum.inr ())):=by kernel_rfl
 show aI (β:=(Int×Unit)) (γ:=Unit) (iter 8 (3,0,[x,y,z],()) A8) _=_
 rw[key]
 by_cases hx:x=0
 ·subst hx
  by_cases hy:y=0
  ·subst hy
   by_cases hz:z=0
   ·subst hz;rfl
   ·have:(z != 0)=true:=by simp[hz]
    rw[this];simp[aI]
  ·have:(y != 0)=true:=by simp[hy]
   rw[this];simp[aI,hy]
 ·have:(x != 0)=true:=by simp[hx]
  rw[this];simp[aI,hx]
def p8 (b:Int) (l:List aa):Int:=l.foldl (fun m d=>if d.2.1=b then d.2.2.1 else m) 0
theorem Pv (b:Int) (l:List aa) (hl:l.length≤2000):DY l b=some (p8 b l,()):=by
 unfold DY
 have:∀ n,l.length<n→iter (X:=vT) (β:=Ba) n (b,0,l,(l.length:Int),0,()) A9=some (Sum.inr (p8 b l,())):=by
  intro n hn
  refine bS (Inv:=fun i X=>X=((b,p8 b (l.take i),l,(l.length:Int),(i:Int),()):vT)) l.length (fun z=>z=some (Sum.inr (p8 b l,()))) ?_ ?_ n 0 _ rfl (ajo _) (by omega)
  ·rintro i X again hi rfl hag
   unfold A9
   dsimp only
   obtain⟨y,hy⟩:∃ y,l[i]? =some y:=⟨l[i],ahX hi⟩
   rw[ajG (show (i:Int)<(l.length:Int) by omega),ajC,bR hy,ajq,av (n:=(i:Int)+1) (by omega) (by omega)]
   have e:p8 b (l.take (i+1))=if y.2.1=b then y.2.2.1 else p8 b (l.take i):=by
    unfold p8
    rw[gG hy,ahQ];rfl
   by_cases hb:y.2.1=b
   ·rw[show (y.2.1==b)=true by simpa using hb,ajC]
    rw[ajO hb] at e
    exact hag _ (by rw[e];rfl)
   ·rw[cr hb,ajB]
    rw[ajN hb] at e
    exact hag _ (by rw[e];rfl)
  ·rintro X again rfl
   unfold A9
   dsimp only
   rw[ajE (show ¬(l.length:Int)<(l.length:Int) by omega),ajB,aiS]
 rw[this _ (by omega)]
 rfl
theorem ad8 {a b:aa} (ha:bf a=0) (hb:bf b=0):decide (dCw b a≤0)=decide (0≤dCw a b):=by
 obtain⟨a1,a2,a3,_⟩:=bz ha
 obtain⟨b1,b2,b3,_⟩:=bz hb
 unfold dCw
 rw[av (n:=b.1 - a.1) (by omega) (by omega),av (n:=a.1 - b.1) (by omega) (by omega),av (n:=b.2.1 - a.2.1) (by omega) (by omega),av (n:=a.2.1 - b.2.1) (by omega) (by omega),
  av (n:=b.2.2.1 - a.2.2.1) (by omega) (by omega),av (n:=a.2.2.1 - b.2.2.1) (by omega) (by omega),ajD]
 by_cases h1:a.1 - b.1=0
 ·rw[ajN (show ¬(b.1 - a.1≠0) by omega),ajN (show ¬(a.1 - b.1≠0) by omega)]
  by_cases h2:a.2.1 - b.2.1=0
  ·rw[ajN (show ¬(b.2.1 - a.2.1≠0) by omega),ajN (show ¬(a.2.1 - b.2.1≠0) by omega)];omega
  ·rw[ajO (show (b.2.1 - a.2.1≠0) by omega),ajO (show (a.2.1 - b.2.1≠0) by omega)];omega
 ·rw[ajO (show (b.1 - a.1≠0) by omega),ajO (show (a.1 - b.1≠0) by omega)];omega
def Txt (d:aa):Prop:=d.2.2.2.2.2.1.length+d.2.2.2.2.2.2.2.1.length≤maxLen
theorem SB (l:List aa) (hs:∀ d,d∈l→Txt d):yQ l=some (gM l,()):=by
 unfold yQ gM
 by_cases hlen:2000<l.length
 ·rw[ajO hlen,ajG (show (l.length:Int)>2000 by omega),ajC]
 rw[ajN hlen,ajE (show ¬(l.length:Int)>2000 by omega),ajB]
 have loop:∀ (r:List aa) (i n:Nat),l.drop i=r→i≤l.length→(∀ q,bQ l i=some q→bf q=0)→r.length<n→
  aI (β:=(Int×Unit)) (γ:=Unit) (iter (X:=s8) (β:=s7) n (l,l,(l.length:Int),(i:Int),()) om) (fun _=>some (0,()))=some (cu r (bQ l i) (p8 1 (l.take i)) (p8 2 (l.take i)),()):=by
  intro r
  induction r with
  | nil=>
   intro i n hd hi _ hn
   have:i=l.length:=by
    have:=congrArg List.length hd
    simp at this;omega
   subst this
   obtain⟨n,rfl⟩:∃ m,n=m+1:=⟨n - 1,by omega⟩
   rw[cl]
   unfold om
   dsimp only
   rw[ajE (show ¬((l.length:Int)<(l.length:Int)) by omega),ajB]
   rfl
  | cons d r ih=>
   intro i n hdr hi hq hn
   have hd:l[i]? =some d:=by
    have:=congrArg (·[0]?) hdr
    simpa [ahW] using this
   have hr':l.drop (i+1)=r:=by
    have:=congrArg List.tail hdr
    simpa [aiN] using this
   have hlt:i<l.length:=(ahZ.1 hd).1
   obtain⟨n,rfl⟩:∃ m,n=m+1:=⟨n - 1,by simp at hn;omega⟩
   rw[cl]
   generalize hag:(fun y=>iter n y om)=again
   unfold om
   dsimp only
   rw[ajG (show (i:Int)<(l.length:Int) by omega),ajC,bR hd,ajq,CJ,ajq]
   simp only[cu]
   by_cases h1:1≤d.1∧d.1≤3652059
   rotate_left
   ·have e:bf d=1:=by unfold bf;rw[ajO h1]
    rw[ajE h1,ajO (show bf d≠0 by omega),e];rfl
   rw[ajG h1,ag7,ajB]
   have eby:(bif d.2.1 != 1 then some (d.2.1 != 2,()) else some (false,()))=some (!decide (1≤d.2.1∧d.2.1≤2),()):=by
    rw[afV]
    congr 2
    by_cases k1:d.2.1=1
    ·simp[k1]
    ·by_cases k2:d.2.1=2
     ·simp[k2]
     ·rw[cI k1,cI k2,ajE (by omega)];rfl
   rw[eby,ajq]
   dsimp only
   by_cases h2:1≤d.2.1∧d.2.1≤2
   rotate_left
   ·have e:bf d=4:=by unfold bf;rw[ajN (show ¬¬_ from fun e=>e h1),ajO h2]
    rw[ajE h2,ajO (show bf d≠0 by omega),e];rfl
   rw[ajG h2,ag7,ajB,ot,ajq]
   dsimp only
   by_cases h3:1≤d.2.2.1∧d.2.2.1≤2000
   rotate_left
   ·have e:bf d=1:=by unfold bf;rw[ajN (show ¬¬_ from fun e=>e h1),ajN (show ¬¬_ from fun e=>e h2),ajO h3]
    rw[ajE h3,ajO (show bf d≠0 by omega),e];rfl
   rw[ajG h3,ag7,ajB,ot,ajq]
   dsimp only
   by_cases h4:1≤d.2.2.2.1∧d.2.2.2.1≤11
   rotate_left
   ·have e:bf d=4:=by unfold bf;rw[ajN (show ¬¬_ from fun e=>e h1),ajN (show ¬¬_ from fun e=>e h2),ajN (show ¬¬_ from fun e=>e h3),ajO h4]
    rw[ajE h4,ajO (show bf d≠0 by omega),e];rfl
   rw[ajG h4,ag7,ajB,VL,ajq]
   dsimp only
   by_cases h5:(d.2.2.2.1=5∨d.2.2.2.1=6∨d.2.2.2.1=7∨d.2.2.2.1=9)↔d.2.1=2
   rotate_left
   ·have e:bf d=4:=by unfold bf;rw[ajN (show ¬¬_ from fun e=>e h1),ajN (show ¬¬_ from fun e=>e h2),ajN (show ¬¬_ from fun e=>e h3),ajN (show ¬¬_ from fun e=>e h4),ajO h5]
    have e2:(decide ((1≤d.2.2.2.1∧d.2.2.2.1≤4)∨d.2.2.2.1=8∨d.2.2.2.1=10∨d.2.2.2.1=11)==(d.2.1==1))=false:=by
     by_cases k:d.2.1=1
     ·rw[k,show ((1:Int)==1)=true from rfl,ajE (fun h=>h5 (by omega))];rfl
     ·rw[cr k,ajG (Classical.byContradiction fun h=>h5 (by omega))];rfl
    rw[e2,ajO (show bf d≠0 by omega),e];rfl
   have e5:(decide ((1≤d.2.2.2.1∧d.2.2.2.1≤4)∨d.2.2.2.1=8∨d.2.2.2.1=10∨d.2.2.2.1=11)==(d.2.1==1))=true:=by
    by_cases k:d.2.1=1
    ·rw[k,show ((1:Int)==1)=true from rfl,ajG (by omega)];rfl
    ·rw[cr k,ajE (by omega)];rfl
   rw[e5,ag7,ajB,ot,ajq]
   dsimp only
   by_cases h6:1≤d.2.2.2.2.1∧d.2.2.2.2.1≤99999
   rotate_left
   ·have e:bf d=1:=by unfold bf;rw[ajN (show ¬¬_ from fun e=>e h1),ajN (show ¬¬_ from fun e=>e h2),ajN (show ¬¬_ from fun e=>e h3),ajN (show ¬¬_ from fun e=>e h4),ajN (show ¬¬_ from fun e=>e h5),ajO h6]
    rw[ajE h6,ajO (show bf d≠0 by omega),e];rfl
   have ed:bf d=C7 d:=by unfold bf;rw[ajN (show ¬¬_ from fun e=>e h1),ajN (show ¬¬_ from fun e=>e h2),ajN (show ¬¬_ from fun e=>e h3),ajN (show ¬¬_ from fun e=>e h4),ajN (show ¬¬_ from fun e=>e h5),ajN (show ¬¬_ from fun e=>e h6)]
   rw[ajG h6,ag7,ajB,QK h4 (hs d (aiz hd)),ajq, ← ed]
   dsimp only
   by_cases h7:bf d=0
   rotate_left
   ·rw[cI h7,ajO h7];rfl
   rw[h7,zne,ajB,ajN (show ¬(0:Int)≠0 from fun e=>e rfl)]
   have epr:(bif decide ((i:Int)>0) then Option.bind (idx l (w64 ((i:Int) - 1))) fun y10=>Option.bind (vS d y10) fun r11=>some (decide (r11.1≤0),()) else some (false,()))=some ((bQ l i).any fun q=>decide (0≤dCw q d),()):=by
    cases i with
    | zero=>rfl
    | succ i=>
     obtain⟨q,hqq⟩:∃ q,l[i]? =some q:=⟨l[i],ahX (by omega)⟩
     rw[ajG (show ((i+1:Nat):Int)>0 by omega),ajC,av (n:=((i+1:Nat):Int) - 1) (by omega) (by omega),show ((i+1:Nat):Int) - 1=(i:Int) by omega,bR hqq,ajq,Ux,ajq]
     show some (decide (dCw d q≤0),())=some ((bQ l (i+1)).any _,())
     rw[show bQ l (i+1)=some q from hqq,ad8 (hq q hqq) h7]
     rfl
   rw[epr,ajq]
   dsimp only
   cases h8:((bQ l i).any fun q=>decide (0≤dCw q d))
   rotate_left
   ·rfl
   rw[ajB,ajN (show ¬false=true from ag1)]
   rw[bK (by simp only[agW,ajH];omega),ahs,ahG,Pv _ _ (by simp;omega),ajq]
   dsimp only
   have htk:∀ b,p8 b (l.take (i+1))=if d.2.1=b then d.2.2.1 else p8 b (l.take i):=by
    intro b
    unfold p8
    rw[gG hd,ahQ];rfl
   have hnext:∀ q,bQ l (i+1)=some q→bf q=0:=by
    intro q hqq
    have:l[i]? =some q:=hqq
    rw[hd] at this;cases this;exact h7
   have ih':=ih (i+1) n hr' (by omega) hnext (by simp at hn;omega)
   rw[show bQ l (i+1)=some d from hd,htk 1,htk 2] at ih'
   rw[av (n:=(i:Int)+1) (by omega) (by omega)]
   have hi1:(i:Int)+1=((i+1:Nat):Int):=by omega
   by_cases k1:d.2.1=1
   ·rw[ajO k1]
    rw[ajO k1,ajN (show ¬d.2.1=2 by omega)] at ih'
    rw[k1]
    by_cases h9:d.2.2.1=w64 (p8 1 (l.take i)+1)
    ·rw[show (d.2.2.1 != w64 (p8 1 (l.take i)+1))=false by simpa using h9,ajB,ajN (fun e=>e h9),hi1, ← hag]
     exact ih'
    ·rw[cI h9,ajO h9];rfl
   ·have k2:d.2.1=2:=by omega
    rw[ajN k1]
    rw[ajN k1,ajO k2] at ih'
    rw[k2]
    by_cases h9:d.2.2.1=w64 (p8 2 (l.take i)+1)
    ·rw[show (d.2.2.1 != w64 (p8 2 (l.take i)+1))=false by simpa using h9,ajB,ajN (fun e=>e h9),hi1, ← hag]
     exact ih'
    ·rw[cI h9,ajO h9];rfl
 exact loop l 0 _ rfl (ajo _) (fun q hq=>by cases hq) (by omega)
end Go.Md
namespace Go.Md
open Go.Dn
abbrev UU (d:aa):ah:=(d.2.1,d.2.2.1)
def leD (x y:aa):Bool:= !decide (acO y x<0)
def Lex (a b:aa):Prop:=a.1<b.1∨(a.1=b.1∧(a.2.1<b.2.1∨(a.2.1=b.2.1∧a.2.2.1≤b.2.2.1)))
theorem aaQ (a b:aa):leD a b=true↔Lex a b:=by
 unfold leD acO Lex
 by_cases h1:b.1 - a.1=0
 ·rw[show (b.1 - a.1==0)=true by simpa using h1,ag7,ajB]
  by_cases h2:b.2.1 - a.2.1=0
  ·rw[show (b.2.1 - a.2.1==0)=true by simpa using h2,ag7,ajB]
   simp only[ag5,ajF];omega
  ·rw[cr h2,ag6,ajC]
   simp only[ag5,ajF];omega
 ·rw[cr h1,ag6,ajC]
  simp only[ag5,ajF];omega
end Go.Md
namespace Go.Md
open Go.Dn
end Go.Md
namespace Go.Md
open Go.Dn
theorem acN {a b:aa} (ha:bf a=0) (hb:bf b=0):dCw a b<0↔¬Lex b a:=by
 obtain⟨a1,a2,a3,_⟩:=bz ha
 obtain⟨b1,b2,b3,_⟩:=bz hb
 unfold dCw Lex
 rw[av (n:=a.1 - b.1) (by omega) (by omega),av (n:=a.2.1 - b.2.1) (by omega) (by omega),av (n:=a.2.2.1 - b.2.2.1) (by omega) (by omega)]
 by_cases h1:a.1 - b.1=0
 ·rw[ajN (show ¬(a.1 - b.1≠0) by omega)]
  by_cases h2:a.2.1 - b.2.1=0
  ·rw[ajN (show ¬(a.2.1 - b.2.1≠0) by omega)];omega
  ·rw[ajO h2];omega
 ·rw[ajO h1];omega
theorem Rh:∀ (r:List aa) (p:Option aa) (nb ns:Int),0≤nb→nb≤2000→0≤ns→ns≤2000→(∀ q,p=some q→bf q=0)→cu r p nb ns=0→
 (∀ d,d∈r→bf d=0∧(d.2.1=1→nb<d.2.2.1)∧(d.2.1≠1→ns<d.2.2.1)∧∀ q,p=some q→¬Lex d q)∧r.Pairwise (fun a b=>¬Lex b a)∧r.Pairwise (fun a b=>UU a≠UU b)
 | [],p,nb,ns,_,_,_,_,_,_=>⟨fun _ hd=>(nomatch hd),List.Pairwise.nil,List.Pairwise.nil⟩
 | d::r,p,nb,ns,h1,h2,h3,h4,hp,h=>by
  simp only[cu] at h
  by_cases hf:bf d=0
  rotate_left
  ·rw[ajO hf] at h;exact absurd h hf
  rw[ajN (fun e=>e hf)] at h
  by_cases hpp:(p.any fun q=>decide (0≤dCw q d))=true
  ·rw[ajO hpp] at h;cases h
  rw[ajN hpp] at h
  have hlex:∀ q,p=some q→¬Lex d q:=by
   rintro q rfl
   rw[← acN (hp q rfl) hf]
   have:¬(0≤dCw q d):=fun e=>hpp (ajG e)
   omega
  obtain⟨_,_,d3,_⟩:=bz hf
  have step:∀ nb' ns',0≤nb'→nb'≤2000→0≤ns'→ns'≤2000→nb≤nb'→ns≤ns'→(d.2.1=1→nb<d.2.2.1∧nb'=d.2.2.1)→(d.2.1≠1→ns<d.2.2.1∧ns'=d.2.2.1)→cu r (some d) nb' ns'=0→
   (∀ e,e∈d::r→bf e=0∧(e.2.1=1→nb<e.2.2.1)∧(e.2.1≠1→ns<e.2.2.1)∧∀ q,p=some q→¬Lex e q)∧(d::r).Pairwise (fun a b=>¬Lex b a)∧(d::r).Pairwise (fun a b=>UU a≠UU b):=by
   intro nb' ns' g1 g2 g3 g4 g5 g6 g7 g8 hg
   obtain⟨i1,i2,i3⟩:=Rh r (some d) nb' ns' g1 g2 g3 g4 (fun q hq=>by cases hq;exact hf) hg
   refine⟨fun e he=> ?_,List.Pairwise.cons (fun e he=>(i1 e he).2.2.2 d rfl) i2,List.Pairwise.cons (fun e he hk=> ?_) i3⟩
   ·rcases ais.1 he with rfl | he
    ·exact⟨hf,fun e1=>(g7 e1).1,fun e1=>(g8 e1).1,hlex⟩
    ·obtain⟨j1,j2,j3,j4⟩:=i1 e he
     refine⟨j1,fun e1=>by have:=j2 e1;omega,fun e1=>by have:=j3 e1;omega,fun q hq hl=> ?_⟩
     have k1:=hlex q hq
     have k2:=j4 d rfl
     unfold Lex at*
     omega
   ·obtain⟨j1,j2,j3,j4⟩:=i1 e he
    have e1:d.2.1=e.2.1:=(Prod.mk.inj hk).1
    have e2:d.2.2.1=e.2.2.1:=(Prod.mk.inj hk).2
    by_cases hb:d.2.1=1
    ·have:=j2 (by omega)
     have:=(g7 hb).2
     omega
    ·have:=j3 (by omega)
     have:=(g8 hb).2
     omega
  by_cases hb:d.2.1=1
  ·rw[ajO hb] at h
   by_cases hn:d.2.2.1=w64 (nb+1)
   ·rw[ajN (fun e=>e hn)] at h
    rw[av (by omega) (by omega)] at hn
    exact step d.2.2.1 ns (by omega) (by omega) h3 h4 (by omega) (by omega) (fun _=>⟨by omega,rfl⟩) (fun e=>absurd hb e) h
   ·rw[ajO hn] at h;cases h
  ·rw[ajN hb] at h
   by_cases hn:d.2.2.1=w64 (ns+1)
   ·rw[ajN (fun e=>e hn)] at h
    rw[av (by omega) (by omega)] at hn
    exact step nb d.2.2.1 h1 h2 (by omega) (by omega) (by omega) (by omega) (fun e=>absurd e hb) (fun _=>⟨by omega,rfl⟩) h
   ·rw[ajO hn] at h;cases h
theorem Te {l:List aa} (h:gM l=0):l.Pairwise (fun a b=>leD a b=true)∧l.Pairwise (fun a b=>UU a≠UU b):=by
 have hl:=(iM h).1
 unfold gM at h
 rw[ajN (by omega)] at h
 obtain⟨_,i2,i3⟩:=Rh l none 0 0 (by omega) (by omega) (by omega) (by omega) (fun q hq=>by cases hq) h
 refine⟨i2.imp fun {a b} hab=> ?_,i3⟩
 rw[aaQ]
 unfold Lex at*
 omega
end Go.Md
