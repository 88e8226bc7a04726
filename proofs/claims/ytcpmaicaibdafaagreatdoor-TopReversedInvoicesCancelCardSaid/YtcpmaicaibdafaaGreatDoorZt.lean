/-
  Plain facts: deeds, followed one behind the other. No condition.
-/
import Derived.Test.YtcpmaicaibdafaaGreatDoorZs
import Derived.Test.YtcpmaicaibdafaaGreatDoorZq
import Derived.Test.YtcpmaicaibdafaaGreatDoorZo
set_option linter.all false
namespace Go.Md
open Go.Dn
theorem Zo {day:Int} {p:Option bC} {x:bC} (h:jE day p x=0):(1≤x.1∧x.1≤99999)∧(∀ q,p=some q→q.1<x.1)∧cM x.2.1=true∧qOk x.2.2.1 false=true∧cM x.2.2.2.1=true∧inR x.2.2.2.2.1 0 1000000000 4=true∧(day≤x.2.2.2.2.2∧x.2.2.2.2.2≤3652059):=by
 unfold jE at h
 split at h
 ·cases h
 ·rename_i h1
  split at h
  ·cases h
  ·rename_i h2
   split at h
   ·cases h
   ·rename_i h3
    split at h
    ·cases h
    ·rename_i h4
     split at h
     ·cases h
     ·rename_i h5
      split at h
      ·cases h
      ·rename_i h6
       split at h
       ·cases h
       ·rename_i h7
        refine⟨agS.1 h1,fun q hq=> ?_,by simpa using h3,by simpa using h4,by simpa using h5,by simpa using h6,agS.1 h7⟩
        subst hq
        have:¬x.1≤q.1:=fun e=>h2 (ajr e)
        omega
theorem A7 {day:Int}:∀ {r:List bC} {p:Option bC},nN day r p=0→
 (∀ x,x∈r→cM x.2.1=true∧qOk x.2.2.1 false=true∧cM x.2.2.2.1=true∧inR x.2.2.2.2.1 0 1000000000 4=true∧(1≤x.1∧x.1≤99999)∧(day≤x.2.2.2.2.2∧x.2.2.2.2.2≤3652059))∧(∀ q,p=some q→∀ x,x∈r→q.1<x.1)∧r.Pairwise (fun a b=>a.1<b.1)
 | [],p,_=>⟨nofun,fun _ _ _ h=>(nomatch h),List.Pairwise.nil⟩
 | y::r,p,h=>by
  simp only[nN] at h
  by_cases hf:jE day p y=0
  ·rw[ajy (fun e=>e hf)] at h
   obtain⟨a1,a2,a3⟩:=A7 h
   obtain⟨b1,b2,b3,b4,b5,b6,b7⟩:=Zo hf
   refine⟨fun x hx=> ?_,fun q hq x hx=> ?_,List.Pairwise.cons (fun x hx=>a2 y rfl x hx) a3⟩
   ·rcases ah7.1 hx with rfl | hx
    ·exact⟨b3,b4,b5,b6,b1,b7⟩
    ·exact a1 x hx
   ·rcases ah7.1 hx with rfl | hx
    ·exact b2 q hq
    ·have:=b2 q hq
     have:=a2 y rfl x hx
     omega
  ·rw[ajz hf] at h
   exact absurd h hf
theorem Iw {o:av} (h:qO o=0):(1≤jC o∧jC o≤3652059)∧(0≤gU o∧gU o≤1000)∧(vP o).length≤500∧vP o≠[]∧nN (jC o) (vP o) none=0∧(cM (Rn o)=true∧cM (Oh o)=true∧cM (Ro o)=true∧Oh o≠Ro o):=by
 unfold qO at h
 split at h
 ·cases h
 ·rename_i h1
  split at h
  ·cases h
  ·rename_i h2
   split at h
   ·cases h
   ·rename_i h3
    split at h
    ·cases h
    ·rename_i h4
     split at h
     ·cases h
     ·rename_i h5
      split at h
      ·cases h
      ·rename_i h6
       refine⟨agS.1 h3,agS.1 h4,by omega,h5,h, ?_, ?_, ?_,h2⟩
       ·cases hb:cM (Rn o)
        ·exact absurd (.inl hb) h1
        ·rfl
       ·cases hb:cM (Oh o)
        ·exact absurd (.inr (.inl hb)) h1
        ·rfl
       ·cases hb:cM (Ro o)
        ·exact absurd (.inr (.inr hb)) h1
        ·rfl
def wM (x:bC):az:=⟨x.1,x.2.1,x.2.2.2.1,bV x.2.2.1,0,0,0,x.2.2.2.2.1,x.2.2.2.2.2, -1,0,0,0⟩
abbrev zL (o:av):List az:=(vP o).map wM
theorem Qc {n:Int}:∀ {A:List az} {i:Nat},(∀ x,x∈A→x.no≠n)→cG n i A=none
 | [],_,_=>rfl
 | x::r,i,h=>by
  simp only[cG]
  rw[ajy (fun e=>h x (by simp) e.symm)]
  exact Qc (fun y hy=>h y (by simp[hy]))
theorem F8 {α:Type} {l:List α} {i:Nat} {y:α} (h:l[i]? =some y):l.take (i+1)=l.take i++[y]:=by
 rw[aiz,h];rfl
theorem LF {o:av} (ho:qO o=0) (l:List aj):mP o l []=some ((o,l,mapOf (zL o),[],[],0,()),(zL o).map az.tup,()):=by
 obtain⟨_,_,hlen,_,hgo,_⟩:=Iw ho
 obtain⟨hln,_,hpw⟩:=A7 hgo
 obtain⟨onum,obuy,osel,oday,oext,lns⟩:=o
 change lns.length≤500 at hlen
 change ∀ x,x∈lns→_ at hln
 change lns.Pairwise _ at hpw
 unfold mP
 have:=Ri (f:=qi) (fun (_:Unit) (i:Nat)=>((lns,(lns.length:Int),(i:Int),onum,obuy,osel,oday,oext,lns,l,[],[],0,mapOf ((lns.take i).map wM),((lns.take i).map wM).map az.tup,()):qj)) lns
  (fun (_:Unit) _ _ k=>k ()) (fun _=>some (Sum.inr (onum,obuy,osel,oday,oext,lns,l,[],[],0,mapOf (lns.map wM),(lns.map wM).map az.tup,()))) (fun s i y again hy=>by
    have hi:i<lns.length:=(ahH.1 hy).1
    unfold qi
    dsimp only
    rw[ajr (show (i:Int)<(lns.length:Int) by omega),ajo,gX hy,ajb,qA (hln y (aie hy)).2.1,ajb]
    have hno:cG y.1 0 ((lns.take i).map wM)=none:=Qc fun z hz=>by
     obtain⟨q,hq,rfl⟩:=aid.1 hz
     obtain⟨j,hj⟩:=aic.1 hq
     have hji:j<i:=by
      have:=(ahH.1 hj).1
      simp at this;omega
     rw[ahP hji] at hj
     have h1:=aio.1 hpw j i (by omega) hi hji
     have e1:lns[j]=q:=by have:=ahF (show j<lns.length by omega);rw[hj] at this;exact (Option.some.inj this).symm
     have e2:lns[i]=y:=by have:=ahF hi;rw[hy] at this;exact (Option.some.inj this).symm
     rw[e1,e2] at h1
     show q.1≠y.1
     omega
    have hs:=Rk y.1 (wM y) rfl ((lns.take i).map wM) 0 hno
    rw[ai7] at hs
    rw[ahU,aC (n:=(i:Int)+1) (by omega) (by omega)]
    have ht:(lns.take (i+1)).map wM=(lns.take i).map wM++[wM y]:=by rw[F8 hy,ah0];rfl
    rw[ht]
    refine congrArg again ?_
    refine Prod.ext rfl (Prod.ext rfl (Prod.ext rfl (Prod.ext rfl (Prod.ext rfl (Prod.ext rfl (Prod.ext rfl (Prod.ext rfl (Prod.ext rfl (Prod.ext rfl (Prod.ext rfl (Prod.ext rfl (Prod.ext rfl (Prod.ext hs (Prod.ext ?_ rfl))))))))))))))
    show List.map az.tup _++[_]=List.map az.tup (_++[wM y])
    rw[ah0];rfl) (fun s again=>by
    unfold qi
    dsimp only
    rw[ajq (show ¬((lns.length:Int)<(lns.length:Int)) by omega),ajn,List.take_length]) ()
 have hfor:∀ (r:List bC) (i:Nat) (β:Type) (f:Option β),I7 (fun (_:Unit) _ _ k=>k ()) (fun _=>f) r i ()=f:=by
  intro r
  induction r with
  | nil=>intro i β f;rfl
  | cons y r ih=>intro i β f;exact ih (i+1) β f
 refine (congrArg (fun z=>aT z _) ((this _ ?_).trans (hfor _ _ _ _))).trans rfl
 simp only[ahV]
 omega
def nu (n:Int):ai:=((few 3 n).1,((few 3 n).2:Int))
theorem wP {n:Int} (h0:0≤n) (h1:n≤1000000000000000):sS n=some (nu n,()):=by
 unfold sS
 rw[di n (by omega) (by omega),ajb]
 have hb:n.natAbs<4294967296 ^ 99:=aiS (show n.natAbs<4294967296 ^ 2 by omega) (ai5 (by omega) (by omega))
 have:=Gr n hb 3 (by omega)
 rw[show ((3:Nat):Int)=3 from rfl] at this
 dsimp only
 rw[this,ajb,ajz (by have:=(Ge 3 n).2.2;omega)]
 rfl
def XN (d:ai):ai:=((few d.2.toNat d.1).1,((few d.2.toNat d.1).2:Int))
theorem RR {d:ai} (h0:0≤d.1) (h1:d.1≤1000000000000000) (h2:0≤d.2) (h3:d.2≤9):CF d=some (XN d,()):=by
 unfold CF
 have loop:∀ (n:Nat) (z:Int) (p:Nat),0≤z→z≤1000000000000000→p≤9→p<n→iter (X:=xP) (β:=xO) n (z,(p:Int),0,0,()) xN=some (Sum.inr ((few p z).1,((few p z).2:Int),0,0,())):=by
  intro n
  induction n with
  | zero=>intro z p _ _ _ h;omega
  | succ n ih=>
   intro z p hz hz1 hp hn
   rw[bY]
   generalize hag:(fun y=>iter n y xN)=again
   unfold xN
   dsimp only
   cases p with
   | zero=>rfl
   | succ p=>
    rw[ajr (show ((p+1:Nat):Int)>0 by omega),ajo,ajb]
    dsimp only
    rw[Int.tmod_eq_emod_of_nonneg hz]
    by_cases hm:z % 10=0
    ·rw[show (z % 10==0)=true by simp[hm],ajo,ahb hz,aC (n:=z / 10) (by omega) (by omega),aC (n:=((p+1:Nat):Int) - 1) (by omega) (by omega),
      show ((p+1:Nat):Int) - 1=(p:Int) by omega, ← hag]
     refine (ih (z / 10) p (by omega) (by omega) (by omega) (by omega)).trans ?_
     rw[show few (p+1) z=few p (z / 10) by rw[few,ajz hm]]
    ·rw[show (z % 10==0)=false by simp[hm],ajn,show few (p+1) z=(z,p+1) by rw[few,ajy hm]]
 obtain⟨k,hk⟩:∃ k:Nat,d.2=k:=⟨d.2.toNat,by omega⟩
 rw[hk]
 have:=loop (d.1.natAbs+(Int.natAbs (k:Int)+(Int.natAbs (0:Int)+(Int.natAbs (0:Int)+2)))) d.1 k h0 h1 (by omega) (by omega)
 rw[this]
 unfold XN
 rw[hk]
 rfl
def jO (x:az):aF:=(x.no,x.art,x.unit,nu x.ord,XN x.price,x.due,nu x.shp,nu x.rcv,nu x.ret,nu x.opn)
def IB (x:az):Prop:=0≤x.price.1∧x.price.1≤1000000000000000∧0≤x.price.2∧x.price.2≤9
theorem afG {x:az} (h:LOk x):0≤x.opn∧x.opn≤1000000000000:=by
 have:=h.ret0;have:=h.retr;have:=h.rcvs;have:=h.ord1
 unfold az.opn
 split<;>omega
theorem Dz {A:List az} {k:Nat} {x:az} (h:A[k]? =some x) (hx:LOk x) (hp:IB x):nP (some k) (A.map az.tup)=some (jO x,()):=by
 obtain⟨p1,p2,p3,p4⟩:=hp
 obtain⟨q1,q2⟩:=afG hx
 have:=hx.ret0;have:=hx.retr;have:=hx.rcvs;have:=hx.shp1;have:=hx.C2;have:=hx.ord1
 unfold nP
 simp only[ajb,vg h,ES h hx]
 rw[wP (n:=x.ord) (by omega) (by omega),wP (n:=x.shp) (by omega) (by omega),wP (n:=x.rcv) (by omega) (by omega),wP (n:=x.ret) (by omega) (by omega),wP (n:=x.opn) (by omega) (by omega),RR p1 p2 p3 p4]
 rfl
end Go.Md
namespace Go.Md
open Go.Dn
theorem NX {d:ai} (h:inR d 0 1000000000 4=true):0≤d.1∧d.1≤1000000000000000∧0≤d.2∧d.2≤9:=by
 unfold inR at h
 obtain⟨⟨h1,h2,h3⟩,h4,h5,h6⟩:=ajF h
 refine⟨by omega,by omega,h2,h3⟩
theorem aay {l:List aj} {d:aj} {x:az} (hw:WOk l x) (hl:∀ d,d∈l→fk d=0) (hp:IB x):IB (dX l d x).2:=by
 unfold dX
 by_cases h1:x.wish<0
 ·rw[ajz h1];exact hp
 rw[ajy h1]
 obtain⟨w,hw1,hw2⟩:=hw.kind (by omega)
 rw[JH hw1]
 obtain⟨_,_,_,hk,_,_,hu⟩:=eP (hl w (aie hw1))
 obtain⟨_,up,_⟩:=jQ hu
 by_cases h2:dNo w≠dTo d
 ·rw[ajz h2];exact hp
 rw[ajy h2]
 by_cases h3:ck d=5
 ·rw[ajz h3]
  by_cases k2:ck w=2
  ·rw[ajz k2]
   split<;>exact hp
  ·rw[ajy k2]
   by_cases k1:ck w=1
   ·rw[ajz k1];exact hp
   ·rw[ajy k1]
    by_cases k3:ck w=3
    ·rw[ajz k3];exact hp
    ·rw[ajy k3]
     have hk':1≤ck w∧ck w≤11:=hk
     exact NX (up (by unfold usP;exact ajr (.inr (by omega))))
 ·rw[ajy h3];exact hp
theorem adR {ext:Int} {d:aj} {x:az} (hp:IB x):IB (eU ext d x).2:=by
 unfold eU
 split
 ·split
  ·exact hp
  ·split<;>exact hp
 ·split
  ·split<;>exact hp
  ·split<;>exact hp
theorem aeu {o:av} {l:List aj} {i:Nat} {d:aj} {x:az} (hw:WOk l x) (hl:∀ d,d∈l→fk d=0) (hp:IB x):IB (iN o l i d x).2:=by
 have ha:=aay (d:=d) hw hl hp
 have hm:=adR (ext:=gU o) (d:=d) hp
 unfold iN
 split
 ·unfold Ph
  split
  ·exact hp
  ·split<;>exact hp
 ·split
  ·split<;>exact ha
  ·split
   ·split<;>exact hp
   ·split
    ·unfold Pe
     split
     ·exact hp
     ·split<;>exact hp
    ·split
     ·split<;>exact hm
     ·exact hm
structure Good (l:List aj) (A:List az):Prop where
 sound:Sound l A
 pr:∀ x,x∈A→IB x
theorem Sk {o:av} {l:List aj} {i:Nat} {d:aj} {A:List az} (hA:Good l A) (hl:∀ d,d∈l→fk d=0) (hd:l[i]? =some d):Good l (iD o l i d A).2:=by
 refine⟨(adt hA.sound hl hd).1,fun x hx=> ?_⟩
 unfold iD at hx
 by_cases k1:ck d=1
 ·rw[ajz k1] at hx
  split at hx
  ·exact hA.pr x hx
  ·split at hx
   ·exact hA.pr x hx
   ·split at hx
    ·exact hA.pr x hx
    ·rcases ah6.1 hx with hx | hx
     ·exact hA.pr x hx
     ·simp only[aij] at hx
      subst hx
      obtain⟨_,_,_,_,_,_,hu⟩:=eP (hl d (aie hd))
      exact NX ((jQ hu).2.1 (by rw[k1];rfl))
 ·rw[ajy k1] at hx
  split at hx
  ·exact hA.pr x hx
  ·split at hx
   ·rename_i y hy
    rcases aih hx with hx | hx
    ·exact hA.pr x hx
    ·subst hx
     have hm:=aie hy
     exact aeu (hA.sound.line y hm).2 hl (hA.pr y hm)
   ·exact hA.pr x hx
def WQ (n:Int) (A:List az):Option az:=(qa n A).bind fun k=>A[k]?
theorem aa0 {n:Int} {A:List az} {k:Nat} {x:az} (h:qa n A=some k) (hx:A[k]? =some x):WQ n A=some x:=by unfold WQ;rw[h];exact hx
theorem YZ {o:av} {l:List aj} {i:Nat} {d:aj} {A:List az} (hA:Sound l A) (hl:∀ d,d∈l→fk d=0) (hd:l[i]? =some d) (h0:(iD o l i d A).1=0):
 ∃ k x,qa (sG d) (iD o l i d A).2=some k∧(iD o l i d A).2[k]? =some x:=by
 unfold iD at h0 ⊢
 by_cases k1:ck d=1
 ·rw[ajz k1] at h0 ⊢
  split at h0
  ·cases h0
  ·rename_i hf
   split at h0
   ·cases h0
   ·rename_i h5
    split at h0
    ·cases h0
    ·rename_i h6
     rw[ajy h5,ajy h6]
     refine⟨A.length,Gg i d, ?_,by simp⟩
     show cG (sG d) 0 (A++[Gg i d])=_
     rw[SE,show cG (sG d) 0 A=none from hf,ajz (show sG d=(Gg i d).no from rfl)]
     simp
 ·rw[ajy k1] at h0 ⊢
  split at h0
  ·cases h0
  ·rename_i k hk
   obtain⟨x,hx,hxn⟩:=SG hk
   rw[hx]
   dsimp only
   obtain⟨h1,h2⟩:=hA.line x (aie hx)
   refine⟨k,_, ?_,OZ hx _⟩
   show cG (sG d) 0 (A.set k _)=_
   rw[aaO A 0 (fun z hz=>by rw[hx] at hz;cases hz;exact (OO (o:=o) h1 h2 hl hd).2.2.1)]
   exact hk
def Ye (wt:Int) (i:Nat) (d:aj) (A:List az) (pts:List aX):List aX:=
 if sG d=wt then (match WQ (sG d) A with | some x=>pts++[((i:Int),jO x)] | none=>pts) else pts
def vW (o:av) (l:List aj) (wt day:Int):List aj→Nat→List az→List (Int×Int)→List aX→List az×List (Int×Int)×List aX
 | [],_,A,ref,pts=>(A,ref,pts)
 | d::r,i,A,ref,pts=>
  if day<d.1 then (A,ref,pts)
  else if (iD o l i d A).1≠0 then vW o l wt day r (i+1) (iD o l i d A).2 (ref++[((i:Int),(iD o l i d A).1)]) pts
  else vW o l wt day r (i+1) (iD o l i d A).2 ref (Ye wt i d (iD o l i d A).2 pts)
theorem ym {β:Type} {b:Bool} (h:b=true) (x:Option β):chk b x=x:=by rw[h];rfl
theorem ad5 {onum obuy osel:Bys} {oday oext:Int} {olns:List bC} {l:List aj} {wt day:Int} (he0:0≤oext) (he1:oext≤1000) (hl:∀ d,d∈l→fk d=0) (hlen:l.length≤2000):
 ∀ (r:List aj) (i n:Nat) (A:List az) (ref:List (Int×Int)) (pts:List aX),l.drop i=r→i≤l.length→Good l A→ref.length≤i→pts.length≤i→r.length<n→
  iter (X:=o8) (β:=oZ) n (day,l,(l.length:Int),(i:Int),onum,obuy,osel,oday,oext,olns,l,mapOf A,ref,pts,wt,A.map az.tup,()) lP=
   some (Sum.inr (onum,obuy,osel,oday,oext,olns,l,mapOf (vW (onum,obuy,osel,oday,oext,olns) l wt day r i A ref pts).1,(vW (onum,obuy,osel,oday,oext,olns) l wt day r i A ref pts).2.1,(vW (onum,obuy,osel,oday,oext,olns) l wt day r i A ref pts).2.2,wt,(vW (onum,obuy,osel,oday,oext,olns) l wt day r i A ref pts).1.map az.tup,())):=by
 intro r
 induction r with
 | nil=>
  intro i n A ref pts hd hi hA hr hp hn
  have:i=l.length:=by
   have:=congrArg List.length hd
   simp at this;omega
  subst this
  obtain⟨n,rfl⟩:∃ m,n=m+1:=⟨n - 1,by omega⟩
  rw[bY]
  unfold lP
  dsimp only
  rw[ajq (show ¬((l.length:Int)<(l.length:Int)) by omega),ajn]
  rfl
 | cons d r ih=>
  intro i n A ref pts hdr hi hA hr hp hn
  have hd:l[i]? =some d:=by
   have:=congrArg (·[0]?) hdr
   simpa [ahE] using this
  have hr':l.drop (i+1)=r:=by
   have:=congrArg List.tail hdr
   simpa [aix] using this
  have hlt:i<l.length:=(ahH.1 hd).1
  obtain⟨n,rfl⟩:∃ m,n=m+1:=⟨n - 1,by simp at hn;omega⟩
  rw[bY]
  generalize hag:(fun y=>iter n y lP)=again
  unfold lP
  dsimp only
  rw[ajr (show (i:Int)<(l.length:Int) by omega),ajo,gX hd,ajb]
  have hdeed:=Jr (o:=(onum,obuy,osel,oday,oext,olns)) (ref:=ref) (pts:=pts) (wt:=wt) hA.sound hl hd he0 he1
  have hgood:=Sk (o:=(onum,obuy,osel,oday,oext,olns)) hA hl hd
  by_cases hday:day<d.1
  ·rw[ajr (show d.1>day from hday),ajo]
   simp only[vW,ajz hday]
  ·rw[ajq (show ¬d.1>day from hday),ajn]
   rw[hdeed,ajb]
   dsimp only
   rw[aC (n:=(i:Int)+1) (by omega) (by omega)]
   simp only[vW,ajy hday]
   have BE:maxLen=9223372036854775807:=rfl
   have hi1:(i:Int)+1=((i+1:Nat):Int):=by omega
   by_cases he:(iD (onum,obuy,osel,oday,oext,olns) l i d A).1=0
   ·rw[ajy (fun h=>h he),he]
    rw[zne,ajn]
    by_cases hw:sG d=wt
    ·obtain⟨k,x,hk,hx⟩:=YZ hA.sound hl hd he
     have hxm:=aie hx
     rw[show (d.2.2.2.2.1==wt)=true by simpa using hw,ajo,lB,show cG d.2.2.2.2.1 0 _=some k from hk,
      Dz hx (hgood.sound.line x hxm).1 (hgood.pr x hxm),ajb]
     rw[ym (by rw[agC];exact⟨ajr (by omega),ajr (by omega)⟩)]
     have hpt:Ye wt i d (iD (onum,obuy,osel,oday,oext,olns) l i d A).2 pts=pts++[((i:Int),jO x)]:=by
      unfold Ye
      rw[ajz hw,aa0 hk hx]
     rw[hpt,hi1, ← hag]
     exact ih (i+1) n _ ref _ hr' (by omega) hgood (by omega) (by simp;omega) (by simp at hn;omega)
    ·rw[show (d.2.2.2.2.1==wt)=false by simpa using hw,ajn]
     have hpt:Ye wt i d (iD (onum,obuy,osel,oday,oext,olns) l i d A).2 pts=pts:=by
      unfold Ye
      rw[ajy hw]
     rw[hpt,hi1, ← hag]
     exact ih (i+1) n _ ref pts hr' (by omega) hgood (by omega) (by omega) (by simp at hn;omega)
   ·rw[ajz he,dM he,ajo]
    rw[ym (by rw[agC];exact⟨ajr (by omega),ajr (by omega)⟩)]
    rw[hi1, ← hag]
    exact ih (i+1) n _ _ pts hr' (by omega) hgood (by simp;omega) (by omega) (by simp at hn;omega)
theorem Ks {o:av} {l:List aj} {wt day:Int} {A:List az} (he:0≤gU o∧gU o≤1000) (hl:∀ d,d∈l→fk d=0) (hlen:l.length≤2000) (hA:Good l A):
 lN (o,l,mapOf A,[],[],wt,()) day (A.map az.tup)=some ((o,l,mapOf (vW o l wt day l 0 A [] []).1,(vW o l wt day l 0 A [] []).2.1,(vW o l wt day l 0 A [] []).2.2,wt,()),(vW o l wt day l 0 A [] []).1.map az.tup,()):=by
 obtain⟨onum,obuy,osel,oday,oext,olns⟩:=o
 unfold lN
 refine (congrArg (fun z=>aT z _) (ad5 (onum:=onum) (obuy:=obuy) (osel:=osel) (oday:=oday) (olns:=olns) (wt:=wt) (day:=day) he.1 he.2 hl hlen l 0 _ A [] [] rfl (ai8 _) hA (ai8 _) (ai8 _) ?_)).trans rfl
 dsimp only
 omega
theorem S8 {o:av} (ho:qO o=0) (l:List aj):Good l (zL o):=by
 obtain⟨_,_,_,_,hgo,_⟩:=Iw ho
 obtain⟨hln,_,_⟩:=A7 hgo
 refine⟨⟨fun x hx=> ?_⟩,fun x hx=> ?_⟩
 ·obtain⟨q,hq,rfl⟩:=aid.1 hx
  obtain⟨_,h2,_⟩:=hln q hq
  obtain⟨u0,u1,_⟩:=zg h2
  exact⟨⟨by show (0:Int)≤0;omega,by show (0:Int)≤0;omega,by show (0:Int)≤0;omega,by show (0:Int)≤_;omega,u0,u1,fun e=>absurd rfl e⟩,⟨by show (-1:Int)≤ -1;omega,fun h=>by have:(0:Int)≤ -1:=h;omega⟩⟩
 ·obtain⟨q,hq,rfl⟩:=aid.1 hx
  obtain⟨_,_,_,h4,_⟩:=hln q hq
  exact NX h4
def yg (o:av) (l:List aj) (wt day:Int):List az×List (Int×Int)×List aX:=vW o l wt day l 0 (zL o) [] []
def gA (o:av) (l:List aj):Int:=if qO o≠0 then qO o else wF l
theorem Ew {o:av} {l:List aj} (h:gA o l=0):qO o=0∧wF l=0:=by
 unfold gA at h
 split at h
 ·rename_i h1;exact absurd h h1
 ·rename_i h1;exact⟨agS.1 h1,h⟩
theorem start_eq {o:av} {l:List aj} (h:gA o l=0) (wt day:Int):∃ q,mP o l []=some ((o,l,mapOf (zL o),[],[],0,()),(zL o).map az.tup,())∧
 lN (o,l,mapOf (zL o),[],[],wt,()) day ((zL o).map az.tup)=some ((o,l,mapOf (yg o l wt day).1,(yg o l wt day).2.1,(yg o l wt day).2.2,wt,()),(yg o l wt day).1.map az.tup,())∧q=():=by
 obtain⟨h1,h2⟩:=Ew h
 obtain⟨h3,h4⟩:=En h2
 exact⟨(),LF h1 l,Ks (Iw h1).2.1 h4 h3 (S8 h1 l),rfl⟩
theorem Ww (o:av) (l:List aj) (day:Int):F3 o l day []=(if gA o l≠0 then some (none,gA o l,[],()) else if ¬(1≤day∧day≤3652059) then some (none,1,[],()) else none):=by
 unfold F3
 rw[Hp,ajb,qH]
 dsimp only
 by_cases h:gA o l=0
 ·rw[ajy (show ¬gA o l≠0 from fun e=>e h),show (if qO o≠0 then qO o else wF l)=0 from h,zne,ajn,ajb]
  by_cases hd:1≤day∧day≤3652059
  ·rw[ajy (show ¬¬(1≤day∧day≤3652059) from fun e=>e hd),ajr hd]
   obtain⟨_,e1,e2,_⟩:=start_eq h 0 day
   dsimp only
   rw[agN,ajn,e1,ajb]
   dsimp only
   rw[e2];rfl
  ·rw[ajz hd,ajq hd];rfl
 ·rw[ajz (show gA o l≠0 from h),show ((if qO o≠0 then qO o else wF l) != 0)=true from dM h,ajo]
  rfl
theorem Zp {o:av} {l:List aj} {day:Int} (h:gA o l=0) (hd:1≤day∧day≤3652059):LC o l day []=some ((o,l,mapOf (yg o l 0 day).1,(yg o l 0 day).2.1,(yg o l 0 day).2.2,0,()),0,(yg o l 0 day).1.map az.tup,()):=by
 unfold LC
 rw[Hp,ajb,qH]
 dsimp only
 rw[show (if qO o≠0 then qO o else wF l)=0 from h,zne,ajn,ajb,ajr hd]
 obtain⟨_,e1,e2,_⟩:=start_eq h 0 day
 dsimp only
 rw[agN,ajn,e1,ajb]
 dsimp only
 rw[e2];rfl
end Go.Md
namespace Go.Md
open Go.Dn
end Go.Md
namespace Go.Md
open Go.Dn
structure Pts (l:List aj) (wt:Int) (n:Nat) (A:List az) (pts:List aX):Prop where
 pt:∀ (j:Nat) (p:aX),pts[j]? =some p→0≤p.1∧p.1<n∧(∃ d,idx l p.1=some d∧sG d=wt)∧∀ q,0<j→pts[j - 1]? =some q→q.1<p.1
 last:∀ p,pts.getLast? =some p→∃ x,WQ wt A=some x∧p.2=jO x
theorem Th {α β:Type} {f:α→Option β} {g:Option β}:Tg (none:Option α) f g=g:=rfl
end Go.Md
namespace Go.Md
open Go.Dn
end Go.Md
namespace Go.Md
open Go.Dn
end Go.Md
namespace Go.Md
open Go.Dn
end Go.Md
namespace Go.Md
open Go.Dn
end Go.Md
namespace Go.Md
open Go.Dn
end Go.Md
