/-
  Plain facts: deeds, followed one behind the other. No condition.
-/
import Derived.Test.YtcndcnfjdanbeaaGreatDoorVs
import Derived.Test.YtcndcnfjdanbeaaGreatDoorVq
import Derived.Test.YtcndcnfjdanbeaaGreatDoorVo
set_option linter.all false
namespace Go.Md
open Go.Dn
theorem WY {day:Int} {p:Option aK} {x:aK} (h:cO day p x=0):(1≤x.1∧x.1≤99999)∧(∀ q,p=some q→q.1<x.1)∧cL x.2.1=true∧qOk x.2.2.1 false=true∧cL x.2.2.2.1=true∧inR x.2.2.2.2.1 0 1000000000 4=true∧(day≤x.2.2.2.2.2∧x.2.2.2.2.2≤3652059):=by
 unfold cO at h
 split at h
 ·cases h
 ·rename_i h1
  split at h
  ·cases h
  ·rename_i h2
   split at h
   ·cases h
   ·rename_i h3
    split at h
    ·cases h
    ·rename_i h4
     split at h
     ·cases h
     ·rename_i h5
      split at h
      ·cases h
      ·rename_i h6
       split at h
       ·cases h
       ·rename_i h7
        refine ⟨adi.1 h1,fun q hq=> ?_,by simpa using h3,by simpa using h4,by simpa using h5,by simpa using h6,adi.1 h7⟩
        subst hq
        have:¬x.1≤q.1:=fun e=>h2 (decide_eq_true e)
        omega
theorem lg {day:Int}:∀ {r:List aK} {p:Option aK},iO day r p=0→
 (∀ x,x∈r→cL x.2.1=true∧qOk x.2.2.1 false=true∧cL x.2.2.2.1=true∧inR x.2.2.2.2.1 0 1000000000 4=true∧(1≤x.1∧x.1≤99999)∧(day≤x.2.2.2.2.2∧x.2.2.2.2.2≤3652059))∧(∀ q,p=some q→∀ x,x∈r→q.1<x.1)∧r.Pairwise (fun a b=>a.1<b.1)
 | [],p,_=>⟨nofun,fun _ _ _ h=>(nomatch h),List.Pairwise.nil⟩
 | y::r,p,h=>by
  simp only [iO] at h
  by_cases hf:cO day p y=0
  ·rw [if_neg (fun e=>e hf)] at h
   obtain ⟨a1,a2,a3⟩:=lg h
   obtain ⟨b1,b2,b3,b4,b5,b6,b7⟩:=WY hf
   refine ⟨fun x hx=> ?_,fun q hq x hx=> ?_,List.Pairwise.cons (fun x hx=>a2 y rfl x hx) a3⟩
   ·rcases aeq.1 hx with rfl | hx
    ·exact ⟨b3,b4,b5,b6,b1,b7⟩
    ·exact a1 x hx
   ·rcases aeq.1 hx with rfl | hx
    ·exact b2 q hq
    ·have:=b2 q hq
     have:=a2 y rfl x hx
     omega
  ·rw [if_pos hf] at h
   exact absurd h hf
theorem qB {o:ai} (h:jW o=0):(1≤cw o∧cw o≤3652059)∧(0≤bN o∧bN o≤1000)∧(gS o).length≤500∧gS o≠[]∧iO (cw o) (gS o) none=0∧(cL (EP o)=true∧cL (EO o)=true∧cL (JM o)=true∧EO o≠JM o):=by
 unfold jW at h
 split at h
 ·cases h
 ·rename_i h1
  split at h
  ·cases h
  ·rename_i h2
   split at h
   ·cases h
   ·rename_i h3
    split at h
    ·cases h
    ·rename_i h4
     split at h
     ·cases h
     ·rename_i h5
      split at h
      ·cases h
      ·rename_i h6
       refine ⟨adi.1 h3,adi.1 h4,by omega,h5,h, ?_, ?_, ?_,h2⟩
       ·cases hb:cL (EP o)
        ·exact absurd (.inl hb) h1
        ·rfl
       ·cases hb:cL (EO o)
        ·exact absurd (.inr (.inl hb)) h1
        ·rfl
       ·cases hb:cL (JM o)
        ·exact absurd (.inr (.inr hb)) h1
        ·rfl
def jU (x:aK):aj:=⟨x.1,x.2.1,x.2.2.2.1,aO x.2.2.1,0,0,0,x.2.2.2.2.1,x.2.2.2.2.2, -1,0,0,0⟩
abbrev gX (o:ai):List aj:=(gS o).map jU
theorem GW {n:Int}:∀ {A:List aj} {i:Nat},(∀ x,x∈A→x.no≠n)→bR n i A=none
 | [],_,_=>rfl
 | x::r,i,h=>by
  simp only [bR]
  rw [if_neg (fun e=>h x (by simp) e.symm)]
  exact GW (fun y hy=>h y (by simp [hy]))
theorem lY {α:Type} {l:List α} {i:Nat} {y:α} (h:l[i]? =some y):l.take (i+1)=l.take i++[y]:=by
 rw [aeI,h];rfl
theorem JW {o:ai} (ho:jW o=0) (l:List ah):jb o l []=some ((o,l,mapOf (gX o),[],[],0,()),(gX o).map aj.tup,()):=by
 obtain ⟨_,_,hlen,_,hgo,_⟩:=qB ho
 obtain ⟨hln,_,hpw⟩:=lg hgo
 obtain ⟨onum,obuy,osel,oday,oext,lns⟩:=o
 change lns.length≤500 at hlen
 change ∀ x,x∈lns→_ at hln
 change lns.Pairwise _ at hpw
 unfold jb
 have:=JE (f:=lU) (fun (_:Unit) (i:Nat)=>((lns,(lns.length:Int),(i:Int),onum,obuy,osel,oday,oext,lns,l,[],[],0,mapOf ((lns.take i).map jU),((lns.take i).map jU).map aj.tup,()):lV)) lns
  (fun (_:Unit) _ _ k=>k ()) (fun _=>some (Sum.inr (onum,obuy,osel,oday,oext,lns,l,[],[],0,mapOf (lns.map jU),(lns.map jU).map aj.tup,()))) (fun s i y again hy=>by
    have hi:i<lns.length:=(List.getElem?_eq_some_iff.1 hy).1
    unfold lU
    dsimp only
    rw [decide_eq_true (show (i:Int)<(lns.length:Int) by omega),cond_true,bJ hy,Option.bind_some,mo (hln y (List.mem_of_getElem? hy)).2.1,Option.bind_some]
    have hno:bR y.1 0 ((lns.take i).map jU)=none:=GW fun z hz=>by
     obtain ⟨q,hq,rfl⟩:=aeu.1 hz
     obtain ⟨j,hj⟩:=aet.1 hq
     have hji:j<i:=by
      have:=(List.getElem?_eq_some_iff.1 hj).1
      simp at this;omega
     rw [ad8 hji] at hj
     have h1:=aeC.1 hpw j i (by omega) hi hji
     have e1:lns[j]=q:=by have:=List.getElem?_eq_getElem (show j<lns.length by omega);rw [hj] at this;exact (Option.some.inj this).symm
     have e2:lns[i]=y:=by have:=List.getElem?_eq_getElem hi;rw [hy] at this;exact (Option.some.inj this).symm
     rw [e1,e2] at h1
     show q.1≠y.1
     omega
    have hs:=Po y.1 (jU y) rfl ((lns.take i).map jU) 0 hno
    rw [aff] at hs
    rw [List.length_map,aA (n:=(i:Int)+1) (by omega) (by omega)]
    have ht:(lns.take (i+1)).map jU=(lns.take i).map jU++[jU y]:=by rw [lY hy,aei];rfl
    rw [ht]
    refine congrArg again ?_
    refine Prod.ext rfl (Prod.ext rfl (Prod.ext rfl (Prod.ext rfl (Prod.ext rfl (Prod.ext rfl (Prod.ext rfl (Prod.ext rfl (Prod.ext rfl (Prod.ext rfl (Prod.ext rfl (Prod.ext rfl (Prod.ext rfl (Prod.ext hs (Prod.ext ?_ rfl))))))))))))))
    show List.map aj.tup _++[_]=List.map aj.tup (_++[jU y])
    rw [aei];rfl) (fun s again=>by
    unfold lU
    dsimp only
    rw [afs (show ¬((lns.length:Int)<(lns.length:Int)) by omega),cond_false,aeM]) ()
 have hfor:∀ (r:List aK) (i:Nat) (β:Type) (f:Option β),Ew (fun (_:Unit) _ _ k=>k ()) (fun _=>f) r i ()=f:=by
  intro r
  induction r with
  | nil=>intro i β f;rfl
  | cons y r ih=>intro i β f;exact ih (i+1) β f
 refine (congrArg (fun z=>aJ z _) ((this _ ?_).trans (hfor _ _ _ _))).trans rfl
 simp only [aee]
 omega
def bz (n:Int):aa:=((few 3 n).1,((few 3 n).2:Int))
theorem rL {n:Int} (h0:0≤n) (h1:n≤1000000000000000):oB n=some (bz n,()):=by
 unfold oB
 rw [mm n (by omega) (by omega),Option.bind_some]
 have hb:n.natAbs<4294967296 ^ 99:=ae0 (show n.natAbs<4294967296 ^ 2 by omega) (afd (by omega) (by omega))
 have:=OO n hb 3 (by omega)
 rw [show ((3:Nat):Int)=3 from rfl] at this
 dsimp only
 rw [this,Option.bind_some,if_pos (by have:=(DQ 3 n).2.2;omega)]
 rfl
def dU (d:aa):aa:=((few d.2.toNat d.1).1,((few d.2.toNat d.1).2:Int))
theorem FG {d:aa} (h0:0≤d.1) (h1:d.1≤1000000000000000) (h2:0≤d.2) (h3:d.2≤9):tr d=some (dU d,()):=by
 unfold tr
 have loop:∀ (n:Nat) (z:Int) (p:Nat),0≤z→z≤1000000000000000→p≤9→p<n→iter (X:=sP) (β:=sO) n (z,(p:Int),0,0,()) sN=some (Sum.inr ((few p z).1,((few p z).2:Int),0,0,())):=by
  intro n
  induction n with
  | zero=>intro z p _ _ _ h;omega
  | succ n ih=>
   intro z p hz hz1 hp hn
   rw [cF]
   generalize hag:(fun y=>iter n y sN)=again
   unfold sN
   dsimp only
   cases p with
   | zero=>rfl
   | succ p=>
    rw [decide_eq_true (show ((p+1:Nat):Int)>0 by omega),cond_true,Option.bind_some]
    dsimp only
    rw [adz hz]
    by_cases hm:z % 10=0
    ·rw [show (z % 10==0)=true by simp [hm],cond_true,ady hz,aA (n:=z / 10) (by omega) (by omega),aA (n:=((p+1:Nat):Int) - 1) (by omega) (by omega),
      show ((p+1:Nat):Int) - 1=(p:Int) by omega, ← hag]
     refine (ih (z / 10) p (by omega) (by omega) (by omega) (by omega)).trans ?_
     rw [show few (p+1) z=few p (z / 10) by rw [few,if_pos hm]]
    ·rw [show (z % 10==0)=false by simp [hm],cond_false,show few (p+1) z=(z,p+1) by rw [few,if_neg hm]]
 obtain ⟨k,hk⟩:∃ k:Nat,d.2=k:=⟨d.2.toNat,by omega⟩
 rw [hk]
 have:=loop (d.1.natAbs+(Int.natAbs (k:Int)+(Int.natAbs (0:Int)+(Int.natAbs (0:Int)+2)))) d.1 k h0 h1 (by omega) (by omega)
 rw [this]
 unfold dU
 rw [hk]
 rfl
def aT (x:aj):bf:=(x.no,x.art,x.unit,bz x.ord,dU x.price,x.due,bz x.shp,bz x.rcv,bz x.ret,bz x.opn)
def Lc (x:aj):Prop:=0≤x.price.1∧x.price.1≤1000000000000000∧0≤x.price.2∧x.price.2≤9
theorem V3 {x:aj} (h:LOk x):0≤x.opn∧x.opn≤1000000000000:=by
 have:=h.ret0;have:=h.retr;have:=h.rcvs;have:=h.ord1
 unfold aj.opn
 split<;>omega
theorem sI {A:List aj} {k:Nat} {x:aj} (h:A[k]? =some x) (hx:LOk x) (hp:Lc x):fI (some k) (A.map aj.tup)=some (aT x,()):=by
 obtain ⟨p1,p2,p3,p4⟩:=hp
 obtain ⟨q1,q2⟩:=V3 hx
 have:=hx.ret0;have:=hx.retr;have:=hx.rcvs;have:=hx.shp1;have:=hx.pZ;have:=hx.ord1
 unfold fI
 simp only [Option.bind_some,qp h,tZ h hx]
 rw [rL (n:=x.ord) (by omega) (by omega),rL (n:=x.shp) (by omega) (by omega),rL (n:=x.rcv) (by omega) (by omega),rL (n:=x.ret) (by omega) (by omega),rL (n:=x.opn) (by omega) (by omega),FG p1 p2 p3 p4]
 rfl
end Go.Md
namespace Go.Md
open Go.Dn
theorem yA {d:aa} (h:inR d 0 1000000000 4=true):0≤d.1∧d.1≤1000000000000000∧0≤d.2∧d.2≤9:=by
 unfold inR at h
 obtain ⟨⟨h1,h2,h3⟩,h4,h5,h6⟩:=afF h
 refine ⟨by omega,by omega,h2,h3⟩
theorem XZ {l:List ah} {d:ah} {x:aj} (hw:WOk l x) (hl:∀ d,d∈l→bn d=0) (hp:Lc x):Lc (bI l d x).2:=by
 unfold bI
 by_cases h1:x.wish<0
 ·rw [if_pos h1];exact hp
 rw [if_neg h1]
 obtain ⟨w,hw1,hw2⟩:=hw.kind (by omega)
 rw [jR hw1]
 obtain ⟨_,_,_,hk,_,_,hu⟩:=bG (hl w (List.mem_of_getElem? hw1))
 obtain ⟨_,up,_⟩:=cG hu
 by_cases h2:dNo w≠dTo d
 ·rw [if_pos h2];exact hp
 rw [if_neg h2]
 by_cases h3:aF d=5
 ·rw [if_pos h3]
  by_cases k2:aF w=2
  ·rw [if_pos k2]
   split<;>exact hp
  ·rw [if_neg k2]
   by_cases k1:aF w=1
   ·rw [if_pos k1];exact hp
   ·rw [if_neg k1]
    by_cases k3:aF w=3
    ·rw [if_pos k3];exact hp
    ·rw [if_neg k3]
     have hk':1≤aF w∧aF w≤11:=hk
     exact yA (up (by unfold usP;exact decide_eq_true (.inr (by omega))))
 ·rw [if_neg h3];exact hp
theorem aav {ext:Int} {d:ah} {x:aj} (hp:Lc x):Lc (bW ext d x).2:=by
 unfold bW
 split
 ·split
  ·exact hp
  ·split<;>exact hp
 ·split
  ·split<;>exact hp
  ·split<;>exact hp
theorem aa1 {o:ai} {l:List ah} {i:Nat} {d:ah} {x:aj} (hw:WOk l x) (hl:∀ d,d∈l→bn d=0) (hp:Lc x):Lc (bg o l i d x).2:=by
 have ha:=XZ (d:=d) hw hl hp
 have hm:=aav (ext:=bN o) (d:=d) hp
 unfold bg
 split
 ·unfold rA
  split
  ·exact hp
  ·split<;>exact hp
 ·split
  ·split<;>exact ha
  ·split
   ·split<;>exact hp
   ·split
    ·unfold BH
     split
     ·exact hp
     ·split<;>exact hp
    ·split
     ·split<;>exact hm
     ·exact hm
structure Good (l:List ah) (A:List aj):Prop where
 sound:Sound l A
 pr:∀ x,x∈A→Lc x
theorem uV {o:ai} {l:List ah} {i:Nat} {d:ah} {A:List aj} (hA:Good l A) (hl:∀ d,d∈l→bn d=0) (hd:l[i]? =some d):Good l (bS o l i d A).2:=by
 refine ⟨(OS hA.sound hl hd).1,fun x hx=> ?_⟩
 unfold bS at hx
 by_cases k1:aF d=1
 ·rw [if_pos k1] at hx
  split at hx
  ·exact hA.pr x hx
  ·split at hx
   ·exact hA.pr x hx
   ·split at hx
    ·exact hA.pr x hx
    ·rcases aen.1 hx with hx | hx
     ·exact hA.pr x hx
     ·simp only [aez] at hx
      subst hx
      obtain ⟨_,_,_,_,_,_,hu⟩:=bG (hl d (List.mem_of_getElem? hd))
      exact yA ((cG hu).2.1 (by rw [k1];rfl))
 ·rw [if_neg k1] at hx
  split at hx
  ·exact hA.pr x hx
  ·split at hx
   ·rename_i y hy
    rcases aex hx with hx | hx
    ·exact hA.pr x hx
    ·subst hx
     have hm:=List.mem_of_getElem? hy
     exact aa1 (hA.sound.line y hm).2 hl (hA.pr y hm)
   ·exact hA.pr x hx
def jl (n:Int) (A:List aj):Option aj:=(dw n A).bind fun k=>A[k]?
theorem u6 {n:Int} {A:List aj} {k:Nat} {x:aj} (h:dw n A=some k) (hx:A[k]? =some x):jl n A=some x:=by unfold jl;rw [h];exact hx
theorem GP {o:ai} {l:List ah} {i:Nat} {d:ah} {A:List aj} (hA:Sound l A) (hl:∀ d,d∈l→bn d=0) (hd:l[i]? =some d) (h0:(bS o l i d A).1=0):
 ∃ k x,dw (cH d) (bS o l i d A).2=some k∧(bS o l i d A).2[k]? =some x:=by
 unfold bS at h0 ⊢
 by_cases k1:aF d=1
 ·rw [if_pos k1] at h0 ⊢
  split at h0
  ·cases h0
  ·rename_i hf
   split at h0
   ·cases h0
   ·rename_i h5
    split at h0
    ·cases h0
    ·rename_i h6
     rw [if_neg h5,if_neg h6]
     refine ⟨A.length,eC i d, ?_,by simp⟩
     show bR (cH d) 0 (A++[eC i d])=_
     rw [Dp,show bR (cH d) 0 A=none from hf,if_pos (show cH d=(eC i d).no from rfl)]
     simp
 ·rw [if_neg k1] at h0 ⊢
  split at h0
  ·cases h0
  ·rename_i k hk
   obtain ⟨x,hx,hxn⟩:=qM hk
   rw [hx]
   dsimp only
   obtain ⟨h1,h2⟩:=hA.line x (List.mem_of_getElem? hx)
   refine ⟨k,_, ?_,Nf hx _⟩
   show bR (cH d) 0 (A.set k _)=_
   rw [Jq A 0 (fun z hz=>by rw [hx] at hz;cases hz;exact (DO (o:=o) h1 h2 hl hd).2.2.1)]
   exact hk
def sK (wt:Int) (i:Nat) (d:ah) (A:List aj) (pts:List ay):List ay:=
 if cH d=wt then (match jl (cH d) A with | some x=>pts++[((i:Int),aT x)] | none=>pts) else pts
def eU (o:ai) (l:List ah) (wt day:Int):List ah→Nat→List aj→List (Int×Int)→List ay→List aj×List (Int×Int)×List ay
 | [],_,A,ref,pts=>(A,ref,pts)
 | d::r,i,A,ref,pts=>
  if day<d.1 then (A,ref,pts)
  else if (bS o l i d A).1≠0 then eU o l wt day r (i+1) (bS o l i d A).2 (ref++[((i:Int),(bS o l i d A).1)]) pts
  else eU o l wt day r (i+1) (bS o l i d A).2 ref (sK wt i d (bS o l i d A).2 pts)
theorem cE {β:Type} {b:Bool} (h:b=true) (x:Option β):chk b x=x:=by rw [h];rfl
theorem aaJ {onum obuy osel:List UInt8} {oday oext:Int} {olns:List aK} {l:List ah} {wt day:Int} (he0:0≤oext) (he1:oext≤1000) (hl:∀ d,d∈l→bn d=0) (hlen:l.length≤2000):
 ∀ (r:List ah) (i n:Nat) (A:List aj) (ref:List (Int×Int)) (pts:List ay),l.drop i=r→i≤l.length→Good l A→ref.length≤i→pts.length≤i→r.length<n→
  iter (X:=kQ) (β:=kP) n (day,l,(l.length:Int),(i:Int),onum,obuy,osel,oday,oext,olns,l,mapOf A,ref,pts,wt,A.map aj.tup,()) ia=
   some (Sum.inr (onum,obuy,osel,oday,oext,olns,l,mapOf (eU (onum,obuy,osel,oday,oext,olns) l wt day r i A ref pts).1,(eU (onum,obuy,osel,oday,oext,olns) l wt day r i A ref pts).2.1,(eU (onum,obuy,osel,oday,oext,olns) l wt day r i A ref pts).2.2,wt,(eU (onum,obuy,osel,oday,oext,olns) l wt day r i A ref pts).1.map aj.tup,())):=by
 intro r
 induction r with
 | nil=>
  intro i n A ref pts hd hi hA hr hp hn
  have:i=l.length:=by
   have:=congrArg List.length hd
   simp at this;omega
  subst this
  obtain ⟨n,rfl⟩:∃ m,n=m+1:=⟨n - 1,by omega⟩
  rw [cF]
  unfold ia
  dsimp only
  rw [afs (show ¬((l.length:Int)<(l.length:Int)) by omega),cond_false]
  rfl
 | cons d r ih=>
  intro i n A ref pts hdr hi hA hr hp hn
  have hd:l[i]? =some d:=by
   have:=congrArg (·[0]?) hdr
   simpa [ad1] using this
  have hr':l.drop (i+1)=r:=by
   have:=congrArg List.tail hdr
   simpa [aeH] using this
  have hlt:i<l.length:=(List.getElem?_eq_some_iff.1 hd).1
  obtain ⟨n,rfl⟩:∃ m,n=m+1:=⟨n - 1,by simp at hn;omega⟩
  rw [cF]
  generalize hag:(fun y=>iter n y ia)=again
  unfold ia
  dsimp only
  rw [decide_eq_true (show (i:Int)<(l.length:Int) by omega),cond_true,bJ hd,Option.bind_some]
  have hdeed:=Hs (o:=(onum,obuy,osel,oday,oext,olns)) (ref:=ref) (pts:=pts) (wt:=wt) hA.sound hl hd he0 he1
  have hgood:=uV (o:=(onum,obuy,osel,oday,oext,olns)) hA hl hd
  by_cases hday:day<d.1
  ·rw [decide_eq_true (show d.1>day from hday),cond_true]
   simp only [eU,if_pos hday]
  ·rw [afs (show ¬d.1>day from hday),cond_false]
   rw [hdeed,Option.bind_some]
   dsimp only
   rw [aA (n:=(i:Int)+1) (by omega) (by omega)]
   simp only [eU,if_neg hday]
   have sH:maxLen=9223372036854775807:=rfl
   have hi1:(i:Int)+1=((i+1:Nat):Int):=by omega
   by_cases he:(bS (onum,obuy,osel,oday,oext,olns) l i d A).1=0
   ·rw [if_neg (fun h=>h he),he]
    rw [show ((0:Int) != 0)=false from rfl,cond_false]
    by_cases hw:cH d=wt
    ·obtain ⟨k,x,hk,hx⟩:=GP hA.sound hl hd he
     have hxm:=List.mem_of_getElem? hx
     rw [show (d.2.2.2.2.1==wt)=true by simpa using hw,cond_true,gd,show bR d.2.2.2.2.1 0 _=some k from hk,
      sI hx (hgood.sound.line x hxm).1 (hgood.pr x hxm),Option.bind_some]
     rw [cE (by rw [ac1];exact ⟨decide_eq_true (by omega),decide_eq_true (by omega)⟩)]
     have hpt:sK wt i d (bS (onum,obuy,osel,oday,oext,olns) l i d A).2 pts=pts++[((i:Int),aT x)]:=by
      unfold sK
      rw [if_pos hw,u6 hk hx]
     rw [hpt,hi1, ← hag]
     exact ih (i+1) n _ ref _ hr' (by omega) hgood (by omega) (by simp;omega) (by simp at hn;omega)
    ·rw [show (d.2.2.2.2.1==wt)=false by simpa using hw,cond_false]
     have hpt:sK wt i d (bS (onum,obuy,osel,oday,oext,olns) l i d A).2 pts=pts:=by
      unfold sK
      rw [if_neg hw]
     rw [hpt,hi1, ← hag]
     exact ih (i+1) n _ ref pts hr' (by omega) hgood (by omega) (by omega) (by simp at hn;omega)
   ·rw [if_pos he,cq he,cond_true]
    rw [cE (by rw [ac1];exact ⟨decide_eq_true (by omega),decide_eq_true (by omega)⟩)]
    rw [hi1, ← hag]
    exact ih (i+1) n _ _ pts hr' (by omega) hgood (by simp;omega) (by omega) (by simp at hn;omega)
theorem IQ {o:ai} {l:List ah} {wt day:Int} {A:List aj} (he:0≤bN o∧bN o≤1000) (hl:∀ d,d∈l→bn d=0) (hlen:l.length≤2000) (hA:Good l A):
 gZ (o,l,mapOf A,[],[],wt,()) day (A.map aj.tup)=some ((o,l,mapOf (eU o l wt day l 0 A [] []).1,(eU o l wt day l 0 A [] []).2.1,(eU o l wt day l 0 A [] []).2.2,wt,()),(eU o l wt day l 0 A [] []).1.map aj.tup,()):=by
 obtain ⟨onum,obuy,osel,oday,oext,olns⟩:=o
 unfold gZ
 refine (congrArg (fun z=>aJ z _) (aaJ (onum:=onum) (obuy:=obuy) (osel:=osel) (oday:=oday) (olns:=olns) (wt:=wt) (day:=day) he.1 he.2 hl hlen l 0 _ A [] [] rfl (afg _) hA (afg _) (afg _) ?_)).trans rfl
 dsimp only
 omega
theorem u7 {o:ai} (ho:jW o=0) (l:List ah):Good l (gX o):=by
 obtain ⟨_,_,_,_,hgo,_⟩:=qB ho
 obtain ⟨hln,_,_⟩:=lg hgo
 refine ⟨⟨fun x hx=> ?_⟩,fun x hx=> ?_⟩
 ·obtain ⟨q,hq,rfl⟩:=aeu.1 hx
  obtain ⟨_,h2,_⟩:=hln q hq
  obtain ⟨u0,u1,_⟩:=kC h2
  exact ⟨⟨by show (0:Int)≤0;omega,by show (0:Int)≤0;omega,by show (0:Int)≤0;omega,by show (0:Int)≤_;omega,u0,u1,fun e=>absurd rfl e⟩,⟨by show (-1:Int)≤ -1;omega,fun h=>by have:(0:Int)≤ -1:=h;omega⟩⟩
 ·obtain ⟨q,hq,rfl⟩:=aeu.1 hx
  obtain ⟨_,_,_,h4,_⟩:=hln q hq
  exact yA h4
def fC (o:ai) (l:List ah) (wt day:Int):List aj×List (Int×Int)×List ay:=eU o l wt day l 0 (gX o) [] []
def dh (o:ai) (l:List ah):Int:=if jW o≠0 then jW o else mC l
theorem BU {o:ai} {l:List ah} (h:dh o l=0):jW o=0∧mC l=0:=by
 unfold dh at h
 split at h
 ·rename_i h1;exact absurd h h1
 ·rename_i h1;exact ⟨adi.1 h1,h⟩
theorem start_eq {o:ai} {l:List ah} (h:dh o l=0) (wt day:Int):∃ q,jb o l []=some ((o,l,mapOf (gX o),[],[],0,()),(gX o).map aj.tup,())∧
 gZ (o,l,mapOf (gX o),[],[],wt,()) day ((gX o).map aj.tup)=some ((o,l,mapOf (fC o l wt day).1,(fC o l wt day).2.1,(fC o l wt day).2.2,wt,()),(fC o l wt day).1.map aj.tup,())∧q=():=by
 obtain ⟨h1,h2⟩:=BU h
 obtain ⟨h3,h4⟩:=si h2
 exact ⟨(),JW h1 l,IQ (qB h1).2.1 h4 h3 (u7 h1 l),rfl⟩
theorem lp (o:ai) (l:List ah) (day:Int):qR o l day []=(if dh o l≠0 then some (none,dh o l,[],()) else if ¬(1≤day∧day≤3652059) then some (none,1,[],()) else none):=by
 unfold qR
 rw [E0,Option.bind_some,tQ]
 dsimp only
 by_cases h:dh o l=0
 ·rw [if_neg (show ¬dh o l≠0 from fun e=>e h),show (if jW o≠0 then jW o else mC l)=0 from h,show ((0:Int) != 0)=false from rfl,cond_false,Option.bind_some]
  by_cases hd:1≤day∧day≤3652059
  ·rw [if_neg (show ¬¬(1≤day∧day≤3652059) from fun e=>e hd),decide_eq_true hd]
   obtain ⟨_,e1,e2,_⟩:=start_eq h 0 day
   dsimp only
   rw [Bool.not_true,cond_false,e1,Option.bind_some]
   dsimp only
   rw [e2];rfl
  ·rw [if_pos hd,afs hd];rfl
 ·rw [if_pos (show dh o l≠0 from h),show ((if jW o≠0 then jW o else mC l) != 0)=true from cq h,cond_true]
  rfl
theorem wL {o:ai} {l:List ah} {day:Int} (h:dh o l=0) (hd:1≤day∧day≤3652059):xX o l day []=some ((o,l,mapOf (fC o l 0 day).1,(fC o l 0 day).2.1,(fC o l 0 day).2.2,0,()),0,(fC o l 0 day).1.map aj.tup,()):=by
 unfold xX
 rw [E0,Option.bind_some,tQ]
 dsimp only
 rw [show (if jW o≠0 then jW o else mC l)=0 from h,show ((0:Int) != 0)=false from rfl,cond_false,Option.bind_some,decide_eq_true hd]
 obtain ⟨_,e1,e2,_⟩:=start_eq h 0 day
 dsimp only
 rw [Bool.not_true,cond_false,e1,Option.bind_some]
 dsimp only
 rw [e2];rfl
end Go.Md
namespace Go.Md
open Go.Dn
theorem abU:Pn=some (true,()):=by kernel_rfl
end Go.Md
namespace Go.Md
open Go.Dn
theorem ZA {n:Int} {A:List aj} {y:aj} (h:y.no≠n):jl n (A++[y])=jl n A:=by
 unfold jl
 have:dw n (A++[y])=dw n A:=by
  unfold dw
  rw [Dp,if_neg (fun e=>h e.symm),Option.or_none]
 rw [this]
 cases hk:dw n A with
 | none=>rfl
 | some k=>
  obtain ⟨x,hx,_⟩:=qM hk
  have:=(List.getElem?_eq_some_iff.1 hx).1
  simp only [Option.bind_some]
  rw [adX this]
theorem ZB {n:Int} {A:List aj} {k:Nat} {x y:aj} (hx:A[k]? =some x) (hn:x.no≠n) (hy:y.no=x.no):jl n (A.set k y)=jl n A:=by
 unfold jl
 have:dw n (A.set k y)=dw n A:=Jq A 0 (fun z hz=>by rw [hx] at hz;cases hz;exact hy)
 rw [this]
 cases hj:dw n A with
 | none=>rfl
 | some j=>
  obtain ⟨z,hz,hzn⟩:=qM hj
  simp only [Option.bind_some]
  have hjk:k≠j:=fun e=>by subst e;rw [hx] at hz;cases hz;exact hn hzn
  rw [ad5 hjk]
theorem Og {o:ai} {l:List ah} {i:Nat} {d:ah} {A:List aj} {n:Int} (hA:Sound l A) (hl:∀ d,d∈l→bn d=0) (hd:l[i]? =some d) (hn:cH d≠n):
 jl n (bS o l i d A).2=jl n A:=by
 unfold bS
 by_cases k1:aF d=1
 ·rw [if_pos k1]
  split
  ·rfl
  ·split
   ·rfl
   ·split
    ·rfl
    ·exact ZA hn
 ·rw [if_neg k1]
  split
  ·rfl
  ·rename_i k hk
   obtain ⟨x,hx,hxn⟩:=qM hk
   rw [hx]
   obtain ⟨h1,h2⟩:=hA.line x (List.mem_of_getElem? hx)
   exact ZB hx (by rw [hxn];exact hn) (DO (o:=o) h1 h2 hl hd).2.2.1
theorem SC {o:ai} {l:List ah} (wt wt' day:Int):∀ (r:List ah) (i:Nat) (A:List aj) (ref:List (Int×Int)) (pts pts':List ay),
 (eU o l wt day r i A ref pts).1=(eU o l wt' day r i A ref pts').1∧(eU o l wt day r i A ref pts).2.1=(eU o l wt' day r i A ref pts').2.1
 | [],_,_,_,_,_=>⟨rfl,rfl⟩
 | d::r,i,A,ref,pts,pts'=>by
  simp only [eU]
  split
  ·exact ⟨rfl,rfl⟩
  ·split
   ·exact SC wt wt' day r _ _ _ _ _
   ·exact SC wt wt' day r _ _ _ _ _
structure Pts (l:List ah) (wt:Int) (n:Nat) (A:List aj) (pts:List ay):Prop where
 pt:∀ (j:Nat) (p:ay),pts[j]? =some p→0≤p.1∧p.1<n∧(∃ d,idx l p.1=some d∧cH d=wt)∧∀ q,0<j→pts[j - 1]? =some q→q.1<p.1
 last:∀ p,pts.getLast? =some p→∃ x,jl wt A=some x∧p.2=aT x
theorem aaI {o:ai} {l:List ah} {wt day:Int} (hl:∀ d,d∈l→bn d=0):∀ (r:List ah) (i:Nat) (A:List aj) (ref:List (Int×Int)) (pts:List ay),l.drop i=r→i≤l.length→Good l A→Pts l wt i A pts→
 Good l (eU o l wt day r i A ref pts).1∧Pts l wt l.length (eU o l wt day r i A ref pts).1 (eU o l wt day r i A ref pts).2.2:=by
 intro r
 have mono:∀ {n m:Nat} {A:List aj} {pts:List ay},n≤m→Pts l wt n A pts→Pts l wt m A pts:=fun h hp=>⟨fun j p hj=>by
  obtain ⟨a,b,c⟩:=hp.pt j p hj
  exact ⟨a,by omega,c⟩,hp.last⟩
 induction r with
 | nil=>intro i A ref pts _ hi hA hp;exact ⟨hA,mono hi hp⟩
 | cons d r ih=>
  intro i A ref pts hdr hi hA hp
  have hd:l[i]? =some d:=by
   have:=congrArg (·[0]?) hdr
   simpa [ad1] using this
  have hr':l.drop (i+1)=r:=by
   have:=congrArg List.tail hdr
   simpa [aeH] using this
  have hlt:i<l.length:=(List.getElem?_eq_some_iff.1 hd).1
  have hgood:=uV (o:=o) hA hl hd
  simp only [eU]
  split
  ·exact ⟨hA,mono hi hp⟩
  ·split
   ·rename_i h0
    refine ih (i+1) _ _ _ hr' (by omega) hgood ?_
    rw [(OS hA.sound hl hd).2 h0]
    exact mono (by omega) hp
   ·rename_i h0
    have h0:=adi.1 h0
    refine ih (i+1) _ _ _ hr' (by omega) hgood ?_
    unfold sK
    by_cases hw:cH d=wt
    ·rw [if_pos hw]
     obtain ⟨k,x,hk,hx⟩:=GP hA.sound hl hd h0
     have hL:=u6 hk hx
     rw [hL]
     dsimp only
     refine ⟨fun j p hj=> ?_,fun p hp'=> ?_⟩
     ·rw [adW] at hj
      split at hj
      ·rename_i hjl
       obtain ⟨a,b,c,e⟩:=hp.pt j p hj
       refine ⟨a,by omega,c,fun q hq hj'=>e q hq ?_⟩
       rw [adX (by omega)] at hj'
       exact hj'
      ·rename_i hjl
       have hj0:j - pts.length=0:=by
        have:=(List.getElem?_eq_some_iff.1 hj).1
        simpa using this
       rw [hj0] at hj
       cases hj
       refine ⟨by show (0:Int)≤(i:Int);omega,by show (i:Int)<((i+1:Nat):Int);omega,⟨d,bJ hd,hw⟩,fun q hq hj'=> ?_⟩
       rw [adX (by omega)] at hj'
       exact (hp.pt _ q hj').2.1
     ·rw [List.getLast?_append] at hp'
      have e:(((i:Int),aT x):ay)=p:=by simpa using hp'
      subst e
      exact ⟨x,by rw [← hw];exact hL,rfl⟩
    ·rw [if_neg hw]
     refine ⟨(mono (Nat.le_succ i) hp).pt,fun p hp'=> ?_⟩
     obtain ⟨x,hx,e⟩:=hp.last p hp'
     exact ⟨x,by rw [Og hA.sound hl hd hw];exact hx,e⟩
theorem aad {o:ai} {l:List ah} (h:dh o l=0) (wt day:Int):Good l (fC o l wt day).1∧Pts l wt l.length (fC o l wt day).1 (fC o l wt day).2.2:=by
 obtain ⟨h1,h2⟩:=BU h
 obtain ⟨h3,h4⟩:=si h2
 exact aaI h4 l 0 _ [] [] rfl (afg _) (u7 h1 l) ⟨fun _ _ hj=>(nomatch hj),fun _ hp=>(nomatch hp)⟩
def st0:bf:=(0,[],[],(0,0),(0,0),0,(0,0),(0,0),(0,0),0,0)
theorem zD {α β:Type} {f:α→Option β} {g:Option β}:JU (none:Option α) f g=g:=rfl
theorem Q6 {o:ai} {l:List ah} {line day:Int} (h:dh o l=0) (hd:1≤day∧day≤3652059) (hr:¬(line<1∨99999<line)):
 iP o l line day=some (match jl line (fC o l 0 day).1 with | some x=>(aT x,true,0,()) | none=>(st0,false,0,())):=by
 unfold iP
 rw [lp,if_neg (show ¬dh o l≠0 from fun e=>e h),if_neg (show ¬¬(1≤day∧day≤3652059) from fun e=>e hd)]
 refine Eq.trans zD ?_
 rw [wL h hd,Option.bind_some]
 dsimp only
 rw [show ((0:Int) != 0)=false from rfl,cond_false,fU,Option.bind_some,afs hr]
 dsimp only
 rw [cond_false,gd]
 have hg:=(aad h 0 day).1
 generalize (fC o l 0 day).1=A at hg
 unfold jl
 show (bif Option.isNone (dw line A) then _ else _)=_
 cases hk:dw line A with
 | none=>rfl
 | some k=>
  obtain ⟨x,hx,_⟩:=qM hk
  have hm:=List.mem_of_getElem? hx
  rw [show Option.isNone (some k)=false from rfl,cond_false,show bR line 0 A=some k from hk,sI hx (hg.sound.line x hm).1 (hg.pr x hm),Option.bind_some,Option.bind_some,hx]
end Go.Md
namespace Go.Md
open Go.Dn
end Go.Md
namespace Go.Md
open Go.Dn
theorem jZ (a b c:Int):je a b c=some (decide (b≤a∧a≤c),()):=by
 unfold je
 by_cases h:b≤a
 ·rw [bE h];simp [h]
 ·rw [bH h];simp [h]
theorem TD {a b:aa} (ha:cr a) (hb:cr b):ur a b=some ((lQ a - lQ b).sign,()):=YE ha hb
theorem M7:cr ((1000000000,0):aa)∧lQ ((1000000000,0):aa)=1000000000*10 ^ 9:=⟨⟨by decide,by decide,by decide⟩,by simp [lQ]⟩
theorem Xq {d:aa} (hd:cr d) (pl:Int):inR d 0 1000000000 pl=(!decide (d.1<0)&&(!decide ((lQ d - 1000000000*10 ^ 9).sign>0)&& !decide (d.2>pl))):=by
 have h1:(lQ d - 1000000000*10 ^ 9).sign>0↔¬d.1≤1000000000*10 ^ d.2.toNat:=by
  rw [← aa6 hd.2.1 hd.2.2,gt_iff_lt,Int.sign_pos_iff]
  omega
 unfold inR
 rw [ac5]
 simp only [afu,ac1,adb,aft]
 rw [h1]
 constructor
 ·rintro ⟨_,h2,h3,h4⟩;exact ⟨by omega,fun h=>h h4,by omega⟩
 ·rintro ⟨h2,h3,h4⟩;exact ⟨hd,by omega,by omega,adi.1 h3⟩
theorem Xr {d:aa} (hd:¬cr d) (a b pl:Int):inR d a b pl=false:=afs (fun h=>hd h.1)
theorem AB (d:aa) (z:Bool):mQ d z=some (if qOk d z=true then 0 else 1,()):=by
 unfold mQ qOk A3
 simp only [Option.bind_some]
 rw [ju,Option.bind_some]
 by_cases hd:cr d
 ·rw [if_pos hd,Xq hd 3,TD hd M7.1,M7.2]
  generalize decide (d.1<0)=b1
  generalize (lQ d - 1000000000*10 ^ 9).sign=sg
  generalize decide (d.2>3)=b3
  generalize (d.1==0)=b4
  simp only [Option.bind_some]
  generalize decide (sg>0)=b2
  cases b1<;>cases b4<;>cases z<;>cases b2<;>cases b3<;>rfl
 ·rw [if_neg hd,Xr hd]
  rfl
theorem Fa (d:aa):rS d=some (if inR d 0 1000000000 4=true then 0 else 1,()):=by
 unfold rS A3
 simp only [Option.bind_some]
 rw [ju,Option.bind_some]
 by_cases hd:cr d
 ·rw [if_pos hd,Xq hd 4,TD hd M7.1,M7.2]
  generalize decide (d.1<0)=b1
  generalize (lQ d - 1000000000*10 ^ 9).sign=sg
  generalize decide (d.2>4)=b3
  simp only [Option.bind_some]
  generalize decide (sg>0)=b2
  cases b1<;>cases b2<;>cases b3<;>rfl
 ·rw [if_neg hd,Xr hd]
  rfl
theorem MT {k:Int} (hk:1≤k∧k≤11):GH k=some ((usQ k,usP k,usU k,usA k,usT k),()):=by
 have:k=1∨k=2∨k=3∨k=4∨k=5∨k=6∨k=7∨k=8∨k=9∨k=10∨k=11:=by omega
 rcases this with rfl | rfl | rfl | rfl | rfl | rfl | rfl | rfl | rfl | rfl | rfl<;>rfl
theorem abV (a b:Bool):(bif a then some (b,()) else some (false,()))=some (a&&b,()):=by cases a<;>rfl
theorem bOr (a b:Bool):(bif a then some (true,()) else some (b,()))=some (a||b,()):=by cases a<;>rfl
theorem bAO (a b x:Bool):(bif a then some (b||x,()) else some (x,()))=some (a&&b||x,()):=by cases a<;>rfl
theorem acL (b:Bool):((if b=true then (0:Int) else 1) != 0)= !b:=by cases b<;>rfl
theorem acu {β:Type} (x:Option β):chk true x=x:=rfl
theorem aa3 (a b:List UInt8):((a++b)==[])=((a==[])&&(b==[])):=by cases a<;>cases b<;>rfl
theorem NP {d:ah} (hk:1≤d.2.2.2.1∧d.2.2.2.1≤11) (hs:d.2.2.2.2.2.1.length+d.2.2.2.2.2.2.2.1.length≤maxLen):vm d=some (DL d,()):=by
 unfold vm DL Rx
 rw [MT hk,Option.bind_some]
 simp only [AB,Fa,wN,E2,jZ,Option.bind_some,decide_eq_true hs,acu,acL,aa3]
 rw [show decide (1≤d.2.2.2.2.2.2.2.2.2.1∧d.2.2.2.2.2.2.2.2.2.1≤3652059)=xq d.2.2.2.2.2.2.2.2.2.1 from rfl,show decide (1≤d.2.2.2.2.2.2.2.2.2.2∧d.2.2.2.2.2.2.2.2.2.2≤2000)=CG d.2.2.2.2.2.2.2.2.2.2 from rfl]
 generalize usQ d.2.2.2.1=uq
 generalize usP d.2.2.2.1=up
 generalize usU d.2.2.2.1=uu
 generalize usA d.2.2.2.1=ua
 generalize usT d.2.2.2.1=ut
 generalize (d.2.2.2.1==2)=k2
 generalize qOk d.2.2.2.2.2.2.1 k2=q
 generalize inR d.2.2.2.2.2.2.2.2.1 0 1000000000 4=p
 generalize xq d.2.2.2.2.2.2.2.2.2.1=dy
 generalize CG d.2.2.2.2.2.2.2.2.2.2=tt
 generalize cL d.2.2.2.2.2.1=n1
 generalize cL d.2.2.2.2.2.2.2.1=n2
 generalize (d.2.2.2.2.2.1==[])=e1
 generalize (d.2.2.2.2.2.2.2.1==[])=e2
 generalize (d.2.2.2.2.2.2.2.2.2.1 != 0)=un
 generalize (d.2.2.2.2.2.2.2.2.2.2 != 0)=to
 simp only [ac4]
 generalize (d.2.2.2.2.2.2.1.1==0&&d.2.2.2.2.2.2.1.2==0)=q0
 generalize (d.2.2.2.2.2.2.2.2.1.1==0&&d.2.2.2.2.2.2.2.2.1.2==0)=p0
 simp only [abV,bOr,bAO,Option.bind_some]
 generalize h1:(uq&& !q)=c1
 cases c1
 ·simp only [cond_false]
  generalize h2:(up&& !p)=c2
  cases c2
  ·simp only [cond_false]
   generalize h3:(uu&& !dy)=c3
   cases c3
   ·simp only [cond_false]
    generalize h4:(ua&&(!n1|| !n2))=c4
    cases c4
    ·simp only [cond_false]
     generalize h5:(ut&& !tt)=c5
     cases c5
     ·simp only [cond_false]
      have e:((!uq&& !q0)||((!up&& !p0)||((!uu&&un)||((!ua&& !(e1&&e2))||(!ut&&to)))))=((!ua&& !e1)||((!uq&& !q0)||((!ua&& !e2)||((!up&& !p0)||((!uu&&un)||(!ut&&to)))))):=by
       generalize (!uq&& !q0)=x1
       generalize (!up&& !p0)=x2
       generalize (!uu&&un)=x3
       generalize (!ut&&to)=x4
       cases ua<;>cases e1<;>cases e2<;>cases x1<;>cases x2<;>cases x3<;>cases x4<;>rfl
      rw [e]
      generalize ((!ua&& !e1)||((!uq&& !q0)||((!ua&& !e2)||((!up&& !p0)||((!uu&&un)||(!ut&&to))))))=c6
      cases c6<;>rfl
     ·rfl
    ·rfl
   ·rfl
  ·rfl
 ·rfl
theorem Sz (k:Int):BD k=some (decide ((1≤k∧k≤4)∨k=8∨k=10∨k=11),()):=by
 unfold BD
 rw [jZ,Option.bind_some]
 dsimp only
 by_cases h1:1≤k∧k≤4
 ·rw [decide_eq_true h1,cond_true,decide_eq_true (.inl h1)]
 ·rw [afs h1,cond_false]
  by_cases h2:k=8
  ·subst h2;rfl
  ·rw [cD h2,cond_false]
   by_cases h3:k=10
   ·subst h3;rfl
   ·rw [cD h3,cond_false]
    by_cases h4:k=11
    ·subst h4;rfl
    ·rw [cD h4,afs (fun h=>by omega)]
theorem Rl (a b:ah):uv a b=some (dCw a b,()):=by
 unfold uv dCw
 generalize w64 (a.1 - b.1)=x
 generalize w64 (a.2.1 - b.2.1)=y
 generalize w64 (a.2.2.1 - b.2.2.1)=z
 simp only [aec,aee]
 have key:iter (X:=s7) (β:=s6) 8 (3,0,[x,y,z],()) zV=(bif x != 0 then some (Sum.inl (x,())) else bif y != 0 then some (Sum.inl (y,())) else bif z != 0 then some (Sum.inl (z,())) else some (Sum.inr ())):=by kernel_rfl
 show aJ (β:=(Int×Unit)) (γ:=Unit) (iter 8 (3,0,[x,y,z],()) zV) _=_
 rw [key]
 by_cases hx:x=0
 ·subst hx
  by_cases hy:y=0
  ·subst hy
   by_cases hz:z=0
   ·subst hz;rfl
   ·have:(z != 0)=true:=by simp [hz]
    rw [this];simp [aJ]
  ·have:(y != 0)=true:=by simp [hy]
   rw [this];simp [aJ,hy]
 ·have:(x != 0)=true:=by simp [hx]
  rw [this];simp [aJ,hx]
def pz (b:Int) (l:List ah):Int:=l.foldl (fun m d=>if d.2.1=b then d.2.2.1 else m) 0
theorem Wd (b:Int) (l:List ah) (hl:l.length≤2000):GA l b=some (pz b l,()):=by
 unfold GA
 have:∀ n,l.length<n→iter (X:=uw) (β:=zX) n (b,0,l,(l.length:Int),0,()) zW=some (Sum.inr (pz b l,())):=by
  intro n hn
  refine bQ (Inv:=fun i X=>X=((b,pz b (l.take i),l,(l.length:Int),(i:Int),()):uw)) l.length (fun z=>z=some (Sum.inr (pz b l,()))) ?_ ?_ n 0 _ rfl (afg _) (by omega)
  ·rintro i X again hi rfl hag
   unfold zW
   dsimp only
   obtain ⟨y,hy⟩:∃ y,l[i]? =some y:=⟨l[i],List.getElem?_eq_getElem hi⟩
   rw [decide_eq_true (show (i:Int)<(l.length:Int) by omega),cond_true,bJ hy,Option.bind_some,aA (n:=(i:Int)+1) (by omega) (by omega)]
   have e:pz b (l.take (i+1))=if y.2.1=b then y.2.2.1 else pz b (l.take i):=by
    unfold pz
    rw [lY hy,List.foldl_append];rfl
   by_cases hb:y.2.1=b
   ·rw [show (y.2.1==b)=true by simpa using hb,cond_true]
    rw [if_pos hb] at e
    exact hag _ (by rw [e];rfl)
   ·rw [cD hb,cond_false]
    rw [if_neg hb] at e
    exact hag _ (by rw [e];rfl)
  ·rintro X again rfl
   unfold zW
   dsimp only
   rw [afs (show ¬(l.length:Int)<(l.length:Int) by omega),cond_false,aeM]
 rw [this _ (by omega)]
 rfl
theorem aag {a b:ah} (ha:bn a=0) (hb:bn b=0):decide (dCw b a≤0)=decide (0≤dCw a b):=by
 obtain ⟨a1,a2,a3,_⟩:=bG ha
 obtain ⟨b1,b2,b3,_⟩:=bG hb
 unfold dCw
 rw [aA (n:=b.1 - a.1) (by omega) (by omega),aA (n:=a.1 - b.1) (by omega) (by omega),aA (n:=b.2.1 - a.2.1) (by omega) (by omega),aA (n:=a.2.1 - b.2.1) (by omega) (by omega),
  aA (n:=b.2.2.1 - a.2.2.1) (by omega) (by omega),aA (n:=a.2.2.1 - b.2.2.1) (by omega) (by omega),afr]
 by_cases h1:a.1 - b.1=0
 ·rw [if_neg (show ¬(b.1 - a.1≠0) by omega),if_neg (show ¬(a.1 - b.1≠0) by omega)]
  by_cases h2:a.2.1 - b.2.1=0
  ·rw [if_neg (show ¬(b.2.1 - a.2.1≠0) by omega),if_neg (show ¬(a.2.1 - b.2.1≠0) by omega)];omega
  ·rw [if_pos (show (b.2.1 - a.2.1≠0) by omega),if_pos (show (a.2.1 - b.2.1≠0) by omega)];omega
 ·rw [if_pos (show (b.1 - a.1≠0) by omega),if_pos (show (a.1 - b.1≠0) by omega)];omega
def Txt (d:ah):Prop:=d.2.2.2.2.2.1.length+d.2.2.2.2.2.2.2.1.length≤maxLen
theorem PF (l:List ah) (hs:∀ d,d∈l→Txt d):xJ l=some (mC l,()):=by
 unfold xJ mC
 by_cases hlen:2000<l.length
 ·rw [if_pos hlen,decide_eq_true (show (l.length:Int)>2000 by omega),cond_true]
 rw [if_neg hlen,afs (show ¬(l.length:Int)>2000 by omega),cond_false]
 have loop:∀ (r:List ah) (i n:Nat),l.drop i=r→i≤l.length→(∀ q,bK l i=some q→bn q=0)→r.length<n→
  aJ (β:=(Int×Unit)) (γ:=Unit) (iter (X:=qW) (β:=qV) n (l,l,(l.length:Int),(i:Int),()) mP) (fun _=>some (0,()))=some (cU r (bK l i) (pz 1 (l.take i)) (pz 2 (l.take i)),()):=by
  intro r
  induction r with
  | nil=>
   intro i n hd hi _ hn
   have:i=l.length:=by
    have:=congrArg List.length hd
    simp at this;omega
   subst this
   obtain ⟨n,rfl⟩:∃ m,n=m+1:=⟨n - 1,by omega⟩
   rw [cF]
   unfold mP
   dsimp only
   rw [afs (show ¬((l.length:Int)<(l.length:Int)) by omega),cond_false]
   rfl
  | cons d r ih=>
   intro i n hdr hi hq hn
   have hd:l[i]? =some d:=by
    have:=congrArg (·[0]?) hdr
    simpa [ad1] using this
   have hr':l.drop (i+1)=r:=by
    have:=congrArg List.tail hdr
    simpa [aeH] using this
   have hlt:i<l.length:=(List.getElem?_eq_some_iff.1 hd).1
   obtain ⟨n,rfl⟩:∃ m,n=m+1:=⟨n - 1,by simp at hn;omega⟩
   rw [cF]
   generalize hag:(fun y=>iter n y mP)=again
   unfold mP
   dsimp only
   rw [decide_eq_true (show (i:Int)<(l.length:Int) by omega),cond_true,bJ hd,Option.bind_some,wN,Option.bind_some]
   simp only [cU]
   by_cases h1:1≤d.1∧d.1≤3652059
   rotate_left
   ·have e:bn d=1:=by unfold bn;rw [if_pos h1]
    rw [afs h1,if_pos (show bn d≠0 by omega),e];rfl
   rw [decide_eq_true h1,Bool.not_true,cond_false]
   have eby:(bif d.2.1 != 1 then some (d.2.1 != 2,()) else some (false,()))=some (!decide (1≤d.2.1∧d.2.1≤2),()):=by
    rw [abV]
    congr 2
    by_cases k1:d.2.1=1
    ·simp [k1]
    ·by_cases k2:d.2.1=2
     ·simp [k2]
     ·rw [cq k1,cq k2,afs (by omega)];rfl
   rw [eby,Option.bind_some]
   dsimp only
   by_cases h2:1≤d.2.1∧d.2.1≤2
   rotate_left
   ·have e:bn d=4:=by unfold bn;rw [if_neg (show ¬¬_ from fun e=>e h1),if_pos h2]
    rw [afs h2,if_pos (show bn d≠0 by omega),e];rfl
   rw [decide_eq_true h2,Bool.not_true,cond_false,jZ,Option.bind_some]
   dsimp only
   by_cases h3:1≤d.2.2.1∧d.2.2.1≤2000
   rotate_left
   ·have e:bn d=1:=by unfold bn;rw [if_neg (show ¬¬_ from fun e=>e h1),if_neg (show ¬¬_ from fun e=>e h2),if_pos h3]
    rw [afs h3,if_pos (show bn d≠0 by omega),e];rfl
   rw [decide_eq_true h3,Bool.not_true,cond_false,jZ,Option.bind_some]
   dsimp only
   by_cases h4:1≤d.2.2.2.1∧d.2.2.2.1≤11
   rotate_left
   ·have e:bn d=4:=by unfold bn;rw [if_neg (show ¬¬_ from fun e=>e h1),if_neg (show ¬¬_ from fun e=>e h2),if_neg (show ¬¬_ from fun e=>e h3),if_pos h4]
    rw [afs h4,if_pos (show bn d≠0 by omega),e];rfl
   rw [decide_eq_true h4,Bool.not_true,cond_false,Sz,Option.bind_some]
   dsimp only
   by_cases h5:(d.2.2.2.1=5∨d.2.2.2.1=6∨d.2.2.2.1=7∨d.2.2.2.1=9)↔d.2.1=2
   rotate_left
   ·have e:bn d=4:=by unfold bn;rw [if_neg (show ¬¬_ from fun e=>e h1),if_neg (show ¬¬_ from fun e=>e h2),if_neg (show ¬¬_ from fun e=>e h3),if_neg (show ¬¬_ from fun e=>e h4),if_pos h5]
    have e2:(decide ((1≤d.2.2.2.1∧d.2.2.2.1≤4)∨d.2.2.2.1=8∨d.2.2.2.1=10∨d.2.2.2.1=11)==(d.2.1==1))=false:=by
     by_cases k:d.2.1=1
     ·rw [k,show ((1:Int)==1)=true from rfl,afs (fun h=>h5 (by omega))];rfl
     ·rw [cD k,decide_eq_true (Classical.byContradiction fun h=>h5 (by omega))];rfl
    rw [e2,if_pos (show bn d≠0 by omega),e];rfl
   have e5:(decide ((1≤d.2.2.2.1∧d.2.2.2.1≤4)∨d.2.2.2.1=8∨d.2.2.2.1=10∨d.2.2.2.1=11)==(d.2.1==1))=true:=by
    by_cases k:d.2.1=1
    ·rw [k,show ((1:Int)==1)=true from rfl,decide_eq_true (by omega)];rfl
    ·rw [cD k,afs (by omega)];rfl
   rw [e5,Bool.not_true,cond_false,jZ,Option.bind_some]
   dsimp only
   by_cases h6:1≤d.2.2.2.2.1∧d.2.2.2.2.1≤99999
   rotate_left
   ·have e:bn d=1:=by unfold bn;rw [if_neg (show ¬¬_ from fun e=>e h1),if_neg (show ¬¬_ from fun e=>e h2),if_neg (show ¬¬_ from fun e=>e h3),if_neg (show ¬¬_ from fun e=>e h4),if_neg (show ¬¬_ from fun e=>e h5),if_pos h6]
    rw [afs h6,if_pos (show bn d≠0 by omega),e];rfl
   have ed:bn d=DL d:=by unfold bn;rw [if_neg (show ¬¬_ from fun e=>e h1),if_neg (show ¬¬_ from fun e=>e h2),if_neg (show ¬¬_ from fun e=>e h3),if_neg (show ¬¬_ from fun e=>e h4),if_neg (show ¬¬_ from fun e=>e h5),if_neg (show ¬¬_ from fun e=>e h6)]
   rw [decide_eq_true h6,Bool.not_true,cond_false,NP h4 (hs d (List.mem_of_getElem? hd)),Option.bind_some, ← ed]
   dsimp only
   by_cases h7:bn d=0
   rotate_left
   ·rw [cq h7,if_pos h7];rfl
   rw [h7,show ((0:Int) != 0)=false from rfl,cond_false,if_neg (show ¬(0:Int)≠0 from fun e=>e rfl)]
   have epr:(bif decide ((i:Int)>0) then Option.bind (idx l (w64 ((i:Int) - 1))) fun y10=>Option.bind (uv d y10) fun r11=>some (decide (r11.1≤0),()) else some (false,()))=some ((bK l i).any fun q=>decide (0≤dCw q d),()):=by
    cases i with
    | zero=>rfl
    | succ i=>
     obtain ⟨q,hqq⟩:∃ q,l[i]? =some q:=⟨l[i],List.getElem?_eq_getElem (by omega)⟩
     rw [decide_eq_true (show ((i+1:Nat):Int)>0 by omega),cond_true,aA (n:=((i+1:Nat):Int) - 1) (by omega) (by omega),show ((i+1:Nat):Int) - 1=(i:Int) by omega,bJ hqq,Option.bind_some,Rl,Option.bind_some]
     show some (decide (dCw d q≤0),())=some ((bK l (i+1)).any _,())
     rw [show bK l (i+1)=some q from hqq,aag (hq q hqq) h7]
     rfl
   rw [epr,Option.bind_some]
   dsimp only
   cases h8:((bK l i).any fun q=>decide (0≤dCw q d))
   rotate_left
   ·rfl
   rw [cond_false,if_neg (show ¬false=true from ac7)]
   rw [cE (by simp only [ac1,afu];omega),adA,adO,Wd _ _ (by simp;omega),Option.bind_some]
   dsimp only
   have htk:∀ b,pz b (l.take (i+1))=if d.2.1=b then d.2.2.1 else pz b (l.take i):=by
    intro b
    unfold pz
    rw [lY hd,List.foldl_append];rfl
   have hnext:∀ q,bK l (i+1)=some q→bn q=0:=by
    intro q hqq
    have:l[i]? =some q:=hqq
    rw [hd] at this;cases this;exact h7
   have ih':=ih (i+1) n hr' (by omega) hnext (by simp at hn;omega)
   rw [show bK l (i+1)=some d from hd,htk 1,htk 2] at ih'
   rw [aA (n:=(i:Int)+1) (by omega) (by omega)]
   have hi1:(i:Int)+1=((i+1:Nat):Int):=by omega
   by_cases k1:d.2.1=1
   ·rw [if_pos k1]
    rw [if_pos k1,if_neg (show ¬d.2.1=2 by omega)] at ih'
    rw [k1]
    by_cases h9:d.2.2.1=w64 (pz 1 (l.take i)+1)
    ·rw [show (d.2.2.1 != w64 (pz 1 (l.take i)+1))=false by simpa using h9,cond_false,if_neg (fun e=>e h9),hi1, ← hag]
     exact ih'
    ·rw [cq h9,if_pos h9];rfl
   ·have k2:d.2.1=2:=by omega
    rw [if_neg k1]
    rw [if_neg k1,if_pos k2] at ih'
    rw [k2]
    by_cases h9:d.2.2.1=w64 (pz 2 (l.take i)+1)
    ·rw [show (d.2.2.1 != w64 (pz 2 (l.take i)+1))=false by simpa using h9,cond_false,if_neg (fun e=>e h9),hi1, ← hag]
     exact ih'
    ·rw [cq h9,if_pos h9];rfl
 exact loop l 0 _ rfl (afg _) (fun q hq=>by cases hq) (by omega)
end Go.Md
namespace Go.Md
open Go.Dn
abbrev RH (d:ah):aa:=(d.2.1,d.2.2.1)
def leD (x y:ah):Bool:= !decide (Zg y x<0)
def Lex (a b:ah):Prop:=a.1<b.1∨(a.1=b.1∧(a.2.1<b.2.1∨(a.2.1=b.2.1∧a.2.2.1≤b.2.2.1)))
theorem Xy (a b:ah):leD a b=true↔Lex a b:=by
 unfold leD Zg Lex
 by_cases h1:b.1 - a.1=0
 ·rw [show (b.1 - a.1==0)=true by simpa using h1,Bool.not_true,cond_false]
  by_cases h2:b.2.1 - a.2.1=0
  ·rw [show (b.2.1 - a.2.1==0)=true by simpa using h2,Bool.not_true,cond_false]
   simp only [adb,aft];omega
  ·rw [cD h2,ade,cond_true]
   simp only [adb,aft];omega
 ·rw [cD h1,ade,cond_true]
  simp only [adb,aft];omega
end Go.Md
namespace Go.Md
open Go.Dn
end Go.Md
namespace Go.Md
open Go.Dn
theorem abY {a b:ah} (ha:bn a=0) (hb:bn b=0):dCw a b<0↔¬Lex b a:=by
 obtain ⟨a1,a2,a3,_⟩:=bG ha
 obtain ⟨b1,b2,b3,_⟩:=bG hb
 unfold dCw Lex
 rw [aA (n:=a.1 - b.1) (by omega) (by omega),aA (n:=a.2.1 - b.2.1) (by omega) (by omega),aA (n:=a.2.2.1 - b.2.2.1) (by omega) (by omega)]
 by_cases h1:a.1 - b.1=0
 ·rw [if_neg (show ¬(a.1 - b.1≠0) by omega)]
  by_cases h2:a.2.1 - b.2.1=0
  ·rw [if_neg (show ¬(a.2.1 - b.2.1≠0) by omega)];omega
  ·rw [if_pos h2];omega
 ·rw [if_pos h1];omega
theorem Oh:∀ (r:List ah) (p:Option ah) (nb ns:Int),0≤nb→nb≤2000→0≤ns→ns≤2000→(∀ q,p=some q→bn q=0)→cU r p nb ns=0→
 (∀ d,d∈r→bn d=0∧(d.2.1=1→nb<d.2.2.1)∧(d.2.1≠1→ns<d.2.2.1)∧∀ q,p=some q→¬Lex d q)∧r.Pairwise (fun a b=>¬Lex b a)∧r.Pairwise (fun a b=>RH a≠RH b)
 | [],p,nb,ns,_,_,_,_,_,_=>⟨fun _ hd=>(nomatch hd),List.Pairwise.nil,List.Pairwise.nil⟩
 | d::r,p,nb,ns,h1,h2,h3,h4,hp,h=>by
  simp only [cU] at h
  by_cases hf:bn d=0
  rotate_left
  ·rw [if_pos hf] at h;exact absurd h hf
  rw [if_neg (fun e=>e hf)] at h
  by_cases hpp:(p.any fun q=>decide (0≤dCw q d))=true
  ·rw [if_pos hpp] at h;cases h
  rw [if_neg hpp] at h
  have hlex:∀ q,p=some q→¬Lex d q:=by
   rintro q rfl
   rw [← abY (hp q rfl) hf]
   have:¬(0≤dCw q d):=fun e=>hpp (decide_eq_true e)
   omega
  obtain ⟨_,_,d3,_⟩:=bG hf
  have step:∀ nb' ns',0≤nb'→nb'≤2000→0≤ns'→ns'≤2000→nb≤nb'→ns≤ns'→(d.2.1=1→nb<d.2.2.1∧nb'=d.2.2.1)→(d.2.1≠1→ns<d.2.2.1∧ns'=d.2.2.1)→cU r (some d) nb' ns'=0→
   (∀ e,e∈d::r→bn e=0∧(e.2.1=1→nb<e.2.2.1)∧(e.2.1≠1→ns<e.2.2.1)∧∀ q,p=some q→¬Lex e q)∧(d::r).Pairwise (fun a b=>¬Lex b a)∧(d::r).Pairwise (fun a b=>RH a≠RH b):=by
   intro nb' ns' g1 g2 g3 g4 g5 g6 g7 g8 hg
   obtain ⟨i1,i2,i3⟩:=Oh r (some d) nb' ns' g1 g2 g3 g4 (fun q hq=>by cases hq;exact hf) hg
   refine ⟨fun e he=> ?_,List.Pairwise.cons (fun e he=>(i1 e he).2.2.2 d rfl) i2,List.Pairwise.cons (fun e he hk=> ?_) i3⟩
   ·rcases aeq.1 he with rfl | he
    ·exact ⟨hf,fun e1=>(g7 e1).1,fun e1=>(g8 e1).1,hlex⟩
    ·obtain ⟨j1,j2,j3,j4⟩:=i1 e he
     refine ⟨j1,fun e1=>by have:=j2 e1;omega,fun e1=>by have:=j3 e1;omega,fun q hq hl=> ?_⟩
     have k1:=hlex q hq
     have k2:=j4 d rfl
     unfold Lex at*
     omega
   ·obtain ⟨j1,j2,j3,j4⟩:=i1 e he
    have e1:d.2.1=e.2.1:=(Prod.mk.inj hk).1
    have e2:d.2.2.1=e.2.2.1:=(Prod.mk.inj hk).2
    by_cases hb:d.2.1=1
    ·have:=j2 (by omega)
     have:=(g7 hb).2
     omega
    ·have:=j3 (by omega)
     have:=(g8 hb).2
     omega
  by_cases hb:d.2.1=1
  ·rw [if_pos hb] at h
   by_cases hn:d.2.2.1=w64 (nb+1)
   ·rw [if_neg (fun e=>e hn)] at h
    rw [aA (by omega) (by omega)] at hn
    exact step d.2.2.1 ns (by omega) (by omega) h3 h4 (by omega) (by omega) (fun _=>⟨by omega,rfl⟩) (fun e=>absurd hb e) h
   ·rw [if_pos hn] at h;cases h
  ·rw [if_neg hb] at h
   by_cases hn:d.2.2.1=w64 (ns+1)
   ·rw [if_neg (fun e=>e hn)] at h
    rw [aA (by omega) (by omega)] at hn
    exact step nb d.2.2.1 h1 h2 (by omega) (by omega) (by omega) (by omega) (fun e=>absurd e hb) (fun _=>⟨by omega,rfl⟩) h
   ·rw [if_pos hn] at h;cases h
theorem X4 {l:List ah} (h:mC l=0):l.Pairwise (fun a b=>leD a b=true)∧l.Pairwise (fun a b=>RH a≠RH b):=by
 have hl:=(si h).1
 unfold mC at h
 rw [if_neg (by omega)] at h
 obtain ⟨_,i2,i3⟩:=Oh l none 0 0 (by omega) (by omega) (by omega) (by omega) (fun q hq=>by cases hq) h
 refine ⟨i2.imp fun {a b} hab=> ?_,i3⟩
 rw [Xy]
 unfold Lex at*
 omega
end Go.Md
