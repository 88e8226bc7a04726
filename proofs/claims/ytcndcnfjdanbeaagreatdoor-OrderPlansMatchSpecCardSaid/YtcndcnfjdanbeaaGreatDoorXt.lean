/-
  Plain facts: deeds, followed one behind the other. No condition.
-/
import Derived.Test.YtcndcnfjdanbeaaGreatDoorXs
import Derived.Test.YtcndcnfjdanbeaaGreatDoorXq
import Derived.Test.YtcndcnfjdanbeaaGreatDoorXo
set_option linter.all false
namespace Go.Md
open Go.Dn
theorem Zp {day:Int} {p:Option aK} {x:aK} (h:dz day p x=0):(1≤x.1∧x.1≤99999)∧(∀ q,p=some q→q.1<x.1)∧cM x.2.1=true∧qOk x.2.2.1 false=true∧cM x.2.2.2.1=true∧inR x.2.2.2.2.1 0 1000000000 4=true∧(day≤x.2.2.2.2.2∧x.2.2.2.2.2≤3652059):=by
 unfold dz at h
 split at h
 ·cases h
 ·rename_i h1
  split at h
  ·cases h
  ·rename_i h2
   split at h
   ·cases h
   ·rename_i h3
    split at h
    ·cases h
    ·rename_i h4
     split at h
     ·cases h
     ·rename_i h5
      split at h
      ·cases h
      ·rename_i h6
       split at h
       ·cases h
       ·rename_i h7
        refine⟨agM.1 h1,fun q hq=> ?_,by simpa using h3,by simpa using h4,by simpa using h5,by simpa using h6,agM.1 h7⟩
        subst hq
        have:¬x.1≤q.1:=fun e=>h2 (ajh e)
        omega
theorem mS {day:Int}:∀ {r:List aK} {p:Option aK},jQ day r p=0→
 (∀ x,x∈r→cM x.2.1=true∧qOk x.2.2.1 false=true∧cM x.2.2.2.1=true∧inR x.2.2.2.2.1 0 1000000000 4=true∧(1≤x.1∧x.1≤99999)∧(day≤x.2.2.2.2.2∧x.2.2.2.2.2≤3652059))∧(∀ q,p=some q→∀ x,x∈r→q.1<x.1)∧r.Pairwise (fun a b=>a.1<b.1)
 | [],p,_=>⟨nofun,fun _ _ _ h=>(nomatch h),List.Pairwise.nil⟩
 | y::r,p,h=>by
  simp only[jQ] at h
  by_cases hf:dz day p y=0
  ·rw[ajo (fun e=>e hf)] at h
   obtain⟨a1,a2,a3⟩:=mS h
   obtain⟨b1,b2,b3,b4,b5,b6,b7⟩:=Zp hf
   refine⟨fun x hx=> ?_,fun q hq x hx=> ?_,List.Pairwise.cons (fun x hx=>a2 y rfl x hx) a3⟩
   ·rcases ah0.1 hx with rfl | hx
    ·exact⟨b3,b4,b5,b6,b1,b7⟩
    ·exact a1 x hx
   ·rcases ah0.1 hx with rfl | hx
    ·exact b2 q hq
    ·have:=b2 q hq
     have:=a2 y rfl x hx
     omega
  ·rw[ajp hf] at h
   exact absurd h hf
theorem qa {o:aj} (h:lT o=0):(1≤cN o∧cN o≤3652059)∧(0≤b8 o∧b8 o≤1000)∧(jf o).length≤500∧jf o≠[]∧jQ (cN o) (jf o) none=0∧(cM (Ga o)=true∧cM (F9 o)=true∧cM (KZ o)=true∧F9 o≠KZ o):=by
 unfold lT at h
 split at h
 ·cases h
 ·rename_i h1
  split at h
  ·cases h
  ·rename_i h2
   split at h
   ·cases h
   ·rename_i h3
    split at h
    ·cases h
    ·rename_i h4
     split at h
     ·cases h
     ·rename_i h5
      split at h
      ·cases h
      ·rename_i h6
       refine⟨agM.1 h3,agM.1 h4,by omega,h5,h, ?_, ?_, ?_,h2⟩
       ·cases hb:cM (Ga o)
        ·exact absurd (.inl hb) h1
        ·rfl
       ·cases hb:cM (F9 o)
        ·exact absurd (.inr (.inl hb)) h1
        ·rfl
       ·cases hb:cM (KZ o)
        ·exact absurd (.inr (.inr hb)) h1
        ·rfl
def lR (x:aK):ai:=⟨x.1,x.2.1,x.2.2.2.1,aD x.2.2.1,0,0,0,x.2.2.2.2.1,x.2.2.2.2.2, -1,0,0,0⟩
abbrev jl (o:aj):List ai:=(jf o).map lR
theorem Ic {n:Int}:∀ {A:List ai} {i:Nat},(∀ x,x∈A→x.no≠n)→cm n i A=none
 | [],_,_=>rfl
 | x::r,i,h=>by
  simp only[cm]
  rw[ajo (fun e=>h x (by simp) e.symm)]
  exact Ic (fun y hy=>h y (by simp[hy]))
theorem fq {α:Type} {l:List α} {i:Nat} {y:α} (h:l[i]? =some y):l.take (i+1)=l.take i++[y]:=by
 rw[List.take_add_one,h];rfl
theorem Ld {o:aj} (ho:lT o=0) (l:List aa):ko o l []=some ((o,l,mapOf (jl o),[],[],0,()),(jl o).map ai.tup,()):=by
 obtain⟨_,_,hlen,_,hgo,_⟩:=qa ho
 obtain⟨hln,_,hpw⟩:=mS hgo
 obtain⟨onum,obuy,osel,oday,oext,lns⟩:=o
 change lns.length≤500 at hlen
 change ∀ x,x∈lns→_ at hln
 change lns.Pairwise _ at hpw
 unfold ko
 have:=KS (f:=nF) (fun (_:Unit) (i:Nat)=>((lns,(lns.length:Int),(i:Int),onum,obuy,osel,oday,oext,lns,l,[],[],0,mapOf ((lns.take i).map lR),((lns.take i).map lR).map ai.tup,()):nG)) lns
  (fun (_:Unit) _ _ k=>k ()) (fun _=>some (Sum.inr (onum,obuy,osel,oday,oext,lns,l,[],[],0,mapOf (lns.map lR),(lns.map lR).map ai.tup,()))) (fun s i y again hy=>by
    have hi:i<lns.length:=(ahx.1 hy).1
    unfold nF
    dsimp only
    rw[ajh (show (i:Int)<(lns.length:Int) by omega),ajd,bZ hy,ai1,kV (hln y (ah7 hy)).2.1,ai1]
    have hno:cm y.1 0 ((lns.take i).map lR)=none:=Ic fun z hz=>by
     obtain⟨q,hq,rfl⟩:=ah6.1 hz
     obtain⟨j,hj⟩:=ah5.1 hq
     have hji:j<i:=by
      have:=(ahx.1 hj).1
      simp at this;omega
     rw[ahE hji] at hj
     have h1:=aif.1 hpw j i (by omega) hi hji
     have e1:lns[j]=q:=by have:=ahv (show j<lns.length by omega);rw[hj] at this;exact (Option.some.inj this).symm
     have e2:lns[i]=y:=by have:=ahv hi;rw[hy] at this;exact (Option.some.inj this).symm
     rw[e1,e2] at h1
     show q.1≠y.1
     omega
    have hs:=Rl y.1 (lR y) rfl ((lns.take i).map lR) 0 hno
    rw[aiX] at hs
    rw[ahL,av (n:=(i:Int)+1) (by omega) (by omega)]
    have ht:(lns.take (i+1)).map lR=(lns.take i).map lR++[lR y]:=by rw[fq hy,ahS];rfl
    rw[ht]
    refine congrArg again ?_
    refine Prod.ext rfl (Prod.ext rfl (Prod.ext rfl (Prod.ext rfl (Prod.ext rfl (Prod.ext rfl (Prod.ext rfl (Prod.ext rfl (Prod.ext rfl (Prod.ext rfl (Prod.ext rfl (Prod.ext rfl (Prod.ext rfl (Prod.ext hs (Prod.ext ?_ rfl))))))))))))))
    show List.map ai.tup _++[_]=List.map ai.tup (_++[lR y])
    rw[ahS];rfl) (fun s again=>by
    unfold nF
    dsimp only
    rw[ajf (show ¬((lns.length:Int)<(lns.length:Int)) by omega),ajc,air]) ()
 have hfor:∀ (r:List aK) (i:Nat) (β:Type) (f:Option β),FL (fun (_:Unit) _ _ k=>k ()) (fun _=>f) r i ()=f:=by
  intro r
  induction r with
  | nil=>intro i β f;rfl
  | cons y r ih=>intro i β f;exact ih (i+1) β f
 refine (congrArg (fun z=>aH z _) ((this _ ?_).trans (hfor _ _ _ _))).trans rfl
 simp only[ahM]
 omega
def bq (n:Int):ah:=((few 3 n).1,((few 3 n).2:Int))
theorem pz {n:Int} (h0:0≤n) (h1:n≤1000000000000000):nH n=some (bq n,()):=by
 unfold nH
 rw[QG n (by omega) (by omega),ai1]
 have hb:n.natAbs<4294967296 ^ 99:=aiI (show n.natAbs<4294967296 ^ 2 by omega) (aiV (by omega) (by omega))
 have:=QL n hb 3 (by omega)
 rw[show ((3:Nat):Int)=3 from rfl] at this
 dsimp only
 rw[this,ai1,ajp (by have:=(OY 3 n).2.2;omega)]
 rfl
def mX (d:ah):ah:=((few d.2.toNat d.1).1,((few d.2.toNat d.1).2:Int))
theorem RR {d:ah} (h0:0≤d.1) (h1:d.1≤1000000000000000) (h2:0≤d.2) (h3:d.2≤9):zW d=some (mX d,()):=by
 unfold zW
 have loop:∀ (n:Nat) (z:Int) (p:Nat),0≤z→z≤1000000000000000→p≤9→p<n→iter (X:=uG) (β:=uF) n (z,(p:Int),0,0,()) uE=some (Sum.inr ((few p z).1,((few p z).2:Int),0,0,())):=by
  intro n
  induction n with
  | zero=>intro z p _ _ _ h;omega
  | succ n ih=>
   intro z p hz hz1 hp hn
   rw[bH]
   generalize hag:(fun y=>iter n y uE)=again
   unfold uE
   dsimp only
   cases p with
   | zero=>rfl
   | succ p=>
    rw[ajh (show ((p+1:Nat):Int)>0 by omega),ajd,ai1]
    dsimp only
    rw[ag1 hz]
    by_cases hm:z % 10=0
    ·rw[show (z % 10==0)=true by simp[hm],ajd,ag0 hz,av (n:=z / 10) (by omega) (by omega),av (n:=((p+1:Nat):Int) - 1) (by omega) (by omega),
      show ((p+1:Nat):Int) - 1=(p:Int) by omega, ← hag]
     refine (ih (z / 10) p (by omega) (by omega) (by omega) (by omega)).trans ?_
     rw[show few (p+1) z=few p (z / 10) by rw[few,ajp hm]]
    ·rw[show (z % 10==0)=false by simp[hm],ajc,show few (p+1) z=(z,p+1) by rw[few,ajo hm]]
 obtain⟨k,hk⟩:∃ k:Nat,d.2=k:=⟨d.2.toNat,by omega⟩
 rw[hk]
 have:=loop (d.1.natAbs+(Int.natAbs (k:Int)+(Int.natAbs (0:Int)+(Int.natAbs (0:Int)+2)))) d.1 k h0 h1 (by omega) (by omega)
 rw[this]
 unfold mX
 rw[hk]
 rfl
def aW (x:ai):aT:=(x.no,x.art,x.unit,bq x.ord,mX x.price,x.due,bq x.shp,bq x.rcv,bq x.ret,bq x.opn)
def MM (x:ai):Prop:=0≤x.price.1∧x.price.1≤1000000000000000∧0≤x.price.2∧x.price.2≤9
theorem On {x:ai} (h:LOk x):0≤x.opn∧x.opn≤1000000000000:=by
 have:=h.ret0;have:=h.retr;have:=h.rcvs;have:=h.ord1
 unfold ai.opn
 split<;>omega
theorem Bz {A:List ai} {k:Nat} {x:ai} (h:A[k]? =some x) (hx:LOk x) (hp:MM x):ot (some k) (A.map ai.tup)=some (aW x,()):=by
 obtain⟨p1,p2,p3,p4⟩:=hp
 obtain⟨q1,q2⟩:=On hx
 have:=hx.ret0;have:=hx.retr;have:=hx.rcvs;have:=hx.shp1;have:=hx.uz;have:=hx.ord1
 unfold ot
 simp only[ai1,iw h,qd h hx]
 rw[pz (n:=x.ord) (by omega) (by omega),pz (n:=x.shp) (by omega) (by omega),pz (n:=x.rcv) (by omega) (by omega),pz (n:=x.ret) (by omega) (by omega),pz (n:=x.opn) (by omega) (by omega),RR p1 p2 p3 p4]
 rfl
end Go.Md
namespace Go.Md
open Go.Dn
theorem HC {d:ah} (h:inR d 0 1000000000 4=true):0≤d.1∧d.1≤1000000000000000∧0≤d.2∧d.2≤9:=by
 unfold inR at h
 obtain⟨⟨h1,h2,h3⟩,h4,h5,h6⟩:=ajv h
 refine⟨by omega,by omega,h2,h3⟩
theorem aay {l:List aa} {d:aa} {x:ai} (hw:WOk l x) (hl:∀ d,d∈l→br d=0) (hp:MM x):MM (bN l d x).2:=by
 unfold bN
 by_cases h1:x.wish<0
 ·rw[ajp h1];exact hp
 rw[ajo h1]
 obtain⟨w,hw1,hw2⟩:=hw.kind (by omega)
 rw[lN hw1]
 obtain⟨_,_,_,hk,_,_,hu⟩:=bJ (hl w (ah7 hw1))
 obtain⟨_,up,_⟩:=cZ hu
 by_cases h2:dNo w≠dTo d
 ·rw[ajp h2];exact hp
 rw[ajo h2]
 by_cases h3:aI d=5
 ·rw[ajp h3]
  by_cases k2:aI w=2
  ·rw[ajp k2]
   split<;>exact hp
  ·rw[ajo k2]
   by_cases k1:aI w=1
   ·rw[ajp k1];exact hp
   ·rw[ajo k1]
    by_cases k3:aI w=3
    ·rw[ajp k3];exact hp
    ·rw[ajo k3]
     have hk':1≤aI w∧aI w≤11:=hk
     exact HC (up (by unfold usP;exact ajh (.inr (by omega))))
 ·rw[ajo h3];exact hp
theorem adS {ext:Int} {d:aa} {x:ai} (hp:MM x):MM (cy ext d x).2:=by
 unfold cy
 split
 ·split
  ·exact hp
  ·split<;>exact hp
 ·split
  ·split<;>exact hp
  ·split<;>exact hp
theorem aet {o:aj} {l:List aa} {i:Nat} {d:aa} {x:ai} (hw:WOk l x) (hl:∀ d,d∈l→br d=0) (hp:MM x):MM (bn o l i d x).2:=by
 have ha:=aay (d:=d) hw hl hp
 have hm:=adS (ext:=b8 o) (d:=d) hp
 unfold bn
 split
 ·unfold td
  split
  ·exact hp
  ·split<;>exact hp
 ·split
  ·split<;>exact ha
  ·split
   ·split<;>exact hp
   ·split
    ·unfold CG
     split
     ·exact hp
     ·split<;>exact hp
    ·split
     ·split<;>exact hm
     ·exact hm
structure Good (l:List aa) (A:List ai):Prop where
 sound:Sound l A
 pr:∀ x,x∈A→MM x
theorem Al {o:aj} {l:List aa} {i:Nat} {d:aa} {A:List ai} (hA:Good l A) (hl:∀ d,d∈l→br d=0) (hd:l[i]? =some d):Good l (cg o l i d A).2:=by
 refine⟨(Xe hA.sound hl hd).1,fun x hx=> ?_⟩
 unfold cg at hx
 by_cases k1:aI d=1
 ·rw[ajp k1] at hx
  split at hx
  ·exact hA.pr x hx
  ·split at hx
   ·exact hA.pr x hx
   ·split at hx
    ·exact hA.pr x hx
    ·rcases ahX.1 hx with hx | hx
     ·exact hA.pr x hx
     ·simp only[aib] at hx
      subst hx
      obtain⟨_,_,_,_,_,_,hu⟩:=bJ (hl d (ah7 hd))
      exact HC ((cZ hu).2.1 (by rw[k1];rfl))
 ·rw[ajo k1] at hx
  split at hx
  ·exact hA.pr x hx
  ·split at hx
   ·rename_i y hy
    rcases ah9 hx with hx | hx
    ·exact hA.pr x hx
    ·subst hx
     have hm:=ah7 hy
     exact aet (hA.sound.line y hm).2 hl (hA.pr y hm)
   ·exact hA.pr x hx
def oP (n:Int) (A:List ai):Option ai:=(eU n A).bind fun k=>A[k]?
theorem EG {n:Int} {A:List ai} {k:Nat} {x:ai} (h:eU n A=some k) (hx:A[k]? =some x):oP n A=some x:=by unfold oP;rw[h];exact hx
theorem Qj {o:aj} {l:List aa} {i:Nat} {d:aa} {A:List ai} (hA:Sound l A) (hl:∀ d,d∈l→br d=0) (hd:l[i]? =some d) (h0:(cg o l i d A).1=0):
 ∃ k x,eU (dx d) (cg o l i d A).2=some k∧(cg o l i d A).2[k]? =some x:=by
 unfold cg at h0 ⊢
 by_cases k1:aI d=1
 ·rw[ajp k1] at h0 ⊢
  split at h0
  ·cases h0
  ·rename_i hf
   split at h0
   ·cases h0
   ·rename_i h5
    split at h0
    ·cases h0
    ·rename_i h6
     rw[ajo h5,ajo h6]
     refine⟨A.length,gf i d, ?_,by simp⟩
     show cm (dx d) 0 (A++[gf i d])=_
     rw[Ey,show cm (dx d) 0 A=none from hf,ajp (show dx d=(gf i d).no from rfl)]
     simp
 ·rw[ajo k1] at h0 ⊢
  split at h0
  ·cases h0
  ·rename_i k hk
   obtain⟨x,hx,hxn⟩:=wG hk
   rw[hx]
   dsimp only
   obtain⟨h1,h2⟩:=hA.line x (ah7 hx)
   refine⟨k,_, ?_,O8 hx _⟩
   show cm (dx d) 0 (A.set k _)=_
   rw[KE A 0 (fun z hz=>by rw[hx] at hz;cases hz;exact (EZ (o:=o) h1 h2 hl hd).2.2.1)]
   exact hk
def vO (wt:Int) (i:Nat) (d:aa) (A:List ai) (pts:List ay):List ay:=
 if dx d=wt then (match oP (dx d) A with | some x=>pts++[((i:Int),aW x)] | none=>pts) else pts
def iB (o:aj) (l:List aa) (wt day:Int):List aa→Nat→List ai→List (Int×Int)→List ay→List ai×List (Int×Int)×List ay
 | [],_,A,ref,pts=>(A,ref,pts)
 | d::r,i,A,ref,pts=>
  if day<d.1 then (A,ref,pts)
  else if (cg o l i d A).1≠0 then iB o l wt day r (i+1) (cg o l i d A).2 (ref++[((i:Int),(cg o l i d A).1)]) pts
  else iB o l wt day r (i+1) (cg o l i d A).2 ref (vO wt i d (cg o l i d A).2 pts)
theorem cw {β:Type} {b:Bool} (h:b=true) (x:Option β):chk b x=x:=by rw[h];rfl
theorem ad6 {onum obuy osel:Bys} {oday oext:Int} {olns:List aK} {l:List aa} {wt day:Int} (he0:0≤oext) (he1:oext≤1000) (hl:∀ d,d∈l→br d=0) (hlen:l.length≤2000):
 ∀ (r:List aa) (i n:Nat) (A:List ai) (ref:List (Int×Int)) (pts:List ay),l.drop i=r→i≤l.length→Good l A→ref.length≤i→pts.length≤i→r.length<n→
  iter (X:=mE) (β:=mD) n (day,l,(l.length:Int),(i:Int),onum,obuy,osel,oday,oext,olns,l,mapOf A,ref,pts,wt,A.map ai.tup,()) jr=
   some (Sum.inr (onum,obuy,osel,oday,oext,olns,l,mapOf (iB (onum,obuy,osel,oday,oext,olns) l wt day r i A ref pts).1,(iB (onum,obuy,osel,oday,oext,olns) l wt day r i A ref pts).2.1,(iB (onum,obuy,osel,oday,oext,olns) l wt day r i A ref pts).2.2,wt,(iB (onum,obuy,osel,oday,oext,olns) l wt day r i A ref pts).1.map ai.tup,())):=by
 intro r
 induction r with
 | nil=>
  intro i n A ref pts hd hi hA hr hp hn
  have:i=l.length:=by
   have:=congrArg List.length hd
   simp at this;omega
  subst this
  obtain⟨n,rfl⟩:∃ m,n=m+1:=⟨n - 1,by omega⟩
  rw[bH]
  unfold jr
  dsimp only
  rw[ajf (show ¬((l.length:Int)<(l.length:Int)) by omega),ajc]
  rfl
 | cons d r ih=>
  intro i n A ref pts hdr hi hA hr hp hn
  have hd:l[i]? =some d:=by
   have:=congrArg (·[0]?) hdr
   simpa [ahu] using this
  have hr':l.drop (i+1)=r:=by
   have:=congrArg List.tail hdr
   simpa [ain] using this
  have hlt:i<l.length:=(ahx.1 hd).1
  obtain⟨n,rfl⟩:∃ m,n=m+1:=⟨n - 1,by simp at hn;omega⟩
  rw[bH]
  generalize hag:(fun y=>iter n y jr)=again
  unfold jr
  dsimp only
  rw[ajh (show (i:Int)<(l.length:Int) by omega),ajd,bZ hd,ai1]
  have hdeed:=ID (o:=(onum,obuy,osel,oday,oext,olns)) (ref:=ref) (pts:=pts) (wt:=wt) hA.sound hl hd he0 he1
  have hgood:=Al (o:=(onum,obuy,osel,oday,oext,olns)) hA hl hd
  by_cases hday:day<d.1
  ·rw[ajh (show d.1>day from hday),ajd]
   simp only[iB,ajp hday]
  ·rw[ajf (show ¬d.1>day from hday),ajc]
   rw[hdeed,ai1]
   dsimp only
   rw[av (n:=(i:Int)+1) (by omega) (by omega)]
   simp only[iB,ajo hday]
   have sI:maxLen=9223372036854775807:=rfl
   have hi1:(i:Int)+1=((i+1:Nat):Int):=by omega
   by_cases he:(cg (onum,obuy,osel,oday,oext,olns) l i d A).1=0
   ·rw[ajo (fun h=>h he),he]
    rw[zne,ajc]
    by_cases hw:dx d=wt
    ·obtain⟨k,x,hk,hx⟩:=Qj hA.sound hl hd he
     have hxm:=ah7 hx
     rw[show (d.2.2.2.2.1==wt)=true by simpa using hw,ajd,je,show cm d.2.2.2.2.1 0 _=some k from hk,
      Bz hx (hgood.sound.line x hxm).1 (hgood.pr x hxm),ai1]
     rw[cw (by rw[agx];exact⟨ajh (by omega),ajh (by omega)⟩)]
     have hpt:vO wt i d (cg (onum,obuy,osel,oday,oext,olns) l i d A).2 pts=pts++[((i:Int),aW x)]:=by
      unfold vO
      rw[ajp hw,EG hk hx]
     rw[hpt,hi1, ← hag]
     exact ih (i+1) n _ ref _ hr' (by omega) hgood (by omega) (by simp;omega) (by simp at hn;omega)
    ·rw[show (d.2.2.2.2.1==wt)=false by simpa using hw,ajc]
     have hpt:vO wt i d (cg (onum,obuy,osel,oday,oext,olns) l i d A).2 pts=pts:=by
      unfold vO
      rw[ajo hw]
     rw[hpt,hi1, ← hag]
     exact ih (i+1) n _ ref pts hr' (by omega) hgood (by omega) (by omega) (by simp at hn;omega)
   ·rw[ajp he,fY he,ajd]
    rw[cw (by rw[agx];exact⟨ajh (by omega),ajh (by omega)⟩)]
    rw[hi1, ← hag]
    exact ih (i+1) n _ _ pts hr' (by omega) hgood (by simp;omega) (by omega) (by simp at hn;omega)
theorem JV {o:aj} {l:List aa} {wt day:Int} {A:List ai} (he:0≤b8 o∧b8 o≤1000) (hl:∀ d,d∈l→br d=0) (hlen:l.length≤2000) (hA:Good l A):
 jq (o,l,mapOf A,[],[],wt,()) day (A.map ai.tup)=some ((o,l,mapOf (iB o l wt day l 0 A [] []).1,(iB o l wt day l 0 A [] []).2.1,(iB o l wt day l 0 A [] []).2.2,wt,()),(iB o l wt day l 0 A [] []).1.map ai.tup,()):=by
 obtain⟨onum,obuy,osel,oday,oext,olns⟩:=o
 unfold jq
 refine (congrArg (fun z=>aH z _) (ad6 (onum:=onum) (obuy:=obuy) (osel:=osel) (oday:=oday) (olns:=olns) (wt:=wt) (day:=day) he.1 he.2 hl hlen l 0 _ A [] [] rfl (aiY _) hA (aiY _) (aiY _) ?_)).trans rfl
 dsimp only
 omega
theorem Aw {o:aj} (ho:lT o=0) (l:List aa):Good l (jl o):=by
 obtain⟨_,_,_,_,hgo,_⟩:=qa ho
 obtain⟨hln,_,_⟩:=mS hgo
 refine⟨⟨fun x hx=> ?_⟩,fun x hx=> ?_⟩
 ·obtain⟨q,hq,rfl⟩:=ah6.1 hx
  obtain⟨_,h2,_⟩:=hln q hq
  obtain⟨u0,u1,_⟩:=iF h2
  exact⟨⟨by show (0:Int)≤0;omega,by show (0:Int)≤0;omega,by show (0:Int)≤0;omega,by show (0:Int)≤_;omega,u0,u1,fun e=>absurd rfl e⟩,⟨by show (-1:Int)≤ -1;omega,fun h=>by have:(0:Int)≤ -1:=h;omega⟩⟩
 ·obtain⟨q,hq,rfl⟩:=ah6.1 hx
  obtain⟨_,_,_,h4,_⟩:=hln q hq
  exact HC h4
def nX (o:aj) (l:List aa) (wt day:Int):List ai×List (Int×Int)×List ay:=iB o l wt day l 0 (jl o) [] []
def mO (o:aj) (l:List aa):Int:=if lT o≠0 then lT o else nZ l
theorem CS {o:aj} {l:List aa} (h:mO o l=0):lT o=0∧nZ l=0:=by
 unfold mO at h
 split at h
 ·rename_i h1;exact absurd h h1
 ·rename_i h1;exact⟨agM.1 h1,h⟩
theorem start_eq {o:aj} {l:List aa} (h:mO o l=0) (wt day:Int):∃ q,ko o l []=some ((o,l,mapOf (jl o),[],[],0,()),(jl o).map ai.tup,())∧
 jq (o,l,mapOf (jl o),[],[],wt,()) day ((jl o).map ai.tup)=some ((o,l,mapOf (nX o l wt day).1,(nX o l wt day).2.1,(nX o l wt day).2.2,wt,()),(nX o l wt day).1.map ai.tup,())∧q=():=by
 obtain⟨h1,h2⟩:=CS h
 obtain⟨h3,h4⟩:=xM h2
 exact⟨(),Ld h1 l,JV (qa h1).2.1 h4 h3 (Aw h1 l),rfl⟩
theorem Wq (o:aj) (l:List aa) (day:Int):EN o l day []=(if mO o l≠0 then some (none,mO o l,[],()) else if ¬(1≤day∧day≤3652059) then some (none,1,[],()) else none):=by
 unfold EN
 rw[Gk,ai1,vB]
 dsimp only
 by_cases h:mO o l=0
 ·rw[ajo (show ¬mO o l≠0 from fun e=>e h),show (if lT o≠0 then lT o else nZ l)=0 from h,zne,ajc,ai1]
  by_cases hd:1≤day∧day≤3652059
  ·rw[ajo (show ¬¬(1≤day∧day≤3652059) from fun e=>e hd),ajh hd]
   obtain⟨_,e1,e2,_⟩:=start_eq h 0 day
   dsimp only
   rw[agI,ajc,e1,ai1]
   dsimp only
   rw[e2];rfl
  ·rw[ajp hd,ajf hd];rfl
 ·rw[ajp (show mO o l≠0 from h),show ((if lT o≠0 then lT o else nZ l) != 0)=true from fY h,ajd]
  rfl
theorem Zq {o:aj} {l:List aa} {day:Int} (h:mO o l=0) (hd:1≤day∧day≤3652059):Lb o l day []=some ((o,l,mapOf (nX o l 0 day).1,(nX o l 0 day).2.1,(nX o l 0 day).2.2,0,()),0,(nX o l 0 day).1.map ai.tup,()):=by
 unfold Lb
 rw[Gk,ai1,vB]
 dsimp only
 rw[show (if lT o≠0 then lT o else nZ l)=0 from h,zne,ajc,ai1,ajh hd]
 obtain⟨_,e1,e2,_⟩:=start_eq h 0 day
 dsimp only
 rw[agI,ajc,e1,ai1]
 dsimp only
 rw[e2];rfl
end Go.Md
namespace Go.Md
open Go.Dn
theorem afl:Rk=some (true,()):=by kernel_rfl
end Go.Md
namespace Go.Md
open Go.Dn
theorem acC {n:Int} {A:List ai} {y:ai} (h:y.no≠n):oP n (A++[y])=oP n A:=by
 unfold oP
 have:eU n (A++[y])=eU n A:=by
  unfold eU
  rw[Ey,ajo (fun e=>h e.symm),Option.or_none]
 rw[this]
 cases hk:eU n A with
 | none=>rfl
 | some k=>
  obtain⟨x,hx,_⟩:=wG hk
  have:=(ahx.1 hx).1
  simp only[ai1]
  rw[ahq this]
theorem acD {n:Int} {A:List ai} {k:Nat} {x y:ai} (hx:A[k]? =some x) (hn:x.no≠n) (hy:y.no=x.no):oP n (A.set k y)=oP n A:=by
 unfold oP
 have:eU n (A.set k y)=eU n A:=KE A 0 (fun z hz=>by rw[hx] at hz;cases hz;exact hy)
 rw[this]
 cases hj:eU n A with
 | none=>rfl
 | some j=>
  obtain⟨z,hz,hzn⟩:=wG hj
  simp only[ai1]
  have hjk:k≠j:=fun e=>by subst e;rw[hx] at hz;cases hz;exact hn hzn
  rw[ahB hjk]
theorem YP {o:aj} {l:List aa} {i:Nat} {d:aa} {A:List ai} {n:Int} (hA:Sound l A) (hl:∀ d,d∈l→br d=0) (hd:l[i]? =some d) (hn:dx d≠n):
 oP n (cg o l i d A).2=oP n A:=by
 unfold cg
 by_cases k1:aI d=1
 ·rw[ajp k1]
  split
  ·rfl
  ·split
   ·rfl
   ·split
    ·rfl
    ·exact acC hn
 ·rw[ajo k1]
  split
  ·rfl
  ·rename_i k hk
   obtain⟨x,hx,hxn⟩:=wG hk
   rw[hx]
   obtain⟨h1,h2⟩:=hA.line x (ah7 hx)
   exact acD hx (by rw[hxn];exact hn) (EZ (o:=o) h1 h2 hl hd).2.2.1
theorem UM {o:aj} {l:List aa} (wt wt' day:Int):∀ (r:List aa) (i:Nat) (A:List ai) (ref:List (Int×Int)) (pts pts':List ay),
 (iB o l wt day r i A ref pts).1=(iB o l wt' day r i A ref pts').1∧(iB o l wt day r i A ref pts).2.1=(iB o l wt' day r i A ref pts').2.1
 | [],_,_,_,_,_=>⟨rfl,rfl⟩
 | d::r,i,A,ref,pts,pts'=>by
  simp only[iB]
  split
  ·exact⟨rfl,rfl⟩
  ·split
   ·exact UM wt wt' day r _ _ _ _ _
   ·exact UM wt wt' day r _ _ _ _ _
structure Pts (l:List aa) (wt:Int) (n:Nat) (A:List ai) (pts:List ay):Prop where
 pt:∀ (j:Nat) (p:ay),pts[j]? =some p→0≤p.1∧p.1<n∧(∃ d,idx l p.1=some d∧dx d=wt)∧∀ q,0<j→pts[j - 1]? =some q→q.1<p.1
 last:∀ p,pts.getLast? =some p→∃ x,oP wt A=some x∧p.2=aW x
theorem abe {α β:Type} {f:α→Option β} {g:Option β}:abd (none:Option α) f g=g:=rfl
end Go.Md
namespace Go.Md
open Go.Dn
end Go.Md
namespace Go.Md
open Go.Dn
theorem oB (a b c:Int):lX a b c=some (decide (b≤a∧a≤c),()):=by
 unfold lX
 by_cases h:b≤a
 ·rw[aY h];simp[h]
 ·rw[bh h];simp[h]
theorem VG {a b:ah} (ha:ig a) (hb:ig b):tM a b=some ((nA a - nA b).sign,()):=abn ha hb
theorem OS:ig ((1000000000,0):ah)∧nA ((1000000000,0):ah)=1000000000*10 ^ 9:=⟨⟨by decide,by decide,by decide⟩,by simp[nA]⟩
theorem ZO {d:ah} (hd:ig d) (pl:Int):inR d 0 1000000000 pl=(!decide (d.1<0)&&(!decide ((nA d - 1000000000*10 ^ 9).sign>0)&& !decide (d.2>pl))):=by
 have h1:(nA d - 1000000000*10 ^ 9).sign>0↔¬d.1≤1000000000*10 ^ d.2.toNat:=by
  rw[← aey hd.2.1 hd.2.2,gt_iff_lt,Int.sign_pos_iff]
  omega
 unfold inR
 rw[agA]
 simp only[aji,agx,agG,ajg]
 rw[h1]
 constructor
 ·rintro⟨_,h2,h3,h4⟩;exact⟨by omega,fun h=>h h4,by omega⟩
 ·rintro⟨h2,h3,h4⟩;exact⟨hd,by omega,by omega,agM.1 h3⟩
theorem ZP {d:ah} (hd:¬ig d) (a b pl:Int):inR d a b pl=false:=ajf (fun h=>hd h.1)
theorem uB (d:ah) (z:Bool):kY d z=some (if qOk d z=true then 0 else 1,()):=by
 unfold kY qOk BW
 simp only[ai1]
 rw[BA,ai1]
 by_cases hd:ig d
 ·rw[ajp hd,ZO hd 3,VG hd OS.1,OS.2]
  generalize decide (d.1<0)=b1
  generalize (nA d - 1000000000*10 ^ 9).sign=sg
  generalize decide (d.2>3)=b3
  generalize (d.1==0)=b4
  simp only[ai1]
  generalize decide (sg>0)=b2
  cases b1<;>cases b4<;>cases z<;>cases b2<;>cases b3<;>rfl
 ·rw[ajo hd,ZP hd]
  rfl
theorem Gs (d:ah):tL d=some (if inR d 0 1000000000 4=true then 0 else 1,()):=by
 unfold tL BW
 simp only[ai1]
 rw[BA,ai1]
 by_cases hd:ig d
 ·rw[ajp hd,ZO hd 4,VG hd OS.1,OS.2]
  generalize decide (d.1<0)=b1
  generalize (nA d - 1000000000*10 ^ 9).sign=sg
  generalize decide (d.2>4)=b3
  simp only[ai1]
  generalize decide (sg>0)=b2
  cases b1<;>cases b2<;>cases b3<;>rfl
 ·rw[ajo hd,ZP hd]
  rfl
theorem OD {k:Int} (hk:1≤k∧k≤11):HQ k=some ((usQ k,usP k,usU k,usA k,usT k),()):=by
 have:k=1∨k=2∨k=3∨k=4∨k=5∨k=6∨k=7∨k=8∨k=9∨k=10∨k=11:=by omega
 rcases this with rfl | rfl | rfl | rfl | rfl | rfl | rfl | rfl | rfl | rfl | rfl<;>rfl
theorem afm (a b:Bool):(bif a then some (b,()) else some (false,()))=some (a&&b,()):=by cases a<;>rfl
theorem bOr (a b:Bool):(bif a then some (true,()) else some (b,()))=some (a||b,()):=by cases a<;>rfl
theorem bAO (a b x:Bool):(bif a then some (b||x,()) else some (x,()))=some (a&&b||x,()):=by cases a<;>rfl
theorem agd (b:Bool):((if b=true then (0:Int) else 1) != 0)= !b:=by cases b<;>rfl
theorem afT {β:Type} (x:Option β):chk true x=x:=rfl
theorem aev (a b:Bys):((a++b)==[])=((a==[])&&(b==[])):=by cases a<;>cases b<;>rfl
theorem PT {d:aa} (hk:1≤d.2.2.2.1∧d.2.2.2.1≤11) (hs:d.2.2.2.2.2.1.length+d.2.2.2.2.2.2.2.1.length≤maxLen):w5 d=some (EV d,()):=by
 unfold w5 EV TM
 rw[OD hk,ai1]
 simp only[uB,Gs,Cl,vP,oB,ai1,ajh hs,afT,agd,aev]
 rw[show decide (1≤d.2.2.2.2.2.2.2.2.2.1∧d.2.2.2.2.2.2.2.2.2.1≤3652059)=yB d.2.2.2.2.2.2.2.2.2.1 from rfl,show decide (1≤d.2.2.2.2.2.2.2.2.2.2∧d.2.2.2.2.2.2.2.2.2.2≤2000)=DR d.2.2.2.2.2.2.2.2.2.2 from rfl]
 generalize usQ d.2.2.2.1=uq
 generalize usP d.2.2.2.1=up
 generalize usU d.2.2.2.1=uu
 generalize usA d.2.2.2.1=ua
 generalize usT d.2.2.2.1=ut
 generalize (d.2.2.2.1==2)=k2
 generalize qOk d.2.2.2.2.2.2.1 k2=q
 generalize inR d.2.2.2.2.2.2.2.2.1 0 1000000000 4=p
 generalize yB d.2.2.2.2.2.2.2.2.2.1=dy
 generalize DR d.2.2.2.2.2.2.2.2.2.2=tt
 generalize cM d.2.2.2.2.2.1=n1
 generalize cM d.2.2.2.2.2.2.2.1=n2
 generalize (d.2.2.2.2.2.1==[])=e1
 generalize (d.2.2.2.2.2.2.2.1==[])=e2
 generalize (d.2.2.2.2.2.2.2.2.2.1 != 0)=un
 generalize (d.2.2.2.2.2.2.2.2.2.2 != 0)=to
 simp only[agz]
 generalize (d.2.2.2.2.2.2.1.1==0&&d.2.2.2.2.2.2.1.2==0)=q0
 generalize (d.2.2.2.2.2.2.2.2.1.1==0&&d.2.2.2.2.2.2.2.2.1.2==0)=p0
 simp only[afm,bOr,bAO,ai1]
 generalize h1:(uq&& !q)=c1
 cases c1
 ·simp only[ajc]
  generalize h2:(up&& !p)=c2
  cases c2
  ·simp only[ajc]
   generalize h3:(uu&& !dy)=c3
   cases c3
   ·simp only[ajc]
    generalize h4:(ua&&(!n1|| !n2))=c4
    cases c4
    ·simp only[ajc]
     generalize h5:(ut&& !tt)=c5
     cases c5
     ·simp only[ajc]
      have e:((!uq&& !q0)||((!up&& !p0)||((!uu&&un)||((!ua&& !(e1&&e2))||(!ut&&to)))))=((!ua&& !e1)||((!uq&& !q0)||((!ua&& !e2)||((!up&& !p0)||((!uu&&un)||(!ut&&to)))))):=by
       generalize (!uq&& !q0)=x1
       generalize (!up&& !p0)=x2
       generalize (!uu&&un)=x3
       generalize (!ut&&to)=x4
       cases ua<;>cases e1<;>cases e2<;>cases x1<;>cases x2<;>cases x3<;>cases x4<;>rfl
      rw[e]
      generalize ((!ua&& !e1)||((!uq&& !q0)||((!ua&& !e2)||((!up&& !p0)||((!uu&&un)||(!ut&&to))))))=c6
      cases c6<;>rfl
     ·rfl
    ·rfl
   ·rfl
  ·rfl
 ·rfl
theorem UJ (k:Int):CC k=some (decide ((1≤k∧k≤4)∨k=8∨k=10∨k=11),()):=by
 unfold CC
 rw[oB,ai1]
 dsimp only
 by_cases h1:1≤k∧k≤4
 ·rw[ajh h1,ajd,ajh (.inl h1)]
 ·rw[ajf h1,ajc]
  by_cases h2:k=8
  ·subst h2;rfl
  ·rw[cJ h2,ajc]
   by_cases h3:k=10
   ·subst h3;rfl
   ·rw[cJ h3,ajc]
    by_cases h4:k=11
    ·subst h4;rfl
    ·rw[cJ h4,ajf (fun h=>by omega)]
theorem Tw (a b:aa):vR a b=some (dCw a b,()):=by
 unfold vR dCw
 generalize w64 (a.1 - b.1)=x
 generalize w64 (a.2.1 - b.2.1)=y
 generalize w64 (a.2.2.1 - b.2.2.1)=z
 simp only[ahI,ahM]
 have key:iter (X:=uT) (β:=uS) 8 (3,0,[x,y,z],()) AS=(bif x != 0 then some (Sum.inl (x,())) else bif y != 0 then some (Sum.inl (y,())) else bif z != 0 then some (Sum.inl (z,())) else some (Sum.inr ())):=by kernel_rfl
 show aH (β:=(Int×Unit)) (γ:=Unit) (iter 8 (3,0,[x,y,z],()) AS) _=_
 rw[key]
 by_cases hx:x=0
 ·subst hx
  by_cases hy:y=0
  ·subst hy
   by_cases hz:z=0
   ·subst hz;rfl
   ·have:(z != 0)=true:=by simp[hz]
    rw[this];simp[aH]
  ·have:(y != 0)=true:=by simp[hy]
   rw[this];simp[aH,hy]
 ·have:(x != 0)=true:=by simp[hx]
  rw[this];simp[aH,hx]
def qR (b:Int) (l:List aa):Int:=l.foldl (fun m d=>if d.2.1=b then d.2.2.1 else m) 0
theorem Yq (b:Int) (l:List aa) (hl:l.length≤2000):HL l b=some (qR b l,()):=by
 unfold HL
 have:∀ n,l.length<n→iter (X:=vS) (β:=AU) n (b,0,l,(l.length:Int),0,()) AT=some (Sum.inr (qR b l,())):=by
  intro n hn
  refine cO (Inv:=fun i X=>X=((b,qR b (l.take i),l,(l.length:Int),(i:Int),()):vS)) l.length (fun z=>z=some (Sum.inr (qR b l,()))) ?_ ?_ n 0 _ rfl (aiY _) (by omega)
  ·rintro i X again hi rfl hag
   unfold AT
   dsimp only
   obtain⟨y,hy⟩:∃ y,l[i]? =some y:=⟨l[i],ahv hi⟩
   rw[ajh (show (i:Int)<(l.length:Int) by omega),ajd,bZ hy,ai1,av (n:=(i:Int)+1) (by omega) (by omega)]
   have e:qR b (l.take (i+1))=if y.2.1=b then y.2.2.1 else qR b (l.take i):=by
    unfold qR
    rw[fq hy,List.foldl_append];rfl
   by_cases hb:y.2.1=b
   ·rw[show (y.2.1==b)=true by simpa using hb,ajd]
    rw[ajp hb] at e
    exact hag _ (by rw[e];rfl)
   ·rw[cJ hb,ajc]
    rw[ajo hb] at e
    exact hag _ (by rw[e];rfl)
  ·rintro X again rfl
   unfold AT
   dsimp only
   rw[ajf (show ¬(l.length:Int)<(l.length:Int) by omega),ajc,air]
 rw[this _ (by omega)]
 rfl
theorem adv {a b:aa} (ha:br a=0) (hb:br b=0):decide (dCw b a≤0)=decide (0≤dCw a b):=by
 obtain⟨a1,a2,a3,_⟩:=bJ ha
 obtain⟨b1,b2,b3,_⟩:=bJ hb
 unfold dCw
 rw[av (n:=b.1 - a.1) (by omega) (by omega),av (n:=a.1 - b.1) (by omega) (by omega),av (n:=b.2.1 - a.2.1) (by omega) (by omega),av (n:=a.2.1 - b.2.1) (by omega) (by omega),
  av (n:=b.2.2.1 - a.2.2.1) (by omega) (by omega),av (n:=a.2.2.1 - b.2.2.1) (by omega) (by omega),aje]
 by_cases h1:a.1 - b.1=0
 ·rw[ajo (show ¬(b.1 - a.1≠0) by omega),ajo (show ¬(a.1 - b.1≠0) by omega)]
  by_cases h2:a.2.1 - b.2.1=0
  ·rw[ajo (show ¬(b.2.1 - a.2.1≠0) by omega),ajo (show ¬(a.2.1 - b.2.1≠0) by omega)];omega
  ·rw[ajp (show (b.2.1 - a.2.1≠0) by omega),ajp (show (a.2.1 - b.2.1≠0) by omega)];omega
 ·rw[ajp (show (b.1 - a.1≠0) by omega),ajp (show (a.1 - b.1≠0) by omega)];omega
def Txt (d:aa):Prop:=d.2.2.2.2.2.1.length+d.2.2.2.2.2.2.2.1.length≤maxLen
theorem Rz (l:List aa) (hs:∀ d,d∈l→Txt d):yN l=some (nZ l,()):=by
 unfold yN nZ
 by_cases hlen:2000<l.length
 ·rw[ajp hlen,ajh (show (l.length:Int)>2000 by omega),ajd]
 rw[ajo hlen,ajf (show ¬(l.length:Int)>2000 by omega),ajc]
 have loop:∀ (r:List aa) (i n:Nat),l.drop i=r→i≤l.length→(∀ q,bT l i=some q→br q=0)→r.length<n→
  aH (β:=(Int×Unit)) (γ:=Unit) (iter (X:=sS) (β:=sQ) n (l,l,(l.length:Int),(i:Int),()) oA) (fun _=>some (0,()))=some (dP r (bT l i) (qR 1 (l.take i)) (qR 2 (l.take i)),()):=by
  intro r
  induction r with
  | nil=>
   intro i n hd hi _ hn
   have:i=l.length:=by
    have:=congrArg List.length hd
    simp at this;omega
   subst this
   obtain⟨n,rfl⟩:∃ m,n=m+1:=⟨n - 1,by omega⟩
   rw[bH]
   unfold oA
   dsimp only
   rw[ajf (show ¬((l.length:Int)<(l.length:Int)) by omega),ajc]
   rfl
  | cons d r ih=>
   intro i n hdr hi hq hn
   have hd:l[i]? =some d:=by
    have:=congrArg (·[0]?) hdr
    simpa [ahu] using this
   have hr':l.drop (i+1)=r:=by
    have:=congrArg List.tail hdr
    simpa [ain] using this
   have hlt:i<l.length:=(ahx.1 hd).1
   obtain⟨n,rfl⟩:∃ m,n=m+1:=⟨n - 1,by simp at hn;omega⟩
   rw[bH]
   generalize hag:(fun y=>iter n y oA)=again
   unfold oA
   dsimp only
   rw[ajh (show (i:Int)<(l.length:Int) by omega),ajd,bZ hd,ai1,Cl,ai1]
   simp only[dP]
   by_cases h1:1≤d.1∧d.1≤3652059
   rotate_left
   ·have e:br d=1:=by unfold br;rw[ajp h1]
    rw[ajf h1,ajp (show br d≠0 by omega),e];rfl
   rw[ajh h1,agI,ajc]
   have eby:(bif d.2.1 != 1 then some (d.2.1 != 2,()) else some (false,()))=some (!decide (1≤d.2.1∧d.2.1≤2),()):=by
    rw[afm]
    congr 2
    by_cases k1:d.2.1=1
    ·simp[k1]
    ·by_cases k2:d.2.1=2
     ·simp[k2]
     ·rw[fY k1,fY k2,ajf (by omega)];rfl
   rw[eby,ai1]
   dsimp only
   by_cases h2:1≤d.2.1∧d.2.1≤2
   rotate_left
   ·have e:br d=4:=by unfold br;rw[ajo (show ¬¬_ from fun e=>e h1),ajp h2]
    rw[ajf h2,ajp (show br d≠0 by omega),e];rfl
   rw[ajh h2,agI,ajc,oB,ai1]
   dsimp only
   by_cases h3:1≤d.2.2.1∧d.2.2.1≤2000
   rotate_left
   ·have e:br d=1:=by unfold br;rw[ajo (show ¬¬_ from fun e=>e h1),ajo (show ¬¬_ from fun e=>e h2),ajp h3]
    rw[ajf h3,ajp (show br d≠0 by omega),e];rfl
   rw[ajh h3,agI,ajc,oB,ai1]
   dsimp only
   by_cases h4:1≤d.2.2.2.1∧d.2.2.2.1≤11
   rotate_left
   ·have e:br d=4:=by unfold br;rw[ajo (show ¬¬_ from fun e=>e h1),ajo (show ¬¬_ from fun e=>e h2),ajo (show ¬¬_ from fun e=>e h3),ajp h4]
    rw[ajf h4,ajp (show br d≠0 by omega),e];rfl
   rw[ajh h4,agI,ajc,UJ,ai1]
   dsimp only
   by_cases h5:(d.2.2.2.1=5∨d.2.2.2.1=6∨d.2.2.2.1=7∨d.2.2.2.1=9)↔d.2.1=2
   rotate_left
   ·have e:br d=4:=by unfold br;rw[ajo (show ¬¬_ from fun e=>e h1),ajo (show ¬¬_ from fun e=>e h2),ajo (show ¬¬_ from fun e=>e h3),ajo (show ¬¬_ from fun e=>e h4),ajp h5]
    have e2:(decide ((1≤d.2.2.2.1∧d.2.2.2.1≤4)∨d.2.2.2.1=8∨d.2.2.2.1=10∨d.2.2.2.1=11)==(d.2.1==1))=false:=by
     by_cases k:d.2.1=1
     ·rw[k,show ((1:Int)==1)=true from rfl,ajf (fun h=>h5 (by omega))];rfl
     ·rw[cJ k,ajh (Classical.byContradiction fun h=>h5 (by omega))];rfl
    rw[e2,ajp (show br d≠0 by omega),e];rfl
   have e5:(decide ((1≤d.2.2.2.1∧d.2.2.2.1≤4)∨d.2.2.2.1=8∨d.2.2.2.1=10∨d.2.2.2.1=11)==(d.2.1==1))=true:=by
    by_cases k:d.2.1=1
    ·rw[k,show ((1:Int)==1)=true from rfl,ajh (by omega)];rfl
    ·rw[cJ k,ajf (by omega)];rfl
   rw[e5,agI,ajc,oB,ai1]
   dsimp only
   by_cases h6:1≤d.2.2.2.2.1∧d.2.2.2.2.1≤99999
   rotate_left
   ·have e:br d=1:=by unfold br;rw[ajo (show ¬¬_ from fun e=>e h1),ajo (show ¬¬_ from fun e=>e h2),ajo (show ¬¬_ from fun e=>e h3),ajo (show ¬¬_ from fun e=>e h4),ajo (show ¬¬_ from fun e=>e h5),ajp h6]
    rw[ajf h6,ajp (show br d≠0 by omega),e];rfl
   have ed:br d=EV d:=by unfold br;rw[ajo (show ¬¬_ from fun e=>e h1),ajo (show ¬¬_ from fun e=>e h2),ajo (show ¬¬_ from fun e=>e h3),ajo (show ¬¬_ from fun e=>e h4),ajo (show ¬¬_ from fun e=>e h5),ajo (show ¬¬_ from fun e=>e h6)]
   rw[ajh h6,agI,ajc,PT h4 (hs d (ah7 hd)),ai1, ← ed]
   dsimp only
   by_cases h7:br d=0
   rotate_left
   ·rw[fY h7,ajp h7];rfl
   rw[h7,zne,ajc,ajo (show ¬(0:Int)≠0 from fun e=>e rfl)]
   have epr:(bif decide ((i:Int)>0) then Option.bind (idx l (w64 ((i:Int) - 1))) fun y10=>Option.bind (vR d y10) fun r11=>some (decide (r11.1≤0),()) else some (false,()))=some ((bT l i).any fun q=>decide (0≤dCw q d),()):=by
    cases i with
    | zero=>rfl
    | succ i=>
     obtain⟨q,hqq⟩:∃ q,l[i]? =some q:=⟨l[i],ahv (by omega)⟩
     rw[ajh (show ((i+1:Nat):Int)>0 by omega),ajd,av (n:=((i+1:Nat):Int) - 1) (by omega) (by omega),show ((i+1:Nat):Int) - 1=(i:Int) by omega,bZ hqq,ai1,Tw,ai1]
     show some (decide (dCw d q≤0),())=some ((bT l (i+1)).any _,())
     rw[show bT l (i+1)=some q from hqq,adv (hq q hqq) h7]
     rfl
   rw[epr,ai1]
   dsimp only
   cases h8:((bT l i).any fun q=>decide (0≤dCw q d))
   rotate_left
   ·rfl
   rw[ajc,ajo (show ¬false=true from agC)]
   rw[cw (by simp only[agx,aji];omega),ag2,ahh,Yq _ _ (by simp;omega),ai1]
   dsimp only
   have htk:∀ b,qR b (l.take (i+1))=if d.2.1=b then d.2.2.1 else qR b (l.take i):=by
    intro b
    unfold qR
    rw[fq hd,List.foldl_append];rfl
   have hnext:∀ q,bT l (i+1)=some q→br q=0:=by
    intro q hqq
    have:l[i]? =some q:=hqq
    rw[hd] at this;cases this;exact h7
   have ih':=ih (i+1) n hr' (by omega) hnext (by simp at hn;omega)
   rw[show bT l (i+1)=some d from hd,htk 1,htk 2] at ih'
   rw[av (n:=(i:Int)+1) (by omega) (by omega)]
   have hi1:(i:Int)+1=((i+1:Nat):Int):=by omega
   by_cases k1:d.2.1=1
   ·rw[ajp k1]
    rw[ajp k1,ajo (show ¬d.2.1=2 by omega)] at ih'
    rw[k1]
    by_cases h9:d.2.2.1=w64 (qR 1 (l.take i)+1)
    ·rw[show (d.2.2.1 != w64 (qR 1 (l.take i)+1))=false by simpa using h9,ajc,ajo (fun e=>e h9),hi1, ← hag]
     exact ih'
    ·rw[fY h9,ajp h9];rfl
   ·have k2:d.2.1=2:=by omega
    rw[ajo k1]
    rw[ajo k1,ajp k2] at ih'
    rw[k2]
    by_cases h9:d.2.2.1=w64 (qR 2 (l.take i)+1)
    ·rw[show (d.2.2.1 != w64 (qR 2 (l.take i)+1))=false by simpa using h9,ajc,ajo (fun e=>e h9),hi1, ← hag]
     exact ih'
    ·rw[fY h9,ajp h9];rfl
 exact loop l 0 _ rfl (aiY _) (fun q hq=>by cases hq) (by omega)
end Go.Md
namespace Go.Md
open Go.Dn
abbrev TV (d:aa):ah:=(d.2.1,d.2.2.1)
def leD (x y:aa):Bool:= !decide (ab3 y x<0)
def Lex (a b:aa):Prop:=a.1<b.1∨(a.1=b.1∧(a.2.1<b.2.1∨(a.2.1=b.2.1∧a.2.2.1≤b.2.2.1)))
theorem ZY (a b:aa):leD a b=true↔Lex a b:=by
 unfold leD ab3 Lex
 by_cases h1:b.1 - a.1=0
 ·rw[show (b.1 - a.1==0)=true by simpa using h1,agI,ajc]
  by_cases h2:b.2.1 - a.2.1=0
  ·rw[show (b.2.1 - a.2.1==0)=true by simpa using h2,agI,ajc]
   simp only[agG,ajg];omega
  ·rw[cJ h2,agH,ajd]
   simp only[agG,ajg];omega
 ·rw[cJ h1,agH,ajd]
  simp only[agG,ajg];omega
end Go.Md
namespace Go.Md
open Go.Dn
end Go.Md
namespace Go.Md
open Go.Dn
theorem afq {a b:aa} (ha:br a=0) (hb:br b=0):dCw a b<0↔¬Lex b a:=by
 obtain⟨a1,a2,a3,_⟩:=bJ ha
 obtain⟨b1,b2,b3,_⟩:=bJ hb
 unfold dCw Lex
 rw[av (n:=a.1 - b.1) (by omega) (by omega),av (n:=a.2.1 - b.2.1) (by omega) (by omega),av (n:=a.2.2.1 - b.2.2.1) (by omega) (by omega)]
 by_cases h1:a.1 - b.1=0
 ·rw[ajo (show ¬(a.1 - b.1≠0) by omega)]
  by_cases h2:a.2.1 - b.2.1=0
  ·rw[ajo (show ¬(a.2.1 - b.2.1≠0) by omega)];omega
  ·rw[ajp h2];omega
 ·rw[ajp h1];omega
theorem Qk:∀ (r:List aa) (p:Option aa) (nb ns:Int),0≤nb→nb≤2000→0≤ns→ns≤2000→(∀ q,p=some q→br q=0)→dP r p nb ns=0→
 (∀ d,d∈r→br d=0∧(d.2.1=1→nb<d.2.2.1)∧(d.2.1≠1→ns<d.2.2.1)∧∀ q,p=some q→¬Lex d q)∧r.Pairwise (fun a b=>¬Lex b a)∧r.Pairwise (fun a b=>TV a≠TV b)
 | [],p,nb,ns,_,_,_,_,_,_=>⟨fun _ hd=>(nomatch hd),List.Pairwise.nil,List.Pairwise.nil⟩
 | d::r,p,nb,ns,h1,h2,h3,h4,hp,h=>by
  simp only[dP] at h
  by_cases hf:br d=0
  rotate_left
  ·rw[ajp hf] at h;exact absurd h hf
  rw[ajo (fun e=>e hf)] at h
  by_cases hpp:(p.any fun q=>decide (0≤dCw q d))=true
  ·rw[ajp hpp] at h;cases h
  rw[ajo hpp] at h
  have hlex:∀ q,p=some q→¬Lex d q:=by
   rintro q rfl
   rw[← afq (hp q rfl) hf]
   have:¬(0≤dCw q d):=fun e=>hpp (ajh e)
   omega
  obtain⟨_,_,d3,_⟩:=bJ hf
  have step:∀ nb' ns',0≤nb'→nb'≤2000→0≤ns'→ns'≤2000→nb≤nb'→ns≤ns'→(d.2.1=1→nb<d.2.2.1∧nb'=d.2.2.1)→(d.2.1≠1→ns<d.2.2.1∧ns'=d.2.2.1)→dP r (some d) nb' ns'=0→
   (∀ e,e∈d::r→br e=0∧(e.2.1=1→nb<e.2.2.1)∧(e.2.1≠1→ns<e.2.2.1)∧∀ q,p=some q→¬Lex e q)∧(d::r).Pairwise (fun a b=>¬Lex b a)∧(d::r).Pairwise (fun a b=>TV a≠TV b):=by
   intro nb' ns' g1 g2 g3 g4 g5 g6 g7 g8 hg
   obtain⟨i1,i2,i3⟩:=Qk r (some d) nb' ns' g1 g2 g3 g4 (fun q hq=>by cases hq;exact hf) hg
   refine⟨fun e he=> ?_,List.Pairwise.cons (fun e he=>(i1 e he).2.2.2 d rfl) i2,List.Pairwise.cons (fun e he hk=> ?_) i3⟩
   ·rcases ah0.1 he with rfl | he
    ·exact⟨hf,fun e1=>(g7 e1).1,fun e1=>(g8 e1).1,hlex⟩
    ·obtain⟨j1,j2,j3,j4⟩:=i1 e he
     refine⟨j1,fun e1=>by have:=j2 e1;omega,fun e1=>by have:=j3 e1;omega,fun q hq hl=> ?_⟩
     have k1:=hlex q hq
     have k2:=j4 d rfl
     unfold Lex at*
     omega
   ·obtain⟨j1,j2,j3,j4⟩:=i1 e he
    have e1:d.2.1=e.2.1:=(Prod.mk.inj hk).1
    have e2:d.2.2.1=e.2.2.1:=(Prod.mk.inj hk).2
    by_cases hb:d.2.1=1
    ·have:=j2 (by omega)
     have:=(g7 hb).2
     omega
    ·have:=j3 (by omega)
     have:=(g8 hb).2
     omega
  by_cases hb:d.2.1=1
  ·rw[ajp hb] at h
   by_cases hn:d.2.2.1=w64 (nb+1)
   ·rw[ajo (fun e=>e hn)] at h
    rw[av (by omega) (by omega)] at hn
    exact step d.2.2.1 ns (by omega) (by omega) h3 h4 (by omega) (by omega) (fun _=>⟨by omega,rfl⟩) (fun e=>absurd hb e) h
   ·rw[ajp hn] at h;cases h
  ·rw[ajo hb] at h
   by_cases hn:d.2.2.1=w64 (ns+1)
   ·rw[ajo (fun e=>e hn)] at h
    rw[av (by omega) (by omega)] at hn
    exact step nb d.2.2.1 h1 h2 (by omega) (by omega) (by omega) (by omega) (fun e=>absurd e hb) (fun _=>⟨by omega,rfl⟩) h
   ·rw[ajp hn] at h;cases h
theorem aaD {l:List aa} (h:nZ l=0):l.Pairwise (fun a b=>leD a b=true)∧l.Pairwise (fun a b=>TV a≠TV b):=by
 have hl:=(xM h).1
 unfold nZ at h
 rw[ajo (by omega)] at h
 obtain⟨_,i2,i3⟩:=Qk l none 0 0 (by omega) (by omega) (by omega) (by omega) (fun q hq=>by cases hq) h
 refine⟨i2.imp fun {a b} hab=> ?_,i3⟩
 rw[ZY]
 unfold Lex at*
 omega
end Go.Md
