/-
  Plain facts: deeds, followed one behind the other. No condition.
-/
import Derived.Test.YtgmbmgfhpkoajacGreatDoorYs
import Derived.Test.YtgmbmgfhpkoajacGreatDoorYq
import Derived.Test.YtgmbmgfhpkoajacGreatDoorYo
set_option linter.all false
namespace Go.Md
open Go.Dn
theorem Nl {day:Int} {p:Option ai} {x:ai} (h:eF day p x=0):(1<=x.1/\x.1<=99999)/\(∀ q,p=some q->q.1<x.1)/\dw x.2.1=true/\qOk x.2.2.1 false=true/\dw x.2.2.2.1=true/\inR x.2.2.2.2.1 0 1000000000 4=true/\(day<=x.2.2.2.2.2/\x.2.2.2.2.2<=3652059):=by
 unfold eF at h
 split at h
 ·cases h
 ·rename_i h1
  split at h
  ·cases h
  ·rename_i h2
   split at h
   ·cases h
   ·rename_i h3
    split at h
    ·cases h
    ·rename_i h4
     split at h
     ·cases h
     ·rename_i h5
      split at h
      ·cases h
      ·rename_i h6
       split at h
       ·cases h
       ·rename_i h7
        refine⟨Uw.1 h1,fun q hq=> ?_,by simpa using h3,by simpa using h4,by simpa using h5,by simpa using h6,Uw.1 h7⟩
        subst hq
        have:¬x.1<=q.1:=fun e=>h2 (WX e)
        omega
theorem nw {day:Int}:∀ {r:List ai} {p:Option ai},gS day r p=0-> (∀ x,x∈r->dw x.2.1=true/\qOk x.2.2.1 false=true/\dw x.2.2.2.1=true/\inR x.2.2.2.2.1 0 1000000000 4=true/\(1<=x.1/\x.1<=99999)/\(day<=x.2.2.2.2.2/\x.2.2.2.2.2<=3652059))/\(∀ q,p=some q->∀ x,x∈r->q.1<x.1)/\r.Pairwise (fun a b=>a.1<b.1)
 | [],p,_=>⟨nofun,fun _ _ _ h=>(nomatch h),List.Pairwise.nil⟩
 | y::r,p,h=>by
  simp only[gS] at h
  by_cases hf:eF day p y=0
  ·rw[Xd (fun e=>e hf)] at h
   obtain⟨a1,a2,a3⟩:=nw h
   obtain⟨b1,b2,b3,b4,b5,b6,b7⟩:=Nl hf
   refine⟨fun x hx=> ?_,fun q hq x hx=> ?_,List.Pairwise.cons (fun x hx=>a2 y rfl x hx) a3⟩
   ·rcases VH.1 hx with rfl | hx
    ·exact⟨b3,b4,b5,b6,b1,b7⟩
    ·exact a1 x hx
   ·rcases VH.1 hx with rfl | hx
    ·exact b2 q hq
    ·have:=b2 q hq
     have:=a2 y rfl x hx
     omega
  ·rw[Xe hf] at h
   exact absurd h hf
theorem vB {o:aj} (h:eV o=0):(1<=bH o/\bH o<=3652059)/\(0<=dD o/\dD o<=1000)/\(bT o).length<=500/\bT o≠[]/\gS (bH o) (bT o) none=0/\(dw (FT o)=true/\dw (Dq o)=true/\dw (FU o)=true/\Dq o≠FU o):=by
 unfold eV at h
 split at h
 ·cases h
 ·rename_i h1
  split at h
  ·cases h
  ·rename_i h2
   split at h
   ·cases h
   ·rename_i h3
    split at h
    ·cases h
    ·rename_i h4
     split at h
     ·cases h
     ·rename_i h5
      split at h
      ·cases h
      ·rename_i h6
       refine⟨Uw.1 h3,Uw.1 h4,by omega,h5,h, ?_, ?_, ?_,h2⟩
       ·cases hb:dw (FT o)
        ·exact absurd (.inl hb) h1
        ·rfl
       ·cases hb:dw (Dq o)
        ·exact absurd (.inr (.inl hb)) h1
        ·rfl
       ·cases hb:dw (FU o)
        ·exact absurd (.inr (.inr hb)) h1
        ·rfl
def eZ (x:ai):ak:=⟨x.1,x.2.1,x.2.2.2.1,aQ x.2.2.1,0,0,0,x.2.2.2.2.1,x.2.2.2.2.2, -1,0,0,0⟩
abbrev nM (o:aj):List ak:=(bT o).map eZ
theorem EP {n:Int}:∀ {A:List ak} {i:Nat},(∀ x,x∈A->x.no≠n)->bp n i A=none
 | [],_,_=>rfl
 | x::r,i,h=>by
  simp only[bp]
  rw[Xd (fun e=>h x (by simp) e.symm)]
  exact EP (fun y hy=>h y (by simp[hy]))
theorem wV {α:Type} {l:List α} {i:Nat} {y:α} (h:l[i]? =some y):l.take (i+1)=l.take i++[y]:=by
 rw[V3,h];rfl
theorem Bx {o:aj} (ho:eV o=0) (l:List aa):gz o l []=some ((o,l,mapOf (nM o),[],[],0,()),(nM o).map ak.tup,()):=by
 obtain⟨_,_,hlen,_,hgo,_⟩:=vB ho
 obtain⟨hln,_,hpw⟩:=nw hgo
 obtain⟨onum,obuy,osel,oday,oext,lns⟩:=o
 change lns.length<=500 at hlen
 change ∀ x,x∈lns->_ at hln
 change lns.Pairwise _ at hpw
 unfold gz
 have:=mP (f:=jg) (fun (_:Unit) (i:Nat)=>((lns,(lns.length:Int),(i:Int),onum,obuy,osel,oday,oext,lns,l,[],[],0,mapOf ((lns.take i).map eZ),((lns.take i).map eZ).map ak.tup,()):jh)) lns
  (fun (_:Unit) _ _ k=>k ()) (fun _=>some (Sum.inr (onum,obuy,osel,oday,oext,lns,l,[],[],0,mapOf (lns.map eZ),(lns.map eZ).map ak.tup,()))) (fun s i y again hy=>by
    have hi:i<lns.length:=(Vg.1 hy).1
    unfold jg
    dsimp only
    rw[WX (show (i:Int)<(lns.length:Int) by omega),WV,cO hy,WG,jv (hln y (VO hy)).2.1,WG]
    have hno:bp y.1 0 ((lns.take i).map eZ)=none:=EP fun z hz=>by
     obtain⟨q,hq,rfl⟩:=VN.1 hz
     obtain⟨j,hj⟩:=VM.1 hq
     have hji:j<i:=by
      have:=(Vg.1 hj).1
      simp at this;omega
     rw[Vo hji] at hj
     have h1:=VV.1 hpw j i (by omega) hi hji
     have e1:lns[j]=q:=by have:=Ve (show j<lns.length by omega);rw[hj] at this;exact (Option.some.inj this).symm
     have e2:lns[i]=y:=by have:=Ve hi;rw[hy] at this;exact (Option.some.inj this).symm
     rw[e1,e2] at h1
     show q.1≠y.1
     omega
    have hs:=FR y.1 (eZ y) rfl ((lns.take i).map eZ) 0 hno
    rw[Wz] at hs
    rw[Vt,aG (n:=(i:Int)+1) (by omega) (by omega)]
    have ht:(lns.take (i+1)).map eZ=(lns.take i).map eZ++[eZ y]:=by rw[wV hy,VB];rfl
    rw[ht]
    refine congrArg again ?_
    refine Prod.ext rfl (Prod.ext rfl (Prod.ext rfl (Prod.ext rfl (Prod.ext rfl (Prod.ext rfl (Prod.ext rfl (Prod.ext rfl (Prod.ext rfl (Prod.ext rfl (Prod.ext rfl (Prod.ext rfl (Prod.ext rfl (Prod.ext hs (Prod.ext ?_ rfl))))))))))))))
    show List.map ak.tup _++[_]=List.map ak.tup (_++[eZ y])
    rw[VB];rfl) (fun s again=>by
    unfold jg
    dsimp only
    rw[WW (show ¬((lns.length:Int)<(lns.length:Int)) by omega),WU,V6]) ()
 have hfor:∀ (r:List ai) (i:Nat) (β:Type) (f:Option β),oJ (fun (_:Unit) _ _ k=>k ()) (fun _=>f) r i ()=f:=by
  intro r
  induction r with
  | nil=>intro i β f;rfl
  | cons y r ih=>intro i β f;exact ih (i+1) β f
 refine (congrArg (fun z=>aI z _) ((this _ ?_).trans (hfor _ _ _ _))).trans rfl
 simp only[Vv]
 omega
def wW (n:Int):ah:=((few 3 n).1,((few 3 n).2:Int))
theorem nB {n:Int} (h0:0<=n) (h1:n<=1000000000000000):kR n=some (wW n,()):=by
 unfold kR
 rw[Fi n (by omega) (by omega),WG]
 have hb:n.natAbs<4294967296 ^ 99:=Wm (show n.natAbs<4294967296 ^ 2 by omega) (Wx (by omega) (by omega))
 have:=Fk n hb 3 (by omega)
 rw[show ((3:Nat):Int)=3 from rfl] at this
 dsimp only
 rw[this,WG,Xe (by have:=(Ap 3 n).2.2;omega)]
 rfl
def dM (d:ah):ah:=((few d.2.toNat d.1).1,((few d.2.toNat d.1).2:Int))
theorem sL {d:ah} (h0:0<=d.1) (h1:d.1<=1000000000000000) (h2:0<=d.2) (h3:d.2<=9):lY d=some (dM d,()):=by
 unfold lY
 have loop:∀ (n:Nat) (z:Int) (p:Nat),0<=z->z<=1000000000000000->p<=9->p<n->iter (X:=oa) (β:=nZ) n (z,(p:Int),0,0,()) nY=some (Sum.inr ((few p z).1,((few p z).2:Int),0,0,())):=by
  intro n
  induction n with
  | zero=>intro z p _ _ _ h;omega
  | succ n ih=>
   intro z p hz hz1 hp hn
   rw[kM]
   generalize hag:(fun y=>iter n y nY)=again
   unfold nY
   dsimp only
   cases p with
   | zero=>rfl
   | succ p=>
    rw[WX (show ((p+1:Nat):Int)>0 by omega),WV,WG]
    dsimp only
    rw[UK hz]
    by_cases hm:z % 10=0
    ·rw[show (z % 10==0)=true by simp[hm],WV,UJ hz,aG (n:=z / 10) (by omega) (by omega),aG (n:=((p+1:Nat):Int) - 1) (by omega) (by omega),
      show ((p+1:Nat):Int) - 1=(p:Int) by omega, <- hag]
     refine (ih (z / 10) p (by omega) (by omega) (by omega) (by omega)).trans ?_
     rw[show few (p+1) z=few p (z / 10) by rw[few,Xe hm]]
    ·rw[show (z % 10==0)=false by simp[hm],WU,show few (p+1) z=(z,p+1) by rw[few,Xd hm]]
 obtain⟨k,hk⟩:∃ k:Nat,d.2=k:=⟨d.2.toNat,by omega⟩
 rw[hk]
 have:=loop (d.1.natAbs+(Int.natAbs (k:Int)+(Int.natAbs (0:Int)+(Int.natAbs (0:Int)+2)))) d.1 k h0 h1 (by omega) (by omega)
 rw[this]
 unfold dM
 rw[hk]
 rfl
def DM (x:ak):zb:=(x.no,x.art,x.unit,wW x.ord,dM x.price,x.due,wW x.shp,wW x.rcv,wW x.ret,wW x.opn)
def Cn (x:ak):Prop:=0<=x.price.1/\x.price.1<=1000000000000000/\0<=x.price.2/\x.price.2<=9
theorem Ti {x:ak} (h:LOk x):0<=x.opn/\x.opn<=1000000000000:=by
 have:=h.ret0;have:=h.retr;have:=h.rcvs;have:=h.ord1
 unfold ak.opn
 split<;>omega
theorem tV {A:List ak} {k:Nat} {x:ak} (h:A[k]? =some x) (hx:LOk x) (hp:Cn x):gT (some k) (A.map ak.tup)=some (DM x,()):=by
 obtain⟨p1,p2,p3,p4⟩:=hp
 obtain⟨q1,q2⟩:=Ti hx
 have:=hx.ret0;have:=hx.retr;have:=hx.rcvs;have:=hx.shp1;have:=hx.qj;have:=hx.ord1
 unfold gT
 simp only[WG,ko h,vC h hx]
 rw[nB (n:=x.ord) (by omega) (by omega),nB (n:=x.shp) (by omega) (by omega),nB (n:=x.rcv) (by omega) (by omega),nB (n:=x.ret) (by omega) (by omega),nB (n:=x.opn) (by omega) (by omega),sL p1 p2 p3 p4]
 rfl
end Go.Md
namespace Go.Md
open Go.Dn
theorem sw {d:ah} (h:inR d 0 1000000000 4=true):0<=d.1/\d.1<=1000000000000000/\0<=d.2/\d.2<=9:=by
 unfold inR at h
 obtain⟨⟨h1,h2,h3⟩,h4,h5,h6⟩:=Xk h
 refine⟨by omega,by omega,h2,h3⟩
theorem Oo {l:List aa} {d:aa} {x:ak} (hw:WOk l x) (hl:∀ d,d∈l->cc d=0) (hp:Cn x):Cn (bW l d x).2:=by
 unfold bW
 by_cases h1:x.wish<0
 ·rw[Xe h1];exact hp
 rw[Xd h1]
 obtain⟨w,hw1,hw2⟩:=hw.kind (by omega)
 rw[vf hw1]
 obtain⟨_,_,_,hk,_,_,hu⟩:=cJ (hl w (VO hw1))
 obtain⟨_,up,_⟩:=eM hu
 by_cases h2:dNo w≠dTo d
 ·rw[Xe h2];exact hp
 rw[Xd h2]
 by_cases h3:aB d=5
 ·rw[Xe h3]
  by_cases k2:aB w=2
  ·rw[Xe k2]
   split<;>exact hp
  ·rw[Xd k2]
   by_cases k1:aB w=1
   ·rw[Xe k1];exact hp
   ·rw[Xd k1]
    by_cases k3:aB w=3
    ·rw[Xe k3];exact hp
    ·rw[Xd k3]
     have hk':1<=aB w/\aB w<=11:=hk
     exact sw (up (by unfold usP;exact WX (.inr (by omega))))
 ·rw[Xd h3];exact hp
theorem Rv {ext:Int} {d:aa} {x:ak} (hp:Cn x):Cn (cL ext d x).2:=by
 unfold cL
 split
 ·split
  ·exact hp
  ·split<;>exact hp
 ·split
  ·split<;>exact hp
  ·split<;>exact hp
theorem R9 {o:aj} {l:List aa} {i:Nat} {d:aa} {x:ak} (hw:WOk l x) (hl:∀ d,d∈l->cc d=0) (hp:Cn x):Cn (dA o l i d x).2:=by
 have ha:=Oo (d:=d) hw hl hp
 have hm:=Rv (ext:=dD o) (d:=d) hp
 unfold dA
 split
 ·unfold BS
  split
  ·exact hp
  ·split<;>exact hp
 ·split
  ·split<;>exact ha
  ·split
   ·split<;>exact hp
   ·split
    ·unfold Eo
     split
     ·exact hp
     ·split<;>exact hp
    ·split
     ·split<;>exact hm
     ·exact hm
structure Good (l:List aa) (A:List ak):Prop where
 sound:Sound l A
 pr:∀ x,x∈A->Cn x
theorem GQ {o:aj} {l:List aa} {i:Nat} {d:aa} {A:List ak} (hA:Good l A) (hl:∀ d,d∈l->cc d=0) (hd:l[i]? =some d):Good l (bY o l i d A).2:=by
 refine⟨(Rc hA.sound hl hd).1,fun x hx=> ?_⟩
 unfold bY at hx
 by_cases k1:aB d=1
 ·rw[Xe k1] at hx
  split at hx
  ·exact hA.pr x hx
  ·split at hx
   ·exact hA.pr x hx
   ·split at hx
    ·exact hA.pr x hx
    ·rcases VF.1 hx with hx | hx
     ·exact hA.pr x hx
     ·simp only[VR] at hx
      subst hx
      obtain⟨_,_,_,_,_,_,hu⟩:=cJ (hl d (VO hd))
      exact sw ((eM hu).2.1 (by rw[k1];rfl))
 ·rw[Xd k1] at hx
  split at hx
  ·exact hA.pr x hx
  ·split at hx
   ·rename_i y hy
    rcases VP hx with hx | hx
    ·exact hA.pr x hx
    ·subst hx
     have hm:=VO hy
     exact R9 (hA.sound.line y hm).2 hl (hA.pr y hm)
   ·exact hA.pr x hx
def K6 (n:Int) (A:List ak):Option ak:=(gD n A).bind fun k=>A[k]?
theorem OQ {n:Int} {A:List ak} {k:Nat} {x:ak} (h:gD n A=some k) (hx:A[k]? =some x):K6 n A=some x:=by unfold K6;rw[h];exact hx
theorem M0 {o:aj} {l:List aa} {i:Nat} {d:aa} {A:List ak} (hA:Sound l A) (hl:∀ d,d∈l->cc d=0) (hd:l[i]? =some d) (h0:(bY o l i d A).1=0): ∃ k x,gD (aH d) (bY o l i d A).2=some k/\(bY o l i d A).2[k]? =some x:=by
 unfold bY at h0 ⊢
 by_cases k1:aB d=1
 ·rw[Xe k1] at h0 ⊢
  split at h0
  ·cases h0
  ·rename_i hf
   split at h0
   ·cases h0
   ·rename_i h5
    split at h0
    ·cases h0
    ·rename_i h6
     rw[Xd h5,Xd h6]
     refine⟨A.length,pX i d, ?_,by simp⟩
     show bp (aH d) 0 (A++[pX i d])=_
     rw[G8,show bp (aH d) 0 A=none from hf,Xe (show aH d=(pX i d).no from rfl)]
     simp
 ·rw[Xd k1] at h0 ⊢
  split at h0
  ·cases h0
  ·rename_i k hk
   obtain⟨x,hx,hxn⟩:=G9 hk
   rw[hx]
   dsimp only
   obtain⟨h1,h2⟩:=hA.line x (VO hx)
   refine⟨k,_, ?_,Eb hx _⟩
   show bp (aH d) 0 (A.set k _)=_
   rw[OH A 0 (fun z hz=>by rw[hx] at hz;cases hz;exact (D1 (o:=o) h1 h2 hl hd).2.2.1)]
   exact hk
def F4 (wt:Int) (i:Nat) (d:aa) (A:List ak) (pts:List az):List az:=
 if aH d=wt then (match K6 (aH d) A with | some x=>pts++[((i:Int),DM x)] | none=>pts) else pts
def jG (o:aj) (l:List aa) (wt day:Int):List aa->Nat->List ak->List (Int×Int)->List az->List ak×List (Int×Int)×List az
 | [],_,A,ref,pts=>(A,ref,pts)
 | d::r,i,A,ref,pts=>
  if day<d.1 then (A,ref,pts)
  else if (bY o l i d A).1≠0 then jG o l wt day r (i+1) (bY o l i d A).2 (ref++[((i:Int),(bY o l i d A).1)]) pts
  else jG o l wt day r (i+1) (bY o l i d A).2 ref (F4 wt i d (bY o l i d A).2 pts)
theorem iq {β:Type} {b:Bool} (h:b=true) (x:Option β):chk b x=x:=by rw[h];rfl
theorem RN {onum obuy osel:List UInt8} {oday oext:Int} {olns:List ai} {l:List aa} {wt day:Int} (he0:0<=oext) (he1:oext<=1000) (hl:∀ d,d∈l->cc d=0) (hlen:l.length<=2000): ∀ (r:List aa) (i n:Nat) (A:List ak) (ref:List (Int×Int)) (pts:List az),l.drop i=r->i<=l.length->Good l A->ref.length<=i->pts.length<=i->r.length<n-> iter (X:=iK) (β:=iJ) n (day,l,(l.length:Int),(i:Int),onum,obuy,osel,oday,oext,olns,l,mapOf A,ref,pts,wt,A.map ak.tup,()) fU= some (Sum.inr (onum,obuy,osel,oday,oext,olns,l,mapOf (jG (onum,obuy,osel,oday,oext,olns) l wt day r i A ref pts).1,(jG (onum,obuy,osel,oday,oext,olns) l wt day r i A ref pts).2.1,(jG (onum,obuy,osel,oday,oext,olns) l wt day r i A ref pts).2.2,wt,(jG (onum,obuy,osel,oday,oext,olns) l wt day r i A ref pts).1.map ak.tup,())):=by
 intro r
 induction r with
 | nil=>
  intro i n A ref pts hd hi hA hr hp hn
  have:i=l.length:=by
   have:=congrArg List.length hd
   simp at this;omega
  subst this
  obtain⟨n,rfl⟩:∃ m,n=m+1:=⟨n - 1,by omega⟩
  rw[kM]
  unfold fU
  dsimp only
  rw[WW (show ¬((l.length:Int)<(l.length:Int)) by omega),WU]
  rfl
 | cons d r ih=>
  intro i n A ref pts hdr hi hA hr hp hn
  have hd:l[i]? =some d:=by
   have:=congrArg (·[0]?) hdr
   simpa [Vd] using this
  have hr':l.drop (i+1)=r:=by
   have:=congrArg List.tail hdr
   simpa [V0] using this
  have hlt:i<l.length:=(Vg.1 hd).1
  obtain⟨n,rfl⟩:∃ m,n=m+1:=⟨n - 1,by simp at hn;omega⟩
  rw[kM]
  generalize hag:(fun y=>iter n y fU)=again
  unfold fU
  dsimp only
  rw[WX (show (i:Int)<(l.length:Int) by omega),WV,cO hd,WG]
  have hdeed:=zK (o:=(onum,obuy,osel,oday,oext,olns)) (ref:=ref) (pts:=pts) (wt:=wt) hA.sound hl hd he0 he1
  have hgood:=GQ (o:=(onum,obuy,osel,oday,oext,olns)) hA hl hd
  by_cases hday:day<d.1
  ·rw[WX (show d.1>day from hday),WV]
   simp only[jG,Xe hday]
  ·rw[WW (show ¬d.1>day from hday),WU]
   rw[hdeed,WG]
   dsimp only
   rw[aG (n:=(i:Int)+1) (by omega) (by omega)]
   simp only[jG,Xd hday]
   have vW:maxLen=9223372036854775807:=rfl
   have hi1:(i:Int)+1=((i+1:Nat):Int):=by omega
   by_cases he:(bY (onum,obuy,osel,oday,oext,olns) l i d A).1=0
   ·rw[Xd (fun h=>h he),he]
    rw[show ((0:Int) != 0)=false from rfl,WU]
    by_cases hw:aH d=wt
    ·obtain⟨k,x,hk,hx⟩:=M0 hA.sound hl hd he
     have hxm:=VO hx
     rw[show (d.2.2.2.2.1==wt)=true by simpa using hw,WV,fM,show bp d.2.2.2.2.1 0 _=some k from hk,
      tV hx (hgood.sound.line x hxm).1 (hgood.pr x hxm),WG]
     rw[iq (by rw[Ug];exact⟨WX (by omega),WX (by omega)⟩)]
     have hpt:F4 wt i d (bY (onum,obuy,osel,oday,oext,olns) l i d A).2 pts=pts++[((i:Int),DM x)]:=by
      unfold F4
      rw[Xe hw,OQ hk hx]
     rw[hpt,hi1, <- hag]
     exact ih (i+1) n _ ref _ hr' (by omega) hgood (by omega) (by simp;omega) (by simp at hn;omega)
    ·rw[show (d.2.2.2.2.1==wt)=false by simpa using hw,WU]
     have hpt:F4 wt i d (bY (onum,obuy,osel,oday,oext,olns) l i d A).2 pts=pts:=by
      unfold F4
      rw[Xd hw]
     rw[hpt,hi1, <- hag]
     exact ih (i+1) n _ ref pts hr' (by omega) hgood (by omega) (by omega) (by simp at hn;omega)
   ·rw[Xe he,gA he,WV]
    rw[iq (by rw[Ug];exact⟨WX (by omega),WX (by omega)⟩)]
    rw[hi1, <- hag]
    exact ih (i+1) n _ _ pts hr' (by omega) hgood (by simp;omega) (by omega) (by simp at hn;omega)
theorem Ax {o:aj} {l:List aa} {wt day:Int} {A:List ak} (he:0<=dD o/\dD o<=1000) (hl:∀ d,d∈l->cc d=0) (hlen:l.length<=2000) (hA:Good l A): fT (o,l,mapOf A,[],[],wt,()) day (A.map ak.tup)=some ((o,l,mapOf (jG o l wt day l 0 A [] []).1,(jG o l wt day l 0 A [] []).2.1,(jG o l wt day l 0 A [] []).2.2,wt,()),(jG o l wt day l 0 A [] []).1.map ak.tup,()):=by
 obtain⟨onum,obuy,osel,oday,oext,olns⟩:=o
 unfold fT
 refine (congrArg (fun z=>aI z _) (RN (onum:=onum) (obuy:=obuy) (osel:=osel) (oday:=oday) (olns:=olns) (wt:=wt) (day:=day) he.1 he.2 hl hlen l 0 _ A [] [] rfl (WD _) hA (WD _) (WD _) ?_)).trans rfl
 dsimp only
 omega
theorem Hs {o:aj} (ho:eV o=0) (l:List aa):Good l (nM o):=by
 obtain⟨_,_,_,_,hgo,_⟩:=vB ho
 obtain⟨hln,_,_⟩:=nw hgo
 refine⟨⟨fun x hx=> ?_⟩,fun x hx=> ?_⟩
 ·obtain⟨q,hq,rfl⟩:=VN.1 hx
  obtain⟨_,h2,_⟩:=hln q hq
  obtain⟨u0,u1,_⟩:=iC h2
  exact⟨⟨by show (0:Int)<=0;omega,by show (0:Int)<=0;omega,by show (0:Int)<=0;omega,by show (0:Int)<=_;omega,u0,u1,fun e=>absurd rfl e⟩,⟨by show (-1:Int)<= -1;omega,fun h=>by have:(0:Int)<= -1:=h;omega⟩⟩
 ·obtain⟨q,hq,rfl⟩:=VN.1 hx
  obtain⟨_,_,_,h4,_⟩:=hln q hq
  exact sw h4
def sK (o:aj) (l:List aa) (wt day:Int):List ak×List (Int×Int)×List az:=jG o l wt day l 0 (nM o) [] []
def lZ (o:aj) (l:List aa):Int:=if eV o≠0 then eV o else fC l
theorem Jk {o:aj} {l:List aa} (h:lZ o l=0):eV o=0/\fC l=0:=by
 unfold lZ at h
 split at h
 ·rename_i h1;exact absurd h h1
 ·rename_i h1;exact⟨Uw.1 h1,h⟩
theorem start_eq {o:aj} {l:List aa} (h:lZ o l=0) (wt day:Int):∃ q,gz o l []=some ((o,l,mapOf (nM o),[],[],0,()),(nM o).map ak.tup,())/\ fT (o,l,mapOf (nM o),[],[],wt,()) day ((nM o).map ak.tup)=some ((o,l,mapOf (sK o l wt day).1,(sK o l wt day).2.1,(sK o l wt day).2.2,wt,()),(sK o l wt day).1.map ak.tup,())/\q=():=by
 obtain⟨h1,h2⟩:=Jk h
 obtain⟨h3,h4⟩:=uP h2
 exact⟨(),Bx h1 l,Ax (vB h1).2.1 h4 h3 (Hs h1 l),rfl⟩
theorem KM (o:aj) (l:List aa) (day:Int):wP o l day []=(if lZ o l≠0 then some (none,lZ o l,[],()) else if ¬(1<=day/\day<=3652059) then some (none,1,[],()) else none):=by
 unfold wP
 rw[xU,WG,oN]
 dsimp only
 by_cases h:lZ o l=0
 ·rw[Xd (show ¬lZ o l≠0 from fun e=>e h),show (if eV o≠0 then eV o else fC l)=0 from h,show ((0:Int) != 0)=false from rfl,WU,WG]
  by_cases hd:1<=day/\day<=3652059
  ·rw[Xd (show ¬¬(1<=day/\day<=3652059) from fun e=>e hd),WX hd]
   obtain⟨_,e1,e2,_⟩:=start_eq h 0 day
   dsimp only
   rw[Us,WU,e1,WG]
   dsimp only
   rw[e2];rfl
  ·rw[Xe hd,WW hd];rfl
 ·rw[Xe (show lZ o l≠0 from h),show ((if eV o≠0 then eV o else fC l) != 0)=true from gA h,WV]
  rfl
theorem Nn {o:aj} {l:List aa} {day:Int} (h:lZ o l=0) (hd:1<=day/\day<=3652059):Bv o l day []=some ((o,l,mapOf (sK o l 0 day).1,(sK o l 0 day).2.1,(sK o l 0 day).2.2,0,()),0,(sK o l 0 day).1.map ak.tup,()):=by
 unfold Bv
 rw[xU,WG,oN]
 dsimp only
 rw[show (if eV o≠0 then eV o else fC l)=0 from h,show ((0:Int) != 0)=false from rfl,WU,WG,WX hd]
 obtain⟨_,e1,e2,_⟩:=start_eq h 0 day
 dsimp only
 rw[Us,WU,e1,WG]
 dsimp only
 rw[e2];rfl
end Go.Md
namespace Go.Md
open Go.Dn
theorem Cy:rJ=some (true,()):=by kernel_rfl
end Go.Md
namespace Go.Md
open Go.Dn
structure Pts (l:List aa) (wt:Int) (n:Nat) (A:List ak) (pts:List az):Prop where
 pt:∀ (j:Nat) (p:az),pts[j]? =some p->0<=p.1/\p.1<n/\(∃ d,idx l p.1=some d/\aH d=wt)/\∀ q,0<j->pts[j - 1]? =some q->q.1<p.1
 last:∀ p,pts.getLast? =some p->∃ x,K6 wt A=some x/\p.2=DM x
theorem O2 {α β:Type} {f:α->Option β} {g:Option β}:O1 (none:Option α) f g=g:=rfl
end Go.Md
namespace Go.Md
open Go.Dn
end Go.Md
namespace Go.Md
open Go.Dn
theorem QK {a b:ah} (ha:jM a) (hb:jM b):vH a b=some ((lz a - lz b).sign,()):=Pd ha hb
end Go.Md
namespace Go.Md
open Go.Dn
end Go.Md
namespace Go.Md
open Go.Dn
end Go.Md
namespace Go.Md
open Go.Dn
end Go.Md
