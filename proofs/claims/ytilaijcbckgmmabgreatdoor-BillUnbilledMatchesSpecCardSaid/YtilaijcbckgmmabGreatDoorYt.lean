/-
  Plain facts: deeds, followed one behind the other. No condition.
-/
import Derived.Test.YtilaijcbckgmmabGreatDoorYs
import Derived.Test.YtilaijcbckgmmabGreatDoorYq
import Derived.Test.YtilaijcbckgmmabGreatDoorYo
set_option linter.all false
namespace Go.Md
open Go.Dn
theorem YN {day:Int} {p:Option aF} {x:aF} (h:dz day p x=0):(1<=x.1/\x.1<=99999)/\(∀ q,p=some q->q.1<x.1)/\bU x.2.1=true/\qOk x.2.2.1 false=true/\bU x.2.2.2.1=true/\inR x.2.2.2.2.1 0 1000000000 4=true/\(day<=x.2.2.2.2.2/\x.2.2.2.2.2<=3652059):=by
 unfold dz at h
 split at h
 ·cases h
 ·rename_i h1
  split at h
  ·cases h
  ·rename_i h2
   split at h
   ·cases h
   ·rename_i h3
    split at h
    ·cases h
    ·rename_i h4
     split at h
     ·cases h
     ·rename_i h5
      split at h
      ·cases h
      ·rename_i h6
       split at h
       ·cases h
       ·rename_i h7
        refine⟨af7.1 h1,fun q hq=> ?_,by simpa using h3,by simpa using h4,by simpa using h5,by simpa using h6,af7.1 h7⟩
        subst hq
        have:¬x.1<=q.1:=fun e=>h2 (aiD e)
        omega
theorem pe {day:Int}:∀ {r:List aF} {p:Option aF},jI day r p=0-> (∀ x,x∈r->bU x.2.1=true/\qOk x.2.2.1 false=true/\bU x.2.2.2.1=true/\inR x.2.2.2.2.1 0 1000000000 4=true/\(1<=x.1/\x.1<=99999)/\(day<=x.2.2.2.2.2/\x.2.2.2.2.2<=3652059))/\(∀ q,p=some q->∀ x,x∈r->q.1<x.1)/\r.Pairwise (fun a b=>a.1<b.1)
 | [],p,_=>⟨nofun,fun _ _ _ h=>(nomatch h),List.Pairwise.nil⟩
 | y::r,p,h=>by
  simp only[jI] at h
  by_cases hf:dz day p y=0
  ·rw[aiL (fun e=>e hf)] at h
   obtain⟨a1,a2,a3⟩:=pe h
   obtain⟨b1,b2,b3,b4,b5,b6,b7⟩:=YN hf
   refine⟨fun x hx=> ?_,fun q hq x hx=> ?_,List.Pairwise.cons (fun x hx=>a2 y rfl x hx) a3⟩
   ·rcases ahn.1 hx with rfl | hx
    ·exact⟨b3,b4,b5,b6,b1,b7⟩
    ·exact a1 x hx
   ·rcases ahn.1 hx with rfl | hx
    ·exact b2 q hq
    ·have:=b2 q hq
     have:=a2 y rfl x hx
     omega
  ·rw[aiM hf] at h
   exact absurd h hf
theorem wg {o:aj} (h:jt o=0):(1<=dw o/\dw o<=3652059)/\(0<=cm o/\cm o<=1000)/\(iW o).length<=500/\iW o≠[]/\jI (dw o) (iW o) none=0/\(bU (Gp o)=true/\bU (Gn o)=true/\bU (KV o)=true/\Gn o≠KV o):=by
 unfold jt at h
 split at h
 ·cases h
 ·rename_i h1
  split at h
  ·cases h
  ·rename_i h2
   split at h
   ·cases h
   ·rename_i h3
    split at h
    ·cases h
    ·rename_i h4
     split at h
     ·cases h
     ·rename_i h5
      split at h
      ·cases h
      ·rename_i h6
       refine⟨af7.1 h3,af7.1 h4,by omega,h5,h, ?_, ?_, ?_,h2⟩
       ·cases hb:bU (Gp o)
        ·exact absurd (.inl hb) h1
        ·rfl
       ·cases hb:bU (Gn o)
        ·exact absurd (.inr (.inl hb)) h1
        ·rfl
       ·cases hb:bU (KV o)
        ·exact absurd (.inr (.inr hb)) h1
        ·rfl
def lJ (x:aF):ak:=⟨x.1,x.2.1,x.2.2.2.1,aW x.2.2.1,0,0,0,x.2.2.2.2.1,x.2.2.2.2.2, -1,0,0,0⟩
abbrev jW (o:aj):List ak:=(iW o).map lJ
theorem ID {n:Int}:∀ {A:List ak} {i:Nat},(∀ x,x∈A->x.no≠n)->cw n i A=none
 | [],_,_=>rfl
 | x::r,i,h=>by
  simp only[cw]
  rw[aiL (fun e=>h x (by simp) e.symm)]
  exact ID (fun y hy=>h y (by simp[hy]))
theorem tC {α:Type} {l:List α} {i:Nat} {y:α} (h:l[i]? =some y):l.take (i+1)=l.take i++[y]:=by
 rw[ahI,h];rfl
theorem KY {o:aj} (ho:jt o=0) (l:List aa):jX o l []=some ((o,l,mapOf (jW o),[],[],0,()),(jW o).map ak.tup,()):=by
 obtain⟨_,_,hlen,_,hgo,_⟩:=wg ho
 obtain⟨hln,_,hpw⟩:=pe hgo
 obtain⟨onum,obuy,osel,oday,oext,lns⟩:=o
 change lns.length<=500 at hlen
 change ∀ x,x∈lns->_ at hln
 change lns.Pairwise _ at hpw
 unfold jX
 have:=KM (f:=nt) (fun (_:Unit) (i:Nat)=>((lns,(lns.length:Int),(i:Int),onum,obuy,osel,oday,oext,lns,l,[],[],0,mapOf ((lns.take i).map lJ),((lns.take i).map lJ).map ak.tup,()):nu)) lns
  (fun (_:Unit) _ _ k=>k ()) (fun _=>some (Sum.inr (onum,obuy,osel,oday,oext,lns,l,[],[],0,mapOf (lns.map lJ),(lns.map lJ).map ak.tup,()))) (fun s i y again hy=>by
    have hi:i<lns.length:=(agW.1 hy).1
    unfold nt
    dsimp only
    rw[aiD (show (i:Int)<(lns.length:Int) by omega),aiz,cF hy,aim,nF (hln y (ahu hy)).2.1,aim]
    have hno:cw y.1 0 ((lns.take i).map lJ)=none:=ID fun z hz=>by
     obtain⟨q,hq,rfl⟩:=ahs.1 hz
     obtain⟨j,hj⟩:=ahr.1 hq
     have hji:j<i:=by
      have:=(agW.1 hj).1
      simp at this;omega
     rw[ag4 hji] at hj
     have h1:=ahA.1 hpw j i (by omega) hi hji
     have e1:lns[j]=q:=by have:=agU (show j<lns.length by omega);rw[hj] at this;exact (Option.some.inj this).symm
     have e2:lns[i]=y:=by have:=agU hi;rw[hy] at this;exact (Option.some.inj this).symm
     rw[e1,e2] at h1
     show q.1≠y.1
     omega
    have hs:=QJ y.1 (lJ y) rfl ((lns.take i).map lJ) 0 hno
    rw[aij] at hs
    rw[aha,ax (n:=(i:Int)+1) (by omega) (by omega)]
    have ht:(lns.take (i+1)).map lJ=(lns.take i).map lJ++[lJ y]:=by rw[tC hy,ahf];rfl
    rw[ht]
    refine congrArg again ?_
    refine Prod.ext rfl (Prod.ext rfl (Prod.ext rfl (Prod.ext rfl (Prod.ext rfl (Prod.ext rfl (Prod.ext rfl (Prod.ext rfl (Prod.ext rfl (Prod.ext rfl (Prod.ext rfl (Prod.ext rfl (Prod.ext rfl (Prod.ext hs (Prod.ext ?_ rfl))))))))))))))
    show List.map ak.tup _++[_]=List.map ak.tup (_++[lJ y])
    rw[ahf];rfl) (fun s again=>by
    unfold nt
    dsimp only
    rw[aiB (show ¬((lns.length:Int)<(lns.length:Int)) by omega),aiy,ahM]) ()
 have hfor:∀ (r:List aF) (i:Nat) (β:Type) (f:Option β),Gd (fun (_:Unit) _ _ k=>k ()) (fun _=>f) r i ()=f:=by
  intro r
  induction r with
  | nil=>intro i β f;rfl
  | cons y r ih=>intro i β f;exact ih (i+1) β f
 refine (congrArg (fun z=>aB z _) ((this _ ?_).trans (hfor _ _ _ _))).trans rfl
 simp only[ahb]
 omega
def bQ (n:Int):ah:=((few 3 n).1,((few 3 n).2:Int))
theorem tT {n:Int} (h0:0<=n) (h1:n<=1000000000000000):qa n=some (bQ n,()):=by
 unfold qa
 rw[nD n (by omega) (by omega),aim]
 have hb:n.natAbs<4294967296 ^ 99:=ah3 (show n.natAbs<4294967296 ^ 2 by omega) (aih (by omega) (by omega))
 have:=FA n hb 3 (by omega)
 rw[show ((3:Nat):Int)=3 from rfl] at this
 dsimp only
 rw[this,aim,aiM (by have:=(Ci 3 n).2.2;omega)]
 rfl
def pY (d:ah):ah:=((few d.2.toNat d.1).1,((few d.2.toNat d.1).2:Int))
theorem Ra {d:ah} (h0:0<=d.1) (h1:d.1<=1000000000000000) (h2:0<=d.2) (h3:d.2<=9):AV d=some (pY d,()):=by
 unfold AV
 have loop:∀ (n:Nat) (z:Int) (p:Nat),0<=z->z<=1000000000000000->p<=9->p<n->iter (X:=u5) (β:=uZ) n (z,(p:Int),0,0,()) uY=some (Sum.inr ((few p z).1,((few p z).2:Int),0,0,())):=by
  intro n
  induction n with
  | zero=>intro z p _ _ _ h;omega
  | succ n ih=>
   intro z p hz hz1 hp hn
   rw[aX]
   generalize hag:(fun y=>iter n y uY)=again
   unfold uY
   dsimp only
   cases p with
   | zero=>rfl
   | succ p=>
    rw[aiD (show ((p+1:Nat):Int)>0 by omega),aiz,aim]
    dsimp only
    rw[agp hz]
    by_cases hm:z % 10=0
    ·rw[show (z % 10==0)=true by simp[hm],aiz,ago hz,ax (n:=z / 10) (by omega) (by omega),ax (n:=((p+1:Nat):Int) - 1) (by omega) (by omega),
      show ((p+1:Nat):Int) - 1=(p:Int) by omega, <- hag]
     refine (ih (z / 10) p (by omega) (by omega) (by omega) (by omega)).trans ?_
     rw[show few (p+1) z=few p (z / 10) by rw[few,aiM hm]]
    ·rw[show (z % 10==0)=false by simp[hm],aiy,show few (p+1) z=(z,p+1) by rw[few,aiL hm]]
 obtain⟨k,hk⟩:∃ k:Nat,d.2=k:=⟨d.2.toNat,by omega⟩
 rw[hk]
 have:=loop (d.1.natAbs+(Int.natAbs (k:Int)+(Int.natAbs (0:Int)+(Int.natAbs (0:Int)+2)))) d.1 k h0 h1 (by omega) (by omega)
 rw[this]
 unfold pY
 rw[hk]
 rfl
def bM (x:ak):aq:=(x.no,x.art,x.unit,bQ x.ord,pY x.price,x.due,bQ x.shp,bQ x.rcv,bQ x.ret,bQ x.opn)
def Ib (x:ak):Prop:=0<=x.price.1/\x.price.1<=1000000000000000/\0<=x.price.2/\x.price.2<=9
theorem ace {x:ak} (h:LOk x):0<=x.opn/\x.opn<=1000000000000:=by
 have:=h.ret0;have:=h.retr;have:=h.rcvs;have:=h.ord1
 unfold ak.opn
 split<;>omega
theorem B5 {A:List ak} {k:Nat} {x:ak} (h:A[k]? =some x) (hx:LOk x) (hp:Ib x):kR (some k) (A.map ak.tup)=some (bM x,()):=by
 obtain⟨p1,p2,p3,p4⟩:=hp
 obtain⟨q1,q2⟩:=ace hx
 have:=hx.ret0;have:=hx.retr;have:=hx.rcvs;have:=hx.shp1;have:=hx.uO;have:=hx.ord1
 unfold kR
 simp only[aim,sk h,DA h hx]
 rw[tT (n:=x.ord) (by omega) (by omega),tT (n:=x.shp) (by omega) (by omega),tT (n:=x.rcv) (by omega) (by omega),tT (n:=x.ret) (by omega) (by omega),tT (n:=x.opn) (by omega) (by omega),Ra p1 p2 p3 p4]
 rfl
end Go.Md
namespace Go.Md
open Go.Dn
theorem HB {d:ah} (h:inR d 0 1000000000 4=true):0<=d.1/\d.1<=1000000000000000/\0<=d.2/\d.2<=9:=by
 unfold inR at h
 obtain⟨⟨h1,h2,h3⟩,h4,h5,h6⟩:=aiS h
 refine⟨by omega,by omega,h2,h3⟩
theorem ZY {l:List aa} {d:aa} {x:ak} (hw:WOk l x) (hl:∀ d,d∈l->bH d=0) (hp:Ib x):Ib (b8 l d x).2:=by
 unfold b8
 by_cases h1:x.wish<0
 ·rw[aiM h1];exact hp
 rw[aiL h1]
 obtain⟨w,hw1,hw2⟩:=hw.kind (by omega)
 rw[uI hw1]
 obtain⟨_,_,_,hk,_,_,hu⟩:=bW (hl w (ahu hw1))
 obtain⟨_,up,_⟩:=dM hu
 by_cases h2:dNo w≠dTo d
 ·rw[aiM h2];exact hp
 rw[aiL h2]
 by_cases h3:aM d=5
 ·rw[aiM h3]
  by_cases k2:aM w=2
  ·rw[aiM k2]
   split<;>exact hp
  ·rw[aiL k2]
   by_cases k1:aM w=1
   ·rw[aiM k1];exact hp
   ·rw[aiL k1]
    by_cases k3:aM w=3
    ·rw[aiM k3];exact hp
    ·rw[aiL k3]
     have hk':1<=aM w/\aM w<=11:=hk
     exact HB (up (by unfold usP;exact aiD (.inr (by omega))))
 ·rw[aiL h3];exact hp
theorem adb {ext:Int} {d:aa} {x:ak} (hp:Ib x):Ib (cL ext d x).2:=by
 unfold cL
 split
 ·split
  ·exact hp
  ·split<;>exact hp
 ·split
  ·split<;>exact hp
  ·split<;>exact hp
theorem adL {o:aj} {l:List aa} {i:Nat} {d:aa} {x:ak} (hw:WOk l x) (hl:∀ d,d∈l->bH d=0) (hp:Ib x):Ib (bA o l i d x).2:=by
 have ha:=ZY (d:=d) hw hl hp
 have hm:=adb (ext:=cm o) (d:=d) hp
 unfold bA
 split
 ·unfold vC
  split
  ·exact hp
  ·split<;>exact hp
 ·split
  ·split<;>exact ha
  ·split
   ·split<;>exact hp
   ·split
    ·unfold Fb
     split
     ·exact hp
     ·split<;>exact hp
    ·split
     ·split<;>exact hm
     ·exact hm
structure Good (l:List aa) (A:List ak):Prop where
 sound:Sound l A
 pr:∀ x,x∈A->Ib x
theorem EN {o:aj} {l:List aa} {i:Nat} {d:aa} {A:List ak} (hA:Good l A) (hl:∀ d,d∈l->bH d=0) (hd:l[i]? =some d):Good l (cB o l i d A).2:=by
 refine⟨(WV hA.sound hl hd).1,fun x hx=> ?_⟩
 unfold cB at hx
 by_cases k1:aM d=1
 ·rw[aiM k1] at hx
  split at hx
  ·exact hA.pr x hx
  ·split at hx
   ·exact hA.pr x hx
   ·split at hx
    ·exact hA.pr x hx
    ·rcases ahk.1 hx with hx | hx
     ·exact hA.pr x hx
     ·simp only[ahx] at hx
      subst hx
      obtain⟨_,_,_,_,_,_,hu⟩:=bW (hl d (ahu hd))
      exact HB ((dM hu).2.1 (by rw[k1];rfl))
 ·rw[aiL k1] at hx
  split at hx
  ·exact hA.pr x hx
  ·split at hx
   ·rename_i y hy
    rcases ahv hx with hx | hx
    ·exact hA.pr x hx
    ·subst hx
     have hm:=ahu hy
     exact adL (hA.sound.line y hm).2 hl (hA.pr y hm)
   ·exact hA.pr x hx
def pZ (n:Int) (A:List ak):Option ak:=(eF n A).bind fun k=>A[k]?
theorem EX {n:Int} {A:List ak} {k:Nat} {x:ak} (h:eF n A=some k) (hx:A[k]? =some x):pZ n A=some x:=by unfold pZ;rw[h];exact hx
theorem Pk {o:aj} {l:List aa} {i:Nat} {d:aa} {A:List ak} (hA:Sound l A) (hl:∀ d,d∈l->bH d=0) (hd:l[i]? =some d) (h0:(cB o l i d A).1=0): ∃ k x,eF (dx d) (cB o l i d A).2=some k/\(cB o l i d A).2[k]? =some x:=by
 unfold cB at h0 ⊢
 by_cases k1:aM d=1
 ·rw[aiM k1] at h0 ⊢
  split at h0
  ·cases h0
  ·rename_i hf
   split at h0
   ·cases h0
   ·rename_i h5
    split at h0
    ·cases h0
    ·rename_i h6
     rw[aiL h5,aiL h6]
     refine⟨A.length,gx i d, ?_,by simp⟩
     show cw (dx d) 0 (A++[gx i d])=_
     rw[EU,show cw (dx d) 0 A=none from hf,aiM (show dx d=(gx i d).no from rfl)]
     simp
 ·rw[aiL k1] at h0 ⊢
  split at h0
  ·cases h0
  ·rename_i k hk
   obtain⟨x,hx,hxn⟩:=xw hk
   rw[hx]
   dsimp only
   obtain⟨h1,h2⟩:=hA.line x (ahu hx)
   refine⟨k,_, ?_,Om hx _⟩
   show cw (dx d) 0 (A.set k _)=_
   rw[KE A 0 (fun z hz=>by rw[hx] at hz;cases hz;exact (Fi (o:=o) h1 h2 hl hd).2.2.1)]
   exact hk
def wz (wt:Int) (i:Nat) (d:aa) (A:List ak) (pts:List aL):List aL:=
 if dx d=wt then (match pZ (dx d) A with | some x=>pts++[((i:Int),bM x)] | none=>pts) else pts
def ja (o:aj) (l:List aa) (wt day:Int):List aa->Nat->List ak->List (Int×Int)->List aL->List ak×List (Int×Int)×List aL
 | [],_,A,ref,pts=>(A,ref,pts)
 | d::r,i,A,ref,pts=>
  if day<d.1 then (A,ref,pts)
  else if (cB o l i d A).1≠0 then ja o l wt day r (i+1) (cB o l i d A).2 (ref++[((i:Int),(cB o l i d A).1)]) pts
  else ja o l wt day r (i+1) (cB o l i d A).2 ref (wz wt i d (cB o l i d A).2 pts)
theorem eW {β:Type} {b:Bool} (h:b=true) (x:Option β):chk b x=x:=by rw[h];rfl
theorem adk {onum obuy osel:Bys} {oday oext:Int} {olns:List aF} {l:List aa} {wt day:Int} (he0:0<=oext) (he1:oext<=1000) (hl:∀ d,d∈l->bH d=0) (hlen:l.length<=2000): ∀ (r:List aa) (i n:Nat) (A:List ak) (ref:List (Int×Int)) (pts:List aL),l.drop i=r->i<=l.length->Good l A->ref.length<=i->pts.length<=i->r.length<n-> iter (X:=mm) (β:=mj) n (day,l,(l.length:Int),(i:Int),onum,obuy,osel,oday,oext,olns,l,mapOf A,ref,pts,wt,A.map ak.tup,()) jg= some (Sum.inr (onum,obuy,osel,oday,oext,olns,l,mapOf (ja (onum,obuy,osel,oday,oext,olns) l wt day r i A ref pts).1,(ja (onum,obuy,osel,oday,oext,olns) l wt day r i A ref pts).2.1,(ja (onum,obuy,osel,oday,oext,olns) l wt day r i A ref pts).2.2,wt,(ja (onum,obuy,osel,oday,oext,olns) l wt day r i A ref pts).1.map ak.tup,())):=by
 intro r
 induction r with
 | nil=>
  intro i n A ref pts hd hi hA hr hp hn
  have:i=l.length:=by
   have:=congrArg List.length hd
   simp at this;omega
  subst this
  obtain⟨n,rfl⟩:∃ m,n=m+1:=⟨n - 1,by omega⟩
  rw[aX]
  unfold jg
  dsimp only
  rw[aiB (show ¬((l.length:Int)<(l.length:Int)) by omega),aiy]
  rfl
 | cons d r ih=>
  intro i n A ref pts hdr hi hA hr hp hn
  have hd:l[i]? =some d:=by
   have:=congrArg (·[0]?) hdr
   simpa [agT] using this
  have hr':l.drop (i+1)=r:=by
   have:=congrArg List.tail hdr
   simpa [ahG] using this
  have hlt:i<l.length:=(agW.1 hd).1
  obtain⟨n,rfl⟩:∃ m,n=m+1:=⟨n - 1,by simp at hn;omega⟩
  rw[aX]
  generalize hag:(fun y=>iter n y jg)=again
  unfold jg
  dsimp only
  rw[aiD (show (i:Int)<(l.length:Int) by omega),aiz,cF hd,aim]
  have hdeed:=IG (o:=(onum,obuy,osel,oday,oext,olns)) (ref:=ref) (pts:=pts) (wt:=wt) hA.sound hl hd he0 he1
  have hgood:=EN (o:=(onum,obuy,osel,oday,oext,olns)) hA hl hd
  by_cases hday:day<d.1
  ·rw[aiD (show d.1>day from hday),aiz]
   simp only[ja,aiM hday]
  ·rw[aiB (show ¬d.1>day from hday),aiy]
   rw[hdeed,aim]
   dsimp only
   rw[ax (n:=(i:Int)+1) (by omega) (by omega)]
   simp only[ja,aiL hday]
   have oY:maxLen=9223372036854775807:=rfl
   have hi1:(i:Int)+1=((i+1:Nat):Int):=by omega
   by_cases he:(cB (onum,obuy,osel,oday,oext,olns) l i d A).1=0
   ·rw[aiL (fun h=>h he),he]
    rw[zne,aiy]
    by_cases hw:dx d=wt
    ·obtain⟨k,x,hk,hx⟩:=Pk hA.sound hl hd he
     have hxm:=ahu hx
     rw[show (d.2.2.2.2.1==wt)=true by simpa using hw,aiz,iV,show cw d.2.2.2.2.1 0 _=some k from hk,
      B5 hx (hgood.sound.line x hxm).1 (hgood.pr x hxm),aim]
     rw[eW (by rw[afP];exact⟨aiD (by omega),aiD (by omega)⟩)]
     have hpt:wz wt i d (cB (onum,obuy,osel,oday,oext,olns) l i d A).2 pts=pts++[((i:Int),bM x)]:=by
      unfold wz
      rw[aiM hw,EX hk hx]
     rw[hpt,hi1, <- hag]
     exact ih (i+1) n _ ref _ hr' (by omega) hgood (by omega) (by simp;omega) (by simp at hn;omega)
    ·rw[show (d.2.2.2.2.1==wt)=false by simpa using hw,aiy]
     have hpt:wz wt i d (cB (onum,obuy,osel,oday,oext,olns) l i d A).2 pts=pts:=by
      unfold wz
      rw[aiL hw]
     rw[hpt,hi1, <- hag]
     exact ih (i+1) n _ ref pts hr' (by omega) hgood (by omega) (by omega) (by simp at hn;omega)
   ·rw[aiM he,bR he,aiz]
    rw[eW (by rw[afP];exact⟨aiD (by omega),aiD (by omega)⟩)]
    rw[hi1, <- hag]
    exact ih (i+1) n _ _ pts hr' (by omega) hgood (by simp;omega) (by omega) (by simp at hn;omega)
theorem JG {o:aj} {l:List aa} {wt day:Int} {A:List ak} (he:0<=cm o/\cm o<=1000) (hl:∀ d,d∈l->bH d=0) (hlen:l.length<=2000) (hA:Good l A): jf (o,l,mapOf A,[],[],wt,()) day (A.map ak.tup)=some ((o,l,mapOf (ja o l wt day l 0 A [] []).1,(ja o l wt day l 0 A [] []).2.1,(ja o l wt day l 0 A [] []).2.2,wt,()),(ja o l wt day l 0 A [] []).1.map ak.tup,()):=by
 obtain⟨onum,obuy,osel,oday,oext,olns⟩:=o
 unfold jf
 refine (congrArg (fun z=>aB z _) (adk (onum:=onum) (obuy:=obuy) (osel:=osel) (oday:=oday) (olns:=olns) (wt:=wt) (day:=day) he.1 he.2 hl hlen l 0 _ A [] [] rfl (aik _) hA (aik _) (aik _) ?_)).trans rfl
 dsimp only
 omega
theorem EY {o:aj} (ho:jt o=0) (l:List aa):Good l (jW o):=by
 obtain⟨_,_,_,_,hgo,_⟩:=wg ho
 obtain⟨hln,_,_⟩:=pe hgo
 refine⟨⟨fun x hx=> ?_⟩,fun x hx=> ?_⟩
 ·obtain⟨q,hq,rfl⟩:=ahs.1 hx
  obtain⟨_,h2,_⟩:=hln q hq
  obtain⟨u0,u1,_⟩:=lV h2
  exact⟨⟨by show (0:Int)<=0;omega,by show (0:Int)<=0;omega,by show (0:Int)<=0;omega,by show (0:Int)<=_;omega,u0,u1,fun e=>absurd rfl e⟩,⟨by show (-1:Int)<= -1;omega,fun h=>by have:(0:Int)<= -1:=h;omega⟩⟩
 ·obtain⟨q,hq,rfl⟩:=ahs.1 hx
  obtain⟨_,_,_,h4,_⟩:=hln q hq
  exact HB h4
def uJ (o:aj) (l:List aa) (wt day:Int):List ak×List (Int×Int)×List aL:=ja o l wt day l 0 (jW o) [] []
def dD (o:aj) (l:List aa):Int:=if jt o≠0 then jt o else lG l
theorem Hu {o:aj} {l:List aa} (h:dD o l=0):jt o=0/\lG l=0:=by
 unfold dD at h
 split at h
 ·rename_i h1;exact absurd h h1
 ·rename_i h1;exact⟨af7.1 h1,h⟩
theorem start_eq {o:aj} {l:List aa} (h:dD o l=0) (wt day:Int):∃ q,jX o l []=some ((o,l,mapOf (jW o),[],[],0,()),(jW o).map ak.tup,())/\ jf (o,l,mapOf (jW o),[],[],wt,()) day ((jW o).map ak.tup)=some ((o,l,mapOf (uJ o l wt day).1,(uJ o l wt day).2.1,(uJ o l wt day).2.2,wt,()),(uJ o l wt day).1.map ak.tup,())/\q=():=by
 obtain⟨h1,h2⟩:=Hu h
 obtain⟨h3,h4⟩:=CN h2
 exact⟨(),KY h1 l,JG (wg h1).2.1 h4 h3 (EY h1 l),rfl⟩
theorem VX (o:aj) (l:List aa) (day:Int):EZ o l day []=(if dD o l≠0 then some (none,dD o l,[],()) else if ¬(1<=day/\day<=3652059) then some (none,1,[],()) else none):=by
 unfold EZ
 rw[Gr,aim,nM]
 dsimp only
 by_cases h:dD o l=0
 ·rw[aiL (show ¬dD o l≠0 from fun e=>e h),show (if jt o≠0 then jt o else lG l)=0 from h,zne,aiy,aim]
  by_cases hd:1<=day/\day<=3652059
  ·rw[aiL (show ¬¬(1<=day/\day<=3652059) from fun e=>e hd),aiD hd]
   obtain⟨_,e1,e2,_⟩:=start_eq h 0 day
   dsimp only
   rw[af2,aiy,e1,aim]
   dsimp only
   rw[e2];rfl
  ·rw[aiM hd,aiB hd];rfl
 ·rw[aiM (show dD o l≠0 from h),show ((if jt o≠0 then jt o else lG l) != 0)=true from bR h,aiz]
  rfl
theorem YO {o:aj} {l:List aa} {day:Int} (h:dD o l=0) (hd:1<=day/\day<=3652059):KW o l day []=some ((o,l,mapOf (uJ o l 0 day).1,(uJ o l 0 day).2.1,(uJ o l 0 day).2.2,0,()),0,(uJ o l 0 day).1.map ak.tup,()):=by
 unfold KW
 rw[Gr,aim,nM]
 dsimp only
 rw[show (if jt o≠0 then jt o else lG l)=0 from h,zne,aiy,aim,aiD hd]
 obtain⟨_,e1,e2,_⟩:=start_eq h 0 day
 dsimp only
 rw[af2,aiy,e1,aim]
 dsimp only
 rw[e2];rfl
end Go.Md
namespace Go.Md
open Go.Dn
end Go.Md
namespace Go.Md
open Go.Dn
theorem abT {n:Int} {A:List ak} {y:ak} (h:y.no≠n):pZ n (A++[y])=pZ n A:=by
 unfold pZ
 have:eF n (A++[y])=eF n A:=by
  unfold eF
  rw[EU,aiL (fun e=>h e.symm),Option.or_none]
 rw[this]
 cases hk:eF n A with
 | none=>rfl
 | some k=>
  obtain⟨x,hx,_⟩:=xw hk
  have:=(agW.1 hx).1
  simp only[aim]
  rw[agP this]
theorem abU {n:Int} {A:List ak} {k:Nat} {x y:ak} (hx:A[k]? =some x) (hn:x.no≠n) (hy:y.no=x.no):pZ n (A.set k y)=pZ n A:=by
 unfold pZ
 have:eF n (A.set k y)=eF n A:=KE A 0 (fun z hz=>by rw[hx] at hz;cases hz;exact hy)
 rw[this]
 cases hj:eF n A with
 | none=>rfl
 | some j=>
  obtain⟨z,hz,hzn⟩:=xw hj
  simp only[aim]
  have hjk:k≠j:=fun e=>by subst e;rw[hx] at hz;cases hz;exact hn hzn
  rw[ag1 hjk]
theorem Ys {o:aj} {l:List aa} {i:Nat} {d:aa} {A:List ak} {n:Int} (hA:Sound l A) (hl:∀ d,d∈l->bH d=0) (hd:l[i]? =some d) (hn:dx d≠n): pZ n (cB o l i d A).2=pZ n A:=by
 unfold cB
 by_cases k1:aM d=1
 ·rw[aiM k1]
  split
  ·rfl
  ·split
   ·rfl
   ·split
    ·rfl
    ·exact abT hn
 ·rw[aiL k1]
  split
  ·rfl
  ·rename_i k hk
   obtain⟨x,hx,hxn⟩:=xw hk
   rw[hx]
   obtain⟨h1,h2⟩:=hA.line x (ahu hx)
   exact abU hx (by rw[hxn];exact hn) (Fi (o:=o) h1 h2 hl hd).2.2.1
theorem Up {o:aj} {l:List aa} (wt wt' day:Int):∀ (r:List aa) (i:Nat) (A:List ak) (ref:List (Int×Int)) (pts pts':List aL), (ja o l wt day r i A ref pts).1=(ja o l wt' day r i A ref pts').1/\(ja o l wt day r i A ref pts).2.1=(ja o l wt' day r i A ref pts').2.1
 | [],_,_,_,_,_=>⟨rfl,rfl⟩
 | d::r,i,A,ref,pts,pts'=>by
  simp only[ja]
  split
  ·exact⟨rfl,rfl⟩
  ·split
   ·exact Up wt wt' day r _ _ _ _ _
   ·exact Up wt wt' day r _ _ _ _ _
theorem Sr {α β:Type} {f:α->Option β} {g:Option β}:Sq (none:Option α) f g=g:=rfl
end Go.Md
namespace Go.Md
open Go.Dn
end Go.Md
namespace Go.Md
open Go.Dn
theorem oc (a b c:Int):lQ a b c=some (decide (b<=a/\a<=c),()):=by
 unfold lQ
 by_cases h:b<=a
 ·rw[aG h];simp[h]
 ·rw[aK h];simp[h]
theorem Vf {a b:ah} (ha:b9 a) (hb:b9 b):wE a b=some ((bZ a - bZ b).sign,()):=K5 ha hb
theorem Oe:b9 ((1000000000,0):ah)/\bZ ((1000000000,0):ah)=1000000000*10 ^ 9:=⟨⟨by decide,by decide,by decide⟩,by simp[bZ]⟩
theorem Zh {d:ah} (hd:b9 d) (pl:Int):inR d 0 1000000000 pl=(!decide (d.1<0)&&(!decide ((bZ d - 1000000000*10 ^ 9).sign>0)&& !decide (d.2>pl))):=by
 have h1:(bZ d - 1000000000*10 ^ 9).sign>0↔¬d.1<=1000000000*10 ^ d.2.toNat:=by
  rw[<- TH hd.2.1 hd.2.2,gt_iff_lt,Int.sign_pos_iff]
  omega
 unfold inR
 rw[afU]
 simp only[aiE,afP,af0,aiC]
 rw[h1]
 constructor
 ·rintro⟨_,h2,h3,h4⟩;exact⟨by omega,fun h=>h h4,by omega⟩
 ·rintro⟨h2,h3,h4⟩;exact⟨hd,by omega,by omega,af7.1 h3⟩
theorem Zi {d:ah} (hd:¬b9 d) (a b pl:Int):inR d a b pl=false:=aiB (fun h=>hd h.1)
theorem B6 (d:ah) (z:Bool):oa d z=some (if qOk d z=true then 0 else 1,()):=by
 unfold oa qOk Cr
 simp only[aim]
 rw[uS,aim]
 by_cases hd:b9 d
 ·rw[aiM hd,Zh hd 3,Vf hd Oe.1,Oe.2]
  generalize decide (d.1<0)=b1
  generalize (bZ d - 1000000000*10 ^ 9).sign=sg
  generalize decide (d.2>3)=b3
  generalize (d.1==0)=b4
  simp only[aim]
  generalize decide (sg>0)=b2
  cases b1<;>cases b4<;>cases z<;>cases b2<;>cases b3<;>rfl
 ·rw[aiL hd,Zi hd]
  rfl
theorem GC (d:ah):um d=some (if inR d 0 1000000000 4=true then 0 else 1,()):=by
 unfold um Cr
 simp only[aim]
 rw[uS,aim]
 by_cases hd:b9 d
 ·rw[aiM hd,Zh hd 4,Vf hd Oe.1,Oe.2]
  generalize decide (d.1<0)=b1
  generalize (bZ d - 1000000000*10 ^ 9).sign=sg
  generalize decide (d.2>4)=b3
  simp only[aim]
  generalize decide (sg>0)=b2
  cases b1<;>cases b2<;>cases b3<;>rfl
 ·rw[aiL hd,Zi hd]
  rfl
theorem NU {k:Int} (hk:1<=k/\k<=11):HP k=some ((usQ k,usP k,usU k,usA k,usT k),()):=by
 have:k=1\/k=2\/k=3\/k=4\/k=5\/k=6\/k=7\/k=8\/k=9\/k=10\/k=11:=by omega
 rcases this with rfl | rfl | rfl | rfl | rfl | rfl | rfl | rfl | rfl | rfl | rfl<;>rfl
theorem aeB (a b:Bool):(bif a then some (b,()) else some (false,()))=some (a&&b,()):=by cases a<;>rfl
theorem bOr (a b:Bool):(bif a then some (true,()) else some (b,()))=some (a||b,()):=by cases a<;>rfl
theorem bAO (a b x:Bool):(bif a then some (b||x,()) else some (x,()))=some (a&&b||x,()):=by cases a<;>rfl
theorem afy (b:Bool):((if b=true then (0:Int) else 1) != 0)= !b:=by cases b<;>rfl
theorem afc {β:Type} (x:Option β):chk true x=x:=rfl
theorem adN (a b:Bys):((a++b)==[])=((a==[])&&(b==[])):=by cases a<;>cases b<;>rfl
theorem Pd {d:aa} (hk:1<=d.2.2.2.1/\d.2.2.2.1<=11) (hs:d.2.2.2.2.2.1.length+d.2.2.2.2.2.2.2.1.length<=maxLen):xS d=some (Fe d,()):=by
 unfold xS Fe S8
 rw[NU hk,aim]
 simp only[B6,GC,uD,nX,oc,aim,aiD hs,afc,afy,adN]
 rw[show decide (1<=d.2.2.2.2.2.2.2.2.2.1/\d.2.2.2.2.2.2.2.2.2.1<=3652059)=Be d.2.2.2.2.2.2.2.2.2.1 from rfl,show decide (1<=d.2.2.2.2.2.2.2.2.2.2/\d.2.2.2.2.2.2.2.2.2.2<=2000)=Ef d.2.2.2.2.2.2.2.2.2.2 from rfl]
 generalize usQ d.2.2.2.1=uq
 generalize usP d.2.2.2.1=up
 generalize usU d.2.2.2.1=uu
 generalize usA d.2.2.2.1=ua
 generalize usT d.2.2.2.1=ut
 generalize (d.2.2.2.1==2)=k2
 generalize qOk d.2.2.2.2.2.2.1 k2=q
 generalize inR d.2.2.2.2.2.2.2.2.1 0 1000000000 4=p
 generalize Be d.2.2.2.2.2.2.2.2.2.1=dy
 generalize Ef d.2.2.2.2.2.2.2.2.2.2=tt
 generalize bU d.2.2.2.2.2.1=n1
 generalize bU d.2.2.2.2.2.2.2.1=n2
 generalize (d.2.2.2.2.2.1==[])=e1
 generalize (d.2.2.2.2.2.2.2.1==[])=e2
 generalize (d.2.2.2.2.2.2.2.2.2.1 != 0)=un
 generalize (d.2.2.2.2.2.2.2.2.2.2 != 0)=to
 simp only[afS]
 generalize (d.2.2.2.2.2.2.1.1==0&&d.2.2.2.2.2.2.1.2==0)=q0
 generalize (d.2.2.2.2.2.2.2.2.1.1==0&&d.2.2.2.2.2.2.2.2.1.2==0)=p0
 simp only[aeB,bOr,bAO,aim]
 generalize h1:(uq&& !q)=c1
 cases c1
 ·simp only[aiy]
  generalize h2:(up&& !p)=c2
  cases c2
  ·simp only[aiy]
   generalize h3:(uu&& !dy)=c3
   cases c3
   ·simp only[aiy]
    generalize h4:(ua&&(!n1|| !n2))=c4
    cases c4
    ·simp only[aiy]
     generalize h5:(ut&& !tt)=c5
     cases c5
     ·simp only[aiy]
      have e:((!uq&& !q0)||((!up&& !p0)||((!uu&&un)||((!ua&& !(e1&&e2))||(!ut&&to)))))=((!ua&& !e1)||((!uq&& !q0)||((!ua&& !e2)||((!up&& !p0)||((!uu&&un)||(!ut&&to)))))):=by
       generalize (!uq&& !q0)=x1
       generalize (!up&& !p0)=x2
       generalize (!uu&&un)=x3
       generalize (!ut&&to)=x4
       cases ua<;>cases e1<;>cases e2<;>cases x1<;>cases x2<;>cases x3<;>cases x4<;>rfl
      rw[e]
      generalize ((!ua&& !e1)||((!uq&& !q0)||((!ua&& !e2)||((!up&& !p0)||((!uu&&un)||(!ut&&to))))))=c6
      cases c6<;>rfl
     ·rfl
    ·rfl
   ·rfl
  ·rfl
 ·rfl
theorem Uj (k:Int):C6 k=some (decide ((1<=k/\k<=4)\/k=8\/k=10\/k=11),()):=by
 unfold C6
 rw[oc,aim]
 dsimp only
 by_cases h1:1<=k/\k<=4
 ·rw[aiD h1,aiz,aiD (.inl h1)]
 ·rw[aiB h1,aiy]
  by_cases h2:k=8
  ·subst h2;rfl
  ·rw[cY h2,aiy]
   by_cases h3:k=10
   ·subst h3;rfl
   ·rw[cY h3,aiy]
    by_cases h4:k=11
    ·subst h4;rfl
    ·rw[cY h4,aiB (fun h=>by omega)]
theorem SI (a b:aa):wF a b=some (dCw a b,()):=by
 unfold wF dCw
 generalize w64 (a.1 - b.1)=x
 generalize w64 (a.2.1 - b.2.1)=y
 generalize w64 (a.2.2.1 - b.2.2.1)=z
 simp only[ag8,ahb]
 have key:iter (X:=vm) (β:=vl) 8 (3,0,[x,y,z],()) BF=(bif x != 0 then some (Sum.inl (x,())) else bif y != 0 then some (Sum.inl (y,())) else bif z != 0 then some (Sum.inl (z,())) else some (Sum.inr ())):=by kernel_rfl
 show aB (β:=(Int×Unit)) (γ:=Unit) (iter 8 (3,0,[x,y,z],()) BF) _=_
 rw[key]
 by_cases hx:x=0
 ·subst hx
  by_cases hy:y=0
  ·subst hy
   by_cases hz:z=0
   ·subst hz;rfl
   ·have:(z != 0)=true:=by simp[hz]
    rw[this];simp[aB]
  ·have:(y != 0)=true:=by simp[hy]
   rw[this];simp[aB,hy]
 ·have:(x != 0)=true:=by simp[hx]
  rw[this];simp[aB,hx]
def qW (b:Int) (l:List aa):Int:=l.foldl (fun m d=>if d.2.1=b then d.2.2.1 else m) 0
theorem XG (b:Int) (l:List aa) (hl:l.length<=2000):HK l b=some (qW b l,()):=by
 unfold HK
 have:∀ n,l.length<n->iter (X:=wG) (β:=BH) n (b,0,l,(l.length:Int),0,()) BG=some (Sum.inr (qW b l,())):=by
  intro n hn
  refine cx (Inv:=fun i X=>X=((b,qW b (l.take i),l,(l.length:Int),(i:Int),()):wG)) l.length (fun z=>z=some (Sum.inr (qW b l,()))) ?_ ?_ n 0 _ rfl (aik _) (by omega)
  ·rintro i X again hi rfl hag
   unfold BG
   dsimp only
   obtain⟨y,hy⟩:∃ y,l[i]? =some y:=⟨l[i],agU hi⟩
   rw[aiD (show (i:Int)<(l.length:Int) by omega),aiz,cF hy,aim,ax (n:=(i:Int)+1) (by omega) (by omega)]
   have e:qW b (l.take (i+1))=if y.2.1=b then y.2.2.1 else qW b (l.take i):=by
    unfold qW
    rw[tC hy,List.foldl_append];rfl
   by_cases hb:y.2.1=b
   ·rw[show (y.2.1==b)=true by simpa using hb,aiz]
    rw[aiM hb] at e
    exact hag _ (by rw[e];rfl)
   ·rw[cY hb,aiy]
    rw[aiL hb] at e
    exact hag _ (by rw[e];rfl)
  ·rintro X again rfl
   unfold BG
   dsimp only
   rw[aiB (show ¬(l.length:Int)<(l.length:Int) by omega),aiy,ahM]
 rw[this _ (by omega)]
 rfl
theorem acS {a b:aa} (ha:bH a=0) (hb:bH b=0):decide (dCw b a<=0)=decide (0<=dCw a b):=by
 obtain⟨a1,a2,a3,_⟩:=bW ha
 obtain⟨b1,b2,b3,_⟩:=bW hb
 unfold dCw
 rw[ax (n:=b.1 - a.1) (by omega) (by omega),ax (n:=a.1 - b.1) (by omega) (by omega),ax (n:=b.2.1 - a.2.1) (by omega) (by omega),ax (n:=a.2.1 - b.2.1) (by omega) (by omega),
  ax (n:=b.2.2.1 - a.2.2.1) (by omega) (by omega),ax (n:=a.2.2.1 - b.2.2.1) (by omega) (by omega),aiA]
 by_cases h1:a.1 - b.1=0
 ·rw[aiL (show ¬(b.1 - a.1≠0) by omega),aiL (show ¬(a.1 - b.1≠0) by omega)]
  by_cases h2:a.2.1 - b.2.1=0
  ·rw[aiL (show ¬(b.2.1 - a.2.1≠0) by omega),aiL (show ¬(a.2.1 - b.2.1≠0) by omega)];omega
  ·rw[aiM (show (b.2.1 - a.2.1≠0) by omega),aiM (show (a.2.1 - b.2.1≠0) by omega)];omega
 ·rw[aiM (show (b.1 - a.1≠0) by omega),aiM (show (a.1 - b.1≠0) by omega)];omega
def Txt (d:aa):Prop:=d.2.2.2.2.2.1.length+d.2.2.2.2.2.2.2.1.length<=maxLen
theorem GA (l:List aa) (hs:∀ d,d∈l->Txt d):uj l=some (lG l,()):=by
 unfold uj lG
 by_cases hlen:2000<l.length
 ·rw[aiM hlen,aiD (show (l.length:Int)>2000 by omega),aiz]
 rw[aiL hlen,aiB (show ¬(l.length:Int)>2000 by omega),aiy]
 have loop:∀ (r:List aa) (i n:Nat),l.drop i=r->i<=l.length->(∀ q,bL l i=some q->bH q=0)->r.length<n->
  aB (β:=(Int×Unit)) (γ:=Unit) (iter (X:=tj) (β:=th) n (l,l,(l.length:Int),(i:Int),()) nZ) (fun _=>some (0,()))=some (dI r (bL l i) (qW 1 (l.take i)) (qW 2 (l.take i)),()):=by
  intro r
  induction r with
  | nil=>
   intro i n hd hi _ hn
   have:i=l.length:=by
    have:=congrArg List.length hd
    simp at this;omega
   subst this
   obtain⟨n,rfl⟩:∃ m,n=m+1:=⟨n - 1,by omega⟩
   rw[aX]
   unfold nZ
   dsimp only
   rw[aiB (show ¬((l.length:Int)<(l.length:Int)) by omega),aiy]
   rfl
  | cons d r ih=>
   intro i n hdr hi hq hn
   have hd:l[i]? =some d:=by
    have:=congrArg (·[0]?) hdr
    simpa [agT] using this
   have hr':l.drop (i+1)=r:=by
    have:=congrArg List.tail hdr
    simpa [ahG] using this
   have hlt:i<l.length:=(agW.1 hd).1
   obtain⟨n,rfl⟩:∃ m,n=m+1:=⟨n - 1,by simp at hn;omega⟩
   rw[aX]
   generalize hag:(fun y=>iter n y nZ)=again
   unfold nZ
   dsimp only
   rw[aiD (show (i:Int)<(l.length:Int) by omega),aiz,cF hd,aim,uD,aim]
   simp only[dI]
   by_cases h1:1<=d.1/\d.1<=3652059
   rotate_left
   ·have e:bH d=1:=by unfold bH;rw[aiM h1]
    rw[aiB h1,aiM (show bH d≠0 by omega),e];rfl
   rw[aiD h1,af2,aiy]
   have eby:(bif d.2.1 != 1 then some (d.2.1 != 2,()) else some (false,()))=some (!decide (1<=d.2.1/\d.2.1<=2),()):=by
    rw[aeB]
    congr 2
    by_cases k1:d.2.1=1
    ·simp[k1]
    ·by_cases k2:d.2.1=2
     ·simp[k2]
     ·rw[bR k1,bR k2,aiB (by omega)];rfl
   rw[eby,aim]
   dsimp only
   by_cases h2:1<=d.2.1/\d.2.1<=2
   rotate_left
   ·have e:bH d=4:=by unfold bH;rw[aiL (show ¬¬_ from fun e=>e h1),aiM h2]
    rw[aiB h2,aiM (show bH d≠0 by omega),e];rfl
   rw[aiD h2,af2,aiy,oc,aim]
   dsimp only
   by_cases h3:1<=d.2.2.1/\d.2.2.1<=2000
   rotate_left
   ·have e:bH d=1:=by unfold bH;rw[aiL (show ¬¬_ from fun e=>e h1),aiL (show ¬¬_ from fun e=>e h2),aiM h3]
    rw[aiB h3,aiM (show bH d≠0 by omega),e];rfl
   rw[aiD h3,af2,aiy,oc,aim]
   dsimp only
   by_cases h4:1<=d.2.2.2.1/\d.2.2.2.1<=11
   rotate_left
   ·have e:bH d=4:=by unfold bH;rw[aiL (show ¬¬_ from fun e=>e h1),aiL (show ¬¬_ from fun e=>e h2),aiL (show ¬¬_ from fun e=>e h3),aiM h4]
    rw[aiB h4,aiM (show bH d≠0 by omega),e];rfl
   rw[aiD h4,af2,aiy,Uj,aim]
   dsimp only
   by_cases h5:(d.2.2.2.1=5\/d.2.2.2.1=6\/d.2.2.2.1=7\/d.2.2.2.1=9)↔d.2.1=2
   rotate_left
   ·have e:bH d=4:=by unfold bH;rw[aiL (show ¬¬_ from fun e=>e h1),aiL (show ¬¬_ from fun e=>e h2),aiL (show ¬¬_ from fun e=>e h3),aiL (show ¬¬_ from fun e=>e h4),aiM h5]
    have e2:(decide ((1<=d.2.2.2.1/\d.2.2.2.1<=4)\/d.2.2.2.1=8\/d.2.2.2.1=10\/d.2.2.2.1=11)==(d.2.1==1))=false:=by
     by_cases k:d.2.1=1
     ·rw[k,show ((1:Int)==1)=true from rfl,aiB (fun h=>h5 (by omega))];rfl
     ·rw[cY k,aiD (Classical.byContradiction fun h=>h5 (by omega))];rfl
    rw[e2,aiM (show bH d≠0 by omega),e];rfl
   have e5:(decide ((1<=d.2.2.2.1/\d.2.2.2.1<=4)\/d.2.2.2.1=8\/d.2.2.2.1=10\/d.2.2.2.1=11)==(d.2.1==1))=true:=by
    by_cases k:d.2.1=1
    ·rw[k,show ((1:Int)==1)=true from rfl,aiD (by omega)];rfl
    ·rw[cY k,aiB (by omega)];rfl
   rw[e5,af2,aiy,oc,aim]
   dsimp only
   by_cases h6:1<=d.2.2.2.2.1/\d.2.2.2.2.1<=99999
   rotate_left
   ·have e:bH d=1:=by unfold bH;rw[aiL (show ¬¬_ from fun e=>e h1),aiL (show ¬¬_ from fun e=>e h2),aiL (show ¬¬_ from fun e=>e h3),aiL (show ¬¬_ from fun e=>e h4),aiL (show ¬¬_ from fun e=>e h5),aiM h6]
    rw[aiB h6,aiM (show bH d≠0 by omega),e];rfl
   have ed:bH d=Fe d:=by unfold bH;rw[aiL (show ¬¬_ from fun e=>e h1),aiL (show ¬¬_ from fun e=>e h2),aiL (show ¬¬_ from fun e=>e h3),aiL (show ¬¬_ from fun e=>e h4),aiL (show ¬¬_ from fun e=>e h5),aiL (show ¬¬_ from fun e=>e h6)]
   rw[aiD h6,af2,aiy,Pd h4 (hs d (ahu hd)),aim, <- ed]
   dsimp only
   by_cases h7:bH d=0
   rotate_left
   ·rw[bR h7,aiM h7];rfl
   rw[h7,zne,aiy,aiL (show ¬(0:Int)≠0 from fun e=>e rfl)]
   have epr:(bif decide ((i:Int)>0) then Option.bind (idx l (w64 ((i:Int) - 1))) fun y10=>Option.bind (wF d y10) fun r11=>some (decide (r11.1<=0),()) else some (false,()))=some ((bL l i).any fun q=>decide (0<=dCw q d),()):=by
    cases i with
    | zero=>rfl
    | succ i=>
     obtain⟨q,hqq⟩:∃ q,l[i]? =some q:=⟨l[i],agU (by omega)⟩
     rw[aiD (show ((i+1:Nat):Int)>0 by omega),aiz,ax (n:=((i+1:Nat):Int) - 1) (by omega) (by omega),show ((i+1:Nat):Int) - 1=(i:Int) by omega,cF hqq,aim,SI,aim]
     show some (decide (dCw d q<=0),())=some ((bL l (i+1)).any _,())
     rw[show bL l (i+1)=some q from hqq,acS (hq q hqq) h7]
     rfl
   rw[epr,aim]
   dsimp only
   cases h8:((bL l i).any fun q=>decide (0<=dCw q d))
   rotate_left
   ·rfl
   rw[aiy,aiL (show ¬false=true from afW)]
   rw[eW (by simp only[afP,aiE];omega),agq,agG,XG _ _ (by simp;omega),aim]
   dsimp only
   have htk:∀ b,qW b (l.take (i+1))=if d.2.1=b then d.2.2.1 else qW b (l.take i):=by
    intro b
    unfold qW
    rw[tC hd,List.foldl_append];rfl
   have hnext:∀ q,bL l (i+1)=some q->bH q=0:=by
    intro q hqq
    have:l[i]? =some q:=hqq
    rw[hd] at this;cases this;exact h7
   have ih':=ih (i+1) n hr' (by omega) hnext (by simp at hn;omega)
   rw[show bL l (i+1)=some d from hd,htk 1,htk 2] at ih'
   rw[ax (n:=(i:Int)+1) (by omega) (by omega)]
   have hi1:(i:Int)+1=((i+1:Nat):Int):=by omega
   by_cases k1:d.2.1=1
   ·rw[aiM k1]
    rw[aiM k1,aiL (show ¬d.2.1=2 by omega)] at ih'
    rw[k1]
    by_cases h9:d.2.2.1=w64 (qW 1 (l.take i)+1)
    ·rw[show (d.2.2.1 != w64 (qW 1 (l.take i)+1))=false by simpa using h9,aiy,aiL (fun e=>e h9),hi1, <- hag]
     exact ih'
    ·rw[bR h9,aiM h9];rfl
   ·have k2:d.2.1=2:=by omega
    rw[aiL k1]
    rw[aiL k1,aiM k2] at ih'
    rw[k2]
    by_cases h9:d.2.2.1=w64 (qW 2 (l.take i)+1)
    ·rw[show (d.2.2.1 != w64 (qW 2 (l.take i)+1))=false by simpa using h9,aiy,aiL (fun e=>e h9),hi1, <- hag]
     exact ih'
    ·rw[bR h9,aiM h9];rfl
 exact loop l 0 _ rfl (aik _) (fun q hq=>by cases hq) (by omega)
end Go.Md
namespace Go.Md
open Go.Dn
abbrev TG (d:aa):ah:=(d.2.1,d.2.2.1)
def leD (x y:aa):Bool:= !decide (abu y x<0)
def Lex (a b:aa):Prop:=a.1<b.1\/(a.1=b.1/\(a.2.1<b.2.1\/(a.2.1=b.2.1/\a.2.2.1<=b.2.2.1)))
theorem Zu (a b:aa):leD a b=true↔Lex a b:=by
 unfold leD abu Lex
 by_cases h1:b.1 - a.1=0
 ·rw[show (b.1 - a.1==0)=true by simpa using h1,af2,aiy]
  by_cases h2:b.2.1 - a.2.1=0
  ·rw[show (b.2.1 - a.2.1==0)=true by simpa using h2,af2,aiy]
   simp only[af0,aiC];omega
  ·rw[cY h2,af1,aiz]
   simp only[af0,aiC];omega
 ·rw[cY h1,af1,aiz]
  simp only[af0,aiC];omega
end Go.Md
namespace Go.Md
open Go.Dn
end Go.Md
namespace Go.Md
open Go.Dn
theorem aeF {a b:aa} (ha:bH a=0) (hb:bH b=0):dCw a b<0↔¬Lex b a:=by
 obtain⟨a1,a2,a3,_⟩:=bW ha
 obtain⟨b1,b2,b3,_⟩:=bW hb
 unfold dCw Lex
 rw[ax (n:=a.1 - b.1) (by omega) (by omega),ax (n:=a.2.1 - b.2.1) (by omega) (by omega),ax (n:=a.2.2.1 - b.2.2.1) (by omega) (by omega)]
 by_cases h1:a.1 - b.1=0
 ·rw[aiL (show ¬(a.1 - b.1≠0) by omega)]
  by_cases h2:a.2.1 - b.2.1=0
  ·rw[aiL (show ¬(a.2.1 - b.2.1≠0) by omega)];omega
  ·rw[aiM h2];omega
 ·rw[aiM h1];omega
theorem Pm:∀ (r:List aa) (p:Option aa) (nb ns:Int),0<=nb->nb<=2000->0<=ns->ns<=2000->(∀ q,p=some q->bH q=0)->dI r p nb ns=0-> (∀ d,d∈r->bH d=0/\(d.2.1=1->nb<d.2.2.1)/\(d.2.1≠1->ns<d.2.2.1)/\∀ q,p=some q->¬Lex d q)/\r.Pairwise (fun a b=>¬Lex b a)/\r.Pairwise (fun a b=>TG a≠TG b)
 | [],p,nb,ns,_,_,_,_,_,_=>⟨fun _ hd=>(nomatch hd),List.Pairwise.nil,List.Pairwise.nil⟩
 | d::r,p,nb,ns,h1,h2,h3,h4,hp,h=>by
  simp only[dI] at h
  by_cases hf:bH d=0
  rotate_left
  ·rw[aiM hf] at h;exact absurd h hf
  rw[aiL (fun e=>e hf)] at h
  by_cases hpp:(p.any fun q=>decide (0<=dCw q d))=true
  ·rw[aiM hpp] at h;cases h
  rw[aiL hpp] at h
  have hlex:∀ q,p=some q->¬Lex d q:=by
   rintro q rfl
   rw[<- aeF (hp q rfl) hf]
   have:¬(0<=dCw q d):=fun e=>hpp (aiD e)
   omega
  obtain⟨_,_,d3,_⟩:=bW hf
  have step:∀ nb' ns',0<=nb'->nb'<=2000->0<=ns'->ns'<=2000->nb<=nb'->ns<=ns'->(d.2.1=1->nb<d.2.2.1/\nb'=d.2.2.1)->(d.2.1≠1->ns<d.2.2.1/\ns'=d.2.2.1)->dI r (some d) nb' ns'=0->
   (∀ e,e∈d::r->bH e=0/\(e.2.1=1->nb<e.2.2.1)/\(e.2.1≠1->ns<e.2.2.1)/\∀ q,p=some q->¬Lex e q)/\(d::r).Pairwise (fun a b=>¬Lex b a)/\(d::r).Pairwise (fun a b=>TG a≠TG b):=by
   intro nb' ns' g1 g2 g3 g4 g5 g6 g7 g8 hg
   obtain⟨i1,i2,i3⟩:=Pm r (some d) nb' ns' g1 g2 g3 g4 (fun q hq=>by cases hq;exact hf) hg
   refine⟨fun e he=> ?_,List.Pairwise.cons (fun e he=>(i1 e he).2.2.2 d rfl) i2,List.Pairwise.cons (fun e he hk=> ?_) i3⟩
   ·rcases ahn.1 he with rfl | he
    ·exact⟨hf,fun e1=>(g7 e1).1,fun e1=>(g8 e1).1,hlex⟩
    ·obtain⟨j1,j2,j3,j4⟩:=i1 e he
     refine⟨j1,fun e1=>by have:=j2 e1;omega,fun e1=>by have:=j3 e1;omega,fun q hq hl=> ?_⟩
     have k1:=hlex q hq
     have k2:=j4 d rfl
     unfold Lex at*
     omega
   ·obtain⟨j1,j2,j3,j4⟩:=i1 e he
    have e1:d.2.1=e.2.1:=(Prod.mk.inj hk).1
    have e2:d.2.2.1=e.2.2.1:=(Prod.mk.inj hk).2
    by_cases hb:d.2.1=1
    ·have:=j2 (by omega)
     have:=(g7 hb).2
     omega
    ·have:=j3 (by omega)
     have:=(g8 hb).2
     omega
  by_cases hb:d.2.1=1
  ·rw[aiM hb] at h
   by_cases hn:d.2.2.1=w64 (nb+1)
   ·rw[aiL (fun e=>e hn)] at h
    rw[ax (by omega) (by omega)] at hn
    exact step d.2.2.1 ns (by omega) (by omega) h3 h4 (by omega) (by omega) (fun _=>⟨by omega,rfl⟩) (fun e=>absurd hb e) h
   ·rw[aiM hn] at h;cases h
  ·rw[aiL hb] at h
   by_cases hn:d.2.2.1=w64 (ns+1)
   ·rw[aiL (fun e=>e hn)] at h
    rw[ax (by omega) (by omega)] at hn
    exact step nb d.2.2.1 h1 h2 (by omega) (by omega) (by omega) (by omega) (fun e=>absurd e hb) (fun _=>⟨by omega,rfl⟩) h
   ·rw[aiM hn] at h;cases h
theorem aaa {l:List aa} (h:lG l=0):l.Pairwise (fun a b=>leD a b=true)/\l.Pairwise (fun a b=>TG a≠TG b):=by
 have hl:=(CN h).1
 unfold lG at h
 rw[aiL (by omega)] at h
 obtain⟨_,i2,i3⟩:=Pm l none 0 0 (by omega) (by omega) (by omega) (by omega) (fun q hq=>by cases hq) h
 refine⟨i2.imp fun {a b} hab=> ?_,i3⟩
 rw[Zu]
 unfold Lex at*
 omega
end Go.Md
