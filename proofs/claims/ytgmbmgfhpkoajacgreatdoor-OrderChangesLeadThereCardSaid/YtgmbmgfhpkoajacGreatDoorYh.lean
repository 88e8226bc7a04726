/-
  Plain facts: what makes one order of another; a yes to each deed; what a line is behind them. No condition.
-/
import Derived.Test.YtgmbmgfhpkoajacGreatDoorYf
import Derived.Test.YtgmbmgfhpkoajacGreatDoorYu
import Derived.KernelRfl
set_option linter.all false
namespace Go.Md
open Go.Dn
abbrev dI (l:List ai):List (Int×ai):=l.map fun x=>(x.1,x)
theorem ET:∀ (l:List (Int×ai)) (n:Int) (y:ai),(∀ p∈l,p.1≠n)->jB (k:=tI) (v:=aT) l n y=l++[(n,y)]
 | [],_,_,_=>rfl
 | p::r,n,y,h=>by
  have h1:(n==p.1)=false:=WQ.2 fun e=>h p (VJ ..) e.symm
  show (bif (n==p.1) then (n,y)::r else p::jB (k:=tI) (v:=aT) r n y)=_
  rw[h1,WU]
  exact congrArg (List.cons p) (ET r n y fun q hq=>h q (VI _ hq))
theorem B1 {o:aj} (hlen:(bT o).length<=500) (hpw:(bT o).Pairwise fun a b=>a.1<b.1):fI o=some (dI (bT o),()):=by
 obtain⟨o1,o2,o3,o4,o5,lns⟩:=o
 change lns.length<=500 at hlen
 change lns.Pairwise _ at hpw
 unfold fI
 have:=mP (f:=qW) (fun (_:Unit) (i:Nat)=>((lns,(lns.length:Int),(i:Int),dI (lns.take i),()):ny)) lns
  (fun (_:Unit) _ _ k=>k ()) (fun _=>some (Sum.inr (dI lns,()))) (fun s i y again hy=>by
    have hi:i<lns.length:=(Vg.1 hy).1
    unfold qW
    dsimp only
    rw[WX (show (i:Int)<(lns.length:Int) by omega),WV,cO hy,WG,aG (n:=(i:Int)+1) (by omega) (by omega)]
    have hs:jB (k:=tI) (v:=aT) (dI (lns.take i)) y.1 y=dI (lns.take (i+1)):=by
     rw[wV hy]
     refine (ET _ _ _ fun p hp=> ?_).trans (by unfold dI;rw[VB];rfl)
     obtain⟨q,hq,rfl⟩:=VN.1 hp
     obtain⟨j,hj⟩:=VM.1 hq
     have hji:j<i:=by
      have:=(Vg.1 hj).1
      simp at this;omega
     rw[Vo hji] at hj
     have h1:=VV.1 hpw j i (by omega) hi hji
     have e1:lns[j]=q:=by have:=Ve (show j<lns.length by omega);rw[hj] at this;exact (Option.some.inj this).symm
     have e2:lns[i]=y:=by have:=Ve hi;rw[hy] at this;exact (Option.some.inj this).symm
     rw[e1,e2] at h1
     show q.1≠y.1
     omega
    exact congrArg again (congrArg (fun z=>((lns,(lns.length:Int),((i+1:Nat):Int),z,()):ny)) hs)) (fun s again=>by
    unfold qW
    dsimp only
    rw[WW (show ¬((lns.length:Int)<(lns.length:Int)) by omega),WU,V6]) ()
 have hfor:∀ (r:List ai) (i:Nat) (β:Type) (f:Option β),oJ (fun (_:Unit) _ _ k=>k ()) (fun _=>f) r i ()=f:=by
  intro r
  induction r with
  | nil=>intro i β f;rfl
  | cons y r ih=>intro i β f;exact ih (i+1) β f
 refine (congrArg (fun z=>aI z _) ((this _ ?_).trans (hfor _ _ _ _))).trans rfl
 dsimp only
 omega
theorem Bo (p:Int×ai) (r:List (Int×ai)) (n:Int):aR (p::r) n=if n=p.1 then some p.2 else aR r n:=by
 have e:aR (p::r) n=(bif (n==p.1) then some p.2 else aR r n):=JI (k:=tI) (v:=aT) p r n
 rw[e]
 by_cases h:n=p.1
 ·rw[Xe h,show (n==p.1)=true from WR.2 h];rfl
 ·rw[Xd h,show (n==p.1)=false from WQ.2 h];rfl
theorem vu {l:List ai} (hpw:l.Pairwise fun a b=>a.1<b.1) {x:ai} (hx:x∈l):aR (dI l) x.1=some x:=by
 induction l with
 | nil=>cases hx
 | cons y r ih=>
  rw[List.pairwise_cons] at hpw
  show aR ((y.1,y)::dI r) x.1=_
  rw[Bo]
  rcases VH.1 hx with rfl | hx
  ·rw[Xe rfl]
  ·have:=hpw.1 x hx
   rw[Xd (by show ¬x.1=y.1;omega)]
   exact ih hpw.2 hx
theorem jc {l:List ai} {n:Int} {x:ai} (h:aR (dI l) n=some x):x∈l/\x.1=n:=by
 induction l with
 | nil=>cases h
 | cons y r ih=>
  change aR ((y.1,y)::dI r) n=some x at h
  rw[Bo] at h
  by_cases e:n=y.1
  ·rw[Xe e] at h;cases h;exact⟨VJ ..,e.symm⟩
  ·rw[Xd e] at h
   exact⟨VI _ (ih h).1,(ih h).2⟩
def vU (day n:Int) (y:ai):aa:=(day,1,0,2,n,[],y.2.2.1,[],(0,0),0,0)
def zk (day n:Int) (y:ai):aa:=(day,1,0,3,n,[],(0,0),[],(0,0),y.2.2.2.2.2,0)
def zj (day n:Int) (y:ai):aa:=(day,1,0,4,n,[],(0,0),[],y.2.2.2.2.1,0,0)
def CE (day n:Int) (y:ai):aa:=(day,1,0,1,n,y.2.1,y.2.2.1,y.2.2.2.1,y.2.2.2.2.1,y.2.2.2.2.2,0)
def oc (a b:ah):Bool:= !decide (dM a=dM b)
def lu (day n:Int) (a b:Option ai):List aa:=
 match a,b with
 | none,none=>[CE day n dN]
 | none,some y=>[CE day n y]
 | some _,none=>[vU day n dN]
 | some x,some y=>(if oc x.2.2.1 y.2.2.1=true then [vU day n y] else [])++((if x.2.2.2.2.2≠y.2.2.2.2.2 then [zk day n y] else [])++(if oc x.2.2.2.2.1 y.2.2.2.2.1=true then [zj day n y] else []))
theorem yJ {a b:ah} (ha:0<=a.1/\a.1<=1000000000000000/\0<=a.2/\a.2<=9) (hb:0<=b.1/\b.1<=1000000000000000/\0<=b.2/\b.2<=9):mg a b=some (oc a b,()):=by
 unfold mg oc
 rw[sL ha.1 ha.2.1 ha.2.2.1 ha.2.2.2,WG,sL hb.1 hb.2.1 hb.2.2.1 hb.2.2.2,WG]
 have:(((dM a,()):ah×Unit).1.1==((dM b,()):ah×Unit).1.1&&(((dM a,()):ah×Unit).1.2==((dM b,()):ah×Unit).1.2&&true))=decide (dM a=dM b):=by
  generalize dM a=p
  generalize dM b=q
  obtain⟨p1,p2⟩:=p
  obtain⟨q1,q2⟩:=q
  simp only[Prod.mk.injEq,Uj]
  by_cases h1:p1=q1<;>by_cases h2:p2=q2<;>simp[h1,h2]
 rw[this]
structure Li (x:ai):Prop where
 q:0<=x.2.2.1.1/\x.2.2.1.1<=1000000000000000/\0<=x.2.2.1.2/\x.2.2.1.2<=9
 p:0<=x.2.2.2.2.1.1/\x.2.2.2.2.1.1<=1000000000000000/\0<=x.2.2.2.2.1.2/\x.2.2.2.2.1.2<=9
end Go.Md
namespace Go.Md
open Go.Dn
theorem FY (day n:Int) (a b:Option ai) (ha:∀ x,a=some x->Li x) (hb:∀ x,b=some x->Li x): gC (a.getD dN) (b.getD dN) a.isSome b.isSome (si day n)=some (lu day n a b,()):=by
 cases a with
 | none=>cases b<;>rfl
 | some x=>
  cases b with
  | none=>rfl
  | some y=>
   have hx:=ha x rfl
   have hy:=hb y rfl
   obtain⟨x1,x2,x3,x4,x5,x6⟩:=x
   obtain⟨y1,y2,y3,y4,y5,y6⟩:=y
   have e1:=yJ (a:=x3) (b:=y3) hx.q hy.q
   have e2:=yJ (a:=x5) (b:=y5) hx.p hy.p
   simp only[lu]
   obtain⟨d1,hd1⟩:∃ d,d=oc x3 y3:=⟨_,rfl⟩
   obtain⟨d2,hd2⟩:∃ d,d=oc x5 y5:=⟨_,rfl⟩
   rw[<- hd1] at e1 ⊢
   rw[<- hd2] at e2 ⊢
   unfold gC
   simp only[Option.isSome_some,WH,Us,WU,e1,WG]
   by_cases h6:x6=y6
   ·subst h6
    cases d1<;>cases d2<;>simp[bC,chk,e2,vU,zk,zj,si,maxLen]
   ·have hb6:(x6 != y6)=true:=gA h6
    cases d1<;>cases d2<;>simp[bC,chk,e2,vU,zk,zj,si,maxLen,h6,hb6]
end Go.Md
namespace Go.Md
open Go.Dn
def tu (d:aa) (n:Int):aa:=(d.1,d.2.1,n,d.2.2.2)
def iE:Nat->List aa->List aa
 | _,[]=>[]
 | k,d::r=>tu d ((k:Int)+1)::iE (k+1) r
theorem EW:∀ (l acc:List aa),fe acc l=acc++iE acc.length l
 | [],acc=>by rw[fe,iE,UR]
 | d::r,acc=>by
  rw[fe,EW r,Vr,Vz,UQ]
  rfl
theorem Dp:∀ (l:List aa) (k:Nat),(iE k l).length=l.length
 | [],_=>rfl
 | d::r,k=>by rw[iE,Vs,Dp r,Vs]
theorem JM:∀ (l m:List aa) (k:Nat),iE k (l++m)=iE k l++iE (k+l.length) m
 | [],_,_=>rfl
 | d::r,m,k=>by
  rw[US,iE,JM r m,iE,US,Vs,show k+1+r.length=k+(r.length+1) by omega]
def LA (a b:List (Int×ai)) (day:Int) (K:List Int):List aa:=K.flatMap fun n=>lu day n (aR a n) (aR b n)
theorem Jj {a b:List (Int×ai)} {day:Int} (ha:∀ n x,aR a n=some x->Li x) (hb:∀ n x,aR b n=some x->Li x):∀ (K:List Int) (acc:List aa),gH a b day K acc=some (acc++iE acc.length (LA a b day K))
 | [],acc=>by rw[gH];show _=some (acc++iE _ []);rw[iE,UR]
 | n::r,acc=>by
  rw[gH,FY day n _ _ (ha n) (hb n),WG]
  show gH a b day r (fe acc (lu day n (aR a n) (aR b n)))=_
  rw[Jj ha hb r,EW,UQ,Vr,Dp]
  show _=some (acc++iE acc.length (lu day n (aR a n) (aR b n)++LA a b day r))
  rw[JM]
theorem Q9 (day n:Int) (a b:Option ai):(lu day n a b).length<=3:=by
 cases a<;>cases b<;>simp only[lu,Vz,Vr]
 ·omega
 ·omega
 ·omega
 ·split<;>split<;>split<;>simp
theorem LB (a b:List (Int×ai)) (day:Int):∀ (K:List Int),(LA a b day K).length<=3*K.length
 | []=>Wj _
 | n::r=>by
  have h1:=Q9 day n (aR a n) (aR b n)
  have h2:=LB a b day r
  show (lu day n (aR a n) (aR b n)++LA a b day r).length<=_
  rw[Vr,Vs]
  omega
theorem Tk {d:ah} {z:Bool} (h:qOk d z=true):0<=d.1/\d.1<=1000000000000000/\0<=d.2/\d.2<=9:=by
 have h1:inR d 0 1000000000 3=true:=by
  unfold qOk at h
  rw[Ug] at h
  exact h.1
 have h2:=Xk h1
 obtain⟨hd,hp,h0,h3⟩:=h2
 refine sw ?_
 refine WX ⟨hd,by omega,h0,h3⟩
structure wI (o:aj):Prop where
 day:1<=bH o/\bH o<=3652059
 len:(bT o).length<=500
 ne:bT o≠[]
 line:∀ x,x∈bT o->dw x.2.1=true/\qOk x.2.2.1 false=true/\dw x.2.2.2.1=true/\inR x.2.2.2.2.1 0 1000000000 4=true/\(1<=x.1/\x.1<=99999)/\(bH o<=x.2.2.2.2.2/\x.2.2.2.2.2<=3652059)
 srt:(bT o).Pairwise fun a b=>a.1<b.1
theorem nx {o:aj} (h:eV o=0):wI o:=by
 obtain⟨h1,_,h3,h4,h5,_⟩:=vB h
 obtain⟨h6,_,h7⟩:=nw h5
 exact⟨h1,h3,h4,h6,h7⟩
theorem wI.ln {o:aj} (h:wI o):∀ n x,aR (dI (bT o)) n=some x->Li x:=fun n x hx=>by
 obtain⟨hm,_⟩:=jc hx
 obtain⟨_,q,_,p,_⟩:=h.line x hm
 exact⟨Tk q,sw p⟩
theorem wI.nd {o:aj} (h:wI o):((dI (bT o)).map (·.1)).Nodup:=by
 rw[VE]
 exact List.Pairwise.map _ (fun a b (h:a.1<b.1) e=>by
  have e':a.1=b.1:=e
  omega) h.srt
theorem wI.keys {o:aj} (h:wI o):kN (dI (bT o))=true:=by
 unfold kN
 simp only[Ug,WY,UN]
 refine⟨by rw[Vt];have:=h.len;omega,fun p hp=> ?_,h.nd⟩
 obtain⟨x,hx,rfl⟩:=VN.1 hp
 have:=(h.line x hx).2.2.2.2.1
 exact⟨by show -9223372036854775808<=x.1;omega,by show x.1<=9223372036854775807;omega⟩
theorem wI.ndK {o:aj} (h:wI o):Mc (dI (bT o))=true:=WX h.nd
def DH (was is:aj):Prop:=was.1=is.1/\was.2.1=is.2.1/\was.2.2.1=is.2.2.1
abbrev cT (was is:aj):List aa:=iE 0 (LA (dI (bT was)) (dI (bT is)) (bH is) (dO (dI (bT was)) (dI (bT is))))
open Classical in
noncomputable def lq (was is:aj):List aa×Int:=
 if eV was≠0 then ([],eV was) else if eV is≠0 then ([],eV is) else if ¬DH was is then ([],12) else if gf (dI (bT was)) (dI (bT is))=true then ([],12)
 else if bH is<bH was then ([],8) else if fC (cT was is)≠0 then ([],fC (cT was is)) else (cT was is,0)
theorem Pt (a b:List (Int×ai)):(dO a b).length<=a.length+b.length:=by
 unfold dO
 rw[Vu,Vr,Vt]
 have:=List.length_filter_le (fun n=> !(a.any fun p=>p.1==n)) (b.map (·.1))
 rw[Vt] at this
 omega
theorem FX (was is:aj):iR was is=some ((lq was is).1,(lq was is).2,()):=by
 unfold iR lq
 rw[gM,WG]
 dsimp only
 by_cases h1:eV was=0
 rotate_left
 ·rw[gA h1,WV,Xe h1]
 rw[show (eV was != 0)=false by simp[h1],WU,Xd (fun e=>e h1),gM,WG]
 dsimp only
 by_cases h2:eV is=0
 rotate_left
 ·rw[gA h2,WV,Xe h2]
 have o1:=nx h1
 have o2:=nx h2
 rw[show (eV is != 0)=false by simp[h2],WU,Xd (fun e=>e h2),B1 o1.len o1.srt,WG,B1 o2.len o2.srt,WG]
 dsimp only
 by_cases h3:DH was is
 rotate_left
 ·rw[Xe h3]
  have:(!(was.1==is.1)||(!(was.2.1==is.2.1)|| !(was.2.2.1==is.2.2.1)))=true:=by
   cases h5:(!(was.1==is.1)||(!(was.2.1==is.2.1)|| !(was.2.2.1==is.2.2.1))) with
   | true=>rfl
   | false=>
    simp only[Ut,Uo,WR] at h5
    exact absurd h5 h3
  rw[this,WV]
 rw[Xd (fun e=>e h3),show (!(was.1==is.1)||(!(was.2.1==is.2.1)|| !(was.2.2.1==is.2.2.1)))=false by simp[h3.1,h3.2.1,h3.2.2],WU,o1.ndK,o2.ndK,o1.keys,o2.keys]
 show chk true _=_
 rw[iq rfl]
 cases h4:gf (dI (bT was)) (dI (bT is)) with
 | true=>rw[WV,Xe rfl]
 | false=>
  rw[WU,Xd Um]
  by_cases h5:bH is<bH was
  ·rw[Xe h5,show decide (is.2.2.2.1<was.2.2.2.1)=true from WX h5,WV]
  ·rw[Xd h5,show decide (is.2.2.2.1<was.2.2.2.1)=false from WW h5,WU,Jj o1.ln o2.ln,WG,VS]
   show chk (decide ((cT was is).length<=1000000)) (Option.bind (cU (cT was is)) _)=_
   have hlen:(cT was is).length<=1000000:=by
    have q1:=LB (dI (bT was)) (dI (bT is)) (bH is) (dO (dI (bT was)) (dI (bT is)))
    have q2:=Pt (dI (bT was)) (dI (bT is))
    rw[Vt,Vt] at q2
    have q3:=o1.len
    have q4:=o2.len
    rw[Dp]
    omega
   rw[WX hlen,iq rfl,tT,WG]
   dsimp only
   by_cases h6:fC (cT was is)=0
   ·rw[show (fC (cT was is) != 0)=false by simp[h6],WU,Xd (fun e=>e h6)]
    rfl
   ·rw[gA h6,WV,Xe h6]
end Go.Md
namespace Go.Md
open Go.Dn
def oH (n:Int):List aa->Int
 | []=>0
 | d::r=>(if aH d=n then 1 else 0)+oH n r
theorem ND (n:Int):∀ l,0<=oH n l/\oH n l<=(l.length:Int)
 | []=>⟨Uy _,Uy _⟩
 | d::r=>by
  have:=ND n r
  rw[oH,Vs]
  split<;>constructor<;>omega
def ym (l:List aa) (m:Int) (d:aa):Int:=if oH (aH d) l>m then oH (aH d) l else m
def Ld (l:List aa):Int:=l.foldl (ym l) 0
theorem Fs {β:Type} (n:Int) (F:Int->Option β):∀ (r:List aa) (i:Nat) (s:Int),0<=s->s+(r.length:Int)<=1000000-> oJ (fun (s:Int) (_:Nat) (y:aa) (k:Int->Option β)=>if aH y=n then k (w64 (s+1)) else k s) F r i s=F (s+oH n r)
 | [],_,s,_,_=>by rw[oJ,oH,Int.add_zero]
 | y::r,i,s,h0,h1=>by
  rw[Vs] at h1
  rw[oJ,oH]
  by_cases e:aH y=n
  ·rw[Xe e,Xe e,aG (by omega) (by omega)]
   refine (Fs n F r (i+1) (s+1) (by omega) (by omega)).trans ?_
   congr 1;omega
  ·rw[Xd e,Xd e]
   refine (Fs n F r (i+1) s h0 (by omega)).trans ?_
   congr 1;omega
theorem MS (l:List aa) (hl:l.length<=2000) (most:Int) (i:Int) (y:aa) (n:Nat) (hn:l.length<n): iter (X:=k5) (β:=kZ) n (l,most,0,l,(l.length:Int),i,l,(l.length:Int),0,y.1,y.2.1,y.2.2.1,y.2.2.2.1,y.2.2.2.2.1,y.2.2.2.2.2.1,y.2.2.2.2.2.2.1.1,y.2.2.2.2.2.2.1.2,y.2.2.2.2.2.2.2.1,y.2.2.2.2.2.2.2.2.1.1,y.2.2.2.2.2.2.2.2.1.2,y.2.2.2.2.2.2.2.2.2.1,y.2.2.2.2.2.2.2.2.2.2,()) kY= some (Sum.inr (l,most,oH (aH y) l,l,(l.length:Int),i,())):=by
 have:=mP (f:=kY) (fun (s:Int) (j:Nat)=>((l,most,s,l,(l.length:Int),i,l,(l.length:Int),(j:Int),y.1,y.2.1,y.2.2.1,y.2.2.2.1,y.2.2.2.2.1,y.2.2.2.2.2.1,y.2.2.2.2.2.2.1.1,y.2.2.2.2.2.2.1.2,y.2.2.2.2.2.2.2.1,y.2.2.2.2.2.2.2.2.1.1,y.2.2.2.2.2.2.2.2.1.2,y.2.2.2.2.2.2.2.2.2.1,y.2.2.2.2.2.2.2.2.2.2,()):k5)) l
  (fun (s:Int) (_:Nat) (x:aa) (k:Int->Option kZ)=>if aH x=aH y then k (w64 (s+1)) else k s) (fun s=>some (Sum.inr (l,most,s,l,(l.length:Int),i,()))) (fun s j x again hx=>by
    have hj:j<l.length:=(Vg.1 hx).1
    unfold kY
    dsimp only
    rw[WX (show (j:Int)<(l.length:Int) by omega),WV,cO hx,WG,aG (n:=(j:Int)+1) (by omega) (by omega)]
    by_cases e:aH x=aH y
    ·rw[Xe e,show (x.2.2.2.2.1==y.2.2.2.2.1)=true from WR.2 e,WV];rfl
    ·rw[Xd e,show (x.2.2.2.2.1==y.2.2.2.2.1)=false from WQ.2 e,WU];rfl) (fun s again=>by
    unfold kY
    dsimp only
    rw[WW (show ¬((l.length:Int)<(l.length:Int)) by omega),WU]) 0 n hn
 refine this.trans ?_
 rw[Fs _ _ _ _ _ (Uy _) (by omega),Int.zero_add]
theorem Kb {β:Type} (l:List aa) (F:Int->Option β):∀ (r:List aa) (i:Nat) (s:Int),oJ (fun (s:Int) (_:Nat) (y:aa) (k:Int->Option β)=>k (ym l s y)) F r i s=F (r.foldl (ym l) s)
 | [],_,s=>rfl
 | y::r,i,s=>Kb l F r (i+1) (ym l s y)
theorem HQ (l:List aa) (hl:l.length<=2000):tr l=some (Ld l,()):=by
 unfold tr
 have:=mP (f:=ox) (fun (s:Int) (j:Nat)=>((l,s,l,(l.length:Int),(j:Int),()):oz)) l
  (fun (s:Int) (_:Nat) (x:aa) (k:Int->Option oy)=>k (ym l s x)) (fun s=>some (Sum.inr (s,()))) (fun s j x again hx=>by
    have hj:j<l.length:=(Vg.1 hx).1
    unfold ox
    dsimp only
    rw[WX (show (j:Int)<(l.length:Int) by omega),WV,cO hx,WG]
    refine (congrArg (fun z=>aI (β:=((Int×Unit) ⊕ (Int×Unit))) z _) (MS l hl s (j:Int) x _ (Nat.lt_add_of_pos_right (Nat.pos_of_ne_zero fun h=> ?_)))).trans ?_
    ·simp only[Nat.add_eq_zero_iff] at h
     obtain⟨_,_,_,_,_,_,_,_,_,_,_,_,_,_,_,_,_,_,_,_,_,h⟩:=h
     cases h
    rw[bC]
    dsimp only
    rw[aG (n:=(j:Int)+1) (by omega) (by omega)]
    exact congrArg again rfl) (fun s again=>by
    unfold ox
    dsimp only
    rw[WW (show ¬((l.length:Int)<(l.length:Int)) by omega),WU]) 0
 refine (congrArg (fun z=>aI z _) (this _ (by omega))).trans ?_
 rw[Kb,bC]
 rfl
theorem SS (l:List aa) (s:Int) (d:aa):s<=ym l s d/\oH (aH d) l<=ym l s d:=by
 unfold ym
 split<;>constructor<;>omega
theorem Ka (l:List aa):∀ (r:List aa) (s:Int),s<=r.foldl (ym l) s/\∀ d∈r,oH (aH d) l<=r.foldl (ym l) s
 | [],s=>⟨Uy _,nofun⟩
 | y::r,s=>by
  obtain⟨h1,h2⟩:=Ka l r (ym l s y)
  obtain⟨h3,h4⟩:=SS l s y
  rw[List.foldl_cons]
  exact⟨Int.le_trans h3 h1,fun d hd=>by
   rcases VH.1 hd with rfl | hd
   ·exact Int.le_trans h4 h1
   ·exact h2 d hd⟩
theorem LD {n:Int}:∀ {l:List aa} {d:aa},d∈l->aH d=n->1<=oH n l
 | y::r,d,hd,e=>by
  rw[oH]
  have h0:=(ND n r).1
  rcases VH.1 hd with rfl | hd
  ·rw[Xe e];omega
  ·have:=LD hd e
   split<;>omega
theorem GG:∀ (l:List aa),(∀ d∈l,oH (aH d) l<=1)->(l.map aH).Nodup
 | [],_=>List.nodup_nil
 | y::r,h=>by
  rw[VD,VT]
  refine⟨fun hm=> ?_,GG r fun d hd=> ?_⟩
  ·obtain⟨d,hd,e⟩:=VN.1 hm
   have h1:=h y (VJ ..)
   rw[oH,Xe rfl] at h1
   have:=LD hd e
   omega
  ·have h1:=h d (VI _ hd)
   rw[oH] at h1
   split at h1<;>omega
theorem Pu {l:List aa} (h:Ld l<=1):(l.map aH).Nodup:=GG l fun d hd=>Int.le_trans ((Ka l l 0).2 d hd) h
def iO (j:Nat) (d:aa):aa:=(d.1,2,(j:Int)+1,5,aH d,[],(0,0),[],(0,0),0,dNo d)
def eX:Nat->List aa->List aa
 | _,[]=>[]
 | j,d::r=>iO j d::eX (j+1) r
theorem DW:∀ (l:List aa) (j:Nat),(eX j l).length=l.length
 | [],_=>rfl
 | d::r,j=>by rw[eX,Vs,DW r,Vs]
theorem Ke:∀ (l m:List aa) (k:Nat),eX k (l++m)=eX k l++eX (k+l.length) m
 | [],_,_=>rfl
 | d::r,m,k=>by
  rw[US,eX,Ke r m,eX,US,Vs,show k+1+r.length=k+(r.length+1) by omega]
theorem QJ (l:List aa) (hl:l.length<=2000):HR l=some (l++eX 0 l,()):=by
 have vW:maxLen=9223372036854775807:=rfl
 unfold HR
 have h1:=mP (f:=yM) (fun (_:Unit) (j:Nat)=>((l,l.take j,l,(l.length:Int),(j:Int),()):yO)) l
  (fun (_:Unit) _ _ k=>k ()) (fun _=>some (Sum.inr (l,l,()))) (fun s j x again hx=>by
    have hj:j<l.length:=(Vg.1 hx).1
    have ht:(l.take j).length=j:=by rw[VA];omega
    unfold yM
    dsimp only
    rw[WX (show (j:Int)<(l.length:Int) by omega),WV,cO hx,WG,aG (n:=(j:Int)+1) (by omega) (by omega),ht,iq (by simp only[Ug,WY];omega), <- wV hx]
    rfl) (fun s again=>by
    unfold yM
    dsimp only
    rw[WW (show ¬((l.length:Int)<(l.length:Int)) by omega),WU,V6]) ()
 have hfor:∀ (r:List aa) (i:Nat) (β:Type) (f:Option β),oJ (fun (_:Unit) _ _ k=>k ()) (fun _=>f) r i ()=f:=by
  intro r
  induction r with
  | nil=>intro i β f;rfl
  | cons y r ih=>intro i β f;exact ih (i+1) β f
 refine (congrArg (fun z=>aI z _) ((h1 _ (by omega)).trans (hfor _ _ _ _))).trans ?_
 rw[bC]
 dsimp only
 have h2:=mP (f:=yN) (fun (_:Unit) (j:Nat)=>((l++eX 0 (l.take j),l,(l.length:Int),(j:Int),()):yP)) l
  (fun (_:Unit) _ _ k=>k ()) (fun _=>some (Sum.inr (l++eX 0 l,()))) (fun s j x again hx=>by
    have hj:j<l.length:=(Vg.1 hx).1
    have ht:(l.take j).length=j:=by rw[VA];omega
    unfold yN
    dsimp only
    rw[WX (show (j:Int)<(l.length:Int) by omega),WV,cO hx,WG,aG (n:=(j:Int)+1) (by omega) (by omega),Vr,DW,ht,iq (by simp only[Ug,WY];omega),wV hx,Ke, <- UQ,ht,Wz]
    rfl) (fun s again=>by
    unfold yN
    dsimp only
    rw[WW (show ¬((l.length:Int)<(l.length:Int)) by omega),WU,V6]) ()
 have h3:=h2 (List.length l+(List.length l+(Int.natAbs ((List.length l:Int))+(Int.natAbs (0:Int)+2)))) (by omega)
 rw[hfor] at h3
 rw[show l++eX 0 (l.take 0)=l from UR l] at h3
 refine (congrArg (fun z=>aI z _) h3).trans ?_
 rfl
end Go.Md
namespace Go.Md
open Go.Dn
theorem EH (ys:List aa):∀ (q:List aa) (p:Option aa) (nb ns:Int),(∀ d∈q,d.2.1=1)->b8 q p nb ns=0-> ∃ p' nb',b8 (q++ys) p nb ns=b8 ys p' nb' ns/\(q≠[]->∃ d∈q,p'=some d)/\(q=[]->p'=p)
 | [],p,nb,ns,_,_=>⟨p,nb,rfl,fun h=>absurd rfl h,fun _=>rfl⟩
 | d::r,p,nb,ns,hb,h=>by
  rw[b8] at h
  by_cases hf:cc d=0
  rotate_left
  ·rw[Xe hf] at h;exact absurd h hf
  rw[Xd (fun e=>e hf)] at h
  by_cases ha:(p.any fun q=>decide (0<=dCw q d))=true
  ·rw[Xe ha] at h;cases h
  rw[Xd ha,Xe (hb d (VJ ..))] at h
  by_cases hn:d.2.2.1≠w64 (nb+1)
  ·rw[Xe hn] at h;cases h
  rw[Xd hn] at h
  obtain⟨p',nb',h1,h2,h3⟩:=EH ys r (some d) d.2.2.1 ns (fun x hx=>hb x (VI _ hx)) h
  refine⟨p',nb', ?_,fun _=> ?_,fun e=>by cases e⟩
  ·rw[US,b8,Xd (fun e=>e hf),Xd ha,Xe (hb d (VJ ..)),Xd hn]
   exact h1
  ·by_cases hr:r=[]
   ·exact⟨d,VJ ..,h3 hr⟩
   ·obtain⟨x,hx,e⟩:=h2 hr
    exact⟨x,VI _ hx,e⟩
theorem Q3 {d:aa} (h:cc d=0) (j:Nat) (hj:j<2000):cc (iO j d)=0:=by
 obtain⟨h1,_,h3,_,_,h6,_⟩:=cJ h
 unfold cc iO
 rw[Xd (fun e=>e h1),Xd (fun e=>e (by show (1:Int)<=2/\(2:Int)<=2;omega)),Xd (fun e=>e (by show 1<=(j:Int)+1/\(j:Int)+1<=2000;omega)),Xd (fun e=>e (by show (1:Int)<=5/\(5:Int)<=11;omega)),Xd (fun e=>e (by constructor<;>intro _<;>first | rfl | exact .inl rfl)),Xd (fun e=>e h6)]
 unfold BO Ik
 have e1:usA 5=false:=by decide
 have e2:usQ 5=false:=by decide
 have e3:usP 5=false:=by decide
 have e4:usU 5=false:=by decide
 have e5:usT 5=true:=by decide
 have e6:xO (dNo d)=true:=WX h3
 simp[e1,e2,e3,e4,e5,e6]
theorem R8:w64 0=0:=by decide
theorem Tv {a:aa} {d:aa} {j:Nat} (hj:j<2000) (hday:a.1=d.1) (h:a.2.1=1\/(a.2.1=2/\a.2.2.1=(j:Int))):dCw a (iO j d)<0:=by
 unfold dCw iO
 dsimp only
 rw[hday,Int.sub_self,R8,Xd (fun e=>e rfl)]
 rcases h with h | ⟨h1,h2⟩
 ·rw[h,show w64 (1 - 2)= -1 by decide,Xe (by decide)];decide
 ·rw[h1,h2,Int.sub_self,R8,Xd (fun e=>e rfl),show (j:Int) - ((j:Int)+1)= -1 by omega];decide
theorem Q4 (day:Int):∀ (r:List aa) (j:Nat) (p:Option aa) (nb:Int),(∀ d∈r,cc d=0/\d.1=day)->j+r.length<=2000->(∀ a,p=some a->a.1=day/\(a.2.1=1\/(a.2.1=2/\a.2.2.1=(j:Int))))-> b8 (eX j r) p nb (j:Int)=0
 | [],_,_,_,_,_,_=>rfl
 | d::r,j,p,nb,hr,hl,hp=>by
  rw[Vs] at hl
  obtain⟨hd1,hd2⟩:=hr d (VJ ..)
  rw[eX,b8,Xd (fun e=>e (Q3 hd1 j (by omega)))]
  have ha:¬(p.any fun q=>decide (0<=dCw q (iO j d)))=true:=by
   cases p with
   | none=>simp
   | some a=>
    obtain⟨h1,h2⟩:=hp a rfl
    have:=Tv (d:=d) (j:=j) (by omega) (h1.trans hd2.symm) h2
    rw[Option.any_some]
    simp only[WY]
    omega
  rw[Xd ha,Xd (show ¬(iO j d).2.1=1 from fun e=>by cases e),Xd (show ¬((iO j d).2.2.1≠w64 ((j:Int)+1)) from fun e=>e (by show (j:Int)+1=_;rw[aG (by omega) (by omega)]))]
  exact Q4 day r (j+1) _ nb (fun x hx=>hr x (VI _ hx)) (by omega) fun a ha=>by
   cases ha
   exact⟨hd2,.inr ⟨rfl,rfl⟩⟩
theorem Tw {q:List aa} {day:Int} (h:fC q=0) (hb:∀ d∈q,d.1=day/\d.2.1=1) (hl:2*q.length<=2000):fC (q++eX 0 q)=0:=by
 obtain⟨_,h2⟩:=uP h
 have hg:b8 q none 0 0=0:=by
  unfold fC at h
  rw[Xd (by omega)] at h
  exact h
 obtain⟨p',nb',h3,h4,h5⟩:=EH (eX 0 q) q none 0 0 (fun d hd=>(hb d hd).2) hg
 unfold fC
 rw[Vr,DW,Xd (by omega),h3]
 refine Q4 day q 0 p' nb' (fun d hd=>⟨h2 d hd,(hb d hd).1⟩) (by omega) fun a ha=> ?_
 by_cases hq:q=[]
 ·rw[h5 hq] at ha;cases ha
 ·obtain⟨d,hd,e⟩:=h4 hq
  rw[ha] at e;cases e
  exact⟨(hb a hd).1,.inl (hb a hd).2⟩
end Go.Md
namespace Go.Md
open Go.Dn
def gL (n:Int):List ak->Option ak
 | []=>none
 | x::r=>if n=x.no then some x else gL n r
theorem uk (n:Int):∀ (A:List ak) (i:Nat),(bp n i A=none/\gL n A=none)\/∃ k x,bp n i A=some (i+k)/\A[k]? =some x/\gL n A=some x/\x.no=n
 | [],_=> .inl ⟨rfl,rfl⟩
 | x::r,i=>by
  by_cases h:n=x.no
  ·exact .inr ⟨0,x,by rw[bp,Xe h];rfl,rfl,by rw[gL,Xe h],h.symm⟩
  ·rcases uk n r (i+1) with ⟨h1,h2⟩ | ⟨k,y,h1,h2,h3,h4⟩
   ·exact .inl ⟨by rw[bp,Xd h];exact h1,by rw[gL,Xd h];exact h2⟩
   ·exact .inr ⟨k+1,y,by rw[bp,Xd h,h1];congr 1;omega,by rw[Vb];exact h2,by rw[gL,Xd h];exact h3,h4⟩
theorem Qa (n:Int) (y:ak):∀ (A:List ak),gL n (A++[y])=match gL n A with | some x=>some x | none=>if n=y.no then some y else none
 | []=>by
  show (if n=y.no then some y else gL n [])=_
  rfl
 | x::r=>by
  rw[US,gL,gL]
  by_cases h:n=x.no
  ·rw[Xe h,Xe h]
  ·rw[Xd h,Xd h,Qa n y r]
theorem LV (n m:Int) (y:ak) (hy:y.no=m):∀ (A:List ak) (i k:Nat),bp m i A=some (i+k)->gL n (A.set k y)=if n=m then some y else gL n A
 | [],_,_,h=>by cases h
 | x::r,i,k,h=>by
  rw[bp] at h
  by_cases e:m=x.no
  ·rw[Xe e] at h
   have:k=0:=by have:=Option.some.inj h;omega
   subst this
   show (if n=y.no then some y else gL n r)=if n=m then some y else if n=x.no then some x else gL n r
   rw[hy]
   by_cases h2:n=m
   ·rw[Xe h2,Xe h2]
   ·rw[Xd h2,Xd h2,Xd (fun h3=>h2 (h3.trans e.symm))]
  ·rw[Xd e] at h
   cases k with
   | zero=>
    exfalso
    have key:∀ (A:List ak) (j t:Nat),bp m j A=some t->j<=t:=by
     intro A
     induction A with
     | nil=>intro j t h;cases h
     | cons z A ih=>
      intro j t h
      rw[bp] at h
      split at h
      ·cases h;exact Wj _
      ·have:=ih (j+1) t h;omega
    have:=key r (i+1) _ h
    omega
   | succ k=>
    have ih:=LV n m y hy r (i+1) k (by rw[h];congr 1;omega)
    show (if n=x.no then some x else gL n (r.set k y))=if n=m then some y else if n=x.no then some x else gL n r
    rw[ih]
    by_cases h2:n=m
    ·rw[Xe h2,Xe h2,Xd (fun h3=>e (h2.symm.trans h3))]
    ·rw[Xd h2,Xd h2]
def Cq (i:Nat) (d:aa) (p:Option ak):ak:=match p with | some x=>{ x with wish:=(i:Int) } | none=>pX i d
theorem Q1 {o:aj} {l:List aa} {i:Nat} {d:aa} {A:List ak} (hk:1<=aB d/\aB d<=4) (h1:aB d=1->gL (aH d) A=none/\A.length<500/\bH o<=dX d) (h2:aB d≠1->∃ x,gL (aH d) A=some x/\x.wish<0/\(aB d=3->bH o<=dX d)): (bY o l i d A).1=0/\(bY o l i d A).2.length=A.length+(if aB d=1 then 1 else 0)/\∀ n,gL n (bY o l i d A).2=if n=aH d then some (Cq i d (gL (aH d) A)) else gL n A:=by
 unfold bY
 by_cases hk1:aB d=1
 ·obtain⟨h3,h4,h5⟩:=h1 hk1
  have hf:gD (aH d) A=none:=by
   rcases uk (aH d) A 0 with ⟨h,_⟩ | ⟨k,x,_,_,h,_⟩
   ·exact h
   ·rw[h3] at h;cases h
  rw[Xe hk1,hf]
  dsimp only
  rw[Xd (by omega),Xd (by omega),Xe hk1]
  refine⟨rfl,by rw[Vr];rfl,fun n=> ?_⟩
  rw[Qa,h3]
  by_cases hn:n=aH d
  ·subst hn
   rw[h3,Xe rfl,Xe (show aH d=(pX i d).no from rfl)];rfl
  ·rw[Xd hn]
   cases gL n A with
   | some x=>rfl
   | none=>rw[Xd (show ¬n=(pX i d).no from hn)]
 ·obtain⟨x,h3,h4,h5⟩:=h2 hk1
  rcases uk (aH d) A 0 with ⟨_,h⟩ | ⟨k,y,hf,hy,h,hno⟩
  ·rw[h3] at h;cases h
  rw[h3] at h;cases h
  have hf':gD (aH d) A=some k:=by
   show bp (aH d) 0 A=some k
   rw[hf,Wz]
  have hact:dA o l i d x=(0,{ x with wish:=(i:Int) }):=by
   unfold dA
   rw[Xe hk.2]
   unfold BS
   rw[Xd (fun e=>by have:=h5 e.1;omega),Xd (by omega)]
  rw[Xd hk1,hf']
  dsimp only
  rw[hy]
  dsimp only
  rw[hact,Xd hk1]
  refine⟨rfl,by rw[Vy,Wb],fun n=> ?_⟩
  rw[LV n (aH d) { x with wish:=(i:Int) } hno A 0 k hf,h3]
  rfl
def ze (d:aa) (x:ak):ak:=
 if aB d=2\/aB d=1 then { x with ord:=aQ (dQ d),wish:= -1,ono:=0,oq:=0,ount:=0 }
 else if aB d=3 then { x with due:=dX d,wish:= -1,ono:=0,oq:=0,ount:=0 }
 else { x with price:=Ag d,wish:= -1,ono:=0,oq:=0,ount:=0 }
theorem RX {o:aj} {l:List aa} {i j:Nat} {w:Nat} {d:aa} {A:List ak} {x:ak} (hk:1<=aB d/\aB d<=4) (hx:gL (aH d) A=some x) (hw:x.wish=(w:Int)) (hl:l[w]? =some d) (hs:x.shp=0/\x.ret=0) (hq:aB d=2->0<=aQ (dQ d)): (bY o l i (iO j d) A).1=0/\∀ n,gL n (bY o l i (iO j d) A).2=if n=aH d then some (ze d x) else gL n A:=by
 rcases uk (aH d) A 0 with ⟨_,h⟩ | ⟨k,y,hf,hy,h,hno⟩
 ·rw[hx] at h;cases h
 rw[hx] at h;cases h
 have hf':gD (aH (iO j d)) A=some k:=by
  show bp (aH d) 0 A=some k
  rw[hf,Wz]
 have hwd:gw l x=d:=vf (by rw[hw];simpa using hl)
 have hact:dA o l i (iO j d) x=(0,ze d x):=by
  unfold dA
  have hkk:aB (iO j d)=5:=rfl
  rw[hkk,Xd (by decide),Xe (by decide)]
  have hans:bW l (iO j d) x=(0,if aB d=2\/aB d=1 then { x with ord:=aQ (dQ d),wish:= -1 } else if aB d=3 then { x with due:=dX d,wish:= -1 } else { x with price:=Ag d,wish:= -1 }):=by
   unfold bW
   rw[Xd (by omega),hwd,Xd (fun e=>e rfl),Xe hkk]
   by_cases k2:aB d=2
   ·rw[Xe k2,Xd (show ¬aQ (dQ d)<x.shp - x.ret by have:=hq k2;omega),Xe (show aB d=2\/aB d=1 from .inl k2)]
   ·rw[Xd k2]
    by_cases k1:aB d=1
    ·rw[Xe k1,Xe (show aB d=2\/aB d=1 from .inr k1)]
    ·rw[Xd k1,Xd (show ¬(aB d=2\/aB d=1) from fun e=>e.elim k2 k1)]
     by_cases k3:aB d=3
     ·rw[Xe k3,Xe k3]
     ·rw[Xd k3,Xd k3]
  rw[hans,Xe rfl]
  unfold ze
  split
  ·rfl
  ·split<;>rfl
 unfold bY
 rw[Xd (show ¬aB (iO j d)=1 from fun e=>by cases e),hf']
 dsimp only
 rw[hy]
 dsimp only
 rw[hact]
 refine⟨rfl,fun n=> ?_⟩
 have hyn:(ze d x).no=aH d:=by
  unfold ze
  split
  ·exact hno
  ·split<;>exact hno
 exact LV n (aH d) (ze d x) hyn A 0 k hf
end Go.Md
namespace Go.Md
open Go.Dn
def AP:List aa->Nat
 | []=>0
 | d::r=>(if aB d=1 then 1 else 0)+AP r
theorem Mv {o:aj} {l:List aa} {wt day:Int} (ys:List aa):∀ (r:List aa) (i:Nat) (A:List ak) (ref:List (Int×Int)) (pts:List az), (∀ d∈r,d.1<=day/\1<=aB d/\aB d<=4)->(r.map aH).Nodup->(∀ d∈r,aB d=1->gL (aH d) A=none/\bH o<=dX d)->A.length+AP r<=500-> (∀ d∈r,aB d≠1->∃ x,gL (aH d) A=some x/\x.wish<0/\(aB d=3->bH o<=dX d))-> ∃ A' pts',jG o l wt day (r++ys) i A ref pts=jG o l wt day ys (i+r.length) A' ref pts'/\(∀ n,n∉r.map aH->gL n A'=gL n A)/\∀ (j:Nat) (d:aa),r[j]? =some d->gL (aH d) A'=some (Cq (i+j) d (gL (aH d) A))
 | [],i,A,ref,pts,_,_,_,_,_=>⟨A,pts,rfl,fun _ _=>rfl,fun j d h=>by simp at h⟩
 | d::r,i,A,ref,pts,hk,hnd,h1,hl,h2=>by
  rw[VD,VT] at hnd
  obtain⟨k1,k2,k3⟩:=hk d (VJ ..)
  rw[AP] at hl
  obtain⟨s1,s2,s3⟩:=Q1 (o:=o) (l:=l) (i:=i) (d:=d) (A:=A) ⟨k2,k3⟩ (fun e=>⟨(h1 d (VJ ..) e).1,by rw[Xe e] at hl;omega,(h1 d (VJ ..) e).2⟩) (h2 d (VJ ..))
  have hne:∀ x∈r,¬aH x=aH d:=fun x hx e=>hnd.1 (VN.2 ⟨x,hx,e⟩)
  have hg:∀ x∈r,gL (aH x) (bY o l i d A).2=gL (aH x) A:=fun x hx=>by rw[s3,Xd (hne x hx)]
  obtain⟨A',pts',q1,q2,q3⟩:=Mv ys r (i+1) (bY o l i d A).2 ref (F4 wt i d (bY o l i d A).2 pts) (fun x hx=>hk x (VI _ hx)) hnd.2
   (fun x hx e=>by rw[hg x hx];exact h1 x (VI _ hx) e) (by rw[s2];omega) (fun x hx e=>by rw[hg x hx];exact h2 x (VI _ hx) e)
  refine⟨A',pts', ?_,fun n hn=> ?_,fun j x hx=> ?_⟩
  ·rw[US,jG,Xd (by omega),Xd (fun e=>e s1),q1,Vs,show i+1+r.length=i+(r.length+1) by omega]
  ·rw[VD,VH,Xj] at hn
   rw[q2 n hn.2,s3,Xd hn.1]
  ·cases j with
   | zero=>
    simp only[Vc,Option.some.injEq] at hx
    subst hx
    rw[q2 _ hnd.1,s3,Xe rfl];rfl
   | succ j=>
    rw[Vb] at hx
    rw[q3 j x hx,hg x (VO hx),show i+1+j=i+(j+1) by omega]
theorem N9 {o:aj} {l:List aa} {wt day:Int}:∀ (r:List aa) (k i:Nat) (A:List ak) (ref:List (Int×Int)) (pts:List az), (∀ d∈r,d.1<=day/\(1<=aB d/\aB d<=4)/\∃ x w,gL (aH d) A=some x/\x.wish=((w:Nat):Int)/\l[w]? =some d/\(x.shp=0/\x.ret=0)/\(aB d=2->0<=aQ (dQ d)))->(r.map aH).Nodup-> ∃ A' pts',jG o l wt day (eX k r) i A ref pts=(A',ref,pts')/\(∀ n,n∉r.map aH->gL n A'=gL n A)/\∀ d∈r,∀ x,gL (aH d) A=some x->gL (aH d) A'=some (ze d x)
 | [],k,i,A,ref,pts,_,_=>⟨A,pts,rfl,fun _ _=>rfl,nofun⟩
 | d::r,k,i,A,ref,pts,hr,hnd=>by
  rw[VD,VT] at hnd
  obtain⟨k1,k2,x,w,h1,h2,h3,h4,h5⟩:=hr d (VJ ..)
  obtain⟨s1,s3⟩:=RX (o:=o) (l:=l) (i:=i) (j:=k) (d:=d) (A:=A) k2 h1 h2 h3 h4 h5
  have hne:∀ x∈r,¬aH x=aH d:=fun x hx e=>hnd.1 (VN.2 ⟨x,hx,e⟩)
  have hg:∀ x∈r,gL (aH x) (bY o l i (iO k d) A).2=gL (aH x) A:=fun x hx=>by rw[s3,Xd (hne x hx)]
  obtain⟨A',pts',q1,q2,q3⟩:=N9 r (k+1) (i+1) (bY o l i (iO k d) A).2 ref (F4 wt i (iO k d) (bY o l i (iO k d) A).2 pts) (fun y hy=>by rw[hg y hy];exact hr y (VI _ hy)) hnd.2
  refine⟨A',pts', ?_,fun n hn=> ?_,fun y hy z hz=> ?_⟩
  ·rw[eX,jG,Xd (show ¬day<(iO k d).1 from by show ¬day<d.1;omega),Xd (fun e=>e s1),q1]
  ·rw[VD,VH,Xj] at hn
   rw[q2 n hn.2,s3,Xd hn.1]
  ·rcases VH.1 hy with rfl | hy
   ·rw[h1] at hz;cases hz
    rw[q2 _ hnd.1,s3,Xe rfl]
   ·exact q3 y hy z (by rw[hg y hy];exact hz)
theorem RL {o:aj} {q:List aa} {wt day:Int} {A:List ak} (hk:∀ d∈q,d.1<=day/\1<=aB d/\aB d<=4) (hnd:(q.map aH).Nodup) (h1:∀ d∈q,aB d=1->gL (aH d) A=none/\bH o<=dX d) (hl:A.length+AP q<=500) (h2:∀ d∈q,aB d≠1->∃ x,gL (aH d) A=some x/\x.wish<0/\(aB d=3->bH o<=dX d)) (hq:∀ d∈q,aB d=2->0<=aQ (dQ d)) (hz:∀ x∈A,x.shp=0/\x.ret=0): (∀ n,n∉q.map aH->gL n (jG o (q++eX 0 q) wt day (q++eX 0 q) 0 A [] []).1=gL n A)/\ ∀ d∈q,∃ j,gL (aH d) (jG o (q++eX 0 q) wt day (q++eX 0 q) 0 A [] []).1=some (ze d (Cq j d (gL (aH d) A))):=by
 obtain⟨A',pts',q1,q2,q3⟩:=Mv (o:=o) (l:=q++eX 0 q) (wt:=wt) (day:=day) (eX 0 q) q 0 A [] [] hk hnd h1 hl h2
 have hmem:∀ n x,gL n A=some x->x∈A:=by
  intro n x hx
  rcases uk n A 0 with ⟨_,h⟩ | ⟨k,y,_,hy,h,_⟩
  ·rw[hx] at h;cases h
  ·rw[hx] at h;cases h;exact VO hy
 have hW:∀ (j:Nat) (d:aa),(Cq j d (gL (aH d) A)).shp=0/\(Cq j d (gL (aH d) A)).ret=0/\(Cq j d (gL (aH d) A)).wish=(j:Int):=fun j d=>by
  cases h:gL (aH d) A with
  | none=>exact⟨rfl,rfl,rfl⟩
  | some x=>exact⟨(hz x (hmem _ _ h)).1,(hz x (hmem _ _ h)).2,rfl⟩
 obtain⟨A'',pts'',r1,r2,r3⟩:=N9 (o:=o) (l:=q++eX 0 q) (wt:=wt) (day:=day) q 0 (0+q.length) A' [] pts' (fun d hd=>by
  obtain⟨j,hj⟩:=Vi hd
  have hjl:=(Vg.1 hj).1
  have h3:=q3 j d hj
  rw[Wz] at h3
  exact⟨(hk d hd).1,(hk d hd).2,_,j,h3,(hW j d).2.2,by rw[U9 hjl];exact hj,⟨(hW j d).1,(hW j d).2.1⟩,hq d hd⟩) hnd
 rw[q1,r1]
 refine⟨fun n hn=>(r2 n hn).trans (q2 n hn),fun d hd=> ?_⟩
 obtain⟨j,hj⟩:=Vi hd
 have h3:=q3 j d hj
 rw[Wz] at h3
 exact⟨j,r3 d hd _ h3⟩
end Go.Md
