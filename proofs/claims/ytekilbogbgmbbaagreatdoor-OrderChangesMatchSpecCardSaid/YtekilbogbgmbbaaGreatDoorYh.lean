/-
  Plain facts: what makes one order of another; what a line is behind them. No condition.
-/
import Derived.Test.YtekilbogbgmbbaaGreatDoorYf
import Derived.Test.YtekilbogbgmbbaaGreatDoorYu
import Derived.KernelRfl
set_option linter.all false
namespace Go.Md
open Go.Dn
abbrev bu (l:List ai):List (Int×ai):=l.map fun x=>(x.1,x)
theorem KQ:∀ (l:List (Int×ai)) (n:Int) (y:ai),(∀ p∈l,p.1≠n)->lq (k:=tI) (v:=aJ) l n y=l++[(n,y)]
 | [],_,_,_=>rfl
 | p::r,n,y,h=>by
  have h1:(n==p.1)=false:=afX.2 fun e=>h p (aeR ..) e.symm
  show (bif (n==p.1) then (n,y)::r else p::lq (k:=tI) (v:=aJ) r n y)=_
  rw[h1,af1]
  exact congrArg (List.cons p) (KQ r n y fun q hq=>h q (aeQ _ hq))
theorem GK {o:aj} (hlen:(aS o).length<=500) (hpw:(aS o).Pairwise fun a b=>a.1<b.1):gF o=some (bu (aS o),()):=by
 obtain⟨o1,o2,o3,o4,o5,lns⟩:=o
 change lns.length<=500 at hlen
 change lns.Pairwise _ at hpw
 unfold gF
 have:=ru (f:=uA) (fun (_:Unit) (i:Nat)=>((lns,(lns.length:Int),(i:Int),bu (lns.take i),()):pS)) lns
  (fun (_:Unit) _ _ k=>k ()) (fun _=>some (Sum.inr (bu lns,()))) (fun s i y again hy=>by
    have hi:i<lns.length:=(aej.1 hy).1
    unfold uA
    dsimp only
    rw[af6 (show (i:Int)<(lns.length:Int) by omega),af2,bG hy,afO,aA (n:=(i:Int)+1) (by omega) (by omega)]
    have hs:lq (k:=tI) (v:=aJ) (bu (lns.take i)) y.1 y=bu (lns.take (i+1)):=by
     rw[mX hy]
     refine (KQ _ _ _ fun p hp=> ?_).trans (by unfold bu;rw[aeI];rfl)
     obtain⟨q,hq,rfl⟩:=aeV.1 hp
     obtain⟨j,hj⟩:=aeU.1 hq
     have hji:j<i:=by
      have:=(aej.1 hj).1
      simp at this;omega
     rw[aer hji] at hj
     have h1:=ae6.1 hpw j i (by omega) hi hji
     have e1:lns[j]=q:=by have:=aeh (show j<lns.length by omega);rw[hj] at this;exact (Option.some.inj this).symm
     have e2:lns[i]=y:=by have:=aeh hi;rw[hy] at this;exact (Option.some.inj this).symm
     rw[e1,e2] at h1
     show q.1≠y.1
     omega
    exact congrArg again (congrArg (fun z=>((lns,(lns.length:Int),((i+1:Nat):Int),z,()):pS)) hs)) (fun s again=>by
    unfold uA
    dsimp only
    rw[af4 (show ¬((lns.length:Int)<(lns.length:Int)) by omega),af1,afg]) ()
 have hfor:∀ (r:List ai) (i:Nat) (β:Type) (f:Option β),tr (fun (_:Unit) _ _ k=>k ()) (fun _=>f) r i ()=f:=by
  intro r
  induction r with
  | nil=>intro i β f;rfl
  | cons y r ih=>intro i β f;exact ih (i+1) β f
 refine (congrArg (fun z=>aC z _) ((this _ ?_).trans (hfor _ _ _ _))).trans rfl
 dsimp only
 omega
theorem FY (p:Int×ai) (r:List (Int×ai)) (n:Int):aM (p::r) n=if n=p.1 then some p.2 else aM r n:=by
 have e:aM (p::r) n=(bif (n==p.1) then some p.2 else aM r n):=QB (k:=tI) (v:=aJ) p r n
 rw[e]
 by_cases h:n=p.1
 ·rw[age h,show (n==p.1)=true from afY.2 h];rfl
 ·rw[agd h,show (n==p.1)=false from afX.2 h];rfl
theorem IK {l:List ai} (hpw:l.Pairwise fun a b=>a.1<b.1) {x:ai} (hx:x∈l):aM (bu l) x.1=some x:=by
 induction l with
 | nil=>cases hx
 | cons y r ih=>
  rw[ae5] at hpw
  show aM ((y.1,y)::bu r) x.1=_
  rw[FY]
  rcases aeP.1 hx with rfl | hx
  ·rw[age rfl]
  ·have:=hpw.1 x hx
   rw[agd (by show ¬x.1=y.1;omega)]
   exact ih hpw.2 hx
theorem wm {l:List ai} {n:Int} {x:ai} (h:aM (bu l) n=some x):x∈l/\x.1=n:=by
 induction l with
 | nil=>cases h
 | cons y r ih=>
  change aM ((y.1,y)::bu r) n=some x at h
  rw[FY] at h
  by_cases e:n=y.1
  ·rw[age e] at h;cases h;exact⟨aeR ..,e.symm⟩
  ·rw[agd e] at h
   exact⟨aeQ _ (ih h).1,(ih h).2⟩
theorem Xk {l:List ai} {n:Int} (h:aM (bu l) n=none) (hpw:l.Pairwise fun a b=>a.1<b.1):∀ x∈l,x.1≠n:=fun x hx e=>by
 subst e
 rw[IK hpw hx] at h;cases h
def WD (day n:Int) (y:ai):aa:=(day,1,0,2,n,[],y.2.2.1,[],(0,0),0,0)
def ZS (day n:Int) (y:ai):aa:=(day,1,0,3,n,[],(0,0),[],(0,0),y.2.2.2.2.2,0)
def ZR (day n:Int) (y:ai):aa:=(day,1,0,4,n,[],(0,0),[],y.2.2.2.2.1,0,0)
def abT (day n:Int) (y:ai):aa:=(day,1,0,1,n,y.2.1,y.2.2.1,y.2.2.2.1,y.2.2.2.2.1,y.2.2.2.2.2,0)
def yu (a b:ah):Bool:= !decide (dK a=dK b)
def q7 (day n:Int) (a b:Option ai):List aa:=
 match a,b with
 | none,none=>[abT day n eC]
 | none,some y=>[abT day n y]
 | some _,none=>[WD day n eC]
 | some x,some y=>(if yu x.2.2.1 y.2.2.1=true then [WD day n y] else [])++((if x.2.2.2.2.2≠y.2.2.2.2.2 then [ZS day n y] else [])++(if yu x.2.2.2.2.1 y.2.2.2.2.1=true then [ZR day n y] else []))
theorem CJ {a b:ah} (ha:0<=a.1/\a.1<=1000000000000000/\0<=a.2/\a.2<=9) (hb:0<=b.1/\b.1<=1000000000000000/\0<=b.2/\b.2<=9):om a b=some (yu a b,()):=by
 unfold om yu
 rw[vM ha.1 ha.2.1 ha.2.2.1 ha.2.2.2,afO,vM hb.1 hb.2.1 hb.2.2.1 hb.2.2.2,afO]
 have:(((dK a,()):ah×Unit).1.1==((dK b,()):ah×Unit).1.1&&(((dK a,()):ah×Unit).1.2==((dK b,()):ah×Unit).1.2&&true))=decide (dK a=dK b):=by
  generalize dK a=p
  generalize dK b=q
  obtain⟨p1,p2⟩:=p
  obtain⟨q1,q2⟩:=q
  simp only[Prod.mk.injEq,adi]
  by_cases h1:p1=q1<;>by_cases h2:p2=q2<;>simp[h1,h2]
 rw[this]
structure SD (x:ai):Prop where
 q:0<=x.2.2.1.1/\x.2.2.1.1<=1000000000000000/\0<=x.2.2.1.2/\x.2.2.1.2<=9
 p:0<=x.2.2.2.2.1.1/\x.2.2.2.2.1.1<=1000000000000000/\0<=x.2.2.2.2.1.2/\x.2.2.2.2.1.2<=9
end Go.Md
namespace Go.Md
open Go.Dn
theorem Ml (day n:Int) (a b:Option ai) (ha:∀ x,a=some x->SD x) (hb:∀ x,b=some x->SD x): iM (a.getD eC) (b.getD eC) a.isSome b.isSome (vq day n)=some (q7 day n a b,()):=by
 cases a with
 | none=>cases b<;>rfl
 | some x=>
  cases b with
  | none=>rfl
  | some y=>
   have hx:=ha x rfl
   have hy:=hb y rfl
   obtain⟨x1,x2,x3,x4,x5,x6⟩:=x
   obtain⟨y1,y2,y3,y4,y5,y6⟩:=y
   have e1:=CJ (a:=x3) (b:=y3) hx.q hy.q
   have e2:=CJ (a:=x5) (b:=y5) hx.p hy.p
   simp only[q7]
   obtain⟨d1,hd1⟩:∃ d,d=yu x3 y3:=⟨_,rfl⟩
   obtain⟨d2,hd2⟩:∃ d,d=yu x5 y5:=⟨_,rfl⟩
   rw[<- hd1] at e1 ⊢
   rw[<- hd2] at e2 ⊢
   unfold iM
   simp only[Option.isSome_some,afP,ads,af1,e1,afO]
   by_cases h6:x6=y6
   ·subst h6
    cases d1<;>cases d2<;>simp[aR,chk,e2,WD,ZS,ZR,vq,maxLen]
   ·have hb6:(x6 != y6)=true:=cr h6
    cases d1<;>cases d2<;>simp[aR,chk,e2,WD,ZS,ZR,vq,maxLen,h6,hb6]
end Go.Md
namespace Go.Md
open Go.Dn
def Ow (d:aa) (n:Int):aa:=(d.1,d.2.1,n,d.2.2.2)
def gE:Nat->List aa->List aa
 | _,[]=>[]
 | k,d::r=>Ow d ((k:Int)+1)::gE (k+1) r
theorem KS:∀ (l acc:List aa),fY acc l=acc++gE acc.length l
 | [],acc=>by rw[fY,gE,adU]
 | d::r,acc=>by
  rw[fY,KS r,aev,aeG,adT]
  rfl
theorem vA:∀ (l:List aa) (k:Nat),(gE k l).length=l.length
 | [],_=>rfl
 | d::r,k=>by rw[gE,aew,vA r,aew]
theorem IQ:∀ (l m:List aa) (k:Nat),gE k (l++m)=gE k l++gE (k+l.length) m
 | [],_,_=>rfl
 | d::r,m,k=>by
  rw[adV,gE,IQ r m,gE,adV,aew,show k+1+r.length=k+(r.length+1) by omega]
def LB (a b:List (Int×ai)) (day:Int) (K:List Int):List aa:=K.flatMap fun n=>q7 day n (aM a n) (aM b n)
theorem Qd {a b:List (Int×ai)} {day:Int} (ha:∀ n x,aM a n=some x->SD x) (hb:∀ n x,aM b n=some x->SD x):∀ (K:List Int) (acc:List aa),iR a b day K acc=some (acc++gE acc.length (LB a b day K))
 | [],acc=>by rw[iR];show _=some (acc++gE _ []);rw[gE,adU]
 | n::r,acc=>by
  rw[iR,Ml day n _ _ (ha n) (hb n),afO]
  show iR a b day r (fY acc (q7 day n (aM a n) (aM b n)))=_
  rw[Qd ha hb r,KS,adT,aev,vA]
  show _=some (acc++gE acc.length (q7 day n (aM a n) (aM b n)++LB a b day r))
  rw[IQ]
theorem ZP (day n:Int) (a b:Option ai):(q7 day n a b).length<=3:=by
 cases a<;>cases b<;>simp only[q7,aeG,aev]
 ·omega
 ·omega
 ·omega
 ·split<;>split<;>split<;>simp
theorem SQ (a b:List (Int×ai)) (day:Int):∀ (K:List Int),(LB a b day K).length<=3*K.length
 | []=>aft _
 | n::r=>by
  have h1:=ZP day n (aM a n) (aM b n)
  have h2:=SQ a b day r
  show (q7 day n (aM a n) (aM b n)++LB a b day r).length<=_
  rw[aev,aew]
  omega
theorem Zk {d:ah} {z:Bool} (h:qOk d z=true):0<=d.1/\d.1<=1000000000000000/\0<=d.2/\d.2<=9:=by
 have h1:inR d 0 1000000000 3=true:=by
  unfold qOk at h
  rw[adf] at h
  exact h.1
 have h2:=agl h1
 obtain⟨hd,hp,h0,h3⟩:=h2
 refine ri ?_
 refine af6 ⟨hd,by omega,h0,h3⟩
structure jB (o:aj):Prop where
 day:1<=bZ o/\bZ o<=3652059
 len:(aS o).length<=500
 ne:aS o≠[]
 line:∀ x,x∈aS o->cK x.2.1=true/\qOk x.2.2.1 false=true/\cK x.2.2.2.1=true/\inR x.2.2.2.2.1 0 1000000000 4=true/\(1<=x.1/\x.1<=99999)/\(bZ o<=x.2.2.2.2.2/\x.2.2.2.2.2<=3652059)
 srt:(aS o).Pairwise fun a b=>a.1<b.1
theorem N6 {o:aj} (h:dP o=0):jB o:=by
 obtain⟨h1,_,h3,h4,h5,_⟩:=oI h
 obtain⟨h6,_,h7⟩:=jY h5
 exact⟨h1,h3,h4,h6,h7⟩
theorem jB.ln {o:aj} (h:jB o):∀ n x,aM (bu (aS o)) n=some x->SD x:=fun n x hx=>by
 obtain⟨hm,_⟩:=wm hx
 obtain⟨_,q,_,p,_⟩:=h.line x hm
 exact⟨Zk q,ri p⟩
theorem jB.nd {o:aj} (h:jB o):((bu (aS o)).map (·.1)).Nodup:=by
 rw[aeL]
 exact List.Pairwise.map _ (fun a b (h:a.1<b.1) e=>by
  have e':a.1=b.1:=e
  omega) h.srt
theorem jB.keys {o:aj} (h:jB o):mK (bu (aS o))=true:=by
 unfold mK
 simp only[adf,af7,adQ]
 refine⟨by rw[aeA];have:=h.len;omega,fun p hp=> ?_,h.nd⟩
 obtain⟨x,hx,rfl⟩:=aeV.1 hp
 have:=(h.line x hx).2.2.2.2.1
 exact⟨by show -9223372036854775808<=x.1;omega,by show x.1<=9223372036854775807;omega⟩
theorem jB.ndK {o:aj} (h:jB o):TP (bu (aS o))=true:=af6 h.nd
def rO (was is:aj):Prop:=was.1=is.1/\was.2.1=is.2.1/\was.2.2.1=is.2.2.1
abbrev ko (was is:aj):List aa:=gE 0 (LB (bu (aS was)) (bu (aS is)) (bZ is) (dS (bu (aS was)) (bu (aS is))))
open Classical in
noncomputable def fX (was is:aj):List aa×Int:=
 if dP was≠0 then ([],dP was) else if dP is≠0 then ([],dP is) else if ¬rO was is then ([],12) else if iq (bu (aS was)) (bu (aS is))=true then ([],12)
 else if bZ is<bZ was then ([],8) else if eY (ko was is)≠0 then ([],eY (ko was is)) else (ko was is,0)
theorem XW (a b:List (Int×ai)):(dS a b).length<=a.length+b.length:=by
 unfold dS
 rw[aeB,aev,aeA]
 have:=aez (fun n=> !(a.any fun p=>p.1==n)) (b.map (·.1))
 rw[aeA] at this
 omega
theorem Mj (was is:aj):jZ was is=some ((fX was is).1,(fX was is).2,()):=by
 unfold jZ fX
 rw[iU,afO]
 dsimp only
 by_cases h1:dP was=0
 rotate_left
 ·rw[cr h1,af2,age h1]
 rw[show (dP was != 0)=false by simp[h1],af1,agd (fun e=>e h1),iU,afO]
 dsimp only
 by_cases h2:dP is=0
 rotate_left
 ·rw[cr h2,af2,age h2]
 have o1:=N6 h1
 have o2:=N6 h2
 rw[show (dP is != 0)=false by simp[h2],af1,agd (fun e=>e h2),GK o1.len o1.srt,afO,GK o2.len o2.srt,afO]
 dsimp only
 by_cases h3:rO was is
 rotate_left
 ·rw[age h3]
  have:(!(was.1==is.1)||(!(was.2.1==is.2.1)|| !(was.2.2.1==is.2.2.1)))=true:=by
   cases h5:(!(was.1==is.1)||(!(was.2.1==is.2.1)|| !(was.2.2.1==is.2.2.1))) with
   | true=>rfl
   | false=>
    simp only[adt,ado,afY] at h5
    exact absurd h5 h3
  rw[this,af2]
 rw[agd (fun e=>e h3),show (!(was.1==is.1)||(!(was.2.1==is.2.1)|| !(was.2.2.1==is.2.2.1)))=false by simp[h3.1,h3.2.1,h3.2.2],af1,o1.ndK,o2.ndK,o1.keys,o2.keys]
 show chk true _=_
 rw[cA rfl]
 cases h4:iq (bu (aS was)) (bu (aS is)) with
 | true=>rw[af2,age rfl]
 | false=>
  rw[af1,agd adm]
  by_cases h5:bZ is<bZ was
  ·rw[age h5,show decide (is.2.2.2.1<was.2.2.2.1)=true from af6 h5,af2]
  ·rw[agd h5,show decide (is.2.2.2.1<was.2.2.2.1)=false from af4 h5,af1,Qd o1.ln o2.ln,afO,ae2]
   show chk (decide ((ko was is).length<=1000000)) (Option.bind (dL (ko was is)) _)=_
   have hlen:(ko was is).length<=1000000:=by
    have q1:=SQ (bu (aS was)) (bu (aS is)) (bZ is) (dS (bu (aS was)) (bu (aS is)))
    have q2:=XW (bu (aS was)) (bu (aS is))
    rw[aeA,aeA] at q2
    have q3:=o1.len
    have q4:=o2.len
    rw[vA]
    omega
   rw[af6 hlen,cA rfl,xD,afO]
   dsimp only
   by_cases h6:eY (ko was is)=0
   ·rw[show (eY (ko was is) != 0)=false by simp[h6],af1,agd (fun e=>e h6)]
    rfl
   ·rw[cr h6,af2,age h6]
end Go.Md
namespace Go.Md
open Go.Dn
end Go.Md
namespace Go.Md
open Go.Dn
end Go.Md
namespace Go.Md
open Go.Dn
end Go.Md
namespace Go.Md
open Go.Dn
end Go.Md
namespace Go.Md
open Go.Dn
theorem NW {a b:List (Int×ai)} {n:Int}:n∈dS a b↔n∈a.map (·.1)\/n∈b.map (·.1):=by
 unfold dS
 rw[(ae1 _ _).mem_iff,aeM,aeS]
 constructor
 ·rintro (h | h)
  ·exact .inl h
  ·exact .inr h.1
 ·rintro (h | h)
  ·exact .inl h
  ·by_cases h2:n∈a.map (·.1)
   ·exact .inl h2
   ·refine .inr ⟨h, ?_⟩
    simp only[adq,adR,afY]
    exact fun p hp e=>h2 (aeV.2 ⟨p,hp,e⟩)
theorem QF:∀ {l:List aa} {k:Nat} {d:aa},d∈gE k l->∃ e∈l,∃ m,d=Ow e m
 | [],_,_,h=>by cases h
 | x::r,k,d,h=>by
  rw[gE] at h
  rcases aeP.1 h with rfl | h
  ·exact⟨x,aeR ..,_,rfl⟩
  ·obtain⟨e,he,m,h2⟩:=QF h
   exact⟨e,aeQ _ he,m,h2⟩
end Go.Md
namespace Go.Md
open Go.Dn
theorem Nj {d:ah} (h0:0<=d.2) (h9:d.2<=9):fS (dK d)=fS d:=by
 obtain⟨z,p⟩:=d
 dsimp only at h0 h9
 obtain⟨k,rfl⟩:∃ k:Nat,p=(k:Int):=⟨p.toNat,by omega⟩
 obtain⟨h1,h2,_⟩:=EE k z
 unfold fS dK
 dsimp only
 rw[adN]
 have e1:((9:Int) - (k:Int)).toNat=9 - k:=by omega
 have e2:((9:Int) - ((few k z).2:Int)).toNat=(k - (few k z).2)+(9 - k):=by omega
 rw[e1,e2,adH, <- adz,h2]
section
variable {was is:aj}
abbrev laW (was:aj):=bu (aS was)
abbrev cgL (was is:aj) (n:Int):List aa:=q7 (bZ is) n (aM (laW was) n) (aM (laW is) n)
theorem aa0 {d:aa} (h:d∈ko was is):∃ n∈dS (laW was) (laW is),∃ e∈cgL was is n,∃ m,d=Ow e m:=by
 obtain⟨e,he,m,h2⟩:=QF h
 obtain⟨n,hn,h3⟩:=List.mem_flatMap.1 he
 exact⟨n,hn,e,h3,m,h2⟩
end
end Go.Md
namespace Go.Md
open Go.Dn
section
variable {was is:aj}
end
end Go.Md
namespace Go.Md
open Go.Dn
section
variable {was is:aj}
end
theorem SM {was is:aj} (h:(fX was is).2≠0):(fX was is).1=[]:=by
 unfold fX at h ⊢
 split
 ·rfl
 ·split
  ·rfl
  ·split
   ·rfl
   ·split
    ·rfl
    ·split
     ·rfl
     ·split
      ·rfl
      ·rename_i h1 h2 h3 h4 h5 h6
       rw[agd h1,agd h2,agd h3,agd h4,agd h5,agd h6] at h
       exact absurd rfl h
theorem Rn {was is:aj} (h:(fX was is).2=0):(fX was is).1=ko was is/\dP was=0/\dP is=0/\iq (bu (aS was)) (bu (aS is))=false/\bZ was<=bZ is/\eY (ko was is)=0:=by
 unfold fX at h ⊢
 by_cases h1:dP was≠0
 ·rw[age h1] at h;exact absurd h h1
 rw[agd h1] at h ⊢
 by_cases h2:dP is≠0
 ·rw[age h2] at h;exact absurd h h2
 rw[agd h2] at h ⊢
 by_cases h3:¬rO was is
 ·rw[age h3] at h;cases h
 rw[agd h3] at h ⊢
 by_cases h4:iq (bu (aS was)) (bu (aS is))=true
 ·rw[age h4] at h;cases h
 rw[agd h4] at h ⊢
 by_cases h5:bZ is<bZ was
 ·rw[age h5] at h;cases h
 rw[agd h5] at h ⊢
 by_cases h6:eY (ko was is)≠0
 ·rw[age h6] at h;exact absurd h h6
 rw[agd h6] at h ⊢
 exact⟨rfl,adw.1 h1,adw.1 h2,by simpa using h4,by omega,adw.1 h6⟩
end Go.Md
