/-
  The plain models of the functions that the law reaches, fifth part: the readers of an invoice. No condition.
-/
import Derived.Test.YtjlkkapojeldlabGreatDoorYu
import Derived.Test.YtjlkkapojeldlabGreatDoorYg
import Derived.Test.YtjlkkapojeldlabGreatDoorYt
set_option linter.all false
noncomputable section
namespace Go.Md
open Go.Dn
noncomputable section
def rP (a0:Bys):Option (Bys×Unit):=
 bif a0==[45] then
  some ([],())
 else
  some (a0,())
def bD (a0:(List Bys)×Bool×Unit):Option (Bys×((List Bys)×Bool×Unit)×Unit):=
 bif ((a0.1.length:Int))==0 then
  some ([],(a0.1,true,()),())
 else
  (idx a0.1 0).bind fun y1=>
  chk (decide (0<=(1:Int))&&decide ((1:Int)<=((a0.1.length:Int)))&&decide (((a0.1.length:Int))<=(a0.1.length:Int))) <|
  some (y1,(List.drop 1 (List.take (Int.toNat ((a0.1.length:Int))) a0.1),a0.2.1,()),())
def bK (a0:(List Bys)×Bool×Unit):Option (Int×((List Bys)×Bool×Unit)×Unit):=
 (bD (a0.1,a0.2.1,())).bind fun r1=>
 (oC r1.1 16).bind fun r2=>
 bif r1.2.1.2.1 then
  some (r2.1,(r1.2.1.1,true,()),())
 else
  some (r2.1,(r1.2.1.1, !r2.2.1,()),())
def bQ (a0:(List Bys)×Bool×Unit):Option (ah×((List Bys)×Bool×Unit)×Unit):=
 (bD (a0.1,a0.2.1,())).bind fun r1=>
 (l7 r1.1).bind fun r2=>
 bif r1.2.1.2.1 then
  some (r2.1,(r1.2.1.1,true,()),())
 else
  some (r2.1,(r1.2.1.1,r2.2.1 != 0,()),())
def dR (a0:(List Bys)×Bool×Unit) (a1:Bys):Option (Bool×((List Bys)×Bool×Unit)×Unit):=
 (
  bif ((a0.1.length:Int))==1 then
   Option.bind (idx a0.1 0) fun y1=>
   some (y1==a1,())
  else
   some (false,())).bind fun v2=>
 bif v2.1 then
  some (true,([],a0.2.1,()),())
 else
  some (false,(a0.1,a0.2.1,()),())
def cg (a0:(List Bys)×Bool×Unit):Option (Bool×((List Bys)×Bool×Unit)×Unit):=
 (
  bif !a0.2.1 then
   some (((a0.1.length:Int))==0,())
  else
   some (false,())).bind fun v1=>
 some (v1.1,(a0.1,a0.2.1,()),())
def zI:aa:=([],[],0,0,0,false,[],[],[])
def DW:List ai->aJ->List ai
 | [],_=>[]
 | [l],x=>[(l.1,l.2.1,l.2.2.1,l.2.2.2.1,l.2.2.2.2.1,l.2.2.2.2.2.1,l.2.2.2.2.2.2.1,l.2.2.2.2.2.2.2.1++[x],l.2.2.2.2.2.2.2.2)]
 | l::m::r,x=>l::DW (m::r) x
def zo (s:Bys):Bys:=bif s==[45] then [] else s
def F7 (w:List Bys):Option aa:=
 bif (w.length==6||(w.length==7&&w.getD 6 []==[112,101,114,108,105,110,101]))&&(cD (w.getD 3 [])&&(cD (w.getD 4 [])&&cD (w.getD 5 []))) then
  some (w.getD 1 [],w.getD 2 [],bL (w.getD 3 []),bL (w.getD 4 []),bL (w.getD 5 []),w.length==7,[],[],[]) else none
def GD (w:List Bys):Option aC:=
 bif w.length==3&&(fm (w.getD 2 [])).2==0 then some (w.getD 1 [],(fm (w.getD 2 [])).1) else none
def DH (w:List Bys):Option ai:=
 bif w.length==9&&(cD (w.getD 1 [])&&(cD (w.getD 2 [])&&((fm (w.getD 4 [])).2==0&&((fm (w.getD 6 [])).2==0&&cD (w.getD 7 []))))) then
  some (bL (w.getD 1 []),bL (w.getD 2 []),w.getD 3 [],(fm (w.getD 4 [])).1,w.getD 5 [],(fm (w.getD 6 [])).1,bL (w.getD 7 []),[],w.getD 8 []) else none
def FI (w:List Bys):Option aJ:=
 bif (w.length==2||(w.length==3&&w.getD 2 []==[112,101,114,99,101,110,116]))&&(fm (w.getD 1 [])).2==0 then
  some (w.length==3,(fm (w.getD 1 [])).1,[]) else none
def EW (w:List Bys):Option aJ:=
 bif (w.length==3||(w.length==4&&w.getD 3 []==[112,101,114,99,101,110,116]))&&(fm (w.getD 1 [])).2==0 then
  some (w.length==4,(fm (w.getD 1 [])).1,zo (w.getD 2 [])) else none
def kU (v:aa) (r:aC):aa:=(v.1,v.2.1,v.2.2.1,v.2.2.2.1,v.2.2.2.2.1,v.2.2.2.2.2.1,v.2.2.2.2.2.2.1++[r],v.2.2.2.2.2.2.2.1,v.2.2.2.2.2.2.2.2)
def addLine (v:aa) (l:ai):aa:=(v.1,v.2.1,v.2.2.1,v.2.2.2.1,v.2.2.2.2.1,v.2.2.2.2.2.1,v.2.2.2.2.2.2.1,v.2.2.2.2.2.2.2.1++[l],v.2.2.2.2.2.2.2.2)
def qi (v:aa) (x:aJ):aa:=(v.1,v.2.1,v.2.2.1,v.2.2.2.1,v.2.2.2.2.1,v.2.2.2.2.2.1,v.2.2.2.2.2.2.1,DW v.2.2.2.2.2.2.2.1 x,v.2.2.2.2.2.2.2.2)
def fX (v:aa) (x:aJ):aa:=(v.1,v.2.1,v.2.2.1,v.2.2.2.1,v.2.2.2.2.1,v.2.2.2.2.2.1,v.2.2.2.2.2.2.1,v.2.2.2.2.2.2.2.1,v.2.2.2.2.2.2.2.2++[x])
def rdV (v:aa) (first:Bool) (w:List Bys):Option aa:=
 bif first then (bif w.headD []==[105,110,118,111,105,99,101] then F7 w else none)
 else bif w.headD []==[114,97,116,101]&&(v.2.2.2.2.2.2.2.1.isEmpty&&v.2.2.2.2.2.2.2.2.isEmpty) then (GD w).map (kU v)
 else bif w.headD []==[108,105,110,101]&&v.2.2.2.2.2.2.2.2.isEmpty then (DH w).map (addLine v)
 else bif w.headD []==[101,120,116,114,97]&&(!v.2.2.2.2.2.2.2.1.isEmpty&&v.2.2.2.2.2.2.2.2.isEmpty) then (FI w).map (qi v)
 else bif w.headD []==[97,108,108] then (EW w).map (fX v)
 else none
def rdI (v:aa) (first:Bool) (s:Bys):Option aa:=bif pU (bp 32 s) then rdV v first (bp 32 s) else none
def wR (e:Bool):List Bys->Nat->aa->aa ⊕ Nat
 | [],_,v=> .inl v
 | s::r,i,v=>match rdI v (i==0) s with
  | none=> .inr (i+1)
  | some b=>bif !e&&r.isEmpty then .inr (i+1) else wR e r (i+1) b
def yU:Nat->Bys->Nat->aa->aa ⊕ Nat
 | 0,_,_,v=> .inl v
 | f+1,t,n,v=>bif t==[] then .inl v else (match rdI v (n==1) (ef 10 t).1 with
  | none=> .inr n
  | some b=>bif (ef 10 t).2.2 then yU f (ef 10 t).2.1 (n+1) b else .inr n)
def uE (t:Bys):Option (aa×Int×Int×Unit):=
 bif decide ((300000:Int)<t.length) then some (zI,0,2,()) else
 (n7 t).bind fun r=>
 bif r.1.isEmpty then some (zI,1,10,()) else
 match wR r.2.1 r.1 0 zI with
 | .inr n=>some (zI,(n:Int),10,())
 | .inl v=>(gj v).bind fun q=>bif q.1 != 0 then some (zI,0,q.1,()) else some (v,0,0,())
def wU (t:Bys):Option (aa×Int×Int×Unit):=
 bif decide ((300000:Int)<t.length) then some (zI,0,2,()) else
 bif t==[] then some (zI,1,10,()) else
 match yU t.length t 1 zI with
 | .inr n=>some (zI,(n:Int),10,())
 | .inl v=>(gX v).bind fun q=>bif q.1 != 0 then some (zI,0,q.1,()) else some (v,0,0,())
def jy (a0:Bys):Option (Bool×Unit):=
 (uE a0).bind fun r1=>
 (wU a0).bind fun r2=>
 (
  bif r1.2.2.1==r2.2.2.1 then
   bif r1.2.1==r2.2.1 then
    Option.bind (wV r1.1 r2.1) fun r3=>
    bif r3.1 then
     Option.bind (Ga) fun r4=>
     some (r4.1,())
    else
     some (false,())
   else
    some (false,())
  else
   some (false,())).bind fun v5=>
 some (v5.1,())
end
end Go.Md
namespace Go.Md
open Go.Dn
theorem ox (l:List Bys) (b:Bool):bD (l,b,())=some (l.headD [],(l.tail,b||l.isEmpty,()),()):=by
 unfold bD
 cases l with
 | nil=>simp
 | cons x r=>
  have e:(((x::r).length:Int)==0)=false:=abH (by simp only[aal];omega)
  dsimp only
  rw[e,abK,show idx (x::r) 0=some x from rfl,abx,bJ (by simp only[aal,YX,abP];omega)]
  simp
theorem rH (l:List Bys) (b:Bool):bK (l,b,())=some (bL (l.headD []),(l.tail,(b||l.isEmpty)|| !cD (l.headD []),()),()):=by
 unfold bK
 dsimp only
 rw[ox,abx,Ok,abx]
 dsimp only
 cases (b||l.isEmpty)<;>rfl
theorem sO (l:List Bys) (b:Bool) (h:(l.headD []).length<=1000000):bQ (l,b,())=some ((fm (l.headD [])).1,(l.tail,(b||l.isEmpty)||(fm (l.headD [])).2 != 0,()),()):=by
 unfold bQ
 dsimp only
 rw[ox,abx,EX _ h,abx]
 dsimp only
 cases (b||l.isEmpty)<;>rfl
theorem Jb (l:List Bys) (b:Bool) (s:Bys):dR (l,b,()) s=some (l==[s],(bif l==[s] then [] else l,b,()),()):=by
 unfold dR
 match l with
 | []=>rfl
 | [x]=>
  show ((Option.bind (some x) fun y1=>some (y1==s,())).bind fun v2=>bif v2.1 then some (true,([],b,()),()) else some (false,([x],b,()),()))=_
  rw[abx,abx]
  have e:([x]==[s])=(x==s):=by simp
  rw[e]
  cases x==s<;>rfl
 | x::y::r=>
  have e:(((x::y::r).length:Int)==1)=false:=abH (by simp only[aal];omega)
  dsimp only
  rw[e,abK,abx]
  have e2:((x::y::r)==[s])=false:=by simp
  rw[e2]
  rfl
theorem xU (l:List Bys) (b:Bool):cg (l,b,())=some (!b&&l.isEmpty,(l,b,()),()):=by
 unfold cg
 dsimp only
 cases b with
 | true=>rfl
 | false=>
  rw[Zd,abL,abx]
  cases l with
  | nil=>rfl
  | cons x r=>
   have e:(((x::r).length:Int)==0)=false:=abH (by simp only[aal];omega)
   rw[e];rfl
theorem vf {r:List Bys} (h:∀ w∈r,w.length<=1000000):(r.headD []).length<=1000000:=by
 cases r with
 | nil=>exact abw _
 | cons x _=>exact h x (by simp)
theorem mh {r:List Bys} (h:∀ w∈r,w.length<=1000000):∀ w∈r.tail,w.length<=1000000:=fun w hw=>h w (List.mem_of_mem_tail hw)
theorem cH:cD []=false:=rfl
theorem cI:((fm []).2==0)=false:=rfl
theorem TO (w0:Bys) (r:List Bys) (h:∀ w∈r,w.length<=1000000):∃ s1 d q1 q2 q3 ok,bD (r,false,())=some (s1,q1,())/\bQ q1=some (d,q2,())/\cg q2=some (ok,q3,())/\GD (w0::r)=bif ok then some (s1,d) else none:=by
 refine⟨_,_,_,_,_,_,ox _ _,sO _ _ (vf (mh h)),xU _ _, ?_⟩
 unfold GD
 match r with
 | []=>simp[bne,cH,cI]
 | [a]=>simp[bne,cH,cI]
 | [a,b]=>simp[bne,cH,cI]
 | a::b::c::t=>simp[bne,cH,cI]
theorem Tv (w0:Bys) (r:List Bys) (h:∀ w∈r,w.length<=1000000):∃ n1 n2 s1 d1 s2 d2 n3 s3 q1 q2 q3 q4 q5 q6 q7 q8 q9 ok,bK (r,false,())=some (n1,q1,())/\bK q1=some (n2,q2,())/\bD q2=some (s1,q3,())/\bQ q3=some (d1,q4,())/\bD q4=some (s2,q5,())/\bQ q5=some (d2,q6,())/\bK q6=some (n3,q7,())/\bD q7=some (s3,q8,())/\cg q8=some (ok,q9,())/\ DH (w0::r)=bif ok then some (n1,n2,s1,d1,s2,d2,n3,[],s3) else none:=by
 refine⟨_,_,_,_,_,_,_,_,_,_,_,_,_,_,_,_,_,_,rH _ _,rH _ _,ox _ _,sO _ _ (vf (mh (mh (mh h)))),ox _ _,sO _ _ (vf (mh (mh (mh (mh (mh h)))))),rH _ _,ox _ _,xU _ _, ?_⟩
 unfold DH
 match r with
 | []=>simp[bne,cH,cI]
 | [a]=>simp[bne,cH,cI]
 | [a,b]=>simp[bne,cH,cI]
 | [a,b,c]=>simp[bne,cH,cI]
 | [a,b,c,d]=>simp[bne,cH,cI]
 | [a,b,c,d,e]=>simp[bne,cH,cI]
 | [a,b,c,d,e,f]=>simp[bne,cH,cI]
 | [a,b,c,d,e,f,g]=>simp[bne,cH,cI]
 | [a,b,c,d,e,f,g,i]=>simp[YW,bne,cH,cI]
 | a::b::c::d::e::f::g::i::j::t=>simp[bne,cH,cI]
theorem Oj (w0:Bys) (r:List Bys):∃ s1 s2 n1 n2 n3 pl q1 q2 q3 q4 q5 q6 q7 ok,bD (r,false,())=some (s1,q1,())/\bD q1=some (s2,q2,())/\bK q2=some (n1,q3,())/\bK q3=some (n2,q4,())/\bK q4=some (n3,q5,())/\dR q5 [112,101,114,108,105,110,101]=some (pl,q6,())/\cg q6=some (ok,q7,())/\ F7 (w0::r)=bif ok then some (s1,s2,n1,n2,n3,pl,[],[],[]) else none:=by
 refine⟨_,_,_,_,_,_,_,_,_,_,_,_,_,_,ox _ _,ox _ _,rH _ _,rH _ _,rH _ _,Jb _ _ _,xU _ _, ?_⟩
 unfold F7
 match r with
 | []=>simp[bne,cH,cI]
 | [a]=>simp[bne,cH,cI]
 | [a,b]=>simp[bne,cH,cI]
 | [a,b,c]=>simp[bne,cH,cI]
 | [a,b,c,d]=>simp[bne,cH,cI]
 | [a,b,c,d,e]=>simp[YW,bne,cH,cI]
 | [a,b,c,d,e,f]=>
  by_cases hf:f=[112,101,114,108,105,110,101]
  ·subst hf;simp[YW,bne]
  ·have e1:(f==[112,101,114,108,105,110,101])=false:=abH hf
   simp[e1,bne]
 | a::b::c::d::e::f::g::t=>simp[bne,cH,cI]
theorem Q6 (w0:Bys) (r:List Bys) (h:∀ w∈r,w.length<=1000000):∃ d pl q1 q2 q3 ok,bQ (r,false,())=some (d,q1,())/\dR q1 [112,101,114,99,101,110,116]=some (pl,q2,())/\cg q2=some (ok,q3,())/\FI (w0::r)=bif ok then some (pl,d,[]) else none:=by
 refine⟨_,_,_,_,_,_,sO _ _ (vf h),Jb _ _ _,xU _ _, ?_⟩
 unfold FI
 match r with
 | []=>simp[bne,cH,cI]
 | [a]=>simp[bne,cH,cI]
 | [a,b]=>
  by_cases hf:b=[112,101,114,99,101,110,116]
  ·subst hf;simp[bne]
  ·have e1:=abH hf
   simp[e1,bne]
 | a::b::c::t=>simp[bne,cH,cI]
theorem Ue (w0:Bys) (r:List Bys) (h:∀ w∈r,w.length<=1000000):∃ d s1 t pl q1 q2 q3 q4 ok,bQ (r,false,())=some (d,q1,())/\bD q1=some (s1,q2,())/\rP s1=some (t,())/\dR q2 [112,101,114,99,101,110,116]=some (pl,q3,())/\cg q3=some (ok,q4,())/\EW (w0::r)=bif ok then some (pl,d,t) else none:=by
 have hu:∀ s,rP s=some (zo s,()):=fun s=>by
  unfold rP zo
  cases s==[45]<;>rfl
 refine⟨_,_,_,_,_,_,_,_,_,sO _ _ (vf h),ox _ _,hu _,Jb _ _ _,xU _ _, ?_⟩
 unfold EW
 match r with
 | []=>simp[bne,cH,cI]
 | [a]=>simp[bne,cH,cI]
 | [a,b]=>simp[bne,cH,cI]
 | [a,b,c]=>
  by_cases hf:c=[112,101,114,99,101,110,116]
  ·subst hf;simp[bne]
  ·have e1:=abH hf
   simp[e1,bne]
 | a::b::c::d::t=>simp[bne,cH,cI]
end Go.Md
namespace Go.Md
open Go.Dn
def SP (i:Nat) (v:aa):Prop:=v.2.2.2.2.2.2.1.length<=i/\v.2.2.2.2.2.2.2.1.length<=i/\v.2.2.2.2.2.2.2.2.length<=i/\∀ l∈v.2.2.2.2.2.2.2.1,l.2.2.2.2.2.2.2.1.length<=i
theorem wA {α:Type} {c:Bool} {x y:Option α} {z:α} (h:(bif c then x else y)=some z):x=some z\/y=some z:=by
 cases c with
 | false=>exact .inr h
 | true=>exact .inl h
theorem Na {α:Type} {c:Bool} {x y:α} (h:(bif c then some x else none)=some y):x=y:=by
 cases c with
 | false=>cases h
 | true=>exact Option.some.inj h
theorem Qj (i:Nat) (x:aJ):∀ l:List ai,(∀ p∈l,p.2.2.2.2.2.2.2.1.length<=i)->(DW l x).length=l.length/\∀ p∈DW l x,p.2.2.2.2.2.2.2.1.length<=i+1
 | [],_=>⟨rfl,fun p hp=>by cases hp⟩
 | [p],h=>⟨rfl,fun q hq=>by
  have:=h p (by simp)
  rw[aaF.1 hq]
  simp only[aak,aar];omega⟩
 | p::q::r,h=>by
  obtain⟨h1,h2⟩:=Qj i x (q::r) fun x hx=>h x (by simp at hx ⊢;exact .inr hx)
  refine⟨by rw[DW,aal,h1];rfl,fun x hx=> ?_⟩
  rcases aaw.1 hx with rfl | hx
  ·have:=h x (by simp);omega
  ·exact h2 x hx
theorem SH {v v':aa} {f:Bool} {s:Bys} {i:Nat} (h:rdI v f s=some v') (hb:SP i v):SP (i+1) v':=by
 obtain⟨h1,h2,h3,h4⟩:=hb
 unfold rdI at h
 rcases wA h with h | h
 ·unfold rdV at h
  rcases wA h with h | h
  ·rcases wA h with h | h
   ·unfold F7 at h
    have:=Na h
    subst this
    exact⟨abw _,abw _,abw _,fun l hl=>by cases hl⟩
   ·cases h
  ·rcases wA h with h | h
   ·obtain⟨x,hx,rfl⟩:=abB.1 h
    exact⟨by simp only[kU,aak,aar];omega,abe h2,abe h3,fun l hl=>abe (h4 l hl)⟩
   ·rcases wA h with h | h
    ·obtain⟨x,hx,rfl⟩:=abB.1 h
     have hx0:x.2.2.2.2.2.2.2.1.length=0:=by
      unfold DH at hx
      have:=Na hx
      subst this
      rfl
     refine⟨abe h1,by simp only[addLine,aak,aar];omega,abe h3,fun l hl=> ?_⟩
     rcases aav.1 hl with hl | hl
     ·exact abe (h4 l hl)
     ·rw[aaF.1 hl,hx0];exact abw _
    ·rcases wA h with h | h
     ·obtain⟨x,hx,rfl⟩:=abB.1 h
      obtain⟨p1,p2⟩:=Qj i x v.2.2.2.2.2.2.2.1 h4
      exact⟨abe h1,by show (DW v.2.2.2.2.2.2.2.1 x).length<=_;rw[p1];omega,abe h3,p2⟩
     ·rcases wA h with h | h
      ·obtain⟨x,hx,rfl⟩:=abB.1 h
       exact⟨abe h1,abe h2,by simp only[fX,aak,aar];omega,fun l hl=>abe (h4 l hl)⟩
      ·cases h
 ·cases h
end Go.Md
end
