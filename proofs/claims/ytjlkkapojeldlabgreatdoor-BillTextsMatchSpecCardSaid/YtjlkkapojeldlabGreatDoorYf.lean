/-
  The plain models of the functions that the law reaches, fifth part: the readers of an invoice. No condition.
-/
import Derived.Test.YtjlkkapojeldlabGreatDoorYu
import Derived.Test.YtjlkkapojeldlabGreatDoorYg
import Derived.Test.YtjlkkapojeldlabGreatDoorYt
set_option linter.all false
noncomputable section
namespace Go.Md
open Go.Dn
noncomputable section
def sC (a0:Bys):Option (Bys×Unit):=
 bif a0==[45] then
  some ([],())
 else
  some (a0,())
def bC (a0:(List Bys)×Bool×Unit):Option (Bys×((List Bys)×Bool×Unit)×Unit):=
 bif ((a0.1.length:Int))==0 then
  some ([],(a0.1,true,()),())
 else
  (idx a0.1 0).bind fun y1=>
  chk (decide (0<=(1:Int))&&decide ((1:Int)<=((a0.1.length:Int)))&&decide (((a0.1.length:Int))<=(a0.1.length:Int))) <|
  some (y1,(List.drop 1 (List.take (Int.toNat ((a0.1.length:Int))) a0.1),a0.2.1,()),())
def bI (a0:(List Bys)×Bool×Unit):Option (Int×((List Bys)×Bool×Unit)×Unit):=
 (bC (a0.1,a0.2.1,())).bind fun r1=>
 (oG r1.1 16).bind fun r2=>
 bif r1.2.1.2.1 then
  some (r2.1,(r1.2.1.1,true,()),())
 else
  some (r2.1,(r1.2.1.1, !r2.2.1,()),())
def bU (a0:(List Bys)×Bool×Unit):Option (ah×((List Bys)×Bool×Unit)×Unit):=
 (bC (a0.1,a0.2.1,())).bind fun r1=>
 (l7 r1.1).bind fun r2=>
 bif r1.2.1.2.1 then
  some (r2.1,(r1.2.1.1,true,()),())
 else
  some (r2.1,(r1.2.1.1,r2.2.1 != 0,()),())
def dS (a0:(List Bys)×Bool×Unit) (a1:Bys):Option (Bool×((List Bys)×Bool×Unit)×Unit):=
 (
  bif ((a0.1.length:Int))==1 then
   Option.bind (idx a0.1 0) fun y1=>
   some (y1==a1,())
  else
   some (false,())).bind fun v2=>
 bif v2.1 then
  some (true,([],a0.2.1,()),())
 else
  some (false,(a0.1,a0.2.1,()),())
def cm (a0:(List Bys)×Bool×Unit):Option (Bool×((List Bys)×Bool×Unit)×Unit):=
 (
  bif !a0.2.1 then
   some (((a0.1.length:Int))==0,())
  else
   some (false,())).bind fun v1=>
 some (v1.1,(a0.1,a0.2.1,()),())
def zI:ai:=([],[],0,0,0,false,[],[],[])
def Al:List aa->aj->List aa
 | [],_=>[]
 | [l],x=>[(l.1,l.2.1,l.2.2.1,l.2.2.2.1,l.2.2.2.2.1,l.2.2.2.2.2.1,l.2.2.2.2.2.2.1,l.2.2.2.2.2.2.2.1++[x],l.2.2.2.2.2.2.2.2)]
 | l::m::r,x=>l::Al (m::r) x
def EZ (s:Bys):Bys:=bif s==[45] then [] else s
def WQ (w:List Bys):Option ai:=
 bif (w.length==6||(w.length==7&&w.getD 6 []==[112,101,114,108,105,110,101]))&&(iF (w.getD 3 [])&&(iF (w.getD 4 [])&&iF (w.getD 5 []))) then
  some (w.getD 1 [],w.getD 2 [],mX (w.getD 3 []),mX (w.getD 4 []),mX (w.getD 5 []),w.length==7,[],[],[]) else none
def Xx (w:List Bys):Option ak:=
 bif w.length==3&&(eK (w.getD 2 [])).2==0 then some (w.getD 1 [],(eK (w.getD 2 [])).1) else none
def Tb (w:List Bys):Option aa:=
 bif w.length==9&&(iF (w.getD 1 [])&&(iF (w.getD 2 [])&&((eK (w.getD 4 [])).2==0&&((eK (w.getD 6 [])).2==0&&iF (w.getD 7 []))))) then
  some (mX (w.getD 1 []),mX (w.getD 2 []),w.getD 3 [],(eK (w.getD 4 [])).1,w.getD 5 [],(eK (w.getD 6 [])).1,mX (w.getD 7 []),[],w.getD 8 []) else none
def OJ (w:List Bys):Option aj:=
 bif (w.length==2||(w.length==3&&w.getD 2 []==[112,101,114,99,101,110,116]))&&(eK (w.getD 1 [])).2==0 then
  some (w.length==3,(eK (w.getD 1 [])).1,[]) else none
def Ok (w:List Bys):Option aj:=
 bif (w.length==3||(w.length==4&&w.getD 3 []==[112,101,114,99,101,110,116]))&&(eK (w.getD 1 [])).2==0 then
  some (w.length==4,(eK (w.getD 1 [])).1,EZ (w.getD 2 [])) else none
def xE (v:ai) (r:ak):ai:=(v.1,v.2.1,v.2.2.1,v.2.2.2.1,v.2.2.2.2.1,v.2.2.2.2.2.1,v.2.2.2.2.2.2.1++[r],v.2.2.2.2.2.2.2.1,v.2.2.2.2.2.2.2.2)
def addLine (v:ai) (l:aa):ai:=(v.1,v.2.1,v.2.2.1,v.2.2.2.1,v.2.2.2.2.1,v.2.2.2.2.2.1,v.2.2.2.2.2.2.1,v.2.2.2.2.2.2.2.1++[l],v.2.2.2.2.2.2.2.2)
def Hh (v:ai) (x:aj):ai:=(v.1,v.2.1,v.2.2.1,v.2.2.2.1,v.2.2.2.2.1,v.2.2.2.2.2.1,v.2.2.2.2.2.2.1,Al v.2.2.2.2.2.2.2.1 x,v.2.2.2.2.2.2.2.2)
def Bj (v:ai) (x:aj):ai:=(v.1,v.2.1,v.2.2.1,v.2.2.2.1,v.2.2.2.2.1,v.2.2.2.2.2.1,v.2.2.2.2.2.2.1,v.2.2.2.2.2.2.2.1,v.2.2.2.2.2.2.2.2++[x])
def rdV (v:ai) (first:Bool) (w:List Bys):Option ai:=
 bif first then (bif w.headD []==[105,110,118,111,105,99,101] then WQ w else none)
 else bif w.headD []==[114,97,116,101]&&(v.2.2.2.2.2.2.2.1.isEmpty&&v.2.2.2.2.2.2.2.2.isEmpty) then (Xx w).map (xE v)
 else bif w.headD []==[108,105,110,101]&&v.2.2.2.2.2.2.2.2.isEmpty then (Tb w).map (addLine v)
 else bif w.headD []==[101,120,116,114,97]&&(!v.2.2.2.2.2.2.2.1.isEmpty&&v.2.2.2.2.2.2.2.2.isEmpty) then (OJ w).map (Hh v)
 else bif w.headD []==[97,108,108] then (Ok w).map (Bj v)
 else none
def rdI (v:ai) (first:Bool) (s:Bys):Option ai:=bif su (bh 32 s) then rdV v first (bh 32 s) else none
def mY (e:Bool):List Bys->Nat->ai->ai ⊕ Nat
 | [],_,v=> .inl v
 | s::r,i,v=>match rdI v (i==0) s with
  | none=> .inr (i+1)
  | some b=>bif !e&&r.isEmpty then .inr (i+1) else mY e r (i+1) b
def vw (t:Bys):Option (ai×Int×Int×Unit):=
 bif decide ((300000:Int)<t.length) then some (zI,0,2,()) else
 (om t).bind fun r=>
 bif r.1.isEmpty then some (zI,1,10,()) else
 match mY r.2.1 r.1 0 zI with
 | .inr n=>some (zI,(n:Int),10,())
 | .inl v=>(dh v).bind fun q=>bif q.1 != 0 then some (zI,0,q.1,()) else some (v,0,0,())
end
end Go.Md
namespace Go.Md
open Go.Dn
theorem oC (l:List Bys) (b:Bool):bC (l,b,())=some (l.headD [],(l.tail,b||l.isEmpty,()),()):=by
 unfold bC
 cases l with
 | nil=>simp
 | cons x r=>
  have e:(((x::r).length:Int)==0)=false:=afT (by simp only[aez];omega)
  dsimp only
  rw[e,afW,show idx (x::r) 0=some x from rfl,afJ,aC (by simp only[aez,adj,af1];omega)]
  simp
theorem se (l:List Bys) (b:Bool):bI (l,b,())=some (mX (l.headD []),(l.tail,(b||l.isEmpty)|| !iF (l.headD []),()),()):=by
 unfold bI
 dsimp only
 rw[oC,afJ,Re,afJ]
 dsimp only
 cases (b||l.isEmpty)<;>rfl
theorem tG (l:List Bys) (b:Bool) (h:(l.headD []).length<=1000000):bU (l,b,())=some ((eK (l.headD [])).1,(l.tail,(b||l.isEmpty)||(eK (l.headD [])).2 != 0,()),()):=by
 unfold bU
 dsimp only
 rw[oC,afJ,Hi _ h,afJ]
 dsimp only
 cases (b||l.isEmpty)<;>rfl
theorem Ll (l:List Bys) (b:Bool) (s:Bys):dS (l,b,()) s=some (l==[s],(bif l==[s] then [] else l,b,()),()):=by
 unfold dS
 match l with
 | []=>rfl
 | [x]=>
  show ((Option.bind (some x) fun y1=>some (y1==s,())).bind fun v2=>bif v2.1 then some (true,([],b,()),()) else some (false,([x],b,()),()))=_
  rw[afJ,afJ]
  have e:([x]==[s])=(x==s):=by simp
  rw[e]
  cases x==s<;>rfl
 | x::y::r=>
  have e:(((x::y::r).length:Int)==1)=false:=afT (by simp only[aez];omega)
  dsimp only
  rw[e,afW,afJ]
  have e2:((x::y::r)==[s])=false:=by simp
  rw[e2]
  rfl
theorem zg (l:List Bys) (b:Bool):cm (l,b,())=some (!b&&l.isEmpty,(l,b,()),()):=by
 unfold cm
 dsimp only
 cases b with
 | true=>rfl
 | false=>
  rw[adu,afX,afJ]
  cases l with
  | nil=>rfl
  | cons x r=>
   have e:(((x::r).length:Int)==0)=false:=afT (by simp only[aez];omega)
   rw[e];rfl
theorem vX {r:List Bys} (h:∀ w∈r,w.length<=1000000):(r.headD []).length<=1000000:=by
 cases r with
 | nil=>exact afI _
 | cons x _=>exact h x (by simp)
theorem mj {r:List Bys} (h:∀ w∈r,w.length<=1000000):∀ w∈r.tail,w.length<=1000000:=fun w hw=>h w (List.mem_of_mem_tail hw)
theorem cH:iF []=false:=rfl
theorem cI:((eK []).2==0)=false:=rfl
theorem Xy (w0:Bys) (r:List Bys) (h:∀ w∈r,w.length<=1000000):∃ s1 d q1 q2 q3 ok,bC (r,false,())=some (s1,q1,())/\bU q1=some (d,q2,())/\cm q2=some (ok,q3,())/\Xx (w0::r)=bif ok then some (s1,d) else none:=by
 refine⟨_,_,_,_,_,_,oC _ _,tG _ _ (vX (mj h)),zg _ _, ?_⟩
 unfold Xx
 match r with
 | []=>simp[bne,cH,cI]
 | [a]=>simp[bne,cH,cI]
 | [a,b]=>simp[bne,cH,cI]
 | a::b::c::t=>simp[bne,cH,cI]
theorem WZ (w0:Bys) (r:List Bys) (h:∀ w∈r,w.length<=1000000):∃ n1 n2 s1 d1 s2 d2 n3 s3 q1 q2 q3 q4 q5 q6 q7 q8 q9 ok,bI (r,false,())=some (n1,q1,())/\bI q1=some (n2,q2,())/\bC q2=some (s1,q3,())/\bU q3=some (d1,q4,())/\bC q4=some (s2,q5,())/\bU q5=some (d2,q6,())/\bI q6=some (n3,q7,())/\bC q7=some (s3,q8,())/\cm q8=some (ok,q9,())/\ Tb (w0::r)=bif ok then some (n1,n2,s1,d1,s2,d2,n3,[],s3) else none:=by
 refine⟨_,_,_,_,_,_,_,_,_,_,_,_,_,_,_,_,_,_,se _ _,se _ _,oC _ _,tG _ _ (vX (mj (mj (mj h)))),oC _ _,tG _ _ (vX (mj (mj (mj (mj (mj h)))))),se _ _,oC _ _,zg _ _, ?_⟩
 unfold Tb
 match r with
 | []=>simp[bne,cH,cI]
 | [a]=>simp[bne,cH,cI]
 | [a,b]=>simp[bne,cH,cI]
 | [a,b,c]=>simp[bne,cH,cI]
 | [a,b,c,d]=>simp[bne,cH,cI]
 | [a,b,c,d,e]=>simp[bne,cH,cI]
 | [a,b,c,d,e,f]=>simp[bne,cH,cI]
 | [a,b,c,d,e,f,g]=>simp[bne,cH,cI]
 | [a,b,c,d,e,f,g,i]=>simp[Bool.and_assoc,bne,cH,cI]
 | a::b::c::d::e::f::g::i::j::t=>simp[bne,cH,cI]
theorem Rd (w0:Bys) (r:List Bys):∃ s1 s2 n1 n2 n3 pl q1 q2 q3 q4 q5 q6 q7 ok,bC (r,false,())=some (s1,q1,())/\bC q1=some (s2,q2,())/\bI q2=some (n1,q3,())/\bI q3=some (n2,q4,())/\bI q4=some (n3,q5,())/\dS q5 [112,101,114,108,105,110,101]=some (pl,q6,())/\cm q6=some (ok,q7,())/\ WQ (w0::r)=bif ok then some (s1,s2,n1,n2,n3,pl,[],[],[]) else none:=by
 refine⟨_,_,_,_,_,_,_,_,_,_,_,_,_,_,oC _ _,oC _ _,se _ _,se _ _,se _ _,Ll _ _ _,zg _ _, ?_⟩
 unfold WQ
 match r with
 | []=>simp[bne,cH,cI]
 | [a]=>simp[bne,cH,cI]
 | [a,b]=>simp[bne,cH,cI]
 | [a,b,c]=>simp[bne,cH,cI]
 | [a,b,c,d]=>simp[bne,cH,cI]
 | [a,b,c,d,e]=>simp[Bool.and_assoc,bne,cH,cI]
 | [a,b,c,d,e,f]=>
  by_cases hf:f=[112,101,114,108,105,110,101]
  ·subst hf;simp[Bool.and_assoc,bne]
  ·have e1:(f==[112,101,114,108,105,110,101])=false:=afT hf
   simp[e1,bne]
 | a::b::c::d::e::f::g::t=>simp[bne,cH,cI]
theorem Uo (w0:Bys) (r:List Bys) (h:∀ w∈r,w.length<=1000000):∃ d pl q1 q2 q3 ok,bU (r,false,())=some (d,q1,())/\dS q1 [112,101,114,99,101,110,116]=some (pl,q2,())/\cm q2=some (ok,q3,())/\OJ (w0::r)=bif ok then some (pl,d,[]) else none:=by
 refine⟨_,_,_,_,_,_,tG _ _ (vX h),Ll _ _ _,zg _ _, ?_⟩
 unfold OJ
 match r with
 | []=>simp[bne,cH,cI]
 | [a]=>simp[bne,cH,cI]
 | [a,b]=>
  by_cases hf:b=[112,101,114,99,101,110,116]
  ·subst hf;simp[bne]
  ·have e1:=afT hf
   simp[e1,bne]
 | a::b::c::t=>simp[bne,cH,cI]
theorem XU (w0:Bys) (r:List Bys) (h:∀ w∈r,w.length<=1000000):∃ d s1 t pl q1 q2 q3 q4 ok,bU (r,false,())=some (d,q1,())/\bC q1=some (s1,q2,())/\sC s1=some (t,())/\dS q2 [112,101,114,99,101,110,116]=some (pl,q3,())/\cm q3=some (ok,q4,())/\Ok (w0::r)=bif ok then some (pl,d,t) else none:=by
 have hu:∀ s,sC s=some (EZ s,()):=fun s=>by
  unfold sC EZ
  cases s==[45]<;>rfl
 refine⟨_,_,_,_,_,_,_,_,_,tG _ _ (vX h),oC _ _,hu _,Ll _ _ _,zg _ _, ?_⟩
 unfold Ok
 match r with
 | []=>simp[bne,cH,cI]
 | [a]=>simp[bne,cH,cI]
 | [a,b]=>simp[bne,cH,cI]
 | [a,b,c]=>
  by_cases hf:c=[112,101,114,99,101,110,116]
  ·subst hf;simp[bne]
  ·have e1:=afT hf
   simp[e1,bne]
 | a::b::c::d::t=>simp[bne,cH,cI]
end Go.Md
namespace Go.Md
open Go.Dn
def ZQ (i:Nat) (v:ai):Prop:=v.2.2.2.2.2.2.1.length<=i/\v.2.2.2.2.2.2.2.1.length<=i/\v.2.2.2.2.2.2.2.2.length<=i/\∀ l∈v.2.2.2.2.2.2.2.1,l.2.2.2.2.2.2.2.1.length<=i
theorem xG {α:Type} {c:Bool} {x y:Option α} {z:α} (h:(bif c then x else y)=some z):x=some z\/y=some z:=by
 cases c with
 | false=>exact .inr h
 | true=>exact .inl h
theorem PT {α:Type} {c:Bool} {x y:α} (h:(bif c then some x else none)=some y):x=y:=by
 cases c with
 | false=>cases h
 | true=>exact Option.some.inj h
theorem Tw (i:Nat) (x:aj):∀ l:List aa,(∀ p∈l,p.2.2.2.2.2.2.2.1.length<=i)->(Al l x).length=l.length/\∀ p∈Al l x,p.2.2.2.2.2.2.2.1.length<=i+1
 | [],_=>⟨rfl,fun p hp=>by cases hp⟩
 | [p],h=>⟨rfl,fun q hq=>by
  have:=h p (by simp)
  rw[aeY.1 hq]
  simp only[aey,aeG];omega⟩
 | p::q::r,h=>by
  obtain⟨h1,h2⟩:=Tw i x (q::r) fun x hx=>h x (by simp at hx ⊢;exact .inr hx)
  refine⟨by rw[Al,aez,h1];rfl,fun x hx=> ?_⟩
  rcases aeO.1 hx with rfl | hx
  ·have:=h x (by simp);omega
  ·exact h2 x hx
theorem abw {v v':ai} {f:Bool} {s:Bys} {i:Nat} (h:rdI v f s=some v') (hb:ZQ i v):ZQ (i+1) v':=by
 obtain⟨h1,h2,h3,h4⟩:=hb
 unfold rdI at h
 rcases xG h with h | h
 ·unfold rdV at h
  rcases xG h with h | h
  ·rcases xG h with h | h
   ·unfold WQ at h
    have:=PT h
    subst this
    exact⟨afI _,afI _,afI _,fun l hl=>by cases hl⟩
   ·cases h
  ·rcases xG h with h | h
   ·obtain⟨x,hx,rfl⟩:=afN.1 h
    exact⟨by simp only[xE,aey,aeG];omega,afr h2,afr h3,fun l hl=>afr (h4 l hl)⟩
   ·rcases xG h with h | h
    ·obtain⟨x,hx,rfl⟩:=afN.1 h
     have hx0:x.2.2.2.2.2.2.2.1.length=0:=by
      unfold Tb at hx
      have:=PT hx
      subst this
      rfl
     refine⟨afr h1,by simp only[addLine,aey,aeG];omega,afr h3,fun l hl=> ?_⟩
     rcases aeN.1 hl with hl | hl
     ·exact afr (h4 l hl)
     ·rw[aeY.1 hl,hx0];exact afI _
    ·rcases xG h with h | h
     ·obtain⟨x,hx,rfl⟩:=afN.1 h
      obtain⟨p1,p2⟩:=Tw i x v.2.2.2.2.2.2.2.1 h4
      exact⟨afr h1,by show (Al v.2.2.2.2.2.2.2.1 x).length<=_;rw[p1];omega,afr h3,p2⟩
     ·rcases xG h with h | h
      ·obtain⟨x,hx,rfl⟩:=afN.1 h
       exact⟨afr h1,afr h2,by simp only[Bj,aey,aeG];omega,fun l hl=>afr (h4 l hl)⟩
      ·cases h
 ·cases h
end Go.Md
set_option linter.all false
namespace Go.Md
open Go.Dn
noncomputable section
def uW (a0:Bys):Option (Bys×Unit):=
 bif a0==[] then
  some ([45],())
 else
  some (a0,())
def nh (a0:ah):Option (Bys×Unit):=
 (JU a0).bind fun r1=>
 some (r1.1,())
def jT (a0:Bys) (a1:aj):Option (Bys×Unit):=
 chk (decide (a0.length+List.length [32]<=maxLen)) <|
 (nh a1.2.1).bind fun r1=>
 chk (decide (List.length (a0++[32])+r1.1.length<=maxLen)) <|
 bif a0==[97,108,108] then
  bif a1.2.2==[] then
   chk (decide (List.length ((a0++[32])++r1.1)+List.length [32,45]<=maxLen)) <|
   bif a1.1 then
    chk (decide (List.length (((a0++[32])++r1.1)++[32,45])+List.length [32,112,101,114,99,101,110,116]<=maxLen)) <|
    chk (decide (List.length ((((a0++[32])++r1.1)++[32,45])++[32,112,101,114,99,101,110,116])+List.length [10]<=maxLen)) <|
    some (((((a0++[32])++r1.1)++[32,45])++[32,112,101,114,99,101,110,116])++[10],())
   else
    chk (decide (List.length (((a0++[32])++r1.1)++[32,45])+List.length [10]<=maxLen)) <|
    some ((((a0++[32])++r1.1)++[32,45])++[10],())
  else
   chk (decide (List.length [32]+a1.2.2.length<=maxLen)) <|
   chk (decide (List.length ((a0++[32])++r1.1)+List.length ([32]++a1.2.2)<=maxLen)) <|
   bif a1.1 then
    chk (decide (List.length (((a0++[32])++r1.1)++([32]++a1.2.2))+List.length [32,112,101,114,99,101,110,116]<=maxLen)) <|
    chk (decide (List.length ((((a0++[32])++r1.1)++([32]++a1.2.2))++[32,112,101,114,99,101,110,116])+List.length [10]<=maxLen)) <|
    some (((((a0++[32])++r1.1)++([32]++a1.2.2))++[32,112,101,114,99,101,110,116])++[10],())
   else
    chk (decide (List.length (((a0++[32])++r1.1)++([32]++a1.2.2))+List.length [10]<=maxLen)) <|
    some ((((a0++[32])++r1.1)++([32]++a1.2.2))++[10],())
 else
  bif a1.1 then
   chk (decide (List.length ((a0++[32])++r1.1)+List.length [32,112,101,114,99,101,110,116]<=maxLen)) <|
   chk (decide (List.length (((a0++[32])++r1.1)++[32,112,101,114,99,101,110,116])+List.length [10]<=maxLen)) <|
   some ((((a0++[32])++r1.1)++[32,112,101,114,99,101,110,116])++[10],())
  else
   chk (decide (List.length ((a0++[32])++r1.1)+List.length [10]<=maxLen)) <|
   some (((a0++[32])++r1.1)++[10],())
abbrev qW:Type:=Bys×(List ak)×Int×Int×Bys×Bys×Int×Int×Int×Bool×(List ak)×(List aa)×(List aj)×Unit
abbrev BM:Type:=((Bys×Int×Unit) ⊕ (Bys×Bys×Bys×Int×Int×Int×Bool×(List ak)×(List aa)×(List aj)×Unit))
def qT (x1:qW) (again:qW->Option BM):Option BM:=
 match x1 with
 | (A,B,C,D,E,F,G,H,I,J,K,L,M,_)=>
 bif decide (D<C) then
  (idx B D).bind fun y2=>
  chk (decide (List.length [114,97,116,101,32]+y2.1.length<=maxLen)) <|
  chk (decide (List.length ([114,97,116,101,32]++y2.1)+List.length [32]<=maxLen)) <|
  (nh y2.2).bind fun r3=>
  chk (decide (List.length (([114,97,116,101,32]++y2.1)++[32])+r3.1.length<=maxLen)) <|
  chk (decide (List.length ((([114,97,116,101,32]++y2.1)++[32])++r3.1)+List.length [10]<=maxLen)) <|
  chk (decide (A.length+List.length (((([114,97,116,101,32]++y2.1)++[32])++r3.1)++[10])<=maxLen)) <|
  again (A++(((([114,97,116,101,32]++y2.1)++[32])++r3.1)++[10]),B,C,w64 (D+1),E,F,G,H,I,J,K,L,M,())
 else
  some (.inr (A,E,F,G,H,I,J,K,L,M,()))
abbrev wP:Type:=Bys×(List aa)×Int×Int×(List aj)×Int×Int×Bys×Bys×Int×Int×Int×Bool×(List ak)×(List aa)×(List aj)×Unit
abbrev BO:Type:=(((Bys×Int×Unit) ⊕ (Bys×Bys×Bys×Int×Int×Int×Bool×(List ak)×(List aa)×(List aj)×Unit)) ⊕ (Bys×(List aa)×Int×Int×Bys×Bys×Int×Int×Int×Bool×(List ak)×(List aa)×(List aj)×Unit))
def wO (x1:wP) (again:wP->Option BO):Option BO:=
 match x1 with
 | (A,B,C,D,E,F,G,H,I,J,K,L,M,N,O,P,_)=>
 bif decide (G<F) then
  (idx E G).bind fun y2=>
  (jT [101,120,116,114,97] y2).bind fun r3=>
  chk (decide (A.length+r3.1.length<=maxLen)) <|
  again (A++r3.1,B,C,D,E,F,w64 (G+1),H,I,J,K,L,M,N,O,P,())
 else
  some (.inr (A,B,C,D,H,I,J,K,L,M,N,O,P,()))
abbrev qX:Type:=Bys×(List aa)×Int×Int×Bys×Bys×Int×Int×Int×Bool×(List ak)×(List aa)×(List aj)×Unit
abbrev BN:Type:=((Bys×Int×Unit) ⊕ (Bys×Bys×Bys×Int×Int×Int×Bool×(List ak)×(List aa)×(List aj)×Unit))
def qU (x1:qX) (again:qX->Option BN):Option BN:=
 match x1 with
 | (A,B,C,D,E,F,G,H,I,J,K,L,M,_)=>
 bif decide (D<C) then
  (idx B D).bind fun y2=>
  (strconv_Itoa y2.1).bind fun r3=>
  (strconv_Itoa y2.2.1).bind fun r4=>
  (nh y2.2.2.2.1).bind fun r5=>
  (nh y2.2.2.2.2.2.1).bind fun r6=>
  (strconv_Itoa y2.2.2.2.2.2.2.1).bind fun r7=>
  (strings_Join [[108,105,110,101],r3.1,r4.1,y2.2.2.1,r5.1,y2.2.2.2.2.1,r6.1,r7.1,y2.2.2.2.2.2.2.2.2] [32]).bind fun r8=>
  chk (decide (r8.1.length+List.length [10]<=maxLen)) <|
  chk (decide (A.length+List.length (r8.1++[10])<=maxLen)) <|
  aJ (
   iter (X:=wP) (β:=BO) (List.length (A++(r8.1++[10]))+(B.length+(C.natAbs+(D.natAbs+(y2.2.2.2.2.2.2.2.1.length+(Int.natAbs ((y2.2.2.2.2.2.2.2.1.length:Int))+(Int.natAbs (0:Int)+(E.length+(F.length+(G.natAbs+(H.natAbs+(I.natAbs+(K.length+(L.length+(M.length+2))))))))))))))) (A++(r8.1++[10]),B,C,D,y2.2.2.2.2.2.2.2.1,(y2.2.2.2.2.2.2.2.1.length:Int),0,E,F,G,H,I,J,K,L,M,()) (wO)) fun (N,O,P,Q,R,S,T,U,V,W,Y,Z,A0,_)=>
  again (N,O,P,w64 (Q+1),R,S,T,U,V,W,Y,Z,A0,())
 else
  some (.inr (A,E,F,G,H,I,J,K,L,M,()))
abbrev qY:Type:=Bys×(List aj)×Int×Int×Unit
abbrev BP:Type:=((Bys×Int×Unit) ⊕ (Bys×Unit))
def qV (x1:qY) (again:qY->Option BP):Option BP:=
 match x1 with
 | (A,B,C,D,_)=>
 bif decide (D<C) then
  (idx B D).bind fun y2=>
  (jT [97,108,108] y2).bind fun r3=>
  chk (decide (A.length+r3.1.length<=maxLen)) <|
  again (A++r3.1,B,C,w64 (D+1),())
 else
  some (.inr (A,()))
def FR (a0:ai):Option (Bys×Int×Unit):=
 (oN a0).bind fun r1=>
 bif r1.1 != 0 then
  some ([],r1.1,())
 else
  chk (decide (List.length [105,110,118,111,105,99,101,32]+a0.1.length<=maxLen)) <|
  chk (decide (List.length ([105,110,118,111,105,99,101,32]++a0.1)+List.length [32]<=maxLen)) <|
  chk (decide (List.length (([105,110,118,111,105,99,101,32]++a0.1)++[32])+a0.2.1.length<=maxLen)) <|
  chk (decide (List.length ((([105,110,118,111,105,99,101,32]++a0.1)++[32])++a0.2.1)+List.length [32]<=maxLen)) <|
  (strconv_Itoa a0.2.2.1).bind fun r2=>
  chk (decide (List.length (((([105,110,118,111,105,99,101,32]++a0.1)++[32])++a0.2.1)++[32])+r2.1.length<=maxLen)) <|
  chk (decide (List.length ((((([105,110,118,111,105,99,101,32]++a0.1)++[32])++a0.2.1)++[32])++r2.1)+List.length [32]<=maxLen)) <|
  (strconv_Itoa a0.2.2.2.1).bind fun r3=>
  chk (decide (List.length (((((([105,110,118,111,105,99,101,32]++a0.1)++[32])++a0.2.1)++[32])++r2.1)++[32])+r3.1.length<=maxLen)) <|
  chk (decide (List.length ((((((([105,110,118,111,105,99,101,32]++a0.1)++[32])++a0.2.1)++[32])++r2.1)++[32])++r3.1)+List.length [32]<=maxLen)) <|
  (strconv_Itoa a0.2.2.2.2.1).bind fun r4=>
  chk (decide (List.length (((((((([105,110,118,111,105,99,101,32]++a0.1)++[32])++a0.2.1)++[32])++r2.1)++[32])++r3.1)++[32])+r4.1.length<=maxLen)) <|
  chk (decide (List.length ([]:Bys)+List.length ((((((((([105,110,118,111,105,99,101,32]++a0.1)++[32])++a0.2.1)++[32])++r2.1)++[32])++r3.1)++[32])++r4.1)<=maxLen)) <|
  aJ (γ:=(Bys×Bys×Bys×Int×Int×Int×Bool×(List ak)×(List aa)×(List aj)×Unit)) (
   bif a0.2.2.2.2.2.1 then
    chk (decide (List.length ([]++((((((((([105,110,118,111,105,99,101,32]++a0.1)++[32])++a0.2.1)++[32])++r2.1)++[32])++r3.1)++[32])++r4.1))+List.length [32,112,101,114,108,105,110,101]<=maxLen)) <|
    some (.inr (([]++((((((((([105,110,118,111,105,99,101,32]++a0.1)++[32])++a0.2.1)++[32])++r2.1)++[32])++r3.1)++[32])++r4.1))++[32,112,101,114,108,105,110,101],a0.1,a0.2.1,a0.2.2.1,a0.2.2.2.1,a0.2.2.2.2.1,a0.2.2.2.2.2.1,a0.2.2.2.2.2.2.1,a0.2.2.2.2.2.2.2.1,a0.2.2.2.2.2.2.2.2,()))
   else
    some (.inr ([]++((((((((([105,110,118,111,105,99,101,32]++a0.1)++[32])++a0.2.1)++[32])++r2.1)++[32])++r3.1)++[32])++r4.1),a0.1,a0.2.1,a0.2.2.1,a0.2.2.2.1,a0.2.2.2.2.1,a0.2.2.2.2.2.1,a0.2.2.2.2.2.2.1,a0.2.2.2.2.2.2.2.1,a0.2.2.2.2.2.2.2.2,()))) fun (A,B,C,D,E,F,G,H,I,J,_)=>
  chk (decide (A.length+List.length [10]<=maxLen)) <|
  aJ (
   iter (X:=qW) (β:=BM) (List.length (A++[10])+(H.length+(Int.natAbs ((H.length:Int))+(Int.natAbs (0:Int)+(B.length+(C.length+(D.natAbs+(E.natAbs+(F.natAbs+(H.length+(I.length+(J.length+2)))))))))))) (A++[10],H,(H.length:Int),0,B,C,D,E,F,G,H,I,J,()) (qT)) fun (K,L,M,N,O,P,Q,R,S,T,_)=>
  aJ (
   iter (X:=qX) (β:=BN) (K.length+(S.length+(Int.natAbs ((S.length:Int))+(Int.natAbs (0:Int)+(L.length+(M.length+(N.natAbs+(O.natAbs+(P.natAbs+(R.length+(S.length+(T.length+2)))))))))))) (K,S,(S.length:Int),0,L,M,N,O,P,Q,R,S,T,()) (qU)) fun (U,_,_,_,_,_,_,_,_,V,_)=>
  aJ (
   iter (X:=qY) (β:=BP) (U.length+(V.length+(Int.natAbs ((V.length:Int))+(Int.natAbs (0:Int)+2)))) (U,V,(V.length:Int),0,()) (qV)) fun v26=>
  bif decide (((v26.1.length:Int))>300000) then
   some ([],2,())
  else
   some (v26.1,0,())
def tj (b:Bool):List Bys:=bif b then [[112,101,114,99,101,110,116]] else []
def pK:Bys->List ak->Option Bys
 | b,[]=>some b
 | b,x::r=>
  (cR x.2).bind fun t=>
  (cC [[114,97,116,101],x.1,t.1]).bind fun s=>
  chk (decide ((b++s.1).length<=140737488355328)) <| pK (b++s.1) r
def uy:Bys->List aj->Option Bys
 | b,[]=>some b
 | b,x::r=>
  (cR x.2.1).bind fun t=>
  (cC ([[101,120,116,114,97],t.1]++tj x.1)).bind fun s=>
  chk (decide ((b++s.1).length<=140737488355328)) <| uy (b++s.1) r
def ur:Bys->List aj->Option Bys
 | b,[]=>some b
 | b,x::r=>
  (cR x.2.1).bind fun t=>
  (uW x.2.2).bind fun d=>
  (cC ([[97,108,108],t.1,d.1]++tj x.1)).bind fun s=>
  chk (decide ((b++s.1).length<=140737488355328)) <| ur (b++s.1) r
def pF:Bys->List aa->Option Bys
 | b,[]=>some b
 | b,l::r=>
  (strconv_Itoa l.1).bind fun n1=>
  (strconv_Itoa l.2.1).bind fun n2=>
  (cR l.2.2.2.1).bind fun d1=>
  (cR l.2.2.2.2.2.1).bind fun d2=>
  (strconv_Itoa l.2.2.2.2.2.2.1).bind fun n3=>
  (cC [[108,105,110,101],n1.1,n2.1,l.2.2.1,d1.1,l.2.2.2.2.1,d2.1,n3.1,l.2.2.2.2.2.2.2.2]).bind fun s=>
  chk (decide ((b++s.1).length<=140737488355328)) <|
  (uy (b++s.1) l.2.2.2.2.2.2.2.1).bind fun b2=>pF b2 r
def oM (b:Bool):List Bys:=bif b then [[112,101,114,108,105,110,101]] else []
def vz (v:ai):Option (Bys×Int×Unit):=
 (dh v).bind fun r1=>
 bif r1.1 != 0 then some ([],r1.1,()) else
 (strconv_Itoa v.2.2.1).bind fun n1=>
 (strconv_Itoa v.2.2.2.1).bind fun n2=>
 (strconv_Itoa v.2.2.2.2.1).bind fun n3=>
 (cC ([[105,110,118,111,105,99,101],v.1,v.2.1,n1.1,n2.1,n3.1]++oM v.2.2.2.2.2.1)).bind fun s=>
 chk (decide (s.1.length<=140737488355328)) <|
 (pK s.1 v.2.2.2.2.2.2.1).bind fun b1=>
 (pF b1 v.2.2.2.2.2.2.2.1).bind fun b2=>
 (ur b2 v.2.2.2.2.2.2.2.2).bind fun b3=>
 bif decide ((b3.length:Int)>300000) then some ([],2,()) else some (b3,0,())
def jm (a0:ai):Option (Bool×Unit):=
 (vz a0).bind fun r1=>
 (FR a0).bind fun r2=>
 bif r1.2.1 != r2.2.1 then
  some (false,())
 else
  bif !(r1.1==r2.1) then
   some (false,())
  else
   (IA).bind fun r3=>
   bif !r3.1 then
    some (false,())
   else
    bif r1.2.1 != 0 then
     some (true,())
    else
     (vw r1.1).bind fun r4=>
     (
      bif r4.2.2.1==0 then
       bif r4.2.1==0 then
        Option.bind (FQ a0 r4.1) fun r5=>
        some (r5.1,())
       else
        some (false,())
      else
       some (false,())).bind fun v6=>
     some (v6.1,())
end
end Go.Md
end
