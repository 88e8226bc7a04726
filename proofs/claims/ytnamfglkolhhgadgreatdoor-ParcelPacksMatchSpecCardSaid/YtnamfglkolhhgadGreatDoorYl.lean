/-
  Plain facts: stacks. No condition.
-/
import Derived.Test.YtnamfglkolhhgadGreatDoorYo
import Derived.Test.YtnamfglkolhhgadGreatDoorYq
import Derived.Test.YtnamfglkolhhgadGreatDoorYk
import Derived.Test.YtnamfglkolhhgadGreatDoorYu
set_option linter.all false
set_option linter.all false
namespace Go.Md.SQP
open Go.Dn Go.Md
section
variable {k:ah→Int} {ok:ah→Prop}
def ym (k:ah→Int) (ok:ah→Prop):Prop:=∀ a b,ok a→ok b→∃ c,jY a b=some (c,())∧(c<0↔k a<k b)
theorem aci (hc:ym k ok) (a:Nat) (bI:Int) (iI:Int) (X:List ah) (hX:X.length=a):∀ (n:Nat) (P1:List ah) (x:ah) (B:List ah),P1.length<n→(X++P1++x::B).length<1000000000→ok x→(∀ y∈P1,ok y)→
 ∃ P2 P3,P1=P2++P3∧(∀ y∈P3,k x<k y)∧(∀ y,P2.getLast? =some y→k y≤k x)∧
 iter (X:=cT) (β:=cR) n ((a:Int),bI,(),iI,((a+P1.length:Nat):Int),X++P1++x::B,()) cO=some (Sum.inr ((a:Int),bI,(),iI,X++P2++x::(P3++B),())):=by
 intro n
 induction n with
 | zero=>intro P1 x B h;omega
 | succ n ih=>
  intro P1 x B hn hlen hx hP
  rw[aZ]
  generalize hag:(fun y=>iter n y cO)=again
  unfold cO
  dsimp only
  rcases List.eq_nil_or_concat P1 with rfl | ⟨P,y,rfl⟩
  ·rw[av (by simp)]
   exact⟨[],[],rfl,by simp,by simp,by simp⟩
  ·rw[List.concat_eq_append] at*
   simp only[ah0,ah1,ah4] at hlen hn ⊢
   have e1:w64 (((a+(P.length+1):Nat):Int) - 1)=(((X++P).length:Nat):Int):=by rw[aq (by omega) (by omega)];simp[hX];omega
   have e2:(((a+(P.length+1):Nat):Int))=(((X++P).length+1:Nat):Int):=by simp[hX];omega
   have el:X++(P++[y])++x::B=(X++P)++y::x::B:=by simp
   obtain⟨c,hcc,hlt⟩:=hc x y hx (hP y (by simp))
   rw[ax (by omega),e1,e2,el]
   simp only[ahd,get_at,No,ajq,hcc]
   rw[aC (by simp only[agE,ajJ,ah0,ah1,ah8,ah4];omega),aC (by simp only[agE,ajJ,ah0,ah1,ah8,ah4];omega)]
   by_cases hk:k x<k y
   ·rw[ax (hlt.2 hk),aC (by simp only[agE,ajJ,ah0,ah1,ah8,ah4];omega),aC (by simp only[agE,ajJ,ah0,ah1,ah8,ah4];omega),aC (by simp only[agE,ajJ,ah0,ah1,ah8,ah4];omega),
     aC (by simp only[agE,ajJ,ah0,ah1,ah8,ah4];omega)]
    have hg:(((X++P)++y::x::B).set ((X++P).length+1) y)[(X++P).length]? =some y:=by rw[ahU (by omega),get_at]
    rw[hg,ajq,YA, ← hag]
    obtain⟨P2,P3,h1,h2,h3,h4⟩:=ih P x (y::B) (by omega) (by simp;omega) hx (fun z hz=>hP z (by simp[hz]))
    refine⟨P2,P3++[y],by rw[h1];simp, ?_,h3, ?_⟩
    ·intro z hz
     rcases aii.1 hz with hz | hz
     ·exact h2 z hz
     ·rw[aiv.1 hz];exact hk
    ·have e3:(((X++P).length:Nat):Int)=((a+P.length:Nat):Int):=by simp[hX]
     rw[e3]
     show iter n _ _=_
     rw[h4];simp
   ·rw[av (fun h=>hk (hlt.1 h))]
    refine⟨P++[y],[],by simp,by simp,fun z hz=> ?_,by simp⟩
    simp at hz
    subst hz;omega
theorem Mm (hc:ym k ok) (X S Y:List ah) (hlen:(X++S++Y).length<1000000000) (hok:∀ y∈S,ok y):
 ∃ S',cr (X++S++Y) (X.length:Int) ((X.length+S.length:Nat):Int) ()=some (X++S'++Y,())∧Srt k S'∧bE k S S':=by
 simp only[ah0] at hlen
 have loop:∀ (n:Nat) (Q P:List ah) (l:List ah),Q.length<n→l=X++P++Q++Y→P.length+Q.length=S.length→Srt k P→(∀ y∈P,ok y)→(∀ y∈Q,ok y)→
  ∃ S',iter (X:=cS) (β:=cQ) n ((X.length:Int),((X.length+S.length:Nat):Int),(),((X.length+P.length:Nat):Int),l,()) bZ=some (Sum.inr (X++S'++Y,()))∧Srt k S'∧bE k (P++Q) S':=by
  intro n
  induction n with
  | zero=>intro Q P l h;omega
  | succ n ih=>
   intro Q P l hn hl hPQ hs hokP hokQ
   rw[aZ]
   generalize hag:(fun y=>iter n y bZ)=again
   unfold bZ
   dsimp only
   cases Q with
   | nil=>
    rw[av (by simp at hPQ;omega)]
    exact⟨P,by rw[hl];simp,hs,by simpa using bE.refl k P⟩
   | cons x Q=>
    simp only[ah1] at hn hPQ
    rw[ax (by omega)]
    have hl':l=X++P++x::(Q++Y):=by rw[hl];simp
    obtain⟨P2,P3,h1,h2,h3,h4⟩:=aci hc X.length ((X.length+S.length:Nat):Int) ((X.length+P.length:Nat):Int) X rfl
     (Int.natAbs (X.length:Int)+(Int.natAbs ((X.length+S.length:Nat):Int)+(Int.natAbs ((X.length+P.length:Nat):Int)+(Int.natAbs ((X.length+P.length:Nat):Int)+(List.length l+2))))) P x (Q++Y) (by omega) (by simp;omega) (hokQ x (by simp)) hokP
    rw[← hl'] at h4
    rw[h4,aB]
    dsimp only
    have e1:w64 (((X.length+P.length:Nat):Int)+1)=((X.length+(P2++x::P3).length:Nat):Int):=by
     rw[aq (by omega) (by omega),h1];simp;omega
    rw[e1, ← hag]
    rw[h1] at hs hokP
    obtain⟨hs',hsam⟩:=PL hs h2 h3
    obtain⟨S',g1,g2,g3⟩:=ih Q (P2++x::P3) (X++P2++x::(P3++(Q++Y))) (by omega) (by simp) (by rw[h1] at hPQ;simp at hPQ ⊢;omega) hs' (fun y hy=>by
     rcases hsam.mem.1 hy |> aii.1 with h | h
     ·exact hokP y h
     ·rw[aiv.1 h];exact hokQ x (by simp)) (fun y hy=>hokQ y (by simp[hy]))
    refine⟨S',g1,g2, ?_⟩
    have:bE k (P++x::Q) (P2++x::P3++Q):=by
     rw[h1]
     have:=hsam.append (bE.refl k Q)
     simpa using this
    exact this.trans g3
 unfold cr
 cases S with
 | nil=>
  have e1:w64 ((X.length:Int)+1)=((X.length+1:Nat):Int):=by rw[aq (by omega) (by omega)];omega
  rw[e1]
  obtain⟨n,hn⟩:∃ n,(Int.natAbs (X.length:Int)+(Int.natAbs ((X.length+([]:List ah).length:Nat):Int)+(Int.natAbs ((X.length+1:Nat):Int)+(List.length (X++[]++Y)+2))))=n+1:=⟨_,rfl⟩
  rw[hn,aZ]
  unfold bZ
  dsimp only
  rw[av (by simp;omega)]
  exact⟨[],rfl,List.Pairwise.nil,bE.refl _ _⟩
 | cons x S=>
  have e1:w64 ((X.length:Int)+1)=((X.length+[x].length:Nat):Int):=by rw[aq (by omega) (by omega)];simp
  rw[e1]
  obtain⟨S',g1,g2,g3⟩:=loop (Int.natAbs (X.length:Int)+(Int.natAbs ((X.length+(x::S).length:Nat):Int)+(Int.natAbs ((X.length+[x].length:Nat):Int)+(List.length (X++(x::S)++Y)+2)))) S [x] (X++(x::S)++Y) (by simp;omega) (by simp) (by simp;omega) (List.pairwise_singleton _ _) (fun y hy=>hok y (by simp at hy;simp[hy])) (fun y hy=>hok y (by simp[hy]))
  rw[g1,aB]
  exact⟨S',rfl,g2,by simpa using g3⟩
theorem FQ (X M Y:List ah):∀ (P Q:List ah),P.length=Q.length→(X++P++M++Q++Y).length<1000000000→
 cc (X++P++M++Q++Y) (X.length:Int) ((X.length+P.length+M.length:Nat):Int) (P.length:Int) ()=some (X++Q++M++P++Y,()):=by
 intro P Q hPQ hlen
 simp only[ah0] at hlen
 have loop:∀ (n:Nat) (P1 P2 Q1 Q2:List ah) (l:List ah),P2.length<n→P1.length+P2.length=P.length→P1.length=Q1.length→P2.length=Q2.length→l=X++P1++P2++M++Q1++Q2++Y→
  iter (X:=dI) (β:=dH) n ((X.length:Int),((X.length+P.length+M.length:Nat):Int),(P.length:Int),(P1.length:Int),l,()) dG=some (Sum.inr (X++P1++Q2++M++Q1++P2++Y,())):=by
  intro n
  induction n with
  | zero=>intro P1 P2 Q1 Q2 l h;omega
  | succ n ih=>
   intro P1 P2 Q1 Q2 l hn h1 h2 h3 hl
   rw[aZ]
   generalize hag:(fun y=>iter n y dG)=again
   unfold dG
   dsimp only
   cases P2 with
   | nil=>
    have:Q2=[]:=ahx (by simpa using h3.symm)
    subst this
    rw[av (by simp at h1;omega),hl]
   | cons p P2=>
    cases Q2 with
    | nil=>simp at h3
    | cons q Q2=>
     simp only[ah1] at hn h1 h3
     have ll:l.length=X.length+P.length+M.length+Q.length+Y.length:=by rw[hl];simp;omega
     have e1:w64 (((X.length+P.length+M.length:Nat):Int)+(P1.length:Int))=(((X++P1++p::P2++M++Q1).length:Nat):Int):=by rw[aq (by omega) (by omega)];simp;omega
     have e2:w64 ((X.length:Int)+(P1.length:Int))=(((X++P1).length:Nat):Int):=by rw[aq (by omega) (by omega)];simp
     have l1:l=(X++P1++p::P2++M++Q1)++q::(Q2++Y):=by rw[hl];simp
     have l2:l=(X++P1)++p::(P2++M++Q1++q::(Q2++Y)):=by rw[hl];simp
     have g1:l[(X++P1++p::P2++M++Q1).length]? =some q:=by rw[l1];exact get_at _ _ _
     have g2:l[(X++P1).length]? =some p:=by rw[l2];exact get_at _ _ _
     have g3:l.set (X++P1).length q=(X++P1++q::P2++M++Q1)++q::(Q2++Y):=by
      rw[l2,aap];simp
     have hlq:(X++P1++p::P2++M++Q1).length=(X++P1++q::P2++M++Q1).length:=by simp
     have g4:(l.set (X++P1).length q)[(X++P1++p::P2++M++Q1).length]? =some q:=by rw[g3,hlq];exact get_at _ _ _
     have g5:(l.set (X++P1).length q).set (X++P1++p::P2++M++Q1).length p=X++(P1++[q])++P2++M++(Q1++[p])++Q2++Y:=by rw[g3,hlq,aap];simp
     rw[ax (by omega),e1,e2]
     simp only[ahd,g1,g2,g4,g5,ajq,ah8,ll]
     have lq:(X++P1++p::P2++M++Q1).length<X.length+P.length+M.length+Q.length+Y.length:=by simp;omega
     have lp:(X++P1).length<X.length+P.length+M.length+Q.length+Y.length:=by simp;omega
     rw[aC (by simp only[agE,ajJ];omega),aC (by simp only[agE,ajJ];omega),aC (by simp only[agE,ajJ];omega),aC (by simp only[agE,ajJ];omega)]
     have e3:w64 ((P1.length:Int)+1)=(((P1++[q]).length:Nat):Int):=by rw[aq (by omega) (by omega)];simp
     rw[e3, ← hag]
     show iter n _ _=_
     rw[ih (P1++[q]) P2 (Q1++[p]) Q2 _ (by omega) (by simp;omega) (by simp;omega) (by omega) rfl]
     simp
 unfold cc
 rw[show (0:Int)=((([]:List ah).length:Nat):Int) from rfl,loop _ [] P [] Q (X++P++M++Q++Y) (by simp;omega) (by simp) rfl hPQ (by simp),aB]
 simp
theorem ZG (m:Nat):∀ (n:Nat) (X U V Y:List ah),U.length+V.length<n→0<U.length→0<V.length→X.length+U.length=m→(X++U++V++Y).length<1000000000→
 ∃ (X' U' V' Y':List ah),iter (X:=fe) (β:=eZ) n ((m:Int),(),(U.length:Int),(V.length:Int),X++U++V++Y,()) eY=some (Sum.inr ((m:Int),(),(U'.length:Int),X'++U'++V'++Y',()))∧U'.length=V'.length∧X'.length+U'.length=m∧X'++V'++U'++Y'=X++V++U++Y∧(X'++U'++V'++Y').length<1000000000:=by
 intro n
 induction n with
 | zero=>intro X U V Y h;omega
 | succ n ih=>
  intro X U V Y hn hU hV hm hlen
  rw[aZ]
  generalize hag:(fun y=>iter n y eY)=again
  unfold eY
  dsimp only
  by_cases he:U.length=V.length
  ·have hb:((U.length:Int) != (V.length:Int))=false:=by simp[he]
   rw[hb,ajD]
   exact⟨X,U,V,Y,rfl,he,hm,rfl,hlen⟩
  ·have hb:((U.length:Int) != (V.length:Int))=true:=by simp;omega
   rw[hb,ajE]
   simp only[ah0] at hlen
   have e1:w64 ((m:Int) - (U.length:Int))=(X.length:Int):=by rw[aq (by omega) (by omega)];omega
   rw[e1]
   by_cases hgt:V.length<U.length
   ·rw[ax (by omega)]
    obtain⟨U1,U2,rfl,hU1⟩:=qv (l:=U) (n:=V.length) (by omega)
    simp only[ah0] at*
    have hsw:=FQ X U2 Y U1 V hU1 (by simp;omega)
    rw[show ((X.length+U1.length+U2.length:Nat):Int)=(m:Int) by omega,hU1] at hsw
    rw[show X++(U1++U2)++V++Y=X++U1++U2++V++Y by simp,hsw,ajq]
    have e2:w64 (((U1.length+U2.length:Nat):Int) - (V.length:Int))=(U2.length:Int):=by rw[aq (by omega) (by omega)];omega
    rw[e2, ← hag]
    obtain⟨X',U',V',Y',h1,h2,h3,h4,h5⟩:=ih (X++V) U2 U1 Y (by omega) (by omega) (by omega) (by simp;omega) (by simp;omega)
    refine⟨X',U',V',Y', ?_,h2,h3,by rw[h4];simp,h5⟩
    rw[← hU1]
    exact h1
   ·rw[av (by omega)]
    obtain⟨V1,V2,rfl,hV1⟩:=qv (l:=V) (n:=V.length - U.length) (by omega)
    simp only[ah0] at*
    have e3:w64 (w64 ((m:Int)+((V1.length+V2.length:Nat):Int)) - (U.length:Int))=((X.length+U.length+V1.length:Nat):Int):=by
     rw[aq (n:=(m:Int)+((V1.length+V2.length:Nat):Int)) (by omega) (by omega),aq (by omega) (by omega)];omega
    have hsw:=FQ X V1 Y U V2 (by omega) (by simp;omega)
    rw[e3,show X++U++(V1++V2)++Y=X++U++V1++V2++Y by simp,hsw,ajq]
    have e2:w64 (((V1.length+V2.length:Nat):Int) - (U.length:Int))=(V1.length:Int):=by rw[aq (by omega) (by omega)];omega
    rw[e2, ← hag]
    obtain⟨X',U',V',Y',h1,h2,h3,h4,h5⟩:=ih X V2 V1 (U++Y) (by omega) (by omega) (by omega) (by omega) (by simp;omega)
    refine⟨X',U',V',Y', ?_,h2,h3,by rw[h4];simp,h5⟩
    rw[show ((U.length:Nat):Int)=(V2.length:Int) by omega,show X++V2++V1++U++Y=X++V2++V1++(U++Y) by simp]
    exact h1
theorem ada (X U V Y:List ah) (hU:0<U.length) (hV:0<V.length) (hlen:(X++U++V++Y).length<1000000000):
 fT (X++U++V++Y) (X.length:Int) ((X.length+U.length:Nat):Int) ((X.length+U.length+V.length:Nat):Int) ()=some (X++V++U++Y,()):=by
 unfold fT
 simp only[ah0] at hlen
 have e1:w64 (((X.length+U.length:Nat):Int) - (X.length:Int))=(U.length:Int):=by rw[aq (by omega) (by omega)];omega
 have e2:w64 (((X.length+U.length+V.length:Nat):Int) - ((X.length+U.length:Nat):Int))=(V.length:Int):=by rw[aq (by omega) (by omega)];omega
 rw[e1,e2]
 obtain⟨X',U',V',Y',h1,h2,h3,h4,h5⟩:=ZG (X.length+U.length) (Int.natAbs ((X.length+U.length:Nat):Int)+(Int.natAbs (U.length:Int)+(Int.natAbs (V.length:Int)+(List.length (X++U++V++Y)+2)))) X U V Y (by omega) hU hV rfl (by simp;omega)
 rw[h1,aB]
 dsimp only
 simp only[ah0] at h5
 have e3:w64 (((X.length+U.length:Nat):Int) - (U'.length:Int))=(X'.length:Int):=by rw[aq (by omega) (by omega)];omega
 have hsw:=FQ X' [] Y' U' V' h2 (by simp;omega)
 simp only[ahl,ah4,aiT] at hsw
 rw[e3,show ((X.length+U.length:Nat):Int)=((X'.length+U'.length:Nat):Int) by omega,hsw,ajq,h4]
theorem aeS (i:Nat):∀ (n:Nat) (A V Y:List ah) (x:ah),V.length<n→A.length+1+V.length=i→(A++x::V++Y).length<1000000000→
 iter (X:=ef) (β:=dY) n ((i:Int),(A.length:Int),A++x::V++Y,()) dW=some (Sum.inr (A++V++x::Y,())):=by
 intro n
 induction n with
 | zero=>intro A V Y x h;omega
 | succ n ih=>
  intro A V Y x hn hi hlen
  rw[aZ]
  generalize hag:(fun y=>iter n y dW)=again
  unfold dW
  dsimp only
  simp only[ah0,ah1] at hlen
  have e0:w64 ((i:Int) - 1)=(i:Int) - 1:=aq (by omega) (by omega)
  rw[e0]
  cases V with
  | nil=>rw[av (by simp at hi;omega)];simp
  | cons v V=>
   simp only[ah1] at hn hi hlen
   have e1:w64 ((A.length:Int)+1)=((A.length+1:Nat):Int):=by rw[aq (by omega) (by omega)];omega
   have el:A++x::(v::V)++Y=A++x::v::(V++Y):=by simp
   have hg:((A++x::v::(V++Y)).set A.length v)[A.length+1]? =some v:=by rw[ahU (by omega),No]
   rw[ax (by omega),e1,el]
   simp only[ahd,get_at,No,ajq,hg,adm,ah8]
   rw[aC (by simp only[agE,ajJ,ah0,ah1];omega),aC (by simp only[agE,ajJ,ah0,ah1];omega),aC (by simp only[agE,ajJ,ah0,ah1];omega),aC (by simp only[agE,ajJ,ah0,ah1];omega), ← hag]
   have:=ih (A++[v]) V Y x (by omega) (by simp;omega) (by simp;omega)
   simp only[ah0,ah1,ah4,ajn] at this
   show iter n _ _=_
   rw[show A++v::x::(V++Y)=A++[v]++x::V++Y by simp,this]
   simp
theorem acG (A:List ah):∀ (n:Nat) (U Y:List ah) (y:ah),U.length<n→(A++U++y::Y).length<1000000000→
 iter (X:=dO) (β:=dL) n ((A.length:Int),((A.length+U.length:Nat):Int),A++U++y::Y,()) dJ=some (Sum.inr (A++y::U++Y,())):=by
 intro n
 induction n with
 | zero=>intro U Y y h;omega
 | succ n ih=>
  intro U Y y hn hlen
  rw[aZ]
  generalize hag:(fun y=>iter n y dJ)=again
  unfold dJ
  dsimp only
  simp only[ah0,ah1] at hlen
  rcases List.eq_nil_or_concat U with rfl | ⟨V,u,rfl⟩
  ·rw[av (by simp)];simp
  ·rw[List.concat_eq_append] at*
   simp only[ah0,ah1,ah4] at hn hlen ⊢
   have e1:w64 (((A.length+(V.length+(0+1)):Nat):Int) - 1)=(((A++V).length:Nat):Int):=by rw[aq (by omega) (by omega)];simp;omega
   have e2:((A.length+(V.length+(0+1)):Nat):Int)=(((A++V).length+1:Nat):Int):=by simp;omega
   have el:A++(V++[u])++y::Y=(A++V)++u::y::Y:=by simp
   have hg:(((A++V)++u::y::Y).set ((A++V).length+1) u)[(A++V).length]? =some u:=by rw[ahU (by omega),get_at]
   rw[ax (by omega),e1,e2,el]
   simp only[ahd,get_at,No,ajq,hg,YA,ah8]
   rw[aC (by simp only[agE,ajJ,ah0,ah1];omega),aC (by simp only[agE,ajJ,ah0,ah1];omega),aC (by simp only[agE,ajJ,ah0,ah1];omega),aC (by simp only[agE,ajJ,ah0,ah1];omega), ← hag]
   have:=ih V (u::Y) y (by omega) (by simp;omega)
   show iter n _ _=_
   rw[show (((A++V).length:Nat):Int)=((A.length+V.length:Nat):Int) by simp,this]
   simp
theorem TN (hc:ym k ok) (X R Y:List ah) (x:ah) (hlen:(X++[x]++R++Y).length<1000000000) (hR:Srt k R) (hx:ok x) (hok:∀ y∈R,ok y) (n:Nat) (hn:R.length<n):
 ∃ R1 R2,R=R1++R2∧(∀ y∈R1,k y<k x)∧(∀ y∈R2,k x≤k y)∧iter (X:=dZ) (β:=dX) n ((X.length:Int),(),((X.length+1:Nat):Int),((X.length+1+R.length:Nat):Int),X++[x]++R++Y,()) cE=some (Sum.inr ((X.length:Int),((X.length+1+R1.length:Nat):Int),X++[x]++R++Y,())):=by
 simp only[ah0,ah1,ah4] at hlen
 have hx0:(X++[x]++R++Y)[X.length]? =some x:=by simp
 have hRt:∀ i (h:i<R.length),(X++[x]++R++Y)[X.length+1+i]? =some R[i]:=fun i h=>aaM X [x] R Y h
 obtain⟨r,h1,h2,h3,h4,h5⟩:=bsearch (f:=cE) (fun i j=>((X.length:Int),(),(i:Int),(j:Int),X++[x]++R++Y,())) (fun i=>some (Sum.inr ((X.length:Int),(i:Int),X++[x]++R++Y,())))
  (fun t=>k ((R[t - (X.length+1)]?).getD (0,(false,[])))<k x) (X.length+1) (X.length+1+R.length) (by
    intro i j again hi hij hj
    unfold cE
    dsimp only
    have hh:(i+j) / 2 - (X.length+1)<R.length:=by omega
    have hg:=hRt _ hh
    rw[show X.length+1+((i+j) / 2 - (X.length+1))=(i+j) / 2 by omega] at hg
    rw[ax (by omega),Np i j (by omega)]
    simp only[ahd,hg,hx0,ajq]
    obtain⟨c,hcc,hlt⟩:=hc R[(i+j) / 2 - (X.length+1)] x (hok _ (ahZ _)) hx
    rw[hcc,aC (by simp only[agE,ajJ,ah0,ah1];omega),aC (by simp only[agE,ajJ,ah0,ah1];omega),ajq,ahO hh]
    dsimp only[Option.getD]
    by_cases hk:k R[(i+j) / 2 - (X.length+1)]<k x
    ·rw[ax (hlt.2 hk),ajQ hk,aq (by omega) (by omega)];rfl
    ·rw[av (fun h=>hk (hlt.1 h)),ajP hk])
  (by
    intro i again _ _
    unfold cE
    dsimp only
    rw[av (by omega)])
  (by
    intro s t hs hst ht hP
    rw[ahO (by omega)] at hP ⊢
    have:=hR.get (i:=s - (X.length+1)) (j:=t - (X.length+1)) (by omega) (by omega)
    simp only[ajr] at hP ⊢
    omega)
  n (X.length+1) (X.length+1+R.length) (by omega) (ai0 _) (by omega) (ai0 _) (fun t h1 h2=>by omega) (fun t h1 h2=>by omega)
 obtain⟨R1,R2,rfl,hR1⟩:=qv (l:=R) (n:=r - (X.length+1)) (by omega)
 refine⟨R1,R2,rfl, ?_, ?_, ?_⟩
 ·intro y hy
  obtain⟨i,hi,rfl⟩:=ain.1 hy
  have:=h4 (X.length+1+i) (by omega) (by omega)
  rw[show X.length+1+i - (X.length+1)=i by omega,ahJ hi,ahO hi] at this
  exact this
 ·intro y hy
  obtain⟨i,hi,rfl⟩:=ain.1 hy
  have:=h5 (X.length+1+(R1.length+i)) (by omega) (by simp;omega)
  rw[show X.length+1+(R1.length+i) - (X.length+1)=R1.length+i by omega,ahK (by omega),show R1.length+i - R1.length=i by omega,ahO hi] at this
  simp only[ajr] at this
  omega
 ·rw[h1,show X.length+1+R1.length=r by omega]
theorem RI (hc:ym k ok) (X L Y:List ah) (y:ah) (hlen:(X++L++[y]++Y).length<1000000000) (hL:Srt k L) (hy:ok y) (hok:∀ z∈L,ok z) (n:Nat) (hn:L.length<n):
 ∃ L1 L2,L=L1++L2∧(∀ z∈L1,k z≤k y)∧(∀ z∈L2,k y<k z)∧iter (X:=dN) (β:=dK) n (((X.length+L.length:Nat):Int),(),(X.length:Int),((X.length+L.length:Nat):Int),X++L++[y]++Y,()) cz=some (Sum.inr (((X.length+L.length:Nat):Int),((X.length+L1.length:Nat):Int),X++L++[y]++Y,())):=by
 simp only[ah0,ah1,ah4] at hlen
 have hy0:(X++L++[y]++Y)[X.length+L.length]? =some y:=by
  have:=aaM X L [y] Y (i:=0) (by simp)
  simpa using this
 have hLt:∀ i (h:i<L.length),(X++L++[y]++Y)[X.length+i]? =some L[i]:=fun i h=>aeq X L [y] Y h
 obtain⟨r,h1,h2,h3,h4,h5⟩:=bsearch (f:=cz) (fun i j=>(((X.length+L.length:Nat):Int),(),(i:Int),(j:Int),X++L++[y]++Y,())) (fun i=>some (Sum.inr (((X.length+L.length:Nat):Int),(i:Int),X++L++[y]++Y,())))
  (fun t=>¬ k y<k ((L[t - X.length]?).getD (0,(false,[])))) X.length (X.length+L.length) (by
    intro i j again hi hij hj
    unfold cz
    dsimp only
    have hh:(i+j) / 2 - X.length<L.length:=by omega
    have hg:=hLt _ hh
    rw[show X.length+((i+j) / 2 - X.length)=(i+j) / 2 by omega] at hg
    rw[ax (by omega),Np i j (by omega)]
    simp only[ahd,hg,hy0,ajq]
    obtain⟨c,hcc,hlt⟩:=hc y L[(i+j) / 2 - X.length] hy (hok _ (ahZ _))
    rw[hcc,aC (by simp only[agE,ajJ,ah0,ah1];omega),aC (by simp only[agE,ajJ,ah0,ah1];omega),ajq,ahO hh]
    dsimp only[Option.getD]
    by_cases hk:k y<k L[(i+j) / 2 - X.length]
    ·rw[ajI (hlt.2 hk),agP,ajD,ajP (fun h=>h hk)]
    ·rw[ajG (fun h=>hk (hlt.1 h)),agO,ajE,ajQ hk,aq (by omega) (by omega)];rfl)
  (by
    intro i again _ _
    unfold cz
    dsimp only
    rw[av (by omega)])
  (by
    intro s t hs hst ht hP
    rw[ahO (by omega)] at hP ⊢
    have:=hL.get (i:=s - X.length) (j:=t - X.length) (by omega) (by omega)
    simp only[ajr] at hP ⊢
    omega)
  n X.length (X.length+L.length) (by omega) (ai0 _) (by omega) (ai0 _) (fun t h1 h2=>by omega) (fun t h1 h2=>by omega)
 obtain⟨L1,L2,rfl,hL1⟩:=qv (l:=L) (n:=r - X.length) (by omega)
 refine⟨L1,L2,rfl, ?_, ?_, ?_⟩
 ·intro z hz
  obtain⟨i,hi,rfl⟩:=ain.1 hz
  have:=h4 (X.length+i) (by omega) (by omega)
  rw[show X.length+i - X.length=i by omega,ahJ hi,ahO hi] at this
  simp only[ajr] at this
  omega
 ·intro z hz
  obtain⟨i,hi,rfl⟩:=ain.1 hz
  have:=h5 (X.length+(L1.length+i)) (by omega) (by simp;omega)
  rw[show X.length+(L1.length+i) - X.length=L1.length+i by omega,ahK (by omega),show L1.length+i - L1.length=i by omega,ahO hi] at this
  simp only[ajr] at this
  omega
 ·rw[h1,show X.length+L1.length=r by omega]
theorem XT (hc:ym k ok) (X L R Y:List ah) (hlen:(X++L++R++Y).length<1000000000) (hL:Srt k L) (hR:Srt k R) (hokL:∀ z∈L,ok z) (hokR:∀ z∈R,ok z) (mid lo hi:Nat) (hmid:mid=(X.length+(X.length+L.length+R.length)) / 2)
 (hcase:(mid<X.length+L.length∧lo+R.length=mid∧hi=mid∧X.length≤lo)∨(X.length+L.length≤mid∧lo=X.length∧hi=X.length+L.length)) (n:Nat) (hn:hi<n):
 ∃ s:Nat,iter (X:=dP) (β:=dM) n ((X.length:Int),((X.length+L.length:Nat):Int),((X.length+L.length+R.length:Nat):Int),(),(mid:Int),((mid+(X.length+L.length):Nat):Int),(lo:Int),(hi:Int),((mid+(X.length+L.length):Nat):Int) - 1,X++L++R++Y,()) cA=some (Sum.inr ((X.length:Int),((X.length+L.length:Nat):Int),((X.length+L.length+R.length:Nat):Int),(),(mid:Int),((mid+(X.length+L.length):Nat):Int),(s:Int),X++L++R++Y,()))∧
  lo≤s∧s≤hi∧(∀ i j (_:i<L.length) (_:j<R.length),X.length+i+1=s→j+s=mid→k L[i]≤k R[j])∧(∀ i j (_:i<L.length) (_:j<R.length),X.length+i=s→j+1+s=mid→k R[j]<k L[i]):=by
 simp only[ah0] at hlen
 have hLt:∀ i (h:i<L.length),(X++L++R++Y)[X.length+i]? =some L[i]:=fun i h=>aeq X L R Y h
 have hRt:∀ i (h:i<R.length),(X++L++R++Y)[X.length+L.length+i]? =some R[i]:=fun i h=>aaM X L R Y h
 obtain⟨r,h1,h2,h3,h4,h5⟩:=bsearch (f:=cA) (fun i j=>((X.length:Int),((X.length+L.length:Nat):Int),((X.length+L.length+R.length:Nat):Int),(),(mid:Int),((mid+(X.length+L.length):Nat):Int),(i:Int),(j:Int),((mid+(X.length+L.length):Nat):Int) - 1,X++L++R++Y,()))
  (fun s=>some (Sum.inr ((X.length:Int),((X.length+L.length:Nat):Int),((X.length+L.length+R.length:Nat):Int),(),(mid:Int),((mid+(X.length+L.length):Nat):Int),(s:Int),X++L++R++Y,())))
  (fun t=>¬ k ((R[mid - 1 - t]?).getD (0,(false,[])))<k ((L[t - X.length]?).getD (0,(false,[])))) lo hi (by
    intro i j again hi1 hij hj
    unfold cA
    dsimp only
    generalize hh0:(i+j) / 2=h
    have hhL:h - X.length<L.length:=by omega
    have hhR:mid - 1 - h<R.length:=by omega
    have hg:=hLt _ hhL
    rw[show X.length+(h - X.length)=h by omega] at hg
    have hg2:=hRt _ hhR
    rw[ax (by omega),Np i j (by omega),hh0]
    have e1:w64 (((mid+(X.length+L.length):Nat):Int) - 1 - (h:Int))=((X.length+L.length+(mid - 1 - h):Nat):Int):=by rw[aq (by omega) (by omega)];omega
    rw[e1]
    simp only[ahd,hg,hg2,ajq]
    obtain⟨c,hcc,hlt⟩:=hc R[mid - 1 - h] L[h - X.length] (hokR _ (ahZ _)) (hokL _ (ahZ _))
    rw[hcc,aC (by simp only[agE,ajJ,ah0];omega),aC (by simp only[agE,ajJ,ah0];omega),ajq,ahO hhL,ahO hhR]
    dsimp only[Option.getD]
    by_cases hk:k R[mid - 1 - h]<k L[h - X.length]
    ·rw[ajI (hlt.2 hk),agP,ajD,ajP (fun h=>h hk)]
    ·rw[ajG (fun h=>hk (hlt.1 h)),agO,ajE,ajQ hk,aq (by omega) (by omega)];rfl)
  (by
    intro i again _ _
    unfold cA
    dsimp only
    rw[av (by omega)])
  (by
    intro s t hs hst ht hP
    rw[ahO (show t - X.length<L.length by omega),ahO (show mid - 1 - t<R.length by omega)] at hP
    rw[ahO (show s - X.length<L.length by omega),ahO (show mid - 1 - s<R.length by omega)]
    have a1:=hL.get (i:=s - X.length) (j:=t - X.length) (by omega) (by omega)
    have a2:=hR.get (i:=mid - 1 - t) (j:=mid - 1 - s) (by omega) (by omega)
    simp only[ajr] at hP ⊢
    omega)
  n lo hi (by omega) (ai0 _) (by omega) (ai0 _) (fun t h1 h2=>by omega) (fun t h1 h2=>by omega)
 refine⟨r,h1,h2,h3, ?_, ?_⟩
 ·intro i j hi' hj' e1 e2
  have:=h4 (X.length+i) (by omega) (by omega)
  rw[show X.length+i - X.length=i by omega,show mid - 1 - (X.length+i)=j by omega,ahO hi',ahO hj'] at this
  simp only[ajr] at this
  omega
 ·intro i j hi' hj' e1 e2
  have:=h5 (X.length+i) (by omega) (by omega)
  rw[show X.length+i - X.length=i by omega,show mid - 1 - (X.length+i)=j by omega,ahO hi',ahO hj'] at this
  simp only[ajr] at this
  omega
def YB (self:((List ah)×Int×Int×Int×Unit×Unit)→Option ((List ah)×Unit)) (x:(List ah)×Int×Int×Int×Unit×Unit):=bM self x.1 x.2.1 x.2.2.1 x.2.2.2.1 x.2.2.2.2.1
set_option maxHeartbeats 4000000 in
theorem YC (hc:ym k ok):∀ (n:Nat) (X L R Y:List ah),L.length+R.length<n+2→0<L.length→0<R.length→(X++L++R++Y).length<1000000000→Srt k L→Srt k R→(∀ z∈L,ok z)→(∀ z∈R,ok z)→
 ∃ S,Fp YB n (X++L++R++Y,(X.length:Int),((X.length+L.length:Nat):Int),((X.length+L.length+R.length:Nat):Int),(),())=some (X++S++Y,())∧Srt k S∧bE k (L++R) S:=by
 intro n
 induction n with
 | zero=>intro X L R Y h h1 h2;omega
 | succ n ih=>
  intro X L R Y hn hL0 hR0 hlen hL hR hokL hokR
  have hlen':=hlen
  simp only[ah0] at hlen
  show ∃ S,YB (Fp YB n) _=_∧_
  generalize hself:Fp YB n=self at ih
  unfold YB bM
  dsimp only
  have e1:w64 (((X.length+L.length:Nat):Int) - (X.length:Int))=(L.length:Int):=by rw[aq (by omega) (by omega)];omega
  have e2:w64 (((X.length+L.length+R.length:Nat):Int) - ((X.length+L.length:Nat):Int))=(R.length:Int):=by rw[aq (by omega) (by omega)];omega
  rw[e1,e2]
  by_cases hL1:L.length=1
  ·obtain⟨x,rfl⟩:∃ x,L=[x]:=List.length_eq_one_iff.1 hL1
   rw[show ((([x].length:Nat):Int)==1)=true by simp,ajE]
   obtain⟨R1,R2,rfl,h1,h2,h3⟩:=TN hc X R Y x hlen' hR (hokL x (by simp)) hokR (Int.natAbs (X.length:Int)+(Int.natAbs ((X.length+[x].length:Nat):Int)+(Int.natAbs ((X.length+[x].length+R.length:Nat):Int)+(List.length (X++[x]++R++Y)+2)))) (by simp;omega)
   simp only[ah1,ah4,ajn] at h3 ⊢
   rw[h3,aB]
   dsimp only
   have hmv:=aeS (X.length+1+R1.length) (Int.natAbs ((X.length+1+R1.length:Nat):Int)+(Int.natAbs (X.length:Int)+(List.length (X++[x]++(R1++R2)++Y)+2))) X R1 (R2++Y) x (by simp;omega) rfl (by simp at hlen ⊢;omega)
   rw[show X++x::R1++(R2++Y)=X++[x]++(R1++R2)++Y by simp] at hmv
   rw[hmv,aB]
   refine⟨R1++x::R2,by simp, ?_, ?_⟩
   ·exact hR.left.append (aiA.2 ⟨h2,hR.right⟩) (fun y hy z hz=>by
     rcases aij.1 hz with rfl | hz
     ·have:=h1 y hy;omega
     ·exact hR.Nh y hy z hz)
   ·have:=(bE.swap (k:=k) (u:=[x]) (v:=R1) (fun y hy z hz=>by rw[aiv.1 hy];have:=h1 z hz;omega)).append (bE.refl k R2)
    simpa using this
  ·rw[show (((L.length:Nat):Int)==1)=false by simp;omega,ajD]
   by_cases hR1:R.length=1
   ·obtain⟨y,rfl⟩:∃ x,R=[x]:=List.length_eq_one_iff.1 hR1
    rw[show ((([y].length:Nat):Int)==1)=true by simp,ajE]
    obtain⟨L1,L2,rfl,h1,h2,h3⟩:=RI hc X L Y y hlen' hL (hokR y (by simp)) hokL (Int.natAbs ((X.length+L.length:Nat):Int)+(Int.natAbs (X.length:Int)+(Int.natAbs ((X.length+L.length:Nat):Int)+(List.length (X++L++[y]++Y)+2)))) (by omega)
    rw[h3,aB]
    dsimp only
    have hmv:=acG (X++L1) (Int.natAbs ((X.length+L1.length:Nat):Int)+(Int.natAbs ((X.length+(L1++L2).length:Nat):Int)+(List.length (X++(L1++L2)++[y]++Y)+2))) L2 Y y (by simp;omega) (by simp at hlen ⊢;omega)
    rw[show X++L1++L2++y::Y=X++(L1++L2)++[y]++Y by simp,show (((X++L1).length:Nat):Int)=((X.length+L1.length:Nat):Int) by simp,show (((X++L1).length+L2.length:Nat):Int)=((X.length+(L1++L2).length:Nat):Int) by simp;omega] at hmv
    rw[hmv,aB]
    refine⟨L1++y::L2,by simp, ?_, ?_⟩
    ·exact hL.left.append (aiA.2 ⟨fun z hz=>by have:=h2 z hz;omega,hL.right⟩) (fun z hz w hw=>by
      rcases aij.1 hw with rfl | hw
      ·exact h1 z hz
      ·exact hL.Nh z hz w hw)
    ·have:=(bE.refl k L1).append (bE.swap (k:=k) (u:=L2) (v:=[y]) (fun z hz w hw=>by rw[aiv.1 hw];have:=h2 z hz;omega))
     simpa using this
   ·rw[show (((R.length:Nat):Int)==1)=false by simp;omega,ajD]
    have eh:=Np X.length (X.length+L.length+R.length) (by omega)
    rw[eh]
    generalize hmid:(X.length+(X.length+L.length+R.length)) / 2=mid
    have e3:w64 ((mid:Int)+((X.length+L.length:Nat):Int))=((mid+(X.length+L.length):Nat):Int):=by rw[aq (by omega) (by omega)];omega
    rw[e3]
    obtain⟨lo,hi,hcase,hv⟩:∃ lo hi:Nat,((mid<X.length+L.length∧lo+R.length=mid∧hi=mid∧X.length≤lo)∨(X.length+L.length≤mid∧lo=X.length∧hi=X.length+L.length))∧
     (bif decide (((X.length+L.length:Nat):Int)>(mid:Int)) then
       (some (Sum.inr ((X.length:Int),((X.length+L.length:Nat):Int),((X.length+L.length+R.length:Nat):Int),(),(mid:Int),((mid+(X.length+L.length):Nat):Int),w64 (((mid+(X.length+L.length):Nat):Int) - ((X.length+L.length+R.length:Nat):Int)),(mid:Int),X++L++R++Y,())):Option (((List ah)×Unit) ⊕ (Int×Int×Int×Unit×Int×Int×Int×Int×(List ah)×Unit)))
     else some (Sum.inr ((X.length:Int),((X.length+L.length:Nat):Int),((X.length+L.length+R.length:Nat):Int),(),(mid:Int),((mid+(X.length+L.length):Nat):Int),(X.length:Int),((X.length+L.length:Nat):Int),X++L++R++Y,())))=some (Sum.inr ((X.length:Int),((X.length+L.length:Nat):Int),((X.length+L.length+R.length:Nat):Int),(),(mid:Int),((mid+(X.length+L.length):Nat):Int),(lo:Int),(hi:Int),X++L++R++Y,())):=by
     by_cases hm:mid<X.length+L.length
     ·refine⟨mid - R.length,mid,.inl ⟨hm,by omega,rfl,by omega⟩, ?_⟩
      rw[ax (by omega),aq (by omega) (by omega),show ((mid+(X.length+L.length):Nat):Int) - ((X.length+L.length+R.length:Nat):Int)=((mid - R.length:Nat):Int) by omega]
     ·refine⟨X.length,X.length+L.length,.inr ⟨by omega,rfl,rfl⟩, ?_⟩
      rw[av (by omega)]
    rw[hv,aB]
    dsimp only
    have e4:w64 (((mid+(X.length+L.length):Nat):Int) - 1)=((mid+(X.length+L.length):Nat):Int) - 1:=aq (by omega) (by omega)
    rw[e4]
    obtain⟨s,h1,h2,h3,hF2,hF1⟩:=XT hc X L R Y hlen' hL hR hokL hokR mid lo hi hmid.symm hcase (Int.natAbs (X.length:Int)+(Int.natAbs ((X.length+L.length:Nat):Int)+(Int.natAbs ((X.length+L.length+R.length:Nat):Int)+(Int.natAbs (mid:Int)+(Int.natAbs ((mid+(X.length+L.length):Nat):Int)+(Int.natAbs (lo:Int)+(Int.natAbs (hi:Int)+(Int.natAbs (((mid+(X.length+L.length):Nat):Int) - 1)+(List.length (X++L++R++Y)+2))))))))) (by omega)
    rw[h1,aB]
    dsimp only
    clear h1 hv
    obtain⟨L1,L2,rfl,hL1l⟩:=qv (l:=L) (n:=s - X.length) (by omega)
    obtain⟨R1,R2,rfl,hR1l⟩:=qv (l:=R) (n:=mid - s) (by simp only[ah0] at *;omega)
    simp only[ah0] at hn hlen hL1 hR1 hmid hcase e1 e2 e3 e4 eh hL0 hR0
    have F1:∀ y∈R1,∀ z∈L2,k y<k z:=by
     intro y hy z hz
     have hr0:0<R1.length:=ah6 hy
     have hl0:0<L2.length:=ah6 hz
     have:=hF1 L1.length (R1.length - 1) (by simp;omega) (by simp;omega) (by omega) (by omega)
     rw[List.getElem_append_left (show R1.length - 1<R1.length by omega),List.getElem_append_right (by omega)] at this
     obtain⟨i,hi',rfl⟩:=ain.1 hy
     obtain⟨j,hj',rfl⟩:=ain.1 hz
     have a1:=hR.left.get (i:=i) (j:=R1.length - 1) (by omega) (by omega)
     have a2:=hL.right.get (i:=L1.length - L1.length) (j:=j) (by omega) hj'
     omega
    have F2:∀ y∈L1,∀ z∈R2,k y≤k z:=by
     intro y hy z hz
     have hr0:0<L1.length:=ah6 hy
     have hl0:0<R2.length:=ah6 hz
     have:=hF2 (L1.length - 1) R1.length (by simp;omega) (by simp;omega) (by omega) (by omega)
     rw[List.getElem_append_left (show L1.length - 1<L1.length by omega),List.getElem_append_right (by omega)] at this
     obtain⟨i,hi',rfl⟩:=ain.1 hy
     obtain⟨j,hj',rfl⟩:=ain.1 hz
     have a1:=hL.left.get (i:=i) (j:=L1.length - 1) (by omega) (by omega)
     have a2:=hR.right.get (i:=R1.length - R1.length) (j:=j) (by omega) hj'
     omega
    have e5:w64 (((mid+(X.length+(L1++L2).length):Nat):Int) - (s:Int))=((X.length+(L1++L2).length+R1.length:Nat):Int):=by
     rw[aq (by simp;omega) (by simp;omega)];simp only[ah0];omega
    rw[e5]
    have hokL1:∀ z∈L1,ok z:=fun z hz=>hokL z (by simp[hz])
    have hokL2:∀ z∈L2,ok z:=fun z hz=>hokL z (by simp[hz])
    have hokR1:∀ z∈R1,ok z:=fun z hz=>hokR z (by simp[hz])
    have hokR2:∀ z∈R2,ok z:=fun z hz=>hokR z (by simp[hz])
    have ph1:∃ S1,(X.length<s→s<mid→self (X++L1++R1++(L2++R2++Y),(X.length:Int),(s:Int),(mid:Int),(),())=some (X++S1++(L2++R2++Y),()))∧(¬(X.length<s∧s<mid)→S1=L1++R1)∧Srt k S1∧bE k (L1++R1) S1:=by
     by_cases hb:X.length<s∧s<mid
     ·obtain⟨S1,g1,g2,g3⟩:=ih X L1 R1 (L2++R2++Y) (by omega) (by omega) (by omega) (by simp;omega) hL.left hR.left hokL1 hokR1
      rw[show ((X.length+L1.length:Nat):Int)=(s:Int) by omega,show ((X.length+L1.length+R1.length:Nat):Int)=(mid:Int) by omega] at g1
      exact⟨S1,fun _ _=>g1,fun h=>absurd hb h,g2,g3⟩
     ·refine⟨L1++R1,fun h1 h2=>absurd ⟨h1,h2⟩ hb,fun _=>rfl, ?_,bE.refl _ _⟩
      rcases (show L1.length=0∨R1.length=0 by omega) with h | h
      ·rw[ahx h];exact hR.left
      ·rw[ahx h,ahl];exact hL.left
    obtain⟨S1,hS1a,hS1b,hS1s,hS1e⟩:=ph1
    have hS1l:S1.length=L1.length+R1.length:=by rw[hS1e.length];simp
    have ph2:∃ S2,(bif decide ((mid:Int)<((X.length+(L1++L2).length+R1.length:Nat):Int)) then
     bif decide (((X.length+(L1++L2).length+R1.length:Nat):Int)<((X.length+(L1++L2).length+(R1++R2).length:Nat):Int)) then
      Option.bind (self (X++S1++(L2++R2++Y),(mid:Int),((X.length+(L1++L2).length+R1.length:Nat):Int),((X.length+(L1++L2).length+(R1++R2).length:Nat):Int),(),())) fun r38=>some (r38.1,())
     else some (X++S1++(L2++R2++Y),())
     else some (X++S1++(L2++R2++Y),()))=some (X++(S1++S2)++Y,())∧Srt k S2∧bE k (L2++R2) S2:=by
     simp only[ah0]
     by_cases hb1:0<L2.length
     ·rw[ax (by omega)]
      by_cases hb2:0<R2.length
      ·rw[ax (by omega)]
       obtain⟨S2,g1,g2,g3⟩:=ih (X++S1) L2 R2 Y (by omega) hb1 hb2 (by simp;omega) hL.right hR.right hokL2 hokR2
       rw[show (((X++S1).length:Nat):Int)=(mid:Int) by simp;omega,show (((X++S1).length+L2.length:Nat):Int)=((X.length+(L1.length+L2.length)+R1.length:Nat):Int) by simp;omega,show (((X++S1).length+L2.length+R2.length:Nat):Int)=((X.length+(L1.length+L2.length)+(R1.length+R2.length):Nat):Int) by simp;omega] at g1
       rw[show X++S1++(L2++R2++Y)=X++S1++L2++R2++Y by simp,g1]
       exact⟨S2,by simp,g2,g3⟩
      ·have:R2=[]:=ahx (by omega)
       subst this
       rw[av (by simp)]
       exact⟨L2,by simp,hL.right,by simpa using bE.refl k L2⟩
     ·have:L2=[]:=ahx (by omega)
      subst this
      rw[av (by simp;omega)]
      exact⟨R2,by simp,hR.right,bE.refl _ _⟩
    obtain⟨S2,hE2,hS2s,hS2e⟩:=ph2
    have fin:Srt k (S1++S2)∧bE k (L1++L2++(R1++R2)) (S1++S2):=by
     constructor
     ·refine hS1s.append hS2s fun y hy z hz=> ?_
      rcases aii.1 (hS1e.mem.1 hy) with h | h<;>rcases aii.1 (hS2e.mem.1 hz) with h' | h'
      ·exact hL.Nh y h z h'
      ·exact F2 y h z h'
      ·have:=F1 y h z h';omega
      ·exact hR.Nh y h z h'
     ·have h1:bE k (L1++(L2++R1)++R2) (L1++(R1++L2)++R2):=((bE.refl k L1).append (bE.swap fun y hy z hz=>by have:=F1 z hz y hy;omega)).append (bE.refl k R2)
      have h2:=hS1e.append hS2e
      have h3:bE k (L1++L2++(R1++R2)) (L1++R1++(L2++R2)):=by simpa using h1
      exact h3.trans h2
    refine⟨S1++S2, ?_,fin.1,fin.2⟩
    have hsL:((X.length+(L1++L2).length:Nat):Int)=((X.length+L1.length+L2.length:Nat):Int):=by simp;omega
    have tail:∀ (D:List ah),D=X++L1++R1++(L2++R2++Y)→
     (bif decide ((X.length:Int)<(s:Int)) then
       aK (β:=((List ah)×Unit)) (γ:=(Int×Unit×Int×Int×(List ah)×Unit)) (
        bif decide ((s:Int)<(mid:Int)) then
         Option.bind (self (D,(X.length:Int),(s:Int),(mid:Int),(),())) fun r35=>
         some (Sum.inr (((X.length+(L1++L2).length+(R1++R2).length:Nat):Int),(),(mid:Int),((X.length+(L1++L2).length+R1.length:Nat):Int),r35.1,()))
        else
         some (Sum.inr (((X.length+(L1++L2).length+(R1++R2).length:Nat):Int),(),(mid:Int),((X.length+(L1++L2).length+R1.length:Nat):Int),D,()))) fun v36=>
       bif decide (v36.2.2.1<v36.2.2.2.1) then
        bif decide (v36.2.2.2.1<v36.1) then
         Option.bind (self (v36.2.2.2.2.1,v36.2.2.1,v36.2.2.2.1,v36.1,v36.2.1,())) fun r37=>
         some (r37.1,())
        else
         some (v36.2.2.2.2.1,())
       else
        some (v36.2.2.2.2.1,())
     else
      bif decide ((mid:Int)<((X.length+(L1++L2).length+R1.length:Nat):Int)) then
       bif decide (((X.length+(L1++L2).length+R1.length:Nat):Int)<((X.length+(L1++L2).length+(R1++R2).length:Nat):Int)) then
        Option.bind (self (D,(mid:Int),((X.length+(L1++L2).length+R1.length:Nat):Int),((X.length+(L1++L2).length+(R1++R2).length:Nat):Int),(),())) fun r38=>
        some (r38.1,())
       else
        some (D,())
      else
       some (D,()))=some (X++(S1++S2)++Y,()):=by
     intro D hD
     by_cases hb1:X.length<s
     ·rw[ax (by omega)]
      by_cases hb2:s<mid
      ·rw[ax (by omega),hD,hS1a hb1 hb2,ajq,aB]
       exact hE2
      ·rw[av (by omega),aB,hD]
       have:X++L1++R1++(L2++R2++Y)=X++S1++(L2++R2++Y):=by rw[hS1b (fun h=>hb2 h.2)];simp
       rw[this]
       exact hE2
     ·rw[av (by omega),hD]
      have:X++L1++R1++(L2++R2++Y)=X++S1++(L2++R2++Y):=by rw[hS1b (fun h=>hb1 h.1)];simp
      rw[this]
      exact hE2
    by_cases hsm:s<X.length+(L1++L2).length
    ·rw[ax (by omega)]
     by_cases hme:0<R1.length
     ·have hrot:=ada (X++L1) L2 R1 (R2++Y) (by simp at hsm;omega) hme (by simp;omega)
      rw[show (((X++L1).length:Nat):Int)=(s:Int) by simp;omega,show (((X++L1).length+L2.length:Nat):Int)=((X.length+(L1++L2).length:Nat):Int) by simp;omega,show (((X++L1).length+L2.length+R1.length:Nat):Int)=((X.length+(L1++L2).length+R1.length:Nat):Int) by simp;omega,
       show X++L1++L2++R1++(R2++Y)=X++(L1++L2)++(R1++R2)++Y by simp] at hrot
      rw[ax (by omega),hrot,ajq,aB]
      exact tail _ (by simp)
     ·have:R1=[]:=ahx (by omega)
      subst this
      rw[av (by simp),aB]
      exact tail _ (by simp)
    ·rw[av (by omega)]
     have:L2=[]:=ahx (by simp at hsm;omega)
     subst this
     exact tail _ (by simp)
theorem OS (hc:ym k ok) (X L R Y:List ah) (h1:0<L.length) (h2:0<R.length) (hlen:(X++L++R++Y).length<1000000000) (hL:Srt k L) (hR:Srt k R) (hokL:∀ z∈L,ok z) (hokR:∀ z∈R,ok z):
 ∃ S,cZ (X++L++R++Y) (X.length:Int) ((X.length+L.length:Nat):Int) ((X.length+L.length+R.length:Nat):Int) ()=some (X++S++Y,())∧Srt k S∧bE k (L++R) S:=by
 unfold cZ
 exact YC hc _ X L R Y (by unfold gv;simp only[ah0];omega) h1 h2 hlen hL hR hokL hokR
theorem Yy (hc:ym k ok) (N:Nat) (hN:N<100000000):∀ (n:Nat) (A Z:List ah) (j:Nat),A.length=j*20→A.length+Z.length=N→Z.length<n→ChS k 20 A→(∀ z∈A,ok z)→(∀ z∈Z,ok z)→
 ∃ A' Z' j',iter (X:=fA) (β:=fm) n ((N:Int),(),20,(A.length:Int),((A.length+20:Nat):Int),A++Z,()) ff=some (Sum.inr ((N:Int),(),20,(A'.length:Int),A'++Z',()))∧A'.length=j'*20∧Z'.length<20∧ChS k 20 A'∧bE k (A++Z) (A'++Z'):=by
 intro n
 induction n with
 | zero=>intro A Z j _ _ h;omega
 | succ n ih=>
  intro A Z j hA hAZ hn hch hokA hokZ
  rw[aZ]
  generalize hag:(fun y=>iter n y ff)=again
  unfold ff
  dsimp only
  by_cases hb:20≤Z.length
  ·rw[ax (by omega)]
   obtain⟨S,Y,rfl,hS⟩:=qv (l:=Z) (n:=20) hb
   simp only[ah0] at hAZ hn
   obtain⟨S',g1,g2,g3⟩:=Mm hc A S Y (by simp;omega) (fun z hz=>hokZ z (by simp[hz]))
   rw[hS] at g1
   rw[show A++(S++Y)=A++S++Y by simp,g1,ajq]
   dsimp only
   have hS':S'.length=20:=by rw[g3.length,hS]
   have e1:w64 (((A.length+20:Nat):Int)+20)=(((A++S').length+20:Nat):Int):=by rw[aq (by omega) (by omega)];simp;omega
   rw[e1,show ((A.length+20:Nat):Int)=(((A++S').length:Nat):Int) by simp;omega, ← hag]
   obtain⟨A',Z',j',h1,h2,h3,h4,h5⟩:=ih (A++S') Y (j+1) (by simp;omega) (by simp;omega) (by omega) (hch.snoc hA g2 (by omega)) (fun z hz=>by
    rcases aii.1 hz with h | h
    ·exact hokA z h
    ·exact hokZ z (by simp[g3.mem.1 h])) (fun z hz=>hokZ z (by simp[hz]))
   refine⟨A',Z',j',h1,h2,h3,h4, ?_⟩
   have:bE k (A++S++Y) (A++S'++Y):=((bE.refl k A).append g3).append (bE.refl k Y)
   exact this.trans h5
  ·rw[av (by omega)]
   exact⟨A,Z,j,rfl,hA,by omega,hch,bE.refl _ _⟩
theorem ZM (hc:ym k ok) (N bs:Nat) (hN:N<100000000) (hbs:0<bs) (hbN:bs<N):∀ (n:Nat) (A Z:List ah) (j:Nat),A.length=j*(2*bs)→A.length+Z.length=N→Z.length<n→ChS k (2*bs) A→ChS k bs Z→(∀ z∈A,ok z)→(∀ z∈Z,ok z)→
 ∃ A' Z' j',iter (X:=fC) (β:=fq) n ((N:Int),(),(bs:Int),(A.length:Int),((A.length+2*bs:Nat):Int),A++Z,()) fk=some (Sum.inr ((N:Int),(),(bs:Int),(A'.length:Int),A'++Z',()))∧A'.length=j'*(2*bs)∧Z'.length<2*bs∧ChS k (2*bs) A'∧ChS k bs Z'∧bE k (A++Z) (A'++Z'):=by
 intro n
 induction n with
 | zero=>intro A Z j _ _ h;omega
 | succ n ih=>
  intro A Z j hA hAZ hn hch hcz hokA hokZ
  rw[aZ]
  generalize hag:(fun y=>iter n y fk)=again
  unfold fk
  dsimp only
  by_cases hb:2*bs≤Z.length
  ·rw[ax (by omega)]
   obtain⟨L,Z1,rfl,hL⟩:=qv (l:=Z) (n:=bs) (by omega)
   obtain⟨R,Y,rfl,hR⟩:=qv (l:=Z1) (n:=bs) (by simp at hb;omega)
   simp only[ah0] at hAZ hn hb
   have sL:Srt k L:=by
    have:=hcz 0
    rw[ajp,ahv, ← hL,aiN] at this
    exact this
   have sR:Srt k R:=by
    have:=hcz 1
    rw[ajh] at this
    conv at this=>arg 2;rw[show bs=L.length by omega,ahs,show L.length=R.length by omega,aiN]
    exact this
   have cY:ChS k bs Y:=by
    have:=hcz.drop 2
    rw[show L++(R++Y)=(L++R)++Y by simp,show 2*bs=(L++R).length by simp;omega,ahs] at this
    exact this
   obtain⟨S,g1,g2,g3⟩:=OS hc A L R Y (by omega) (by omega) (by simp;omega) sL sR (fun z hz=>hokZ z (by simp[hz])) (fun z hz=>hokZ z (by simp[hz]))
   have e0:w64 ((A.length:Int)+(bs:Int))=((A.length+L.length:Nat):Int):=by rw[aq (by omega) (by omega)];omega
   rw[e0,show ((A.length+2*bs:Nat):Int)=((A.length+L.length+R.length:Nat):Int) by omega,show A++(L++(R++Y))=A++L++R++Y by simp,g1,ajq]
   dsimp only
   have hSl:S.length=2*bs:=by rw[g3.length];simp;omega
   have e1:w64 (((A.length+L.length+R.length:Nat):Int)+w64 (2*(bs:Int)))=(((A++S).length+2*bs:Nat):Int):=by
    rw[aq (n:=2*(bs:Int)) (by omega) (by omega),aq (by omega) (by omega)];simp;omega
   rw[e1,show ((A.length+L.length+R.length:Nat):Int)=(((A++S).length:Nat):Int) by simp;omega, ← hag]
   obtain⟨A',Z',j',h1,h2,h3,h4,h5,h6⟩:=ih (A++S) Y (j+1) (by rw[ah0,hA,hSl,aiS,ajh]) (by simp;omega) (by omega) (hch.snoc hA g2 (by omega)) cY (fun z hz=>by
    rcases aii.1 hz with h | h
    ·exact hokA z h
    ·rcases aii.1 (g3.mem.1 h) with h | h<;>exact hokZ z (by simp[h])) (fun z hz=>hokZ z (by simp[hz]))
   refine⟨A',Z',j',h1,h2,h3,h4,h5, ?_⟩
   have:bE k (A++(L++R)++Y) (A++S++Y):=((bE.refl k A).append g3).append (bE.refl k Y)
   have h7:=this.trans h6
   simpa using h7
  ·rw[av (by omega)]
   exact⟨A,Z,j,rfl,hA,by omega,hch,hcz,bE.refl _ _⟩
theorem ZL (hc:ym k ok) (N:Nat) (hN:N<100000000):∀ (n bs:Nat) (l:List ah),l.length=N→0<bs→N<bs+n∧0<n→bs<400000000→ChS k bs l→(∀ z∈l,ok z)→
 ∃ l',iter (X:=fB) (β:=fo) n ((N:Int),(),(bs:Int),l,()) fh=some (Sum.inr (l',()))∧Srt k l'∧bE k l l':=by
 intro n
 induction n with
 | zero=>
  intro bs l hl hbs hn hb2 hch hok
  exact absurd hn (by omega)
 | succ n ih=>
  intro bs l hl hbs hn hb2 hch hok
  rw[aZ]
  generalize hag:(fun y=>iter n y fh)=again
  unfold fh
  dsimp only
  by_cases hb:bs<N
  ·rw[ax (by omega)]
   have e0:w64 (2*(bs:Int))=(((([]:List ah).length)+2*bs:Nat):Int):=by rw[aq (by omega) (by omega)];simp
   rw[e0,show (0:Int)=((([]:List ah).length:Nat):Int) from rfl]
   obtain⟨A,Z,j,h1,h2,h3,h4,h5,h6⟩:=ZM hc N bs hN hbs hb (Int.natAbs (N:Int)+(Int.natAbs (bs:Int)+(Int.natAbs ((([]:List ah).length:Nat):Int)+(Int.natAbs (((([]:List ah).length)+2*bs:Nat):Int)+(List.length l+2))))) [] l 0 (by simp) (by simpa using hl) (by omega) (ChS.nil _ _) hch (by simp) hok
   rw[aiw] at h1 h6
   rw[h1,aB]
   dsimp only
   have hAZ:A.length+Z.length=N:=by have:=h6.length;simp at this;omega
   have hokAZ:∀ z∈A++Z,ok z:=fun z hz=>hok z (h6.mem.1 hz)
   have e1:w64 ((A.length:Int)+(bs:Int))=((A.length+bs:Nat):Int):=by rw[aq (by omega) (by omega)];omega
   have e2:w64 ((bs:Int)*2)=((2*bs:Nat):Int):=by rw[aq (by omega) (by omega)];omega
   rw[e1,e2]
   by_cases hlast:A.length+bs<N
   ·rw[ax (by omega)]
    obtain⟨L,R,rfl,hL⟩:=qv (l:=Z) (n:=bs) (by omega)
    simp only[ah0] at hAZ h3
    have sL:Srt k L:=by
     have:=h5 0
     rw[ajp,ahv, ← hL,aiN] at this
     exact this
    have sR:Srt k R:=by
     have:=h5 1
     rw[ajh] at this
     conv at this=>arg 2;rw[show List.drop bs (L++R)=R by rw[← hL];exact ahs,aiP (by omega)]
     exact this
    obtain⟨S,g1,g2,g3⟩:=OS hc A L R [] (by omega) (by omega) (by simp;omega) sL sR (fun z hz=>hokAZ z (by simp[hz])) (fun z hz=>hokAZ z (by simp[hz]))
    simp only[ahl] at g1
    rw[show ((A.length+bs:Nat):Int)=((A.length+L.length:Nat):Int) by omega,show ((N:Nat):Int)=((A.length+L.length+R.length:Nat):Int) by omega,show A++(L++R)=A++L++R by simp,g1,ajq, ← hag]
    have hsam:bE k l (A++S):=h6.trans (by simpa using (bE.refl k A).append g3)
    obtain⟨l',q1,q2,q3⟩:=ih (2*bs) (A++S) (by rw[hsam.length];exact hl) (by omega) ⟨by omega,by omega⟩ (by omega) (h4.snoc h2 g2 (by rw[g3.length];simp;omega)) (fun z hz=>hok z (hsam.mem.1 hz))
    rw[show ((A.length+L.length+R.length:Nat):Int)=((N:Nat):Int) by omega]
    exact⟨l',q1,q2,hsam.trans q3⟩
   ·rw[av (by omega), ← hag]
    have sZ:Srt k Z:=by
     have:=h5 0
     rw[ajp,ahv,aiP (by omega)] at this
     exact this
    obtain⟨l',q1,q2,q3⟩:=ih (2*bs) (A++Z) (by simp;omega) (by omega) ⟨by omega,by omega⟩ (by omega) (h4.snoc h2 sZ (by omega)) hokAZ
    exact⟨l',q1,q2,h6.trans q3⟩
  ·rw[av (by omega)]
   refine⟨l,rfl, ?_,bE.refl _ _⟩
   have:=hch 0
   rw[ajp,ahv,aiP (by omega)] at this
   exact this
theorem Wg (hc:ym k ok) (l:List ah) (hl:l.length<100000000) (hok:∀ z∈l,ok z):∃ l',fP l ()=some (l',())∧Srt k l'∧bE k l l':=by
 unfold fP jb
 obtain⟨A,Z,j,h1,h2,h3,h4,h5⟩:=Yy hc l.length hl (Int.natAbs (l.length:Int)+(Int.natAbs (20:Int)+(Int.natAbs (0:Int)+(Int.natAbs (20:Int)+(List.length l+2))))) [] l 0 (by simp) (by simp) (by omega) (ChS.nil _ _) (by simp) hok
 simp only[ah4,aiw] at h1 h5
 rw[show ((0+20:Nat):Int)=20 from rfl,show ((0:Nat):Int)=0 from rfl] at h1
 rw[h1,aB]
 dsimp only
 have hAZ:A.length+Z.length=l.length:=by have:=h5.length;simp at this;omega
 obtain⟨Z',g1,g2,g3⟩:=Mm hc A Z [] (by simp;omega) (fun z hz=>hok z (h5.mem.1 (by simp[hz])))
 simp only[ahl] at g1
 rw[show ((A.length+Z.length:Nat):Int)=(l.length:Int) by omega] at g1
 rw[g1,ajq]
 dsimp only
 have hsam:bE k l (A++Z'):=h5.trans ((bE.refl k A).append g3)
 obtain⟨l',q1,q2,q3⟩:=ZL hc l.length hl (Int.natAbs (l.length:Int)+(Int.natAbs (20:Int)+(List.length (A++Z')+2))) 20 (A++Z') hsam.length (by omega) ⟨by omega,by omega⟩ (by omega) (h4.snoc h2 g2 (by rw[g3.length];omega)) (fun z hz=>hok z (hsam.mem.1 hz))
 rw[show ((20:Nat):Int)=20 from rfl] at q1
 rw[q1,aB]
 exact⟨l',rfl,q2,hsam.trans q3⟩
end
end Go.Md.SQP
set_option linter.all false
namespace Go.Md
open Go.Dn
def wv (x:aL):Int:=bif x.1 then -(v32 x.2) else v32 x.2
theorem abx (z:Int):wv (W z)=z:=by
 unfold wv W
 dsimp only
 rw[dU]
 by_cases h:z<0
 ·rw[ajI h,ajE];omega
 ·rw[ajG h,ajD];omega
def wz (m:List aR) (p:aa):Int:=(wP m [p] 0).getD 0
theorem afJ (m:List aR) (p:aa):wP m [p] 0=wC m p.2.2.2 (0+qP p):=by
 unfold wP
 cases wC m p.2.2.2 (0+qP p)<;>rfl
theorem J1 {d:ak} {z:Bool} (h:qOk d z=true):0≤d.1:=by
 unfold qOk inR at h
 simp only[agE,ajJ] at h
 have h3:=h.1.2.2.1
 rw[Int.zero_mul] at h3
 exact h3
theorem abM {m:List aR} (hm:∀ x∈m,qOk x.2.2 true=true) {c:aW} (hc:0≤c.2.2.2.1) {x:Int} (h:cW m c=some x):0≤x:=by
 unfold cW yD at h
 cases hf:m.find? (mEq c.1 c.2.1) with
 | none=>rw[hf] at h;cases h
 | some q=>
  rw[hf] at h
  simp only[ajv,Option.some.injEq] at h
  have hq:=J1 (hm q (aiq hf))
  rw[← h]
  exact ag1 (ag1 hc (Int.le_of_lt (ag7 (by decide)))) (ag1 hq (Int.le_of_lt (ag7 (by decide))))
theorem aew {m:List aR} (hm:∀ x∈m,qOk x.2.2 true=true):∀ (cs:List aW) (n z:Int),(∀ c∈cs,0≤c.2.2.2.1)→wC m cs n=some z→n≤z
 | [],n,z,_,h=>by
  simp only[wC,Option.some.injEq] at h;omega
 | c::r,n,z,hc,h=>by
  unfold wC at h
  cases hx:cW m c with
  | none=>rw[hx] at h;cases h
  | some x=>
   rw[hx] at h
   have h1:=abM hm (hc c ail) hx
   have h2:=aew hm r (n+x) z (fun d hd=>hc d (aik _ hd)) h
   omega
structure PaN (p:aa):Prop where
 t:0≤p.2.2.1.1
 c:∀ c∈p.2.2.2,0≤c.2.2.2.1
theorem Vh {m:List aR} (hm:∀ x∈m,qOk x.2.2 true=true) {p:aa} (hp:PaN p):0≤wz m p:=by
 unfold wz
 rw[afJ]
 cases h:wC m p.2.2.2 (0+qP p) with
 | none=>exact agV _
 | some z=>
  have h1:=aew hm _ _ _ hp.c h
  have h2:0≤qP p:=ag1 hp.t (Int.le_of_lt (ag7 (by decide)))
  show 0≤z
  omega
def bpc (m:List aR):Nat→List aa→List (Nat×Int)
 | _,[]=>[]
 | k,p::r=>(k,wz m p*1000)::bpc m (k+1) r
def iX (q:Nat×Int):ah:=((q.1:Int),W q.2)
def LV (q:ah):Nat×Int:=(q.1.toNat,wv q.2)
theorem S8 (q:Nat×Int):LV (iX q)=q:=by
 unfold LV iX
 dsimp only
 rw[abx,ahd]
theorem BQ {m:List aR}:∀ {l:List aa} {k:Nat} {q:Nat×Int},q∈bpc m k l→∃ i p,l[i]? =some p∧q=(k+i,wz m p*1000)
 | [],_,_,h=>by cases h
 | p::r,k,q,h=>by
  rcases aij.1 h with rfl | h
  ·exact⟨0,p,rfl,rfl⟩
  ·obtain⟨i,p',h1,h2⟩:=BQ h
   exact⟨i+1,p',h1,by rw[h2,show k+1+i=k+(i+1) by omega]⟩
theorem Nb (m:List aR):∀ (l:List aa) (k:Nat),(bpc m k l).length=l.length
 | [],_=>rfl
 | p::r,k=>by unfold bpc;rw[ah1,ah1,Nb m r]
theorem Bk {n:Nat} (h:n≤10 ^ 60):n<4294967296 ^ 99:=by
 have h1:(10:Nat) ^ 60<4294967296 ^ 99:=by decide
 omega
theorem Zx {l:List aa} {m:List aR} (hps:∀ p∈l,Lh p) (hl:l.length≤500) (hm0:gM m=0):∀ (r:List aa) (i n:Nat) (acc:List ah),l.drop i=r→i≤l.length→r.length<n→acc.length≤i→
 (iter (X:=jy) (β:=jx) n (m,acc,l,(l.length:Int),(i:Int),()) iu=some (Sum.inr (acc++(bpc m i r).map iX,()))∧∀ p∈r,(wP m [p] 0).isSome=true∧Le 42 (wz m p))
 ∨(∃ p∈r,wP m [p] 0=none)∧iter (X:=jy) (β:=jx) n (m,acc,l,(l.length:Int),(i:Int),()) iu=some (Sum.inl ([],false,())):=by
 have nx:maxLen=9223372036854775807:=rfl
 intro r
 induction r with
 | nil=>
  intro i n acc hdr hi hn ha
  have:i=l.length:=by
   have:=congrArg List.length hdr
   simp at this;omega
  subst this
  obtain⟨n,rfl⟩:∃ m,n=m+1:=⟨n - 1,by omega⟩
  left
  refine⟨?_,fun p hp=>by cases hp⟩
  rw[aZ]
  unfold iu
  dsimp only
  rw[av (by omega)]
  simp only[bpc,aif,ahl]
 | cons p r ih=>
  intro i n acc hdr hi hn ha
  have hpi:l[i]? =some p:=by
   have:=congrArg (·[0]?) hdr
   simpa [ahN] using this
  have hr':l.drop (i+1)=r:=by
   have:=congrArg List.tail hdr
   simpa [aiJ] using this
  have hlt:=(ahQ.1 hpi).1
  have hp:=hps p (air hpi)
  obtain⟨n,rfl⟩:∃ m,n=m+1:=⟨n - 1,by simp at hn;omega⟩
  simp only[ah1] at hn
  rw[aZ]
  generalize hag:(fun y=>iter n y iu)=again
  unfold iu
  dsimp only
  rw[ax (by omega),aV,hpi,ajq]
  rcases Ot [p] (fun q hq=>by rw[aiv.1 hq];exact hp) (by simp) m hm0 with ⟨z,h1,h2,h3⟩ | ⟨h1,q,h3⟩
  ·have hwz:wz m p=z:=by unfold wz;rw[h1];rfl
   have hz:z.natAbs≤10 ^ 42:=h2
   rw[h3,ajq]
   dsimp only
   rw[agP,ajD,show (3:Int)=((3:Nat):Int) from rfl,IX 3 (by omega),ajq]
   dsimp only
   rw[p8 _ _ (Bk (by omega)) (Bk (by decide)),ajq,aC (by rw[agE];exact⟨ajI (by omega),ajI (by omega)⟩),aq (n:=(i:Int)+1) (by omega) (by omega), ← hag,show (i:Int)+1=((i+1:Nat):Int) by omega]
   dsimp only
   rcases ih (i+1) n (acc++[((i:Int),W (z*10 ^ 3))]) hr' (by omega) (by omega) (by simp;omega) with ⟨g1,g2⟩ | ⟨⟨q0,hq0,hq1⟩,g⟩
   ·left
    refine⟨g1.trans ?_, ?_⟩
    ·rw[ahk,show bpc m i (p::r)=(i,wz m p*1000)::bpc m (i+1) r from rfl,aid,hwz]
     rfl
    ·intro q hq
     rcases aij.1 hq with rfl | hq
     ·exact⟨by rw[h1];rfl,by rw[hwz];exact h2⟩
     ·exact g2 q hq
   ·right;exact⟨⟨q0,aik _ hq0,hq1⟩,g⟩
  ·right
   refine⟨⟨p,ail,h1⟩, ?_⟩
   rw[h3,ajq]
   rfl
theorem WM:SQP.ym (fun q=> -(wv q.2)) (fun q=>∃ z:Int,q.2=W z∧z.natAbs≤10 ^ 50):=by
 rintro a b ⟨x,hx,bx⟩ ⟨y,hy,by1⟩
 unfold jY
 rw[hx,hy,sX _ _ (Bk (by omega)) (Bk (by omega)),ajq]
 refine⟨_,rfl, ?_⟩
 dsimp only
 rw[hx,hy,abx,abx]
 rcases agW y x with h | h | h
 ·rw[ag9 (by omega)]
  constructor<;>intro _<;>omega
 ·subst h;rw[Int.sub_self,Int.sign_zero]
  constructor<;>intro _<;>omega
 ·rw[aha (by omega)]
  constructor<;>intro _<;>omega
theorem Yl {l:List aa} {m:List aR} (hps:∀ p∈l,Lh p) (hl:l.length≤500) (hm0:gM m=0):
 ((∃ p∈l,wP m [p] 0=none)∧ox l m=some ([],false,()))∨((∀ p∈l,(wP m [p] 0).isSome=true∧Le 42 (wz m p))∧∃ B:List (Nat×Int),ox l m=some (B.map iX,true,())∧Srt (fun q:Nat×Int=> -q.2) B∧bE (fun q:Nat×Int=> -q.2) (bpc m 0 l) B):=by
 unfold ox
 have hloop:=Zx hps hl hm0 l 0 (List.length m+(List.length ([]:List ah)+(List.length l+(Int.natAbs ((List.length l:Int))+(Int.natAbs (0:Int)+2))))) [] rfl (ajo _) (by rw[ag4];omega) (ai0 _)
 rcases hloop with ⟨h1,h2⟩ | ⟨hnone,h⟩
 ·right
  refine⟨h2, ?_⟩
  have h1':iter (X:=jy) (β:=jx) (List.length m+(List.length ([]:List ah)+(List.length l+(Int.natAbs ((List.length l:Int))+(Int.natAbs (0:Int)+2))))) (m,[],l,(l.length:Int),0,()) iu=some (Sum.inr ((bpc m 0 l).map iX,())):=h1
  rw[h1',aB]
  dsimp only
  have hok:∀ q∈(bpc m 0 l).map iX,∃ z:Int,q.2=W z∧z.natAbs≤10 ^ 50:=by
   intro q hq
   obtain⟨b,hb,rfl⟩:=aip.1 hq
   obtain⟨i,p,hp,rfl⟩:=BQ hb
   have h3:(wz m p).natAbs≤10 ^ 42:=(h2 p (air hp)).2
   exact⟨wz m p*1000,rfl,by rw[ag3];show (wz m p).natAbs*1000≤10 ^ 50;omega⟩
  obtain⟨A,g1,g2,g3⟩:=SQP.Wg WM ((bpc m 0 l).map iX) (by rw[ah3,Nb];omega) hok
  rw[g1,ajq]
  have hp:=g3.perm
  have hA:A=(A.map LV).map iX:=by
   rw[aie]
   refine (List.map_id A).symm.trans (aic ?_)
   intro q hq
   obtain⟨b,hb,rfl⟩:=aip.1 (hp.mem_iff.2 hq)
   show iX b=iX (LV (iX b))
   rw[S8]
  refine⟨A.map LV,by rw[← hA], ?_, ?_, ?_⟩
  ·unfold Srt
   rw[aiC]
   exact List.Pairwise.imp (fun hxy=>hxy) g2
  ·have:=hp.map LV
   rw[aie] at this
   have e:(bpc m 0 l).map (LV ∘ iX)=bpc m 0 l:=by
    refine (aic ?_).trans (List.map_id _)
    intro q _
    exact S8 q
   rwa [e] at this
  ·intro v
   rw[List.filter_map]
   have h4:=g3.keys v
   rw[List.filter_map] at h4
   have e1:((fun x:Nat×Int=> -x.2==v) ∘ LV)=fun x:ah=> -(wv x.2)==v:=rfl
   have e2:((fun x:ah=> -(wv x.2)==v) ∘ iX)=fun q:Nat×Int=> -q.2==v:=by
    funext q
    show (-(wv (W q.2))==v)=_
    rw[abx]
   rw[e1,h4,e2,aie]
   refine (aic ?_).trans (List.map_id _)
   intro q _
   exact S8 q
 ·left
  refine⟨hnone, ?_⟩
  have h1':iter (X:=jy) (β:=jx) (List.length m+(List.length ([]:List ah)+(List.length l+(Int.natAbs ((List.length l:Int))+(Int.natAbs (0:Int)+2))))) (m,[],l,(l.length:Int),0,()) iu=some (Sum.inl ([],false,())):=h
  rw[h1',bO]
def lC (most w:Int) (L:List Int):List Int×Nat:=match L.findIdx? (fun x=>decide (x+w≤most)) with
 | some k=>(L.set k (L.getD k 0+w),k)
 | none=>(L++[w],L.length)
def zm (most:Int):List (Nat×Int)→List Int→List Int→List Int×List Int
 | [],L,on=>(L,on)
 | (i,w)::r,L,on=>zm most r (lC most w L).1 (on.set i ((lC most w L).2:Int))
def atJ (on:List Int) (j:Nat) (q:Nat×Int):Bool:=on[q.1]? ==some (j:Int)
structure FF (most:Int) (done:List (Nat×Int)) (L on:List Int):Prop where
 le:∀ x∈L,x≤most
 nn:∀ x∈L,0≤x
 pair:∀ (j k:Nat) (x y:Int),j<k→L[j]? =some x→L[k]? =some y→most<x+y
 sum:∀ (j:Nat) (x:Int),L[j]? =some x→x=((done.filter (atJ on j)).map (·.2)).sum
 on:∀ q∈done,∃ j:Nat,on[q.1]? =some (j:Int)∧j<L.length
 len:L.length≤done.length
theorem Rg {done:List (Nat×Int)} {on:List Int} {i:Nat} (hi:∀ q∈done,q.1≠i) (v:Int) (j:Nat):done.filter (atJ (on.set i v) j)=done.filter (atJ on j):=by
 refine List.filter_congr ?_
 intro q hq
 unfold atJ
 rw[ahU (fun e=>hi q hq e.symm)]
theorem FF.step {most:Int} {done:List (Nat×Int)} {L on:List Int} (h:FF most done L on) {i:Nat} {w:Int} (hi:∀ q∈done,q.1≠i) (hion:i<on.length) (hw0:0≤w) (hw:w≤most):
 FF most (done++[(i,w)]) (lC most w L).1 (on.set i ((lC most w L).2:Int))∧(lC most w L).2<(lC most w L).1.length:=by
 unfold lC
 cases hf:L.findIdx? (fun x=>decide (x+w≤most)) with
 | some k=>
  dsimp only
  rw[ahF] at hf
  obtain⟨hk,hle,_⟩:=hf
  have hle':L[k]+w≤most:=by simpa using hle
  have hkx:L[k]? =some L[k]:=ahO hk
  have egd:L.getD k 0=L[k]:=by rw[ahH,hkx];rfl
  have hnn:=h.nn L[k] (ahZ hk)
  have hgi:(on.set i (k:Int))[i]? =some (k:Int):=by rw[ahV hion]
  have hmem:∀ x∈L.set k (L.getD k 0+w),x∈L∨x=L[k]+w:=by
   intro x hx
   rw[egd] at hx
   exact ait hx
  have hget:∀ (j:Nat) (x:Int),(L.set k (L.getD k 0+w))[j]? =some x→∃ x0,L[j]? =some x0∧((j=k∧x=x0+w)∨(j≠k∧x=x0)):=by
   intro j x hx
   by_cases hj:k=j
   ·subst hj
    rw[ahV hk,egd] at hx
    exact⟨L[k],hkx,.inl ⟨rfl,(Option.some.inj hx).symm⟩⟩
   ·rw[ahU hj] at hx
    exact⟨x,hx,.inr ⟨fun e=>hj e.symm,rfl⟩⟩
  refine⟨⟨?_, ?_, ?_, ?_, ?_, ?_⟩,by rw[ah8];exact hk⟩
  ·intro x hx
   rcases hmem x hx with hx | rfl
   ·exact h.le x hx
   ·exact hle'
  ·intro x hx
   rcases hmem x hx with hx | rfl
   ·exact h.nn x hx
   ·omega
  ·intro j k' x y hjk hx hy
   obtain⟨x0,hx0,hxc⟩:=hget j x hx
   obtain⟨y0,hy0,hyc⟩:=hget k' y hy
   have:=h.pair j k' x0 y0 hjk hx0 hy0
   rcases hxc with ⟨_,rfl⟩ | ⟨_,rfl⟩<;>rcases hyc with ⟨_,rfl⟩ | ⟨_,rfl⟩<;>omega
  ·intro j x hx
   obtain⟨x0,hx0,hxc⟩:=hget j x hx
   have hs:=h.sum j x0 hx0
   rw[ahz,Rg hi,aib,List.sum_append, ← hs]
   rcases hxc with ⟨rfl,rfl⟩ | ⟨hne,rfl⟩
   ·have:[(i,w)].filter (atJ (on.set i (j:Int)) j)=[(i,w)]:=by
     rw[ahA,show atJ (on.set i (j:Int)) j (i,w)=true by unfold atJ;rw[hgi];simp];rfl
    rw[this];simp
   ·have:[(i,w)].filter (atJ (on.set i (k:Int)) j)=[]:=by
     rw[ahA,show atJ (on.set i (k:Int)) j (i,w)=false by
      unfold atJ
      rw[hgi,ajz]
      intro e
      have:=Option.some.inj e
      omega];rfl
    rw[this];simp
  ·intro q hq
   rw[ah8]
   rcases aii.1 hq with hq | hq
   ·obtain⟨j,h1,h2⟩:=h.on q hq
    exact⟨j,by rw[ahU (fun e=>hi q hq e.symm)];exact h1,h2⟩
   ·rw[aiv.1 hq]
    exact⟨k,hgi,hk⟩
  ·rw[ah8,ah0];have:=h.len;omega
 | none=>
  dsimp only
  rw[ahE] at hf
  have hf':∀ x∈L,most<x+w:=fun x hx=>by
   have:=hf x hx
   simp at this
   exact this
  have hgi:(on.set i (L.length:Int))[i]? =some (L.length:Int):=by rw[ahV hion]
  have hget:∀ (j:Nat) (x:Int),(L++[w])[j]? =some x→(j<L.length∧L[j]? =some x)∨(j=L.length∧x=w):=by
   intro j x hx
   by_cases hj:j<L.length
   ·rw[ahJ hj] at hx
    exact .inl ⟨hj,hx⟩
   ·rw[ahK (by omega)] at hx
    have hj2:j - L.length=0:=by
     have:=(ahQ.1 hx).1
     simp at this;omega
    rw[hj2] at hx
    exact .inr ⟨by omega,(Option.some.inj hx).symm⟩
  have hempty:∀ q∈done,atJ on L.length q=false:=by
   intro q hq
   obtain⟨j,h1,h2⟩:=h.on q hq
   unfold atJ
   rw[h1,ajz]
   intro e
   have:=Option.some.inj e
   omega
  refine⟨⟨?_, ?_, ?_, ?_, ?_, ?_⟩,by simp⟩
  ·intro x hx
   rcases aii.1 hx with hx | hx
   ·exact h.le x hx
   ·rw[aiv.1 hx];exact hw
  ·intro x hx
   rcases aii.1 hx with hx | hx
   ·exact h.nn x hx
   ·rw[aiv.1 hx];exact hw0
  ·intro j k' x y hjk hx hy
   rcases hget k' y hy with ⟨hk1,hk2⟩ | ⟨rfl,rfl⟩
   ·rcases hget j x hx with ⟨hj1,hj2⟩ | ⟨rfl,rfl⟩
    ·exact h.pair j k' x y hjk hj2 hk2
    ·omega
   ·rcases hget j x hx with ⟨hj1,hj2⟩ | ⟨rfl,rfl⟩
    ·exact hf' x (air hj2)
    ·omega
  ·intro j x hx
   rw[ahz,Rg hi,aib,List.sum_append]
   rcases hget j x hx with ⟨hj1,hj2⟩ | ⟨rfl,rfl⟩
   ·rw[← h.sum j x hj2]
    have:[(i,w)].filter (atJ (on.set i (L.length:Int)) j)=[]:=by
     rw[ahA,show atJ (on.set i (L.length:Int)) j (i,w)=false by
      unfold atJ
      rw[hgi,ajz]
      intro e
      have:=Option.some.inj e
      omega];rfl
    rw[this];simp
   ·have e1:done.filter (atJ on L.length)=[]:=List.filter_eq_nil_iff.2 fun q hq=>by rw[hempty q hq];decide
    have:[(i,x)].filter (atJ (on.set i (L.length:Int)) L.length)=[(i,x)]:=by
     rw[ahA,show atJ (on.set i (L.length:Int)) L.length (i,x)=true by unfold atJ;rw[hgi];simp];rfl
    rw[this,e1];simp
  ·intro q hq
   rw[ah0]
   rcases aii.1 hq with hq | hq
   ·obtain⟨j,h1,h2⟩:=h.on q hq
    exact⟨j,by rw[ahU (fun e=>hi q hq e.symm)];exact h1,by simp;omega⟩
   ·rw[aiv.1 hq]
    exact⟨L.length,hgi,by simp⟩
  ·rw[ah0,ah0];have:=h.len;simp;omega
theorem FF.nil (most:Int) (on:List Int):FF most [] [] on:=
 ⟨fun x hx=>(by cases hx),fun x hx=>(by cases hx),fun j k x y _ hx=>(by simp at hx),fun j x hx=>(by simp at hx),fun q hq=>(by cases hq),ai0 _⟩
end Go.Md
set_option linter.all false
set_option maxRecDepth 20000
namespace Go.Md
open Go.Dn
theorem ae4 (x y:Int):decide ((x - y).sign≤0)=decide (x≤y):=by
 rcases agW x y with h | h | h
 ·rw[ag9 (by omega),ajI (show x≤y by omega)];rfl
 ·subst h;rw[Int.sub_self];simp
 ·rw[aha (by omega),ajG (show ¬x≤y by omega)];rfl
theorem ace (most w:Int) (hm:most.natAbs≤10 ^ 50) (hw:w.natAbs≤10 ^ 50) (i:Int) (L:List Int) (hl:L.length<1000000000) (hL:∀ x∈L,x.natAbs≤10 ^ 50):
 gG (L.map W) ((i,W w),W most)=some (match L.findIdx? (fun x=>decide (x+w≤most)) with | some k=>(k:Int) | none=> -1,()):=by
 unfold gG
 have loop:∀ (r:List Int) (j n:Nat),L.drop j=r→j≤L.length→r.length<n→
  iter (X:=gY) (β:=gX) n (L.map W,((i,W w),W most),(L.length:Int),(j:Int),()) fM=some (match r.findIdx? (fun x=>decide (x+w≤most)) with | some k=>Sum.inl (((j+k:Nat):Int),()) | none=>Sum.inr ()):=by
  intro r
  induction r with
  | nil=>
   intro j n hdr hj hn
   have:j=L.length:=by
    have:=congrArg List.length hdr
    simp at this;omega
   subst this
   obtain⟨n,rfl⟩:∃ m,n=m+1:=⟨n - 1,by omega⟩
   rw[aZ]
   unfold fM
   dsimp only
   rw[av (by omega)]
   rfl
  | cons y r ih=>
   intro j n hdr hj hn
   have hy:L[j]? =some y:=by
    have:=congrArg (·[0]?) hdr
    simpa [ahN] using this
   have hr':L.drop (j+1)=r:=by
    have:=congrArg List.tail hdr
    simpa [aiJ] using this
   have hlt:=(ahQ.1 hy).1
   have hyb:=hL y (air hy)
   have hyW:(L.map W)[j]? =some (W y):=by rw[ahR,hy];rfl
   obtain⟨n,rfl⟩:∃ m,n=m+1:=⟨n - 1,by simp at hn;omega⟩
   rw[aZ]
   generalize hag:(fun y=>iter n y fM)=again
   unfold fM
   dsimp only
   rw[ax (by omega),aV,hyW,ajq]
   unfold B5
   dsimp only
   rw[kH _ _ (Bk (by omega)) (Bk (by omega)),ajq,sX _ _ (Bk (by omega)) (Bk (by omega)),ajq,ajq]
   dsimp only
   rw[ae4,ahD]
   cases hb:decide (y+w≤most) with
   | true=>rfl
   | false=>
    rw[ajD,aq (n:=(j:Int)+1) (by omega) (by omega), ← hag,show (j:Int)+1=((j+1:Nat):Int) by omega]
    refine (ih (j+1) n hr' (by omega) (by simp at hn;omega)).trans ?_
    cases hq:r.findIdx? (fun x=>decide (x+w≤most)) with
    | none=>simp
    | some q=>simp;omega
 have:=loop L 0 (List.length (L.map W)+(Int.natAbs ((List.length (L.map W):Int))+(Int.natAbs (0:Int)+2))) rfl (ajo _) (by rw[ah3];omega)
 rw[show ((0:Nat):Int)=0 from rfl] at this
 rw[ah3] at this ⊢
 rw[this]
 cases hq:L.findIdx? (fun x=>decide (x+w≤most)) with
 | none=>rfl
 | some q=>simp[aK]
theorem ae6 {most:Int} (hmost:most.natAbs≤10 ^ 30) (B:List (Nat×Int)) (hBl:B.length≤1000) (hnd:B.Pairwise fun a b=>a.1≠b.1) (K:Nat) (hK:∀ q∈B,q.1<K∧0≤q.2∧q.2≤most) (l:List aa) (p:List UInt8) (n:Int):
 ∀ (r:List (Nat×Int)) (i f:Nat) (L on:List Int),B.drop i=r→i≤B.length→r.length<f→on.length=K→FF most (B.take i) L on→
  ∃ L' on',FF most B L' on'∧on'.length=K∧(L',on')=zm most r L on∧
  iter (X:=jr) (β:=jk) f (l,p,n,L.map W,B.map iX,(B.length:Int),(i:Int),(W most).1,(W most).2,on,()) ig=some (Sum.inr (l,p,n,L'.map W,on',())):=by
 have nx:maxLen=9223372036854775807:=rfl
 intro r
 induction r with
 | nil=>
  intro i f L on hdr hi hn hon hF
  have:i=B.length:=by
   have:=congrArg List.length hdr
   simp at this;omega
  subst this
  obtain⟨f,rfl⟩:∃ m,f=m+1:=⟨f - 1,by omega⟩
  rw[aiO] at hF
  refine⟨L,on,hF,hon,rfl, ?_⟩
  rw[aZ]
  unfold ig
  dsimp only
  rw[av (by omega)]
 | cons q r ih=>
  intro i f L on hdr hi hn hon hF
  obtain⟨qi,w⟩:=q
  have hqi:B[i]? =some (qi,w):=by
   have:=congrArg (·[0]?) hdr
   simpa [ahN] using this
  have hr':B.drop (i+1)=r:=by
   have:=congrArg List.tail hdr
   simpa [aiJ] using this
  have hlt:=(ahQ.1 hqi).1
  obtain⟨k1,k2,k3⟩:=hK (qi,w) (air hqi)
  dsimp only at k1 k2 k3
  obtain⟨f,rfl⟩:∃ m,f=m+1:=⟨f - 1,by simp at hn;omega⟩
  simp only[ah1] at hn
  have hni:∀ z∈B.take i,z.1≠qi:=by
   intro z hz
   obtain⟨j,hj⟩:=aio.1 hz
   have hji:j<i:=by
    have:=(ahQ.1 hj).1
    rw[aia] at this;omega
   rw[ahX hji] at hj
   have:=aiB.1 hnd j i (by omega) hlt hji
   rw[(ahQ.1 hj).2,(ahQ.1 hqi).2] at this
   exact this
  obtain⟨s1,s2⟩:=hF.step hni (by omega) k2 k3
  have hLl:=hF.len
  rw[aia] at hLl
  have hLb:∀ x∈L,x.natAbs≤10 ^ 50:=fun x hx=>by have:=hF.le x hx;have:=hF.nn x hx;omega
  have hw50:w.natAbs≤10 ^ 50:=by omega
  have htk:B.take (i+1)=B.take i++[(qi,w)]:=by rw[aiK,hqi];rfl
  obtain⟨L',on',g1,g2,g4,g3⟩:=ih (i+1) f (lC most w L).1 (on.set qi ((lC most w L).2:Int)) hr' (by omega) (by omega) (by rw[ah8];exact hon) (by rw[htk];exact s1)
  refine⟨L',on',g1,g2,g4, ?_⟩
  have hqe:(B.map iX)[i]? =some ((qi:Int),W w):=by rw[ahR,hqi];rfl
  have hix:gG (L.map W) (((qi:Int),W w),(W most).1,(W most).2)=_:=ace most w (by omega) hw50 (qi:Int) L (by omega) hLb
  rw[aZ]
  generalize hag:(fun y=>iter f y ig)=again
  unfold ig
  dsimp only
  rw[ax (by omega),aV,hqe,ajq,hix,ajq]
  dsimp only
  unfold lC at g3 s2
  cases hf:L.findIdx? (fun x=>decide (x+w≤most)) with
  | some k=>
   rw[hf] at g3 s2
   dsimp only at g3 s2 ⊢
   rw[ah8] at s2
   have hkx:L[k]? =some L[k]:=ahO s2
   have egd:L.getD k 0=L[k]:=by rw[ahH,hkx];rfl
   have hkW:(L.map W)[k]? =some (W L[k]):=by rw[ahR,hkx];rfl
   have hkb:=hLb L[k] (ahZ s2)
   have hon1:on[qi]? =some on[qi]:=ahO (by omega)
   rw[av (show ¬((k:Int)<0) by omega),aB]
   dsimp only
   rw[aC (by rw[agE];exact⟨ajI (by omega),ajI (by rw[ah3];omega)⟩),ahd,hkW,ajq]
   have ep:fQ (W L[k]) ((W w).1,(W w).2)=some (W (L[k]+w),()):=kH _ _ (Bk (by omega)) (Bk (by omega))
   rw[ep,ajq,aC (by rw[agE];exact⟨ajI (by omega),ajI (by rw[ah3];omega)⟩),ajq,
    aC (by rw[agE];exact⟨ajI (by omega),ajI (by omega)⟩),ahd,hon1,ajq]
   dsimp only
   rw[aq (n:=(i:Int)+1) (by omega) (by omega),show (i:Int)+1=((i+1:Nat):Int) by omega, ← egd, ← List.map_set, ← hag]
   exact g3
  | none=>
   rw[hf] at g3 s2
   dsimp only at g3 s2 ⊢
   have hkW:(L.map W++[W 0])[L.length]? =some (W 0):=by
    rw[ahK (by rw[ah3];omega),ah3,ajl];rfl
   have hon1:on[qi]? =some on[qi]:=ahO (by omega)
   rw[ax (show ((-1:Int)<0) by decide),qx 0 (by decide) (by decide),ajq,aC (by rw[agE];exact⟨ajI (by rw[ah3];omega),ajI (by rw[ah3];omega)⟩),aB]
   dsimp only
   rw[ah3,aC (by rw[agE];exact⟨ajI (by omega),ajI (by rw[ah0,ah3];simp;omega)⟩),ahd,hkW,ajq]
   have ep:fQ (W 0) ((W w).1,(W w).2)=some (W (0+w),()):=kH _ _ (Bk (by decide)) (Bk (by omega))
   rw[ep,ajq,aC (by rw[agE];exact⟨ajI (by omega),ajI (by rw[ah0,ah3];simp;omega)⟩),ajq,
    aC (by rw[agE];exact⟨ajI (by omega),ajI (by omega)⟩),ahd,hon1,ajq]
   dsimp only
   have es:(L.map W++[W 0]).set L.length (W (0+w))=(L++[w]).map W:=by
    rw[aiE _ _ (by rw[ah3];omega),ah3,ajl,aib,Int.zero_add];rfl
   rw[aq (n:=(i:Int)+1) (by omega) (by omega),show (i:Int)+1=((i+1:Nat):Int) by omega,es, ← hag]
   exact g3
theorem YS {l:List aa} (hl:l.length≤500):de l=some (l,()):=by
 have nx:maxLen=9223372036854775807:=rfl
 unfold de
 have e:(chk (decide ((0+(List.length l))*72≤140737488355328)&&decide (0+(List.length l)≤maxLen)) (some (l,())))=some (l,()):=aC (by rw[agE];exact⟨ajI (by omega),ajI (by omega)⟩) _
 cases l with
 | nil=>
  rw[List.isEmpty_nil,ajE,e]
  exact Ly _
 | cons a r=>rw[List.isEmpty_cons,ajD,e]
theorem YR {l:List aW} (hl:l.length≤100):ko l=some (l,()):=by
 have nx:maxLen=9223372036854775807:=rfl
 unfold ko
 have e:(chk (decide ((0+(List.length l))*64≤140737488355328)&&decide (0+(List.length l)≤maxLen)) (some (l,())))=some (l,()):=aC (by rw[agE];exact⟨ajI (by omega),ajI (by omega)⟩) _
 cases l with
 | nil=>
  rw[List.isEmpty_nil,ajE,e]
  exact Ly _
 | cons a r=>rw[List.isEmpty_cons,ajD,e]
theorem QB {l:List aa} (hl:l.length≤500) (hps:∀ p∈l,Lh p):iS l=some (l,()):=by
 unfold iS
 rw[YS hl,ajq]
 dsimp only
 have loop:∀ f,l.length<f→iter (X:=iY) (β:=lP) f ((l.length:Int),0,l,()) lN=some (Sum.inr (l,())):=by
  intro f hf
  refine bf (Inv:=fun i X=>X=(((l.length:Int),(i:Int),l,()):iY)) l.length (fun r=>r=some (Sum.inr (l,()))) ?_ ?_ f 0 _ rfl (ajo _) (by omega)
  ·rintro i X again hi rfl hag
   unfold lN
   dsimp only
   have hy:l[i]? =some l[i]:=ahO hi
   rw[ax (by omega),aC (by rw[agE];exact⟨ajI (by omega),ajI (by omega)⟩),ahd,hy,ajq,YR (hps _ (ahZ hi)).n,ajq,aC (by rw[agE];exact⟨ajI (by omega),ajI (by omega)⟩),ajq,aq (n:=(i:Int)+1) (by omega) (by omega)]
   refine hag _ ?_
   have:l.set i ((l[i]).1,(l[i]).2.1,(l[i]).2.2.1,(l[i]).2.2.2)=l:=List.set_getElem_self hi
   rw[this];rfl
  ·rintro X again rfl
   unfold lN
   dsimp only
   rw[av (by omega)]
 rw[loop _ (by rw[ag4];omega),aB]
theorem ae7 (l:List aa) (p:List UInt8) (n:Int) (N:Nat) (hN:N≤1000) (on:List Int) (out:List aa):
 ∀ (d i f:Nat) (Lb:List (List UInt8)),i+d=N→d<f→Lb.length=i→(∀ (j:Nat) (s:List UInt8),Lb[j]? =some s→Gi p (w64 (n+j)) s∧bB p (w64 (n+j))=some (s,0,()))→
  (∃ e j,e≠0∧j<N∧bB p (w64 (n+(j:Nat)))=some ([],e,())∧(∀ j':Nat,j'<j→∃ s,bB p (w64 (n+j'))=some (s,0,()))∧iter (X:=gq) (β:=gm) f (l,p,n,Lb,(N:Int),(i:Int),on,out,()) fE=some (Sum.inl ([],e,())))
  ∨∃ Lb',Lb'.length=N∧(∀ (j:Nat) (s:List UInt8),Lb'[j]? =some s→Gi p (w64 (n+j)) s∧bB p (w64 (n+j))=some (s,0,()))∧iter (X:=gq) (β:=gm) f (l,p,n,Lb,(N:Int),(i:Int),on,out,()) fE=some (Sum.inr (l,Lb',on,out,())):=by
 have nx:maxLen=9223372036854775807:=rfl
 intro d
 induction d with
 | zero=>
  intro i f Lb hi hf hl hL
  have:i=N:=by omega
  subst this
  obtain⟨f,rfl⟩:∃ m,f=m+1:=⟨f - 1,by omega⟩
  right
  refine⟨Lb,hl,hL, ?_⟩
  rw[aZ]
  unfold fE
  dsimp only
  rw[av (by omega)]
 | succ d ih=>
  intro i f Lb hi hf hl hL
  obtain⟨f,rfl⟩:∃ m,f=m+1:=⟨f - 1,by omega⟩
  obtain⟨s,e,h1,h2,h3⟩:=V0 p (w64 (n+(i:Int)))
  rw[aZ]
  generalize hag:(fun y=>iter f y fE)=again
  unfold fE
  dsimp only
  rw[ax (by omega),h1,ajq]
  dsimp only
  by_cases he:e=0
  ·rw[he,show ((0:Int) != 0)=false from rfl,ajD,aC (by rw[agE];exact⟨ajI (by omega),ajI (by omega)⟩),aq (n:=(i:Int)+1) (by omega) (by omega), ← hag,show (i:Int)+1=((i+1:Nat):Int) by omega]
   refine ih (i+1) f (Lb++[s]) (by omega) (by omega) (by simp;omega) ?_
   intro j t hj
   by_cases hji:j<Lb.length
   ·rw[ahJ hji] at hj
    exact hL j t hj
   ·rw[ahK (by omega)] at hj
    have hj2:j - Lb.length=0:=by
     have:=(ahQ.1 hj).1
     simp at this;omega
    rw[hj2] at hj
    have:s=t:=Option.some.inj hj
    subst this
    have:j=i:=by omega
    subst this
    exact⟨h3 he,by rw[h1,he]⟩
  ·left
   refine⟨e,i,he,by omega,by rw[h1,h2 he],fun j' hj'=>⟨_,(hL j' _ (ahO (by omega))).2⟩, ?_⟩
   rw[show (e != 0)=true by simpa using he,ajE]
theorem SJ (l:List aa) (t:List UInt8) (hl:l.length<1000000000):gu l t=some (l.any (fun o=>o.1==t),()):=by
 unfold gu kP
 have loop:iter (X:=dS) (β:=dR) (List.length l+(Int.natAbs ((List.length l:Int))+(Int.natAbs (0:Int)+2))) (l,t,(List.length l:Int),0,()) dQ=some (Sum.inr ())∧l.any (fun o=>o.1==t)=false∨
  ∃ i:Nat,iter (X:=dS) (β:=dR) (List.length l+(Int.natAbs ((List.length l:Int))+(Int.natAbs (0:Int)+2))) (l,t,(List.length l:Int),0,()) dQ=some (Sum.inl ((i:Int),()))∧l.any (fun o=>o.1==t)=true:=by
  refine bf (Inv:=fun i x=>x=(l,t,(List.length l:Int),(i:Int),())∧(l.take i).any (fun o=>o.1==t)=false) l.length (fun r=>r=some (Sum.inr ())∧l.any (fun o=>o.1==t)=false∨∃ i:Nat,r=some (Sum.inl ((i:Int),()))∧l.any (fun o=>o.1==t)=true) ?_ ?_ _ 0 _ ⟨rfl,by simp⟩ (by omega) (by omega)
  ·rintro i _ again hi ⟨rfl,hn⟩ ih
   unfold dQ
   dsimp only
   have hy:l[i]? =some l[i]:=aM hi
   rw[ax (by omega),aV,hy,ajq]
   unfold B6
   rw[ajq]
   dsimp only
   cases hb:(l[i].1==t) with
   | true=>
    right
    exact⟨i,rfl,ahj.2 ⟨l[i],ahZ _,hb⟩⟩
   | false=>
    rw[ajD,aq (by omega) (by omega)]
    refine ih _ ⟨rfl, ?_⟩
    rw[aiK,hy,List.any_append,hn]
    simp[hb]
  ·rintro _ again ⟨rfl,hn⟩
   unfold dQ
   dsimp only
   rw[av (by omega)]
   rw[aiP (ai0 _)] at hn
   exact .inl ⟨rfl,hn⟩
 rcases loop with ⟨h1,h2⟩ | ⟨i,h1,h2⟩
 ·rw[h1,aB,ajq,h2];rfl
 ·rw[h1,bO,ajq,h2];simp
theorem ae8 (l:List aa) (hl:l.length≤500) (Lb:List (List UInt8)) (hLb:Lb.length≤1000) (on:List Int) (out:List aa) (f:Nat) (hf:Lb.length<f):
 (∃ s∈Lb,∃ q∈l,q.1=s)∧iter (X:=ir) (β:=jl) f (l,Lb,Lb,(Lb.length:Int),0,on,out,()) jj=some (Sum.inl ([],7,()))
 ∨(∀ s∈Lb,∀ q∈l,q.1≠s)∧iter (X:=ir) (β:=jl) f (l,Lb,Lb,(Lb.length:Int),0,on,out,()) jj=some (Sum.inr (l,Lb,on,out,())):=by
 refine bf (Inv:=fun i X=>X=((l,Lb,Lb,(Lb.length:Int),(i:Int),on,out,()):ir)∧∀ s∈Lb.take i,∀ q∈l,q.1≠s) Lb.length (fun r=>(∃ s∈Lb,∃ q∈l,q.1=s)∧r=some (Sum.inl ([],7,()))∨(∀ s∈Lb,∀ q∈l,q.1≠s)∧r=some (Sum.inr (l,Lb,on,out,()))) ?_ ?_ f 0 _ ⟨rfl,by simp⟩ (ajo _) (by omega)
 ·rintro i X again hi ⟨rfl,hI⟩ hag
  unfold jj
  dsimp only
  have hy:Lb[i]? =some Lb[i]:=ahO hi
  rw[ax (by omega),aV,hy,ajq,SJ _ _ (by omega),ajq]
  dsimp only
  cases hc:l.any (fun o=>o.1==Lb[i]) with
  | true=>
   rw[ajE]
   obtain⟨q,hq,hq2⟩:=ahj.1 hc
   exact .inl ⟨⟨Lb[i],ahZ _,q,hq,by simpa using hq2⟩,rfl⟩
  | false=>
   rw[ajD,aq (n:=(i:Int)+1) (by omega) (by omega)]
   refine hag _ ⟨rfl, ?_⟩
   intro s hs q hq
   rw[aiK,hy] at hs
   rcases aii.1 hs with hs | hs
   ·exact hI s hs q hq
   ·simp at hs
    subst hs
    have:=ahi.1 hc q hq
    simpa using this
 ·rintro X again ⟨rfl,hI⟩
  unfold jj
  dsimp only
  rw[av (by omega)]
  rw[aiP (ai0 _)] at hI
  exact .inr ⟨hI,rfl⟩
def E8 (Lb:List (List UInt8)) (on:List Int) (k:Nat) (q:aa):aa:=(q.1,((on[k]?).bind (fun z=>idx Lb z)).getD [],q.2.2)
def dV (Lb:List (List UInt8)) (on:List Int):Nat→List aa→List aa
 | _,[]=>[]
 | k,q::r=>E8 Lb on k q::dV Lb on (k+1) r
theorem Dz (Lb:List (List UInt8)) (on:List Int):∀ (r:List aa) (k:Nat),(dV Lb on k r).length=r.length
 | [],_=>rfl
 | q::r,k=>by unfold dV;rw[ah1,ah1,Dz Lb on r]
theorem Dy (Lb:List (List UInt8)) (on:List Int):∀ (r:List aa) (k i:Nat),(dV Lb on k r)[i]? =(r[i]?).map (E8 Lb on (k+i))
 | [],_,_=>by simp[dV]
 | q::r,k,0=>rfl
 | q::r,k,i+1=>by
  unfold dV
  rw[ahL,ahL,Dy Lb on r (k+1) i,show k+1+i=k+(i+1) by omega]
theorem ae9 (Lb:List (List UInt8)) (on:List Int) (l:List aa) (hl:l.length≤500) (hon:on.length=l.length) (hj:∀ i,i<l.length→∃ (j:Nat) (s:List UInt8),on[i]? =some (j:Int)∧Lb[j]? =some s):
 ∀ (r P:List aa) (f:Nat),l=l.take P.length++r→P.length≤l.length→r.length<f→
  iter (X:=jt) (β:=jm) f (Lb,(l.length:Int),(P.length:Int),on,P++r,()) ij=some (Sum.inr (Lb,P++dV Lb on P.length r,())):=by
 intro r
 induction r with
 | nil=>
  intro P f hr hP hf
  have:P.length=l.length:=by
   have:=congrArg List.length hr
   simp at this;omega
  obtain⟨f,rfl⟩:∃ m,f=m+1:=⟨f - 1,by omega⟩
  rw[aZ]
  unfold ij
  dsimp only
  rw[av (by omega)]
  rfl
 | cons q r ih=>
  intro P f hr hP hf
  have hlt:P.length<l.length:=by
   have:=congrArg List.length hr
   simp at this;omega
  have hq:l[P.length]? =some q:=by
   rw[hr,ahK (by rw[aia];omega),aia,show P.length - min P.length l.length=0 by omega];rfl
  obtain⟨f,rfl⟩:∃ m,f=m+1:=⟨f - 1,by simp at hf;omega⟩
  simp only[ah1] at hf
  obtain⟨j,s,h1,h2⟩:=hj P.length hlt
  have hg:(P++q::r)[P.length]? =some q:=by rw[ahK (ai0 _),ajl];rfl
  rw[aZ]
  generalize hag:(fun y=>iter f y ij)=again
  unfold ij
  dsimp only
  rw[ax (by omega),aC (by rw[agE];exact⟨ajI (by omega),ajI (by omega)⟩),ahd,h1,ajq,aV,h2,ajq,
   aC (by rw[agE];exact⟨ajI (by omega),ajI (by rw[ah0,ah1];omega)⟩),hg,ajq,aq (n:=(P.length:Int)+1) (by omega) (by omega), ← hag]
  have es:(P++q::r).set P.length (q.1,s,q.2.2)=(P++[(q.1,s,q.2.2)])++r:=by
   rw[aiE _ _ (ai0 _),ajl,ahk];rfl
  have eo:E8 Lb on P.length q=(q.1,s,q.2.2):=by
   unfold E8
   rw[h1,ajq,aV,h2];rfl
  rw[es,show (P.length:Int)+1=((P++[(q.1,s,q.2.2)]).length:Int) by rw[ah0,ah9];omega]
  refine (ih (P++[(q.1,s,q.2.2)]) f ?_ (by rw[ah0,ah9];omega) (by omega)).trans ?_
  ·rw[ah0,ah9,aiK,hq,ajw,ahk]
   exact hr
  ·rw[ah0,ah9,ahk]
   show some (Sum.inr (Lb,P++((q.1,s,q.2.2)::dV Lb on (P.length+1) r),()))=some (Sum.inr (Lb,P++(E8 Lb on P.length q::dV Lb on (P.length+1) r),()))
   rw[eo]
def news (Lb:List (List UInt8)):List aa:=Lb.map fun s=>(s,[],(0,0),[])
theorem afa (Lb:List (List UInt8)) (hLb:Lb.length≤1000):∀ (r:List (List UInt8)) (i f:Nat) (out:List aa),Lb.drop i=r→i≤Lb.length→r.length<f→out.length≤1000+i→
 iter (X:=jv) (β:=jq) f (out,Lb,(Lb.length:Int),(i:Int),()) iq=some (Sum.inr (out++news r,())):=by
 have nx:maxLen=9223372036854775807:=rfl
 intro r
 induction r with
 | nil=>
  intro i f out hdr hi hn ho
  have:i=Lb.length:=by
   have:=congrArg List.length hdr
   simp at this;omega
  subst this
  obtain⟨f,rfl⟩:∃ m,f=m+1:=⟨f - 1,by omega⟩
  rw[aZ]
  unfold iq
  dsimp only
  rw[av (by omega)]
  simp only[news,aif,ahl]
 | cons s r ih=>
  intro i f out hdr hi hn ho
  have hy:Lb[i]? =some s:=by
   have:=congrArg (·[0]?) hdr
   simpa [ahN] using this
  have hr':Lb.drop (i+1)=r:=by
   have:=congrArg List.tail hdr
   simpa [aiJ] using this
  have hlt:=(ahQ.1 hy).1
  obtain⟨f,rfl⟩:∃ m,f=m+1:=⟨f - 1,by simp at hn;omega⟩
  simp only[ah1] at hn
  rw[aZ]
  generalize hag:(fun y=>iter f y iq)=again
  unfold iq
  dsimp only
  rw[ax (by omega),aV,hy,ajq,aC (by rw[agE];exact⟨ajI (by omega),ajI (by omega)⟩),aq (n:=(i:Int)+1) (by omega) (by omega), ← hag,show (i:Int)+1=((i+1:Nat):Int) by omega]
  refine (ih (i+1) f _ hr' (by omega) (by omega) (by simp;omega)).trans ?_
  rw[ahk];rfl
noncomputable def nk (a0:List aa) (a3:List UInt8) (a4:Int) (r2:List ah) (r3:aL):Option ((List aa)×Int×Unit):=
 chk (decide (0≤((List.length a0:Int)))&&decide (((List.length a0:Int))≤((List.length a0:Int)))&&decide ((8:Int)*((List.length a0:Int))≤281474976710656)&&decide (((List.length a0:Int))≤9223372036854775807)) <|
 aK (β:=((List aa)×Int×Unit)) (γ:=((List aa)×(List UInt8)×Int×(List aL)×(List Int)×Unit)) (
  iter (X:=jr) (β:=jk) (List.length a0+(List.length a3+(Int.natAbs a4+(List.length ([]:List aL)+(List.length r2+(Int.natAbs ((List.length r2:Int))+(Int.natAbs (0:Int)+(r3.2.length+(List.length ((List.replicate (Int.toNat ((List.length a0:Int))) 0:List (Int)):List Int)+2))))))))) (a0,a3,a4,[],r2,(List.length r2:Int),0,r3.1,r3.2,(List.replicate (Int.toNat ((List.length a0:Int))) 0:List (Int)),()) (ig)) fun v42=>
 Option.bind (iS v42.1) fun r43=>
 aK (β:=((List aa)×Int×Unit)) (γ:=((List aa)×(List (List UInt8))×(List Int)×(List aa)×Unit)) (
  iter (X:=gq) (β:=gm) (v42.1.length+(v42.2.1.length+(v42.2.2.1.natAbs+(List.length ([]:List (List UInt8))+(Int.natAbs ((v42.2.2.2.1.length:Int))+(Int.natAbs (0:Int)+(v42.2.2.2.2.1.length+(r43.1.length+2)))))))) (v42.1,v42.2.1,v42.2.2.1,[],(v42.2.2.2.1.length:Int),0,v42.2.2.2.2.1,r43.1,()) (fE)) fun v46=>
 aK (β:=((List aa)×Int×Unit)) (γ:=((List aa)×(List (List UInt8))×(List Int)×(List aa)×Unit)) (
  iter (X:=ir) (β:=jl) (v46.1.length+(v46.2.1.length+(v46.2.1.length+(Int.natAbs ((v46.2.1.length:Int))+(Int.natAbs (0:Int)+(v46.2.2.1.length+(v46.2.2.2.1.length+2))))))) (v46.1,v46.2.1,v46.2.1,(v46.2.1.length:Int),0,v46.2.2.1,v46.2.2.2.1,()) (jj)) fun v50=>
 bif decide ((w64 (((v50.1.length:Int))+((v50.2.1.length:Int))))>500) then
  some ([],2,())
 else
  aK (β:=((List aa)×Int×Unit)) (γ:=((List (List UInt8))×(List aa)×Unit)) (
   iter (X:=jt) (β:=jm) (v50.2.1.length+(Int.natAbs ((v50.2.2.2.1.length:Int))+(Int.natAbs (0:Int)+(v50.2.2.1.length+(v50.2.2.2.1.length+2))))) (v50.2.1,(v50.2.2.2.1.length:Int),0,v50.2.2.1,v50.2.2.2.1,()) (ij)) fun v55=>
  aK (β:=((List aa)×Int×Unit)) (γ:=((List aa)×Unit)) (
   iter (X:=jv) (β:=jq) (v55.2.1.length+(v55.1.length+(Int.natAbs ((v55.1.length:Int))+(Int.natAbs (0:Int)+2)))) (v55.2.1,v55.1,(v55.1.length:Int),0,()) (iq)) fun v58=>
  Option.bind (gH v58.1 ()) fun r59=>
  some (r59.1,0,())
end Go.Md
set_option linter.all false
set_option maxRecDepth 20000
namespace Go.Md
open Go.Dn
theorem ad6 {a b:List Int} (h:a.Perm b):a.sum=b.sum:=by
 induction h with
 | nil=>rfl
 | cons x _ ih=>simp only[List.sum_cons,ih]
 | swap x y l=>simp only[List.sum_cons];omega
 | trans _ _ ih1 ih2=>exact ih1.trans ih2
structure Lo (most:Int) (m:List aR) (l:List aa) (L on:List Int):Prop where
 le:∀ x∈L,x≤most
 pair:∀ (j k:Nat) (x y:Int),j<k→L[j]? =some x→L[k]? =some y→most<x+y
 sum:∀ (j:Nat) (x:Int),L[j]? =some x→x=(((bpc m 0 l).filter (atJ on j)).map (·.2)).sum
 onl:on.length=l.length
 on:∀ i,i<l.length→∃ j:Nat,on[i]? =some (j:Int)∧j<L.length
 len:L.length≤l.length
theorem Na (m:List aR):∀ (l:List aa) (k i:Nat),(bpc m k l)[i]? =(l[i]?).map fun p=>(k+i,wz m p*1000)
 | [],_,_=>by simp[bpc]
 | p::r,k,0=>rfl
 | p::r,k,i+1=>by
  unfold bpc
  rw[ahL,ahL,Na m r (k+1) i,show k+1+i=k+(i+1) by omega]
theorem abH (m:List aR):∀ (l:List aa) (k:Nat),(bpc m k l).Pairwise fun a b=>a.1≠b.1
 | [],_=>List.Pairwise.nil
 | p::r,k=>by
  unfold bpc
  refine aiA.2 ⟨?_,abH m r (k+1)⟩
  intro q hq
  obtain⟨i,p',h1,rfl⟩:=BQ hq
  show k≠k+1+i
  omega
theorem FF.lo {most:Int} {m:List aR} {l:List aa} {B:List (Nat×Int)} {L on:List Int} (h:FF most B L on) (hp:(bpc m 0 l).Perm B) (hon:on.length=l.length):Lo most m l L on:=by
 refine⟨h.le,h.pair, ?_,hon, ?_, ?_⟩
 ·intro j x hx
  rw[h.sum j x hx]
  exact ad6 (((hp.filter _).map _).symm)
 ·intro i hi
  have hg:(bpc m 0 l)[i]? =some (0+i,wz m l[i]*1000):=by rw[Na,ahO hi];rfl
  obtain⟨j,h1,h2⟩:=h.on _ (hp.mem_iff.1 (air hg))
  rw[ajn] at h1
  exact⟨j,h1,h2⟩
 ·have:=h.len
  rw[← hp.length_eq,Nb] at this
  exact this
noncomputable def fZ (l:List aa) (m:List ai) (limit:ak):Int:=
 if qS ([97],[97],1,l)≠0 then qS ([97],[97],1,l) else if l.any (fun q=> !(q.2.1==[]))=true then 3 else if gM m≠0 then gM m else if cq limit then 0 else 1
theorem Wh {l:List aa} {m:List ai} {limit:ak} (hf:Sq ([97],[97],1,l)):mK l m limit=some (fZ l m limit,()):=by
 unfold mK
 rw[IE _ hf,ajq]
 dsimp only
 by_cases h1:qS ([97],[97],1,l)=0
 rotate_left
 ·rw[show (qS ([97],[97],1,l) != 0)=true by simpa using h1,ajE]
  unfold fZ
  rw[ajQ h1]
 have hs1:=h1
 rw[h1,show ((0:Int) != 0)=false from rfl,ajD]
 have hl:l.length≤500:=(CZ h1).len
 have hc:gT l ()=some (l.any (fun q=> !(q.2.1==[])),()):=by
  unfold gT lZ
  have loop:iter (X:=eX) (β:=eW) (List.length l+(Int.natAbs ((List.length l:Int))+(Int.natAbs (0:Int)+2))) (l,(),(List.length l:Int),0,()) eV=some (Sum.inr ())∧l.any (fun q=> !(q.2.1==[]))=false∨
   ∃ i:Nat,iter (X:=eX) (β:=eW) (List.length l+(Int.natAbs ((List.length l:Int))+(Int.natAbs (0:Int)+2))) (l,(),(List.length l:Int),0,()) eV=some (Sum.inl ((i:Int),()))∧l.any (fun q=> !(q.2.1==[]))=true:=by
   refine bf (Inv:=fun i x=>x=(l,(),(List.length l:Int),(i:Int),())∧(l.take i).any (fun q=> !(q.2.1==[]))=false) l.length (fun r=>r=some (Sum.inr ())∧l.any (fun q=> !(q.2.1==[]))=false∨∃ i:Nat,r=some (Sum.inl ((i:Int),()))∧l.any (fun q=> !(q.2.1==[]))=true) ?_ ?_ _ 0 _ ⟨rfl,by simp⟩ (by omega) (by omega)
   ·rintro i _ again hi ⟨rfl,hn⟩ ih
    unfold eV
    dsimp only
    have hy:l[i]? =some l[i]:=aM hi
    rw[ax (by omega),aV,hy,ajq]
    unfold uz
    rw[ajq]
    dsimp only
    cases hb:(!(l[i].2.1==[])) with
    | true=>
     right
     exact⟨i,rfl,ahj.2 ⟨l[i],ahZ _,hb⟩⟩
    | false=>
     rw[ajD,aq (by omega) (by omega)]
     refine ih _ ⟨rfl, ?_⟩
     rw[aiK,hy,List.any_append,hn]
     simp only[ajw,ahh,List.any_nil,hb,agS]
   ·rintro _ again ⟨rfl,hn⟩
    unfold eV
    dsimp only
    rw[av (by omega)]
    rw[aiP (ai0 _)] at hn
    exact .inl ⟨rfl,hn⟩
  rcases loop with ⟨h1,h2⟩ | ⟨i,h1,h2⟩
  ·rw[h1,aB,ajq,h2];rfl
  ·rw[h1,bO,ajq,h2];simp
 rw[hc,ajq]
 dsimp only
 cases ha:l.any (fun q=> !(q.2.1==[])) with
 | true=>
  rw[ajE]
  unfold fZ
  rw[ajP (by simpa using hs1),ajQ ha]
 | false=>
 have hno:∀ q∈l,q.2.1=[]:=fun q hq=>by
  have:=ahi.1 ha q hq
  simpa using this
 rw[ajD,IF,ajq]
 dsimp only
 by_cases h2:gM m=0
 rotate_left
 ·rw[show (gM m != 0)=true by simpa using h2,ajE]
  unfold fZ
  rw[ajP (by simpa using hs1),ajP (by rw[ha];simp),ajQ h2]
 have hs2:=h2
 rw[h2,show ((0:Int) != 0)=false from rfl,ajD,xD,ajq]
 dsimp only
 by_cases h3:cq limit
 ·rw[ajQ h3]
  unfold fZ
  rw[ajP (by simpa using hs1),ajP (by rw[ha];simp),ajP (by simpa using hs2),ajQ h3]
 ·rw[ajP h3]
  unfold fZ
  rw[ajP (by simpa using hs1),ajP (by rw[ha];simp),ajP (by simpa using hs2),ajP h3]
theorem acT {a:di} (h:qS a=0):∀ p∈a.2.2.2,PaN p:=by
 unfold qS at h
 split at h
 ·omega
 split at h
 ·omega
 split at h
 ·omega
 split at h
 ·omega
 split at h
 ·omega
 have h3:cD (qE a.2.2.2) 0 a.2.2.2=0:=by omega
 intro p hp
 obtain⟨i,hi⟩:=aio.1 hp
 have:=lQ h3 i p hi
 unfold qE at this
 split at this
 ·omega
 split at this
 ·omega
 split at this
 ·omega
 rename_i hq
 refine⟨J1 (z:=true) (by simpa using hq), ?_⟩
 unfold oK at this
 split at this
 ·omega
 intro c hc
 obtain⟨j,hj⟩:=aio.1 hc
 have:=lQ this j c hj
 unfold I6 at this
 split at this
 ·omega
 split at this
 ·omega
 split at this
 ·omega
 split at this
 ·omega
 split at this
 ·rename_i hq;exact J1 hq
 ·omega
theorem Ng (a b:aa):(!decide (Lib.compareBytes b.1 a.1<0))=true↔(Op.bytesLess b.1 a.1=false):=by
 rw[agN,ajH,sr,agM]
theorem abt {k:List aa} (hd:k.Pairwise fun a b=>a.1≠b.1) (hl:k.length≤4000):∃ x,gH k ()=some (x,())∧x.Perm k∧Asc (·.1) x:=by
 unfold gH MY
 have hu:∀ x∈k,∀ y∈k,x.1=y.1→x=y:=by
  intro x hx y hy e
  obtain⟨i,hi⟩:=aio.1 hx
  obtain⟨j,hj⟩:=aio.1 hy
  obtain⟨i1,i2⟩:=ahQ.1 hi
  obtain⟨j1,j2⟩:=ahQ.1 hj
  rcases ai9 i j with h | h | h
  ·have:=aiB.1 hd i j i1 j1 h
   rw[i2,j2] at this;exact absurd e this
  ·subst h;rw[hi] at hj;exact Option.some.inj hj
  ·have:=aiB.1 hd j i j1 i1 h
   rw[i2,j2] at this;exact absurd e.symm this
 have g2:∀ x,x∈k→∀ y,y∈k→¬ Lib.compareBytes x.1 y.1<0→¬ Lib.compareBytes y.1 x.1<0→x=y:=fun x hx y hy h1 h2=>by
  rw[sr] at h1 h2
  rcases oI x.1 y.1 with h | h | h
  ·exact absurd h h1
  ·exact hu x hx y hy h
  ·exact absurd h h2
 rw[ajQ ⟨fun _ _=>rfl,g2,by omega⟩]
 refine⟨_,rfl,List.mergeSort_perm _ _, ?_⟩
 have hp:=List.mergeSort_perm k (fun x y=> !decide (Lib.compareBytes y.1 x.1<0))
 have hs:(k.mergeSort fun x y=> !decide (Lib.compareBytes y.1 x.1<0)).Pairwise fun a b=>(!decide (Lib.compareBytes b.1 a.1<0))=true:=by
  refine List.pairwise_mergeSort ?_ ?_ k
  ·intro a b c h1 h2
   rw[Ng] at h1 h2 ⊢
   cases hca:Op.bytesLess c.1 a.1 with
   | false=>rfl
   | true=>
    exfalso
    rcases oI b.1 c.1 with h | h | h
    ·have:=gL h hca;rw[this] at h1;cases h1
    ·rw[h,hca] at h1;cases h1
    ·rw[h] at h2;cases h2
  ·intro a b
   rw[agR,Ng,Ng]
   rcases oI a.1 b.1 with h | h | h
   ·exact .inl (uc h)
   ·rw[h];exact .inl (b7 _)
   ·exact .inr (uc h)
 have hd':(k.mergeSort fun x y=> !decide (Lib.compareBytes y.1 x.1<0)).Pairwise fun a b=>a.1≠b.1:=(hp.pairwise_iff (fun h e=>h e.symm)).2 hd
 intro i j a b hij ha hb
 obtain⟨i1,i2⟩:=ahQ.1 ha
 obtain⟨j1,j2⟩:=ahQ.1 hb
 have h1:=aiB.1 hs i j i1 j1 hij
 have h2:=aiB.1 hd' i j i1 j1 hij
 rw[i2,j2] at h1 h2
 rw[Ng] at h1
 rcases oI a.1 b.1 with h | h | h
 ·exact h
 ·exact absurd h h2
 ·rw[h] at h1;cases h1
theorem aej {a b:Int} {i j:Nat} (hi:i≤1000) (hj:j≤1000) (h:w64 (a+i)=w64 (a+j)):i=j:=by
 unfold w64 at h
 simp only[IntKind.wrap,IntKind.bits,IntKind.signed] at h
 simp at h
 omega
theorem PX {Lb:List (List UInt8)} {on:List Int} {l:List aa} {q:aa} (h:q∈dV Lb on 0 l):∃ i q0,l[i]? =some q0∧q=E8 Lb on i q0:=by
 obtain⟨i,hi⟩:=aio.1 h
 rw[Dy,ajn] at hi
 cases hq:l[i]? with
 | none=>rw[hq] at hi;cases hi
 | some q0=>
  rw[hq] at hi
  exact⟨i,q0,hq,(Option.some.inj hi).symm⟩
theorem aeO {p:List UInt8} {z:Int} (h:gB p z=0):∃ s,bB p z=some (s,0,())∧Gi p z s:=by
 unfold gB at h
 split at h
 ·rename_i hp
  split at h
  ·cases h
  ·rename_i hz
   obtain⟨m,rfl⟩:∃ m:Nat,z=(m:Int):=⟨z.toNat,by omega⟩
   refine RG hp m ?_
   have h1:(m:Int)<10 ^ (17 - p.length):=by omega
   have h2:((10 ^ (17 - p.length):Nat):Int)=(10:Int) ^ (17 - p.length):=by simp
   omega
 ·cases h
theorem B0 (p:List UInt8) (z:Int):∃ s,bB p z=some (s,gB p z,())∧(gB p z≠0→s=[]):=by
 by_cases h:gB p z=0
 ·obtain⟨s,h1,_⟩:=aeO h
  exact⟨s,by rw[h1,h],fun e=>absurd h e⟩
 ·exact⟨[],ou p z h,fun _=>rfl⟩
def rP (p:List UInt8):Int:=(10:Int) ^ (17 - p.length)
theorem ND (p:List UInt8):1≤rP p∧rP p≤10 ^ 17:=by
 unfold rP
 have h1:(10:Int) ^ (17 - p.length)≤10 ^ 17:=by
  have:=ajj (n:=10) (by omega) (show 17 - p.length≤17 by omega)
  have h2:=ag5.2 this
  simpa using h2
 have h0:(0:Int)<10 ^ (17 - p.length):=ag7 (by decide)
 omega
theorem aaY {p:List UInt8} {n:Int} {N j:Nat} {e:Int} (hN:N≤1000) (he:e≠0) (hj:j<N) (h1:bB p (w64 (n+(j:Nat)))=some ([],e,())) (h2:∀ j':Nat,j'<j→∃ s,bB p (w64 (n+j'))=some (s,0,())) (hn:w64 n=n):e=iM p n N:=by
 obtain⟨s,h3,_⟩:=B0 p (w64 (n+(j:Nat)))
 rw[h3] at h1
 have he2:gB p (w64 (n+(j:Nat)))=e:=by
  have:=Option.some.inj h1
  exact (Prod.mk.inj (Prod.mk.inj this).2).1
 have hN0:¬ ((N:Int)=0):=by omega
 unfold iM
 rw[ajP hN0]
 by_cases h0:gB p n=0
 ·rw[ajP (by simpa using h0)]
  have hb:=ND p
  unfold gB at h0
  split at h0
  ·rename_i hp
   split at h0
   ·cases h0
   ·rename_i hz
    have hz2:0≤n∧n≤rP p - 1:=by unfold rP;omega
    rw[aq (by omega) (by omega)] at he2
    unfold gB at he2
    rw[ajQ hp] at he2
    split at he2
    ·rename_i hb2
     have hb3:n+(j:Nat)<0∨rP p - 1<n+(j:Nat):=hb2
     show e=if rP p - n<N then 1 else 0
     rw[ajQ (show rP p - n<N by omega)]
     exact he2.symm
    ·exact absurd he2.symm he
  ·cases h0
 ·rw[ajQ h0]
  have hj0:j=0:=by
   rcases aiX j with h | h
   ·exact h
   ·obtain⟨s0,h4⟩:=h2 0 h
    obtain⟨s1,h5,_⟩:=B0 p (w64 (n+((0:Nat):Int)))
    rw[h5] at h4
    have:=(Prod.mk.inj (Prod.mk.inj (Option.some.inj h4)).2).1
    rw[show n+((0:Nat):Int)=n by omega,hn] at this
    exact absurd this h0
  subst hj0
  rw[show n+((0:Nat):Int)=n by omega,hn] at he2
  exact he2.symm
theorem acs {p:List UInt8} {n:Int} {N:Nat} (hN:N≤1000) (h:∀ j:Nat,j<N→∃ s,bB p (w64 (n+j))=some (s,0,())) (hn:w64 n=n):iM p n N=0:=by
 unfold iM
 by_cases hN0:(N:Int)=0
 ·rw[ajQ hN0]
 rw[ajP hN0]
 have key:∀ j:Nat,j<N→gB p (w64 (n+j))=0:=fun j hj=>by
  obtain⟨s0,h4⟩:=h j hj
  obtain⟨s1,h5,_⟩:=B0 p (w64 (n+(j:Nat)))
  rw[h5] at h4
  exact (Prod.mk.inj (Prod.mk.inj (Option.some.inj h4)).2).1
 have h0:=key 0 (by omega)
 rw[show n+((0:Nat):Int)=n by omega,hn] at h0
 rw[ajP (by simpa using h0)]
 have hb:=ND p
 have hl:=key (N - 1) (by omega)
 unfold gB at h0 hl
 split at h0
 ·rename_i hp
  split at h0
  ·cases h0
  ·rename_i hz
   have hz2:0≤n∧n≤rP p - 1:=by unfold rP;omega
   rw[ajQ hp,aq (by omega) (by omega)] at hl
   split at hl
   ·cases hl
   ·rename_i hz3
    have hz4:¬ (n+((N - 1:Nat):Int)<0∨rP p - 1<n+((N - 1:Nat):Int)):=hz3
    show (if rP p - n<N then 1 else 0)=0
    rw[ajP (show ¬ (rP p - n<N) by omega)]
 ·cases h0
structure EG (p:List UInt8) (n:Int) (N:Nat) (Lb:List (List UInt8)):Prop where
 len:Lb.length=N
 lab:∀ (j:Nat) (s:List UInt8),Lb[j]? =some s→Gi p (w64 (n+j)) s∧bB p (w64 (n+j))=some (s,0,())
theorem EG.nodup {p:List UInt8} {n:Int} {N:Nat} {Lb:List (List UInt8)} (h:EG p n N Lb) (hN:N≤1000):Lb.Nodup:=by
 refine aiB.2 ?_
 intro i j hi hj hij e
 have a1:=(h.lab i Lb[i] (ahO hi)).1
 have a2:=(h.lab j Lb[j] (ahO hj)).1
 rw[← e] at a2
 have hl:=h.len
 have:=aej (b:=0) (by omega) (by omega) (acr a1 a2)
 omega
theorem EG.uniq {p:List UInt8} {n:Int} {N:Nat} {Lb Lb':List (List UInt8)} (h:EG p n N Lb) (h':EG p n N Lb'):Lb=Lb':=by
 apply ahy
 intro j
 by_cases hj:j<N
 ·have e1:Lb[j]? =some (Lb[j]'(by rw[h.len];exact hj)):=ahO _
  have e2:Lb'[j]? =some (Lb'[j]'(by rw[h'.len];exact hj)):=ahO _
  have a1:=(h.lab j _ e1).2
  have a2:=(h'.lab j _ e2).2
  rw[a1] at a2
  rw[e1,e2]
  exact congrArg some (Prod.mk.inj (Option.some.inj a2)).1
 ·rw[ahP (by rw[h.len];omega),ahP (by rw[h'.len];omega)]
theorem acQ {l:List aa} {Lb:List (List UInt8)} {on:List Int} (hpd:l.Pairwise fun a b=>a.1≠b.1) (hlnd:Lb.Nodup) (r1:∀ s∈Lb,∀ q∈l,q.1≠s):(dV Lb on 0 l++news Lb).Pairwise fun a b=>a.1≠b.1:=by
 have hol:(dV Lb on 0 l).length=l.length:=Dz ..
 refine aiz.2 ⟨?_, ?_, ?_⟩
 ·refine aiB.2 ?_
  intro i j hi hj hij
  have hi':i<l.length:=by omega
  have hj':j<l.length:=by omega
  have ei:(dV Lb on 0 l)[i]? =some (E8 Lb on (0+i) l[i]):=by rw[Dy,ahO hi'];rfl
  have ej:(dV Lb on 0 l)[j]? =some (E8 Lb on (0+j) l[j]):=by rw[Dy,ahO hj'];rfl
  rw[(ahQ.1 ei).2,(ahQ.1 ej).2]
  exact aiB.1 hpd i j hi' hj' hij
 ·unfold news
  rw[aiC]
  exact hlnd
 ·intro a ha b hb
  obtain⟨i,q0,hq,rfl⟩:=PX ha
  unfold news at hb
  obtain⟨s,hs,rfl⟩:=aip.1 hb
  exact r1 s hs q0 (air hq)
theorem afj {l:List aa} (h:Asc (·.1) l):l.Pairwise fun a b=>a.1≠b.1:=by
 refine aiB.2 ?_
 intro i j hi hj hij e
 have:Op.bytesLess (l[i]).1 (l[j]).1=true:=h i j l[i] l[j] hij (ahO hi) (ahO hj)
 rw[e,b7] at this;cases this
theorem abv {l:List aa} {m:List aR} {limit:ak} (h1:qS ([97],[97],1,l)=0) (h3:gM m=0) (h4:cq limit) (h5:∀ p∈l,(wP m [p] 0).isSome=true∧Le 42 (wz m p))
 {B:List (Nat×Int)} (hp:(bpc m 0 l).Perm B) (hle:∀ q∈B,q.2≤v9 limit) (p:List UInt8) (n:Int) (hn:w64 n=n) {L on:List Int} (hff:(L,on)=zm (v9 limit) B [] (List.replicate l.length 0)):
 Lo (v9 limit) m l L on∧((iM p n L.length≠0∧nk l p n (B.map iX) (W (v9 limit))=some ([],iM p n L.length,()))
 ∨(iM p n L.length=0∧∃ Lb,EG p n L.length Lb∧(((∃ s∈Lb,∃ q∈l,q.1=s)∧nk l p n (B.map iX) (W (v9 limit))=some ([],7,()))
  ∨((∀ s∈Lb,∀ q∈l,q.1≠s)∧((500<l.length+L.length∧nk l p n (B.map iX) (W (v9 limit))=some ([],2,()))
   ∨(l.length+L.length≤500∧∃ x,nk l p n (B.map iX) (W (v9 limit))=some (x,0,())∧x.Perm (dV Lb on 0 l++news Lb)∧Asc (·.1) x)))))):=by
 have hok:=CZ h1
 have hl:l.length≤500:=hok.len
 have hpa:∀ q∈l,Lh q:=Nx h1
 have hpn:∀ q∈l,PaN q:=acT h1
 obtain⟨_,_,hm⟩:=AF h3
 have hBl:B.length=l.length:=by rw[← hp.length_eq,Nb]
 have hnd:B.Pairwise fun a b=>a.1≠b.1:=(hp.pairwise_iff (fun h e=>h e.symm)).1 (abH m l 0)
 have hK:∀ q∈B,q.1<l.length∧0≤q.2∧q.2≤v9 limit:=by
  intro q hq
  refine⟨?_, ?_,hle q hq⟩
  ·obtain⟨i,p',hi,rfl⟩:=BQ (hp.mem_iff.2 hq)
   have:=(ahQ.1 hi).1
   show 0+i<l.length
   omega
  ·obtain⟨i,p',hi,rfl⟩:=BQ (hp.mem_iff.2 hq)
   have:=Vh hm (hpn p' (air hi))
   show 0≤wz m p'*1000
   omega
 have hmost:(v9 limit).natAbs≤10 ^ 30:=by have:(v9 limit).natAbs≤10 ^ 24:=Ww h4;omega
 unfold nk
 rw[aC (by simp only[agE,ajJ];omega)]
 obtain⟨L',on',g1,g2,g4,g3⟩:=ae6 hmost B (by omega) hnd l.length hK l p n B 0
  (List.length l+(List.length p+(Int.natAbs n+(List.length ([]:List aL)+(List.length (B.map iX)+(Int.natAbs ((List.length (B.map iX):Int))+(Int.natAbs (0:Int)+(List.length (W (v9 limit)).2+(List.length ((List.replicate (Int.toNat ((List.length l:Int))) 0:List (Int)):List Int)+2)))))))))
  [] (List.replicate (Int.toNat ((List.length l:Int))) 0) rfl (ajo _) (by rw[ah3];omega) (by rw[ah7,ahd]) (FF.nil _ _)
 rw[ahd, ← hff] at g4
 obtain⟨rfl,rfl⟩:=Prod.mk.inj g4
 have g3':iter (X:=jr) (β:=jk) (List.length l+(List.length p+(Int.natAbs n+(List.length ([]:List aL)+(List.length (B.map iX)+(Int.natAbs ((List.length (B.map iX):Int))+(Int.natAbs (0:Int)+(List.length (W (v9 limit)).2+(List.length ((List.replicate (Int.toNat ((List.length l:Int))) 0:List (Int)):List Int)+2)))))))))
  (l,p,n,[],B.map iX,((B.map iX).length:Int),0,(W (v9 limit)).1,(W (v9 limit)).2,(List.replicate (Int.toNat ((List.length l:Int))) 0:List (Int)),()) ig=some (Sum.inr (l,p,n,L'.map W,on',())):=by
  rw[ah3] at g3 ⊢
  exact g3
 have hlo:=g1.lo hp g2
 refine⟨hlo, ?_⟩
 have hLl:=hlo.len
 rw[g3',aB]
 dsimp only
 rw[QB hl hpa,ajq]
 dsimp only
 rcases ae7 l p n L'.length (by omega) on' l L'.length 0 (List.length l+(List.length p+(Int.natAbs n+(List.length ([]:List (List UInt8))+(Int.natAbs ((List.length (L'.map W):Int))+(Int.natAbs (0:Int)+(List.length on'+(List.length l+2)))))))) [] (by omega) (by rw[ah3,ag4];omega) rfl (fun j s h=>by simp at h) with ⟨e,j,he,hj,q0,q1,q⟩ | ⟨Lb,q1,q2,q3⟩
 ·left
  have hee:=aaY (by omega) he hj q0 q1 hn
  rw[← hee]
  refine⟨he, ?_⟩
  have q':iter (X:=gq) (β:=gm) (List.length l+(List.length p+(Int.natAbs n+(List.length ([]:List (List UInt8))+(Int.natAbs ((List.length (L'.map W):Int))+(Int.natAbs (0:Int)+(List.length on'+(List.length l+2)))))))) (l,p,n,[],((L'.map W).length:Int),0,on',l,()) fE=some (Sum.inl ([],e,())):=by
   rw[ah3] at q ⊢
   exact q
  rw[q',bO]
 right
 have hLb:EG p n L'.length Lb:=⟨q1,q2⟩
 refine⟨acs (by omega) (fun j hj=>⟨_,(q2 j _ (ahO (by omega))).2⟩) hn,Lb,hLb, ?_⟩
 have q':iter (X:=gq) (β:=gm) (List.length l+(List.length p+(Int.natAbs n+(List.length ([]:List (List UInt8))+(Int.natAbs ((List.length (L'.map W):Int))+(Int.natAbs (0:Int)+(List.length on'+(List.length l+2)))))))) (l,p,n,[],((L'.map W).length:Int),0,on',l,()) fE=some (Sum.inr (l,Lb,on',l,())):=by
  rw[ah3] at q3 ⊢
  exact q3
 rw[q',aB]
 dsimp only
 rcases ae8 l hl Lb (by omega) on' l (List.length l+(List.length Lb+(List.length Lb+(Int.natAbs ((List.length Lb:Int))+(Int.natAbs (0:Int)+(List.length on'+(List.length l+2))))))) (by omega) with ⟨r0,r⟩ | ⟨r1,r2⟩
 ·left
  refine⟨r0, ?_⟩
  rw[r,bO]
 right
 refine⟨r1, ?_⟩
 rw[r2,aB]
 dsimp only
 rw[aq (by omega) (by omega)]
 by_cases hbig:(l.length:Int)+(Lb.length:Int)>500
 ·left
  rw[ax hbig]
  exact⟨by omega,rfl⟩
 right
 refine⟨by omega, ?_⟩
 rw[av hbig]
 have hj:∀ i,i<l.length→∃ (j:Nat) (s:List UInt8),on'[i]? =some (j:Int)∧Lb[j]? =some s:=by
  intro i hi
  obtain⟨j,a1,a2⟩:=hlo.on i hi
  exact⟨j,Lb[j]'(by omega),a1,ahO (by omega)⟩
 have t1:=ae9 Lb on' l hl g2 hj l [] (List.length Lb+(Int.natAbs ((List.length l:Int))+(Int.natAbs (0:Int)+(List.length on'+(List.length l+2))))) rfl (ajo _) (by omega)
 have t1':iter (X:=jt) (β:=jm) (List.length Lb+(Int.natAbs ((List.length l:Int))+(Int.natAbs (0:Int)+(List.length on'+(List.length l+2))))) (Lb,(l.length:Int),0,on',l,()) ij=some (Sum.inr (Lb,dV Lb on' 0 l,())):=t1
 rw[t1',aB]
 dsimp only
 have hol:(dV Lb on' 0 l).length=l.length:=Dz ..
 have t2:=afa Lb (by omega) Lb 0 (List.length (dV Lb on' 0 l)+(List.length Lb+(Int.natAbs ((List.length Lb:Int))+(Int.natAbs (0:Int)+2)))) (dV Lb on' 0 l) rfl (ajo _) (by omega) (by omega)
 have t2':iter (X:=jv) (β:=jq) (List.length (dV Lb on' 0 l)+(List.length Lb+(Int.natAbs ((List.length Lb:Int))+(Int.natAbs (0:Int)+2)))) (dV Lb on' 0 l,Lb,(Lb.length:Int),0,()) iq=some (Sum.inr (dV Lb on' 0 l++news Lb,())):=t2
 rw[t2',aB]
 dsimp only
 have hnl:(news Lb).length=Lb.length:=by unfold news;rw[ah3]
 obtain⟨x,u1,u2,u3⟩:=abt (acQ (on:=on') (afj hok.asc) (hLb.nodup (by omega)) r1) (by rw[ah0,hol,hnl];omega)
 exact⟨x,by rw[u1,ajq],u2,u3⟩
theorem Yz (a0:List aa) (a1:List ai) (a2:ak) (a3:List UInt8) (a4:Int):AQ a0 a1 a2 a3 a4=
 Option.bind (mK a0 a1 a2) fun r1=>
 bif r1.1 != 0 then some ([],r1.1,())
 else Option.bind (ox a0 a1) fun r2=>
  bif !r2.2.1 then some ([],5,())
  else Option.bind (vk a2) fun r3=>
   bif decide (((r2.1.length:Int))>0) then
    Option.bind (idx r2.1 0) fun y4=>
    Option.bind (gO y4.2 r3.1) fun r5=>
    bif decide (r5.1>0) then some ([],16,())
    else nk a0 a3 a4 r2.1 r3.1
   else nk a0 a3 a4 r2.1 r3.1:=rfl
structure HJ (l:List aa) (m:List ai) (limit:ak) (p:List UInt8) (n:Int) (r:List aa×Int×Unit):Prop where
 fault:fZ l m limit≠0→r=([],fZ l m limit,())
 name:fZ l m limit=0→(∃ q∈l,wP m [q] 0=none)→r=([],5,())
 full:fZ l m limit=0→(∀ q∈l,(wP m [q] 0).isSome=true)→(∃ q∈l,v9 limit<wz m q*1000)→r=([],16,())
 tail:fZ l m limit=0→(∀ q∈l,(wP m [q] 0).isSome=true∧Le 42 (wz m q))→(∀ q∈l,wz m q*1000≤v9 limit)→∀ B L on,Srt (fun q:Nat×Int=> -q.2) B→bE (fun q:Nat×Int=> -q.2) (bpc m 0 l) B→(L,on)=zm (v9 limit) B [] (List.replicate l.length 0)→
  Lo (v9 limit) m l L on∧((iM p n L.length≠0∧r=([],iM p n L.length,()))
  ∨(iM p n L.length=0∧∃ Lb,EG p n L.length Lb∧(((∃ s∈Lb,∃ q∈l,q.1=s)∧r=([],7,()))
   ∨((∀ s∈Lb,∀ q∈l,q.1≠s)∧((500<l.length+L.length∧r=([],2,()))
    ∨(l.length+L.length≤500∧∃ x,r=(x,0,())∧x.Perm (dV Lb on 0 l++news Lb)∧Asc (·.1) x))))))
theorem OQ {l:List aa} {m:List ai} {limit:ak} (h:fZ l m limit=0):qS ([97],[97],1,l)=0∧(∀ q∈l,q.2.1=[])∧gM m=0∧cq limit:=by
 unfold fZ at h
 split at h
 ·rename_i h1;exact absurd h h1
 split at h
 ·cases h
 split at h
 ·rename_i h1;exact absurd h h1
 split at h
 ·rename_i a b c d
  refine⟨by simpa using a,fun q hq=> ?_,by simpa using c,d⟩
  have:=ahi.1 (Bool.eq_false_iff.2 b) q hq
  simpa using this
 ·cases h
theorem ZN (l:List aa) (m:List ai) (limit:ak) (p:List UInt8) (n:Int) (hn:w64 n=n) (hf:Sq ([97],[97],1,l)):∃ r,AQ l m limit p n=some r∧HJ l m limit p n r:=by
 rw[Yz,Wh hf,ajq]
 dsimp only
 by_cases h0:fZ l m limit=0
 rotate_left
 ·rw[show (fZ l m limit != 0)=true by simpa using h0,ajE]
  exact⟨_,rfl,fun _=>rfl,fun h=>absurd h h0,fun h=>absurd h h0,fun h=>absurd h h0⟩
 obtain⟨h1,h2,h3,h4⟩:=OQ h0
 rw[h0,show ((0:Int) != 0)=false from rfl,ajD]
 have hl:l.length≤500:=(CZ h1).len
 rcases Yl (Nx h1) hl h3 with ⟨⟨q0,hq0,hq1⟩,h⟩ | ⟨h5,B,g1,g2,g3⟩
 ·rw[h]
  refine⟨_,rfl,fun h=>absurd h0 h,fun _ _=>rfl,fun _ hs _=> ?_,fun _ hs=> ?_⟩
  ·have:=hs q0 hq0;rw[hq1] at this;cases this
  ·have:=(hs q0 hq0).1;rw[hq1] at this;cases this
 rw[g1,ajq]
 dsimp only
 rw[agP,ajD,Qj h4,ajq]
 dsimp only
 have hvb:(v9 limit).natAbs≤10 ^ 24:=Ww h4
 have hBb:∀ q∈B,q.2.natAbs≤10 ^ 50:=by
  intro q hq
  obtain⟨i,p',hi,rfl⟩:=BQ (g3.perm.mem_iff.2 hq)
  have h6:(wz m p').natAbs≤10 ^ 42:=(h5 p' (air hi)).2
  show (wz m p'*1000).natAbs≤10 ^ 50
  rw[ag3]
  show (wz m p').natAbs*1000≤10 ^ 50
  omega
 have hnn:¬ ∃ q∈l,wP m [q] 0=none:=fun ⟨q,hq,e⟩=>by have:=(h5 q hq).1;rw[e] at this;cases this
 have fin:(∀ q∈B,q.2≤v9 limit)→∃ r,nk l p n (B.map iX) (W (v9 limit))=some r∧HJ l m limit p n r:=by
  intro hle
  obtain⟨L,on,hff⟩:∃ L on,(L,on)=zm (v9 limit) B [] (List.replicate l.length 0):=⟨_,_,rfl⟩
  have ht:=abv h1 h3 h4 h5 g3.perm hle p n hn hff
  have mk:∀ r,nk l p n (B.map iX) (W (v9 limit))=some r→HJ l m limit p n r:=by
   intro r hr
   refine⟨fun h=>absurd h0 h,fun _ h=>absurd h hnn,fun _ _ ⟨q,hq,hlt⟩=> ?_,fun _ _ _ B' L' on' s1 s2 s3=> ?_⟩
   ·obtain⟨i,hi⟩:=aio.1 hq
    have hg:(bpc m 0 l)[i]? =some (0+i,wz m q*1000):=by rw[Na,hi];rfl
    have:=hle _ (g3.perm.mem_iff.1 (air hg))
    dsimp only at this
    omega
   ·have hBB:B'=B:=Yd s1 g2 s2 g3
    subst hBB
    have e:=s3.trans hff.symm
    obtain⟨rfl,rfl⟩:=Prod.mk.inj e
    obtain⟨hlo,hc⟩:=ht
    refine⟨hlo, ?_⟩
    rcases hc with ⟨c1,c2⟩ | ⟨c1,Lb,c2,c3⟩
    ·rw[hr] at c2;exact .inl ⟨c1,Option.some.inj c2⟩
    right
    refine⟨c1,Lb,c2, ?_⟩
    rcases c3 with ⟨d1,d2⟩ | ⟨d1,d2⟩
    ·rw[hr] at d2;exact .inl ⟨d1,Option.some.inj d2⟩
    right
    refine⟨d1, ?_⟩
    rcases d2 with ⟨k1,k2⟩ | ⟨k1,x,k2,k3,k4⟩
    ·rw[hr] at k2;exact .inl ⟨k1,Option.some.inj k2⟩
    ·rw[hr] at k2;exact .inr ⟨k1,x,Option.some.inj k2,k3,k4⟩
  have hsome:∃ r,nk l p n (B.map iX) (W (v9 limit))=some r:=by
   obtain⟨_,hc⟩:=ht
   rcases hc with ⟨_,c2⟩ | ⟨_,Lb,_,c3⟩
   ·exact⟨_,c2⟩
   rcases c3 with ⟨_,d2⟩ | ⟨_,d2⟩
   ·exact⟨_,d2⟩
   rcases d2 with ⟨_,k2⟩ | ⟨_,x,k2,_⟩
   ·exact⟨_,k2⟩
   ·exact⟨_,k2⟩
  obtain⟨r,hr⟩:=hsome
  exact⟨r,hr,mk r hr⟩
 cases B with
 | nil=>
  rw[aif,av (by simp)]
  exact fin (fun q hq=>by cases hq)
 | cons b B=>
  have hb:=hBb b ail
  rw[aid,ax (by rw[ah1];omega),show idx (iX b::B.map iX) 0=some (iX b) from rfl,ajq]
  have ec:gO (iX b).2 (W (v9 limit))=some ((b.2 - v9 limit).sign,()):=sX _ _ (Bk (by omega)) (Bk (by omega))
  rw[ec,ajq]
  dsimp only
  by_cases hw:v9 limit<b.2
  ·refine⟨([],16,()), ?_,fun h=>absurd h0 h,fun _ h=>absurd h hnn,fun _ _ _=>rfl,fun _ _ h=> ?_⟩
   ·rw[aha (by omega)];rfl
   ·obtain⟨i,p',hi,hbe⟩:=BQ (g3.perm.mem_iff.2 ail)
    have h7:=h p' (air hi)
    rw[hbe] at hw
    dsimp only at hw
    omega
  ·have hs:¬ (b.2 - v9 limit).sign>0:=by
    rcases agW b.2 (v9 limit) with h | h | h
    ·rw[ag9 (by omega)];decide
    ·rw[h,Int.sub_self];decide
    ·omega
   rw[av hs]
   refine fin fun q hq=> ?_
   rcases aij.1 hq with rfl | hq
   ·omega
   ·have:=(aiA.1 g2).1 q hq
    dsimp only at this
    omega
end Go.Md
