/-
  Plain facts: what is due, asked, answered. No condition.
-/
import Derived.Test.YtcndcnfjdanbeaaGreatDoorXx
import Derived.Test.YtcndcnfjdanbeaaGreatDoorXq
import Derived.Test.YtcndcnfjdanbeaaGreatDoorXk
set_option linter.all false
set_option linter.all false
namespace Go.Md.SL
open Go.Dn Go.Md
section
variable {k:Option Nat→Int} {ar:List ak} {ok:Option Nat→Prop}
def wI (k:Option Nat→Int) (ar:List ak) (ok:Option Nat→Prop):Prop:=∀ a b,ok a→ok b→∃ c,dK a b ar=some (c,())∧(c<0↔k a<k b)
theorem R7 (hc:wI k ar ok) (a:Nat) (bI:Int) (iI:Int) (X:List (Option Nat)) (hX:X.length=a):∀ (n:Nat) (P1:List (Option Nat)) (x:Option Nat) (B:List (Option Nat)),P1.length<n→(X++P1++x::B).length<1000000000→ok x→(∀ y∈P1,ok y)→
 ∃ P2 P3,P1=P2++P3∧(∀ y∈P3,k x<k y)∧(∀ y,P2.getLast? =some y→k y≤k x)∧
 iter (X:=cU) (β:=cR) n ((a:Int),bI,(),iI,((a+P1.length:Nat):Int),X++P1++x::B,ar,()) cO=some (Sum.inr ((a:Int),bI,(),iI,X++P2++x::(P3++B),ar,())):=by
 intro n
 induction n with
 | zero=>intro P1 x B h;omega
 | succ n ih=>
  intro P1 x B hn hlen hx hP
  rw[cI]
  generalize hag:(fun y=>iter n y cO)=again
  unfold cO
  dsimp only
  rcases List.eq_nil_or_concat P1 with rfl | ⟨P,y,rfl⟩
  ·rw[bu (by simp)]
   exact⟨[],[],rfl,by simp,by simp,by simp⟩
  ·rw[List.concat_eq_append] at*
   simp only[Xd,Xe,Xg] at hlen hn ⊢
   have e1:w64 (((a+(P.length+1):Nat):Int) - 1)=(((X++P).length:Nat):Int):=by rw[aC (by omega) (by omega)];simp[hX];omega
   have e2:(((a+(P.length+1):Nat):Int))=(((X++P).length+1:Nat):Int):=by simp[hX];omega
   have el:X++(P++[y])++x::B=(X++P)++y::x::B:=by simp
   obtain⟨c,hcc,hlt⟩:=hc x y hx (hP y (by simp))
   rw[bp (by omega),e1,e2,el]
   simp only[Ws,get_at,H6,Yo,hcc]
   rw[bD (by simp only[V6,YC,Xd,Xe,Xi,Xg];omega),bD (by simp only[V6,YC,Xd,Xe,Xi,Xg];omega)]
   by_cases hk:k x<k y
   ·rw[bp (hlt.2 hk),bD (by simp only[V6,YC,Xd,Xe,Xi,Xg];omega),bD (by simp only[V6,YC,Xd,Xe,Xi,Xg];omega),bD (by simp only[V6,YC,Xd,Xe,Xi,Xg];omega),
     bD (by simp only[V6,YC,Xd,Xe,Xi,Xg];omega)]
    have hg:(((X++P)++y::x::B).set ((X++P).length+1) y)[(X++P).length]? =some y:=by rw[W7 (by omega),get_at]
    rw[hg,Yo,OZ, ← hag]
    obtain⟨P2,P3,h1,h2,h3,h4⟩:=ih P x (y::B) (by omega) (by simp;omega) hx (fun z hz=>hP z (by simp[hz]))
    refine⟨P2,P3++[y],by rw[h1];simp, ?_,h3, ?_⟩
    ·intro z hz
     rcases Xo.1 hz with hz | hz
     ·exact h2 z hz
     ·rw[Xz.1 hz];exact hk
    ·have e3:(((X++P).length:Nat):Int)=((a+P.length:Nat):Int):=by simp[hX]
     rw[e3]
     show iter n _ _=_
     rw[h4];simp
   ·rw[bu (fun h=>hk (hlt.1 h))]
    refine⟨P++[y],[],by simp,by simp,fun z hz=> ?_,by simp⟩
    simp at hz
    subst hz;omega
theorem GV (hc:wI k ar ok) (X S Y:List (Option Nat)) (hlen:(X++S++Y).length<1000000000) (hok:∀ y∈S,ok y):
 ∃ S',cq (X++S++Y) (X.length:Int) ((X.length+S.length:Nat):Int) () ar=some (X++S'++Y,())∧Srt k S'∧bn k S S':=by
 simp only[Xd] at hlen
 have loop:∀ (n:Nat) (Q P:List (Option Nat)) (l:List (Option Nat)),Q.length<n→l=X++P++Q++Y→P.length+Q.length=S.length→Srt k P→(∀ y∈P,ok y)→(∀ y∈Q,ok y)→
  ∃ S',iter (X:=cT) (β:=cQ) n ((X.length:Int),((X.length+S.length:Nat):Int),(),((X.length+P.length:Nat):Int),l,ar,()) bV=some (Sum.inr (X++S'++Y,ar,()))∧Srt k S'∧bn k (P++Q) S':=by
  intro n
  induction n with
  | zero=>intro Q P l h;omega
  | succ n ih=>
   intro Q P l hn hl hPQ hs hokP hokQ
   rw[cI]
   generalize hag:(fun y=>iter n y bV)=again
   unfold bV
   dsimp only
   cases Q with
   | nil=>
    rw[bu (by simp at hPQ;omega)]
    exact⟨P,by rw[hl];simp,hs,by simpa using bn.refl k P⟩
   | cons x Q=>
    simp only[Xe] at hn hPQ
    rw[bp (by omega)]
    have hl':l=X++P++x::(Q++Y):=by rw[hl];simp
    obtain⟨P2,P3,h1,h2,h3,h4⟩:=R7 hc X.length ((X.length+S.length:Nat):Int) ((X.length+P.length:Nat):Int) X rfl
     (Int.natAbs (X.length:Int)+(Int.natAbs ((X.length+S.length:Nat):Int)+(Int.natAbs ((X.length+P.length:Nat):Int)+(Int.natAbs ((X.length+P.length:Nat):Int)+(List.length l+2))))) P x (Q++Y) (by omega) (by simp;omega) (hokQ x (by simp)) hokP
    rw[← hl'] at h4
    rw[h4,bq]
    dsimp only
    have e1:w64 (((X.length+P.length:Nat):Int)+1)=((X.length+(P2++x::P3).length:Nat):Int):=by
     rw[aC (by omega) (by omega),h1];simp;omega
    rw[e1, ← hag]
    rw[h1] at hs hokP
    obtain⟨hs',hsam⟩:=Tk hs h2 h3
    obtain⟨S',g1,g2,g3⟩:=ih Q (P2++x::P3) (X++P2++x::(P3++(Q++Y))) (by omega) (by simp) (by rw[h1] at hPQ;simp at hPQ ⊢;omega) hs' (fun y hy=>by
     rcases hsam.mem.1 hy |> Xo.1 with h | h
     ·exact hokP y h
     ·rw[Xz.1 h];exact hokQ x (by simp)) (fun y hy=>hokQ y (by simp[hy]))
    refine⟨S',g1,g2, ?_⟩
    have:bn k (P++x::Q) (P2++x::P3++Q):=by
     rw[h1]
     have:=hsam.append (bn.refl k Q)
     simpa using this
    exact this.trans g3
 unfold cq
 cases S with
 | nil=>
  have e1:w64 ((X.length:Int)+1)=((X.length+1:Nat):Int):=by rw[aC (by omega) (by omega)];omega
  rw[e1]
  obtain⟨n,hn⟩:∃ n,(Int.natAbs (X.length:Int)+(Int.natAbs ((X.length+([]:List (Option Nat)).length:Nat):Int)+(Int.natAbs ((X.length+1:Nat):Int)+(List.length (X++[]++Y)+2))))=n+1:=⟨_,rfl⟩
  rw[hn,cI]
  unfold bV
  dsimp only
  rw[bu (by simp;omega)]
  exact⟨[],rfl,List.Pairwise.nil,bn.refl _ _⟩
 | cons x S=>
  have e1:w64 ((X.length:Int)+1)=((X.length+[x].length:Nat):Int):=by rw[aC (by omega) (by omega)];simp
  rw[e1]
  obtain⟨S',g1,g2,g3⟩:=loop (Int.natAbs (X.length:Int)+(Int.natAbs ((X.length+(x::S).length:Nat):Int)+(Int.natAbs ((X.length+[x].length:Nat):Int)+(List.length (X++(x::S)++Y)+2)))) S [x] (X++(x::S)++Y) (by simp;omega) (by simp) (by simp;omega) (List.pairwise_singleton _ _) (fun y hy=>hok y (by simp at hy;simp[hy])) (fun y hy=>hok y (by simp[hy]))
  rw[g1,bq]
  exact⟨S',rfl,g2,by simpa using g3⟩
theorem Bx (X M Y:List (Option Nat)):∀ (P Q:List (Option Nat)),P.length=Q.length→(X++P++M++Q++Y).length<1000000000→
 cc (X++P++M++Q++Y) (X.length:Int) ((X.length+P.length+M.length:Nat):Int) (P.length:Int) () ar=some (X++Q++M++P++Y,()):=by
 intro P Q hPQ hlen
 simp only[Xd] at hlen
 have loop:∀ (n:Nat) (P1 P2 Q1 Q2:List (Option Nat)) (l:List (Option Nat)),P2.length<n→P1.length+P2.length=P.length→P1.length=Q1.length→P2.length=Q2.length→l=X++P1++P2++M++Q1++Q2++Y→
  iter (X:=dN) (β:=dM) n ((X.length:Int),((X.length+P.length+M.length:Nat):Int),(P.length:Int),(P1.length:Int),l,ar,()) dL=some (Sum.inr (X++P1++Q2++M++Q1++P2++Y,ar,())):=by
  intro n
  induction n with
  | zero=>intro P1 P2 Q1 Q2 l h;omega
  | succ n ih=>
   intro P1 P2 Q1 Q2 l hn h1 h2 h3 hl
   rw[cI]
   generalize hag:(fun y=>iter n y dL)=again
   unfold dL
   dsimp only
   cases P2 with
   | nil=>
    have:Q2=[]:=WJ (by simpa using h3.symm)
    subst this
    rw[bu (by simp at h1;omega),hl]
   | cons p P2=>
    cases Q2 with
    | nil=>simp at h3
    | cons q Q2=>
     simp only[Xe] at hn h1 h3
     have ll:l.length=X.length+P.length+M.length+Q.length+Y.length:=by rw[hl];simp;omega
     have e1:w64 (((X.length+P.length+M.length:Nat):Int)+(P1.length:Int))=(((X++P1++p::P2++M++Q1).length:Nat):Int):=by rw[aC (by omega) (by omega)];simp;omega
     have e2:w64 ((X.length:Int)+(P1.length:Int))=(((X++P1).length:Nat):Int):=by rw[aC (by omega) (by omega)];simp
     have l1:l=(X++P1++p::P2++M++Q1)++q::(Q2++Y):=by rw[hl];simp
     have l2:l=(X++P1)++p::(P2++M++Q1++q::(Q2++Y)):=by rw[hl];simp
     have g1:l[(X++P1++p::P2++M++Q1).length]? =some q:=by rw[l1];exact get_at _ _ _
     have g2:l[(X++P1).length]? =some p:=by rw[l2];exact get_at _ _ _
     have g3:l.set (X++P1).length q=(X++P1++q::P2++M++Q1)++q::(Q2++Y):=by
      rw[l2,Qn];simp
     have hlq:(X++P1++p::P2++M++Q1).length=(X++P1++q::P2++M++Q1).length:=by simp
     have g4:(l.set (X++P1).length q)[(X++P1++p::P2++M++Q1).length]? =some q:=by rw[g3,hlq];exact get_at _ _ _
     have g5:(l.set (X++P1).length q).set (X++P1++p::P2++M++Q1).length p=X++(P1++[q])++P2++M++(Q1++[p])++Q2++Y:=by rw[g3,hlq,Qn];simp
     rw[bp (by omega),e1,e2]
     simp only[Ws,g1,g2,g4,g5,Yo,Xi,ll]
     have lq:(X++P1++p::P2++M++Q1).length<X.length+P.length+M.length+Q.length+Y.length:=by simp;omega
     have lp:(X++P1).length<X.length+P.length+M.length+Q.length+Y.length:=by simp;omega
     rw[bD (by simp only[V6,YC];omega),bD (by simp only[V6,YC];omega),bD (by simp only[V6,YC];omega),bD (by simp only[V6,YC];omega)]
     have e3:w64 ((P1.length:Int)+1)=(((P1++[q]).length:Nat):Int):=by rw[aC (by omega) (by omega)];simp
     rw[e3, ← hag]
     show iter n _ _=_
     rw[ih (P1++[q]) P2 (Q1++[p]) Q2 _ (by omega) (by simp;omega) (by simp;omega) (by omega) rfl]
     simp
 unfold cc
 rw[show (0:Int)=((([]:List (Option Nat)).length:Nat):Int) from rfl,loop _ [] P [] Q (X++P++M++Q++Y) (by simp;omega) (by simp) rfl hPQ (by simp),bq]
 simp
theorem PI (m:Nat):∀ (n:Nat) (X U V Y:List (Option Nat)),U.length+V.length<n→0<U.length→0<V.length→X.length+U.length=m→(X++U++V++Y).length<1000000000→
 ∃ (X' U' V' Y':List (Option Nat)),iter (X:=eY) (β:=eX) n ((m:Int),(),(U.length:Int),(V.length:Int),X++U++V++Y,ar,()) eW=some (Sum.inr ((m:Int),(),(U'.length:Int),X'++U'++V'++Y',ar,()))∧U'.length=V'.length∧X'.length+U'.length=m∧X'++V'++U'++Y'=X++V++U++Y∧(X'++U'++V'++Y').length<1000000000:=by
 intro n
 induction n with
 | zero=>intro X U V Y h;omega
 | succ n ih=>
  intro X U V Y hn hU hV hm hlen
  rw[cI]
  generalize hag:(fun y=>iter n y eW)=again
  unfold eW
  dsimp only
  by_cases he:U.length=V.length
  ·have hb:((U.length:Int) != (V.length:Int))=false:=by simp[he]
   rw[hb,Yy]
   exact⟨X,U,V,Y,rfl,he,hm,rfl,hlen⟩
  ·have hb:((U.length:Int) != (V.length:Int))=true:=by simp;omega
   rw[hb,Yz]
   simp only[Xd] at hlen
   have e1:w64 ((m:Int) - (U.length:Int))=(X.length:Int):=by rw[aC (by omega) (by omega)];omega
   rw[e1]
   by_cases hgt:V.length<U.length
   ·rw[bp (by omega)]
    obtain⟨U1,U2,rfl,hU1⟩:=oW (l:=U) (n:=V.length) (by omega)
    simp only[Xd] at*
    have hsw:=Bx (ar:=ar) X U2 Y U1 V hU1 (by simp;omega)
    rw[show ((X.length+U1.length+U2.length:Nat):Int)=(m:Int) by omega,hU1] at hsw
    rw[show X++(U1++U2)++V++Y=X++U1++U2++V++Y by simp,hsw,Yo]
    have e2:w64 (((U1.length+U2.length:Nat):Int) - (V.length:Int))=(U2.length:Int):=by rw[aC (by omega) (by omega)];omega
    rw[e2, ← hag]
    obtain⟨X',U',V',Y',h1,h2,h3,h4,h5⟩:=ih (X++V) U2 U1 Y (by omega) (by omega) (by omega) (by simp;omega) (by simp;omega)
    refine⟨X',U',V',Y', ?_,h2,h3,by rw[h4];simp,h5⟩
    rw[← hU1]
    exact h1
   ·rw[bu (by omega)]
    obtain⟨V1,V2,rfl,hV1⟩:=oW (l:=V) (n:=V.length - U.length) (by omega)
    simp only[Xd] at*
    have e3:w64 (w64 ((m:Int)+((V1.length+V2.length:Nat):Int)) - (U.length:Int))=((X.length+U.length+V1.length:Nat):Int):=by
     rw[aC (n:=(m:Int)+((V1.length+V2.length:Nat):Int)) (by omega) (by omega),aC (by omega) (by omega)];omega
    have hsw:=Bx (ar:=ar) X V1 Y U V2 (by omega) (by simp;omega)
    rw[e3,show X++U++(V1++V2)++Y=X++U++V1++V2++Y by simp,hsw,Yo]
    have e2:w64 (((V1.length+V2.length:Nat):Int) - (U.length:Int))=(V1.length:Int):=by rw[aC (by omega) (by omega)];omega
    rw[e2, ← hag]
    obtain⟨X',U',V',Y',h1,h2,h3,h4,h5⟩:=ih X V2 V1 (U++Y) (by omega) (by omega) (by omega) (by omega) (by simp;omega)
    refine⟨X',U',V',Y', ?_,h2,h3,by rw[h4];simp,h5⟩
    rw[show ((U.length:Nat):Int)=(V2.length:Int) by omega,show X++V2++V1++U++Y=X++V2++V1++(U++Y) by simp]
    exact h1
theorem SG (X U V Y:List (Option Nat)) (hU:0<U.length) (hV:0<V.length) (hlen:(X++U++V++Y).length<1000000000):
 fR (X++U++V++Y) (X.length:Int) ((X.length+U.length:Nat):Int) ((X.length+U.length+V.length:Nat):Int) () ar=some (X++V++U++Y,()):=by
 unfold fR
 simp only[Xd] at hlen
 have e1:w64 (((X.length+U.length:Nat):Int) - (X.length:Int))=(U.length:Int):=by rw[aC (by omega) (by omega)];omega
 have e2:w64 (((X.length+U.length+V.length:Nat):Int) - ((X.length+U.length:Nat):Int))=(V.length:Int):=by rw[aC (by omega) (by omega)];omega
 rw[e1,e2]
 obtain⟨X',U',V',Y',h1,h2,h3,h4,h5⟩:=PI (ar:=ar) (X.length+U.length) (Int.natAbs ((X.length+U.length:Nat):Int)+(Int.natAbs (U.length:Int)+(Int.natAbs (V.length:Int)+(List.length (X++U++V++Y)+2)))) X U V Y (by omega) hU hV rfl (by simp;omega)
 rw[h1,bq]
 dsimp only
 simp only[Xd] at h5
 have e3:w64 (((X.length+U.length:Nat):Int) - (U'.length:Int))=(X'.length:Int):=by rw[aC (by omega) (by omega)];omega
 have hsw:=Bx (ar:=ar) X' [] Y' U' V' h2 (by simp;omega)
 simp only[Wz,Xg,XS] at hsw
 rw[e3,show ((X.length+U.length:Nat):Int)=((X'.length+U'.length:Nat):Int) by omega,hsw,Yo,h4]
theorem UC (i:Nat):∀ (n:Nat) (A V Y:List (Option Nat)) (x:Option Nat),V.length<n→A.length+1+V.length=i→(A++x::V++Y).length<1000000000→
 iter (X:=eD) (β:=eA) n ((i:Int),(A.length:Int),A++x::V++Y,ar,()) ew=some (Sum.inr (A++V++x::Y,ar,())):=by
 intro n
 induction n with
 | zero=>intro A V Y x h;omega
 | succ n ih=>
  intro A V Y x hn hi hlen
  rw[cI]
  generalize hag:(fun y=>iter n y ew)=again
  unfold ew
  dsimp only
  simp only[Xd,Xe] at hlen
  have e0:w64 ((i:Int) - 1)=(i:Int) - 1:=aC (by omega) (by omega)
  rw[e0]
  cases V with
  | nil=>rw[bu (by simp at hi;omega)];simp
  | cons v V=>
   simp only[Xe] at hn hi hlen
   have e1:w64 ((A.length:Int)+1)=((A.length+1:Nat):Int):=by rw[aC (by omega) (by omega)];omega
   have el:A++x::(v::V)++Y=A++x::v::(V++Y):=by simp
   have hg:((A++x::v::(V++Y)).set A.length v)[A.length+1]? =some v:=by rw[W7 (by omega),H6]
   rw[bp (by omega),e1,el]
   simp only[Ws,get_at,H6,Yo,hg,SY,Xi]
   rw[bD (by simp only[V6,YC,Xd,Xe];omega),bD (by simp only[V6,YC,Xd,Xe];omega),bD (by simp only[V6,YC,Xd,Xe];omega),bD (by simp only[V6,YC,Xd,Xe];omega), ← hag]
   have:=ih (A++[v]) V Y x (by omega) (by simp;omega) (by simp;omega)
   simp only[Xd,Xe,Xg,Yl] at this
   show iter n _ _=_
   rw[show A++v::x::(V++Y)=A++[v]++x::V++Y by simp,this]
   simp
theorem Sq (A:List (Option Nat)):∀ (n:Nat) (U Y:List (Option Nat)) (y:Option Nat),U.length<n→(A++U++y::Y).length<1000000000→
 iter (X:=dV) (β:=dR) n ((A.length:Int),((A.length+U.length:Nat):Int),A++U++y::Y,ar,()) dO=some (Sum.inr (A++y::U++Y,ar,())):=by
 intro n
 induction n with
 | zero=>intro U Y y h;omega
 | succ n ih=>
  intro U Y y hn hlen
  rw[cI]
  generalize hag:(fun y=>iter n y dO)=again
  unfold dO
  dsimp only
  simp only[Xd,Xe] at hlen
  rcases List.eq_nil_or_concat U with rfl | ⟨V,u,rfl⟩
  ·rw[bu (by simp)];simp
  ·rw[List.concat_eq_append] at*
   simp only[Xd,Xe,Xg] at hn hlen ⊢
   have e1:w64 (((A.length+(V.length+(0+1)):Nat):Int) - 1)=(((A++V).length:Nat):Int):=by rw[aC (by omega) (by omega)];simp;omega
   have e2:((A.length+(V.length+(0+1)):Nat):Int)=(((A++V).length+1:Nat):Int):=by simp;omega
   have el:A++(V++[u])++y::Y=(A++V)++u::y::Y:=by simp
   have hg:(((A++V)++u::y::Y).set ((A++V).length+1) u)[(A++V).length]? =some u:=by rw[W7 (by omega),get_at]
   rw[bp (by omega),e1,e2,el]
   simp only[Ws,get_at,H6,Yo,hg,OZ,Xi]
   rw[bD (by simp only[V6,YC,Xd,Xe];omega),bD (by simp only[V6,YC,Xd,Xe];omega),bD (by simp only[V6,YC,Xd,Xe];omega),bD (by simp only[V6,YC,Xd,Xe];omega), ← hag]
   have:=ih V (u::Y) y (by omega) (by simp;omega)
   show iter n _ _=_
   rw[show (((A++V).length:Nat):Int)=((A.length+V.length:Nat):Int) by simp,this]
   simp
theorem LN (hc:wI k ar ok) (X R Y:List (Option Nat)) (x:Option Nat) (hlen:(X++[x]++R++Y).length<1000000000) (hR:Srt k R) (hx:ok x) (hok:∀ y∈R,ok y) (n:Nat) (hn:R.length<n):
 ∃ R1 R2,R=R1++R2∧(∀ y∈R1,k y<k x)∧(∀ y∈R2,k x≤k y)∧iter (X:=eC) (β:=ez) n ((X.length:Int),(),((X.length+1:Nat):Int),((X.length+1+R.length:Nat):Int),X++[x]++R++Y,ar,()) cE=some (Sum.inr ((X.length:Int),((X.length+1+R1.length:Nat):Int),X++[x]++R++Y,ar,())):=by
 simp only[Xd,Xe,Xg] at hlen
 have hx0:(X++[x]++R++Y)[X.length]? =some x:=by simp
 have hRt:∀ i (h:i<R.length),(X++[x]++R++Y)[X.length+1+i]? =some R[i]:=fun i h=>QI X [x] R Y h
 obtain⟨r,h1,h2,h3,h4,h5⟩:=bsearch (f:=cE) (fun i j=>((X.length:Int),(),(i:Int),(j:Int),X++[x]++R++Y,ar,())) (fun i=>some (Sum.inr ((X.length:Int),(i:Int),X++[x]++R++Y,ar,())))
  (fun t=>k ((R[t - (X.length+1)]?).getD none)<k x) (X.length+1) (X.length+1+R.length) (by
    intro i j again hi hij hj
    unfold cE
    dsimp only
    have hh:(i+j) / 2 - (X.length+1)<R.length:=by omega
    have hg:=hRt _ hh
    rw[show X.length+1+((i+j) / 2 - (X.length+1))=(i+j) / 2 by omega] at hg
    rw[bp (by omega),H8 i j (by omega)]
    simp only[Ws,hg,hx0,Yo]
    obtain⟨c,hcc,hlt⟩:=hc R[(i+j) / 2 - (X.length+1)] x (hok _ (Xc _)) hx
    rw[hcc,bD (by simp only[V6,YC,Xd,Xe];omega),bD (by simp only[V6,YC,Xd,Xe];omega),Yo,WV hh]
    dsimp only[Option.getD]
    by_cases hk:k R[(i+j) / 2 - (X.length+1)]<k x
    ·rw[bp (hlt.2 hk),YJ hk,aC (by omega) (by omega)];rfl
    ·rw[bu (fun h=>hk (hlt.1 h)),YI hk])
  (by
    intro i again _ _
    unfold cE
    dsimp only
    rw[bu (by omega)])
  (by
    intro s t hs hst ht hP
    rw[WV (by omega)] at hP ⊢
    have:=hR.get (i:=s - (X.length+1)) (j:=t - (X.length+1)) (by omega) (by omega)
    simp only[Yp] at hP ⊢
    omega)
  n (X.length+1) (X.length+1+R.length) (by omega) (XZ _) (by omega) (XZ _) (fun t h1 h2=>by omega) (fun t h1 h2=>by omega)
 obtain⟨R1,R2,rfl,hR1⟩:=oW (l:=R) (n:=r - (X.length+1)) (by omega)
 refine⟨R1,R2,rfl, ?_, ?_, ?_⟩
 ·intro y hy
  obtain⟨i,hi,rfl⟩:=Xt.1 hy
  have:=h4 (X.length+1+i) (by omega) (by omega)
  rw[show X.length+1+i - (X.length+1)=i by omega,WQ hi,WV hi] at this
  exact this
 ·intro y hy
  obtain⟨i,hi,rfl⟩:=Xt.1 hy
  have:=h5 (X.length+1+(R1.length+i)) (by omega) (by simp;omega)
  rw[show X.length+1+(R1.length+i) - (X.length+1)=R1.length+i by omega,WR (by omega),show R1.length+i - R1.length=i by omega,WV hi] at this
  simp only[Yp] at this
  omega
 ·rw[h1,show X.length+1+R1.length=r by omega]
theorem KE (hc:wI k ar ok) (X L Y:List (Option Nat)) (y:Option Nat) (hlen:(X++L++[y]++Y).length<1000000000) (hL:Srt k L) (hy:ok y) (hok:∀ z∈L,ok z) (n:Nat) (hn:L.length<n):
 ∃ L1 L2,L=L1++L2∧(∀ z∈L1,k z≤k y)∧(∀ z∈L2,k y<k z)∧iter (X:=dU) (β:=dP) n (((X.length+L.length:Nat):Int),(),(X.length:Int),((X.length+L.length:Nat):Int),X++L++[y]++Y,ar,()) cz=some (Sum.inr (((X.length+L.length:Nat):Int),((X.length+L1.length:Nat):Int),X++L++[y]++Y,ar,())):=by
 simp only[Xd,Xe,Xg] at hlen
 have hy0:(X++L++[y]++Y)[X.length+L.length]? =some y:=by
  have:=QI X L [y] Y (i:=0) (by simp)
  simpa using this
 have hLt:∀ i (h:i<L.length),(X++L++[y]++Y)[X.length+i]? =some L[i]:=fun i h=>TZ X L [y] Y h
 obtain⟨r,h1,h2,h3,h4,h5⟩:=bsearch (f:=cz) (fun i j=>(((X.length+L.length:Nat):Int),(),(i:Int),(j:Int),X++L++[y]++Y,ar,())) (fun i=>some (Sum.inr (((X.length+L.length:Nat):Int),(i:Int),X++L++[y]++Y,ar,())))
  (fun t=>¬ k y<k ((L[t - X.length]?).getD none)) X.length (X.length+L.length) (by
    intro i j again hi hij hj
    unfold cz
    dsimp only
    have hh:(i+j) / 2 - X.length<L.length:=by omega
    have hg:=hLt _ hh
    rw[show X.length+((i+j) / 2 - X.length)=(i+j) / 2 by omega] at hg
    rw[bp (by omega),H8 i j (by omega)]
    simp only[Ws,hg,hy0,Yo]
    obtain⟨c,hcc,hlt⟩:=hc y L[(i+j) / 2 - X.length] hy (hok _ (Xc _))
    rw[hcc,bD (by simp only[V6,YC,Xd,Xe];omega),bD (by simp only[V6,YC,Xd,Xe];omega),Yo,WV hh]
    dsimp only[Option.getD]
    by_cases hk:k y<k L[(i+j) / 2 - X.length]
    ·rw[YB (hlt.2 hk),Wh,Yy,YI (fun h=>h hk)]
    ·rw[YA (fun h=>hk (hlt.1 h)),Wg,Yz,YJ hk,aC (by omega) (by omega)];rfl)
  (by
    intro i again _ _
    unfold cz
    dsimp only
    rw[bu (by omega)])
  (by
    intro s t hs hst ht hP
    rw[WV (by omega)] at hP ⊢
    have:=hL.get (i:=s - X.length) (j:=t - X.length) (by omega) (by omega)
    simp only[Yp] at hP ⊢
    omega)
  n X.length (X.length+L.length) (by omega) (XZ _) (by omega) (XZ _) (fun t h1 h2=>by omega) (fun t h1 h2=>by omega)
 obtain⟨L1,L2,rfl,hL1⟩:=oW (l:=L) (n:=r - X.length) (by omega)
 refine⟨L1,L2,rfl, ?_, ?_, ?_⟩
 ·intro z hz
  obtain⟨i,hi,rfl⟩:=Xt.1 hz
  have:=h4 (X.length+i) (by omega) (by omega)
  rw[show X.length+i - X.length=i by omega,WQ hi,WV hi] at this
  simp only[Yp] at this
  omega
 ·intro z hz
  obtain⟨i,hi,rfl⟩:=Xt.1 hz
  have:=h5 (X.length+(L1.length+i)) (by omega) (by simp;omega)
  rw[show X.length+(L1.length+i) - X.length=L1.length+i by omega,WR (by omega),show L1.length+i - L1.length=i by omega,WV hi] at this
  simp only[Yp] at this
  omega
 ·rw[h1,show X.length+L1.length=r by omega]
theorem OB (hc:wI k ar ok) (X L R Y:List (Option Nat)) (hlen:(X++L++R++Y).length<1000000000) (hL:Srt k L) (hR:Srt k R) (hokL:∀ z∈L,ok z) (hokR:∀ z∈R,ok z) (mid lo hi:Nat) (hmid:mid=(X.length+(X.length+L.length+R.length)) / 2)
 (hcase:(mid<X.length+L.length∧lo+R.length=mid∧hi=mid∧X.length≤lo)∨(X.length+L.length≤mid∧lo=X.length∧hi=X.length+L.length)) (n:Nat) (hn:hi<n):
 ∃ s:Nat,iter (X:=dW) (β:=dS) n ((X.length:Int),((X.length+L.length:Nat):Int),((X.length+L.length+R.length:Nat):Int),(),(mid:Int),((mid+(X.length+L.length):Nat):Int),(lo:Int),(hi:Int),((mid+(X.length+L.length):Nat):Int) - 1,X++L++R++Y,ar,()) cA=some (Sum.inr ((X.length:Int),((X.length+L.length:Nat):Int),((X.length+L.length+R.length:Nat):Int),(),(mid:Int),((mid+(X.length+L.length):Nat):Int),(s:Int),X++L++R++Y,ar,()))∧
  lo≤s∧s≤hi∧(∀ i j (_:i<L.length) (_:j<R.length),X.length+i+1=s→j+s=mid→k L[i]≤k R[j])∧(∀ i j (_:i<L.length) (_:j<R.length),X.length+i=s→j+1+s=mid→k R[j]<k L[i]):=by
 simp only[Xd] at hlen
 have hLt:∀ i (h:i<L.length),(X++L++R++Y)[X.length+i]? =some L[i]:=fun i h=>TZ X L R Y h
 have hRt:∀ i (h:i<R.length),(X++L++R++Y)[X.length+L.length+i]? =some R[i]:=fun i h=>QI X L R Y h
 obtain⟨r,h1,h2,h3,h4,h5⟩:=bsearch (f:=cA) (fun i j=>((X.length:Int),((X.length+L.length:Nat):Int),((X.length+L.length+R.length:Nat):Int),(),(mid:Int),((mid+(X.length+L.length):Nat):Int),(i:Int),(j:Int),((mid+(X.length+L.length):Nat):Int) - 1,X++L++R++Y,ar,()))
  (fun s=>some (Sum.inr ((X.length:Int),((X.length+L.length:Nat):Int),((X.length+L.length+R.length:Nat):Int),(),(mid:Int),((mid+(X.length+L.length):Nat):Int),(s:Int),X++L++R++Y,ar,())))
  (fun t=>¬ k ((R[mid - 1 - t]?).getD none)<k ((L[t - X.length]?).getD none)) lo hi (by
    intro i j again hi1 hij hj
    unfold cA
    dsimp only
    generalize hh0:(i+j) / 2=h
    have hhL:h - X.length<L.length:=by omega
    have hhR:mid - 1 - h<R.length:=by omega
    have hg:=hLt _ hhL
    rw[show X.length+(h - X.length)=h by omega] at hg
    have hg2:=hRt _ hhR
    rw[bp (by omega),H8 i j (by omega),hh0]
    have e1:w64 (((mid+(X.length+L.length):Nat):Int) - 1 - (h:Int))=((X.length+L.length+(mid - 1 - h):Nat):Int):=by rw[aC (by omega) (by omega)];omega
    rw[e1]
    simp only[Ws,hg,hg2,Yo]
    obtain⟨c,hcc,hlt⟩:=hc R[mid - 1 - h] L[h - X.length] (hokR _ (Xc _)) (hokL _ (Xc _))
    rw[hcc,bD (by simp only[V6,YC,Xd];omega),bD (by simp only[V6,YC,Xd];omega),Yo,WV hhL,WV hhR]
    dsimp only[Option.getD]
    by_cases hk:k R[mid - 1 - h]<k L[h - X.length]
    ·rw[YB (hlt.2 hk),Wh,Yy,YI (fun h=>h hk)]
    ·rw[YA (fun h=>hk (hlt.1 h)),Wg,Yz,YJ hk,aC (by omega) (by omega)];rfl)
  (by
    intro i again _ _
    unfold cA
    dsimp only
    rw[bu (by omega)])
  (by
    intro s t hs hst ht hP
    rw[WV (show t - X.length<L.length by omega),WV (show mid - 1 - t<R.length by omega)] at hP
    rw[WV (show s - X.length<L.length by omega),WV (show mid - 1 - s<R.length by omega)]
    have a1:=hL.get (i:=s - X.length) (j:=t - X.length) (by omega) (by omega)
    have a2:=hR.get (i:=mid - 1 - t) (j:=mid - 1 - s) (by omega) (by omega)
    simp only[Yp] at hP ⊢
    omega)
  n lo hi (by omega) (XZ _) (by omega) (XZ _) (fun t h1 h2=>by omega) (fun t h1 h2=>by omega)
 refine⟨r,h1,h2,h3, ?_, ?_⟩
 ·intro i j hi' hj' e1 e2
  have:=h4 (X.length+i) (by omega) (by omega)
  rw[show X.length+i - X.length=i by omega,show mid - 1 - (X.length+i)=j by omega,WV hi',WV hj'] at this
  simp only[Yp] at this
  omega
 ·intro i j hi' hj' e1 e2
  have:=h5 (X.length+i) (by omega) (by omega)
  rw[show X.length+i - X.length=i by omega,show mid - 1 - (X.length+i)=j by omega,WV hi',WV hj'] at this
  simp only[Yp] at this
  omega
def O6 (self:((List (Option Nat))×Int×Int×Int×Unit×(List ak)×Unit)→Option ((List (Option Nat))×Unit)) (x:(List (Option Nat))×Int×Int×Int×Unit×(List ak)×Unit):=bC self x.1 x.2.1 x.2.2.1 x.2.2.2.1 x.2.2.2.2.1 x.2.2.2.2.2.1
set_option maxHeartbeats 4000000 in
theorem O7 (hc:wI k ar ok):∀ (n:Nat) (X L R Y:List (Option Nat)),L.length+R.length<n+2→0<L.length→0<R.length→(X++L++R++Y).length<1000000000→Srt k L→Srt k R→(∀ z∈L,ok z)→(∀ z∈R,ok z)→
 ∃ S,Bk O6 n (X++L++R++Y,(X.length:Int),((X.length+L.length:Nat):Int),((X.length+L.length+R.length:Nat):Int),(),ar,())=some (X++S++Y,())∧Srt k S∧bn k (L++R) S:=by
 intro n
 induction n with
 | zero=>intro X L R Y h h1 h2;omega
 | succ n ih=>
  intro X L R Y hn hL0 hR0 hlen hL hR hokL hokR
  have hlen':=hlen
  simp only[Xd] at hlen
  show ∃ S,O6 (Bk O6 n) _=_∧_
  generalize hself:Bk O6 n=self at ih
  unfold O6 bC
  dsimp only
  have e1:w64 (((X.length+L.length:Nat):Int) - (X.length:Int))=(L.length:Int):=by rw[aC (by omega) (by omega)];omega
  have e2:w64 (((X.length+L.length+R.length:Nat):Int) - ((X.length+L.length:Nat):Int))=(R.length:Int):=by rw[aC (by omega) (by omega)];omega
  rw[e1,e2]
  by_cases hL1:L.length=1
  ·obtain⟨x,rfl⟩:∃ x,L=[x]:=List.length_eq_one_iff.1 hL1
   rw[show ((([x].length:Nat):Int)==1)=true by simp,Yz]
   obtain⟨R1,R2,rfl,h1,h2,h3⟩:=LN hc X R Y x hlen' hR (hokL x (by simp)) hokR (Int.natAbs (X.length:Int)+(Int.natAbs ((X.length+[x].length:Nat):Int)+(Int.natAbs ((X.length+[x].length+R.length:Nat):Int)+(List.length (X++[x]++R++Y)+2)))) (by simp;omega)
   simp only[Xe,Xg,Yl] at h3 ⊢
   rw[h3,bq]
   dsimp only
   have hmv:=UC (ar:=ar) (X.length+1+R1.length) (Int.natAbs ((X.length+1+R1.length:Nat):Int)+(Int.natAbs (X.length:Int)+(List.length (X++[x]++(R1++R2)++Y)+2))) X R1 (R2++Y) x (by simp;omega) rfl (by simp at hlen ⊢;omega)
   rw[show X++x::R1++(R2++Y)=X++[x]++(R1++R2)++Y by simp] at hmv
   rw[hmv,bq]
   refine⟨R1++x::R2,by simp, ?_, ?_⟩
   ·exact hR.left.append (XC.2 ⟨h2,hR.right⟩) (fun y hy z hz=>by
     rcases Xp.1 hz with rfl | hz
     ·have:=h1 y hy;omega
     ·exact hR.Ef y hy z hz)
   ·have:=(bn.swap (k:=k) (u:=[x]) (v:=R1) (fun y hy z hz=>by rw[Xz.1 hy];have:=h1 z hz;omega)).append (bn.refl k R2)
    simpa using this
  ·rw[show (((L.length:Nat):Int)==1)=false by simp;omega,Yy]
   by_cases hR1:R.length=1
   ·obtain⟨y,rfl⟩:∃ x,R=[x]:=List.length_eq_one_iff.1 hR1
    rw[show ((([y].length:Nat):Int)==1)=true by simp,Yz]
    obtain⟨L1,L2,rfl,h1,h2,h3⟩:=KE hc X L Y y hlen' hL (hokR y (by simp)) hokL (Int.natAbs ((X.length+L.length:Nat):Int)+(Int.natAbs (X.length:Int)+(Int.natAbs ((X.length+L.length:Nat):Int)+(List.length (X++L++[y]++Y)+2)))) (by omega)
    rw[h3,bq]
    dsimp only
    have hmv:=Sq (ar:=ar) (X++L1) (Int.natAbs ((X.length+L1.length:Nat):Int)+(Int.natAbs ((X.length+(L1++L2).length:Nat):Int)+(List.length (X++(L1++L2)++[y]++Y)+2))) L2 Y y (by simp;omega) (by simp at hlen ⊢;omega)
    rw[show X++L1++L2++y::Y=X++(L1++L2)++[y]++Y by simp,show (((X++L1).length:Nat):Int)=((X.length+L1.length:Nat):Int) by simp,show (((X++L1).length+L2.length:Nat):Int)=((X.length+(L1++L2).length:Nat):Int) by simp;omega] at hmv
    rw[hmv,bq]
    refine⟨L1++y::L2,by simp, ?_, ?_⟩
    ·exact hL.left.append (XC.2 ⟨fun z hz=>by have:=h2 z hz;omega,hL.right⟩) (fun z hz w hw=>by
      rcases Xp.1 hw with rfl | hw
      ·exact h1 z hz
      ·exact hL.Ef z hz w hw)
    ·have:=(bn.refl k L1).append (bn.swap (k:=k) (u:=L2) (v:=[y]) (fun z hz w hw=>by rw[Xz.1 hw];have:=h2 z hz;omega))
     simpa using this
   ·rw[show (((R.length:Nat):Int)==1)=false by simp;omega,Yy]
    have eh:=H8 X.length (X.length+L.length+R.length) (by omega)
    rw[eh]
    generalize hmid:(X.length+(X.length+L.length+R.length)) / 2=mid
    have e3:w64 ((mid:Int)+((X.length+L.length:Nat):Int))=((mid+(X.length+L.length):Nat):Int):=by rw[aC (by omega) (by omega)];omega
    rw[e3]
    obtain⟨lo,hi,hcase,hv⟩:∃ lo hi:Nat,((mid<X.length+L.length∧lo+R.length=mid∧hi=mid∧X.length≤lo)∨(X.length+L.length≤mid∧lo=X.length∧hi=X.length+L.length))∧
     (bif decide (((X.length+L.length:Nat):Int)>(mid:Int)) then
       (some (Sum.inr ((X.length:Int),((X.length+L.length:Nat):Int),((X.length+L.length+R.length:Nat):Int),(),(mid:Int),((mid+(X.length+L.length):Nat):Int),w64 (((mid+(X.length+L.length):Nat):Int) - ((X.length+L.length+R.length:Nat):Int)),(mid:Int),X++L++R++Y,ar,())):Option (((List (Option Nat))×Unit) ⊕ (Int×Int×Int×Unit×Int×Int×Int×Int×(List (Option Nat))×(List ak)×Unit)))
     else some (Sum.inr ((X.length:Int),((X.length+L.length:Nat):Int),((X.length+L.length+R.length:Nat):Int),(),(mid:Int),((mid+(X.length+L.length):Nat):Int),(X.length:Int),((X.length+L.length:Nat):Int),X++L++R++Y,ar,())))=some (Sum.inr ((X.length:Int),((X.length+L.length:Nat):Int),((X.length+L.length+R.length:Nat):Int),(),(mid:Int),((mid+(X.length+L.length):Nat):Int),(lo:Int),(hi:Int),X++L++R++Y,ar,())):=by
     by_cases hm:mid<X.length+L.length
     ·refine⟨mid - R.length,mid,.inl ⟨hm,by omega,rfl,by omega⟩, ?_⟩
      rw[bp (by omega),aC (by omega) (by omega),show ((mid+(X.length+L.length):Nat):Int) - ((X.length+L.length+R.length:Nat):Int)=((mid - R.length:Nat):Int) by omega]
     ·refine⟨X.length,X.length+L.length,.inr ⟨by omega,rfl,rfl⟩, ?_⟩
      rw[bu (by omega)]
    rw[hv,bq]
    dsimp only
    have e4:w64 (((mid+(X.length+L.length):Nat):Int) - 1)=((mid+(X.length+L.length):Nat):Int) - 1:=aC (by omega) (by omega)
    rw[e4]
    obtain⟨s,h1,h2,h3,hF2,hF1⟩:=OB hc X L R Y hlen' hL hR hokL hokR mid lo hi hmid.symm hcase (Int.natAbs (X.length:Int)+(Int.natAbs ((X.length+L.length:Nat):Int)+(Int.natAbs ((X.length+L.length+R.length:Nat):Int)+(Int.natAbs (mid:Int)+(Int.natAbs ((mid+(X.length+L.length):Nat):Int)+(Int.natAbs (lo:Int)+(Int.natAbs (hi:Int)+(Int.natAbs (((mid+(X.length+L.length):Nat):Int) - 1)+(List.length (X++L++R++Y)+2))))))))) (by omega)
    rw[h1,bq]
    dsimp only
    clear h1 hv
    obtain⟨L1,L2,rfl,hL1l⟩:=oW (l:=L) (n:=s - X.length) (by omega)
    obtain⟨R1,R2,rfl,hR1l⟩:=oW (l:=R) (n:=mid - s) (by simp only[Xd] at *;omega)
    simp only[Xd] at hn hlen hL1 hR1 hmid hcase e1 e2 e3 e4 eh hL0 hR0
    have F1:∀ y∈R1,∀ z∈L2,k y<k z:=by
     intro y hy z hz
     have hr0:0<R1.length:=Xh hy
     have hl0:0<L2.length:=Xh hz
     have:=hF1 L1.length (R1.length - 1) (by simp;omega) (by simp;omega) (by omega) (by omega)
     rw[List.getElem_append_left (show R1.length - 1<R1.length by omega),List.getElem_append_right (by omega)] at this
     obtain⟨i,hi',rfl⟩:=Xt.1 hy
     obtain⟨j,hj',rfl⟩:=Xt.1 hz
     have a1:=hR.left.get (i:=i) (j:=R1.length - 1) (by omega) (by omega)
     have a2:=hL.right.get (i:=L1.length - L1.length) (j:=j) (by omega) hj'
     omega
    have F2:∀ y∈L1,∀ z∈R2,k y≤k z:=by
     intro y hy z hz
     have hr0:0<L1.length:=Xh hy
     have hl0:0<R2.length:=Xh hz
     have:=hF2 (L1.length - 1) R1.length (by simp;omega) (by simp;omega) (by omega) (by omega)
     rw[List.getElem_append_left (show L1.length - 1<L1.length by omega),List.getElem_append_right (by omega)] at this
     obtain⟨i,hi',rfl⟩:=Xt.1 hy
     obtain⟨j,hj',rfl⟩:=Xt.1 hz
     have a1:=hL.left.get (i:=i) (j:=L1.length - 1) (by omega) (by omega)
     have a2:=hR.right.get (i:=R1.length - R1.length) (j:=j) (by omega) hj'
     omega
    have e5:w64 (((mid+(X.length+(L1++L2).length):Nat):Int) - (s:Int))=((X.length+(L1++L2).length+R1.length:Nat):Int):=by
     rw[aC (by simp;omega) (by simp;omega)];simp only[Xd];omega
    rw[e5]
    have hokL1:∀ z∈L1,ok z:=fun z hz=>hokL z (by simp[hz])
    have hokL2:∀ z∈L2,ok z:=fun z hz=>hokL z (by simp[hz])
    have hokR1:∀ z∈R1,ok z:=fun z hz=>hokR z (by simp[hz])
    have hokR2:∀ z∈R2,ok z:=fun z hz=>hokR z (by simp[hz])
    have ph1:∃ S1,(X.length<s→s<mid→self (X++L1++R1++(L2++R2++Y),(X.length:Int),(s:Int),(mid:Int),(),ar,())=some (X++S1++(L2++R2++Y),()))∧(¬(X.length<s∧s<mid)→S1=L1++R1)∧Srt k S1∧bn k (L1++R1) S1:=by
     by_cases hb:X.length<s∧s<mid
     ·obtain⟨S1,g1,g2,g3⟩:=ih X L1 R1 (L2++R2++Y) (by omega) (by omega) (by omega) (by simp;omega) hL.left hR.left hokL1 hokR1
      rw[show ((X.length+L1.length:Nat):Int)=(s:Int) by omega,show ((X.length+L1.length+R1.length:Nat):Int)=(mid:Int) by omega] at g1
      exact⟨S1,fun _ _=>g1,fun h=>absurd hb h,g2,g3⟩
     ·refine⟨L1++R1,fun h1 h2=>absurd ⟨h1,h2⟩ hb,fun _=>rfl, ?_,bn.refl _ _⟩
      rcases (show L1.length=0∨R1.length=0 by omega) with h | h
      ·rw[WJ h];exact hR.left
      ·rw[WJ h,Wz];exact hL.left
    obtain⟨S1,hS1a,hS1b,hS1s,hS1e⟩:=ph1
    have hS1l:S1.length=L1.length+R1.length:=by rw[hS1e.length];simp
    have ph2:∃ S2,(bif decide ((mid:Int)<((X.length+(L1++L2).length+R1.length:Nat):Int)) then
     bif decide (((X.length+(L1++L2).length+R1.length:Nat):Int)<((X.length+(L1++L2).length+(R1++R2).length:Nat):Int)) then
      Option.bind (self (X++S1++(L2++R2++Y),(mid:Int),((X.length+(L1++L2).length+R1.length:Nat):Int),((X.length+(L1++L2).length+(R1++R2).length:Nat):Int),(),ar,())) fun r38=>some (r38.1,())
     else some (X++S1++(L2++R2++Y),())
     else some (X++S1++(L2++R2++Y),()))=some (X++(S1++S2)++Y,())∧Srt k S2∧bn k (L2++R2) S2:=by
     simp only[Xd]
     by_cases hb1:0<L2.length
     ·rw[bp (by omega)]
      by_cases hb2:0<R2.length
      ·rw[bp (by omega)]
       obtain⟨S2,g1,g2,g3⟩:=ih (X++S1) L2 R2 Y (by omega) hb1 hb2 (by simp;omega) hL.right hR.right hokL2 hokR2
       rw[show (((X++S1).length:Nat):Int)=(mid:Int) by simp;omega,show (((X++S1).length+L2.length:Nat):Int)=((X.length+(L1.length+L2.length)+R1.length:Nat):Int) by simp;omega,show (((X++S1).length+L2.length+R2.length:Nat):Int)=((X.length+(L1.length+L2.length)+(R1.length+R2.length):Nat):Int) by simp;omega] at g1
       rw[show X++S1++(L2++R2++Y)=X++S1++L2++R2++Y by simp,g1]
       exact⟨S2,by simp,g2,g3⟩
      ·have:R2=[]:=WJ (by omega)
       subst this
       rw[bu (by simp)]
       exact⟨L2,by simp,hL.right,by simpa using bn.refl k L2⟩
     ·have:L2=[]:=WJ (by omega)
      subst this
      rw[bu (by simp;omega)]
      exact⟨R2,by simp,hR.right,bn.refl _ _⟩
    obtain⟨S2,hE2,hS2s,hS2e⟩:=ph2
    have fin:Srt k (S1++S2)∧bn k (L1++L2++(R1++R2)) (S1++S2):=by
     constructor
     ·refine hS1s.append hS2s fun y hy z hz=> ?_
      rcases Xo.1 (hS1e.mem.1 hy) with h | h<;>rcases Xo.1 (hS2e.mem.1 hz) with h' | h'
      ·exact hL.Ef y h z h'
      ·exact F2 y h z h'
      ·have:=F1 y h z h';omega
      ·exact hR.Ef y h z h'
     ·have h1:bn k (L1++(L2++R1)++R2) (L1++(R1++L2)++R2):=((bn.refl k L1).append (bn.swap fun y hy z hz=>by have:=F1 z hz y hy;omega)).append (bn.refl k R2)
      have h2:=hS1e.append hS2e
      have h3:bn k (L1++L2++(R1++R2)) (L1++R1++(L2++R2)):=by simpa using h1
      exact h3.trans h2
    refine⟨S1++S2, ?_,fin.1,fin.2⟩
    have hsL:((X.length+(L1++L2).length:Nat):Int)=((X.length+L1.length+L2.length:Nat):Int):=by simp;omega
    have tail:∀ (D:List (Option Nat)),D=X++L1++R1++(L2++R2++Y)→
     (bif decide ((X.length:Int)<(s:Int)) then
       aL (β:=((List (Option Nat))×Unit)) (γ:=(Int×Unit×Int×Int×(List (Option Nat))×(List ak)×Unit)) (
        bif decide ((s:Int)<(mid:Int)) then
         Option.bind (self (D,(X.length:Int),(s:Int),(mid:Int),(),ar,())) fun r35=>
         some (Sum.inr (((X.length+(L1++L2).length+(R1++R2).length:Nat):Int),(),(mid:Int),((X.length+(L1++L2).length+R1.length:Nat):Int),r35.1,ar,()))
        else
         some (Sum.inr (((X.length+(L1++L2).length+(R1++R2).length:Nat):Int),(),(mid:Int),((X.length+(L1++L2).length+R1.length:Nat):Int),D,ar,()))) fun v36=>
       bif decide (v36.2.2.1<v36.2.2.2.1) then
        bif decide (v36.2.2.2.1<v36.1) then
         Option.bind (self (v36.2.2.2.2.1,v36.2.2.1,v36.2.2.2.1,v36.1,v36.2.1,v36.2.2.2.2.2.1,())) fun r37=>
         some (r37.1,())
        else
         some (v36.2.2.2.2.1,())
       else
        some (v36.2.2.2.2.1,())
     else
      bif decide ((mid:Int)<((X.length+(L1++L2).length+R1.length:Nat):Int)) then
       bif decide (((X.length+(L1++L2).length+R1.length:Nat):Int)<((X.length+(L1++L2).length+(R1++R2).length:Nat):Int)) then
        Option.bind (self (D,(mid:Int),((X.length+(L1++L2).length+R1.length:Nat):Int),((X.length+(L1++L2).length+(R1++R2).length:Nat):Int),(),ar,())) fun r38=>
        some (r38.1,())
       else
        some (D,())
      else
       some (D,()))=some (X++(S1++S2)++Y,()):=by
     intro D hD
     by_cases hb1:X.length<s
     ·rw[bp (by omega)]
      by_cases hb2:s<mid
      ·rw[bp (by omega),hD,hS1a hb1 hb2,Yo,bq]
       exact hE2
      ·rw[bu (by omega),bq,hD]
       have:X++L1++R1++(L2++R2++Y)=X++S1++(L2++R2++Y):=by rw[hS1b (fun h=>hb2 h.2)];simp
       rw[this]
       exact hE2
     ·rw[bu (by omega),hD]
      have:X++L1++R1++(L2++R2++Y)=X++S1++(L2++R2++Y):=by rw[hS1b (fun h=>hb1 h.1)];simp
      rw[this]
      exact hE2
    by_cases hsm:s<X.length+(L1++L2).length
    ·rw[bp (by omega)]
     by_cases hme:0<R1.length
     ·have hrot:=SG (ar:=ar) (X++L1) L2 R1 (R2++Y) (by simp at hsm;omega) hme (by simp;omega)
      rw[show (((X++L1).length:Nat):Int)=(s:Int) by simp;omega,show (((X++L1).length+L2.length:Nat):Int)=((X.length+(L1++L2).length:Nat):Int) by simp;omega,show (((X++L1).length+L2.length+R1.length:Nat):Int)=((X.length+(L1++L2).length+R1.length:Nat):Int) by simp;omega,
       show X++L1++L2++R1++(R2++Y)=X++(L1++L2)++(R1++R2)++Y by simp] at hrot
      rw[bp (by omega),hrot,Yo,bq]
      exact tail _ (by simp)
     ·have:R1=[]:=WJ (by omega)
      subst this
      rw[bu (by simp),bq]
      exact tail _ (by simp)
    ·rw[bu (by omega)]
     have:L2=[]:=WJ (by simp at hsm;omega)
     subst this
     exact tail _ (by simp)
theorem IY (hc:wI k ar ok) (X L R Y:List (Option Nat)) (h1:0<L.length) (h2:0<R.length) (hlen:(X++L++R++Y).length<1000000000) (hL:Srt k L) (hR:Srt k R) (hokL:∀ z∈L,ok z) (hokR:∀ z∈R,ok z):
 ∃ S,di (X++L++R++Y) (X.length:Int) ((X.length+L.length:Nat):Int) ((X.length+L.length+R.length:Nat):Int) () ar=some (X++S++Y,())∧Srt k S∧bn k (L++R) S:=by
 unfold di
 exact O7 hc _ X L R Y (by unfold fV;simp only[Xd];omega) h1 h2 hlen hL hR hokL hokR
theorem OY (hc:wI k ar ok) (N:Nat) (hN:N<100000000):∀ (n:Nat) (A Z:List (Option Nat)) (j:Nat),A.length=j*20→A.length+Z.length=N→Z.length<n→ChS k 20 A→(∀ z∈A,ok z)→(∀ z∈Z,ok z)→
 ∃ A' Z' j',iter (X:=fo) (β:=fh) n ((N:Int),(),20,(A.length:Int),((A.length+20:Nat):Int),A++Z,ar,()) eZ=some (Sum.inr ((N:Int),(),20,(A'.length:Int),A'++Z',ar,()))∧A'.length=j'*20∧Z'.length<20∧ChS k 20 A'∧bn k (A++Z) (A'++Z'):=by
 intro n
 induction n with
 | zero=>intro A Z j _ _ h;omega
 | succ n ih=>
  intro A Z j hA hAZ hn hch hokA hokZ
  rw[cI]
  generalize hag:(fun y=>iter n y eZ)=again
  unfold eZ
  dsimp only
  by_cases hb:20≤Z.length
  ·rw[bp (by omega)]
   obtain⟨S,Y,rfl,hS⟩:=oW (l:=Z) (n:=20) hb
   simp only[Xd] at hAZ hn
   obtain⟨S',g1,g2,g3⟩:=GV hc A S Y (by simp;omega) (fun z hz=>hokZ z (by simp[hz]))
   rw[hS] at g1
   rw[show A++(S++Y)=A++S++Y by simp,g1,Yo]
   dsimp only
   have hS':S'.length=20:=by rw[g3.length,hS]
   have e1:w64 (((A.length+20:Nat):Int)+20)=(((A++S').length+20:Nat):Int):=by rw[aC (by omega) (by omega)];simp;omega
   rw[e1,show ((A.length+20:Nat):Int)=(((A++S').length:Nat):Int) by simp;omega, ← hag]
   obtain⟨A',Z',j',h1,h2,h3,h4,h5⟩:=ih (A++S') Y (j+1) (by simp;omega) (by simp;omega) (by omega) (hch.snoc hA g2 (by omega)) (fun z hz=>by
    rcases Xo.1 hz with h | h
    ·exact hokA z h
    ·exact hokZ z (by simp[g3.mem.1 h])) (fun z hz=>hokZ z (by simp[hz]))
   refine⟨A',Z',j',h1,h2,h3,h4, ?_⟩
   have:bn k (A++S++Y) (A++S'++Y):=((bn.refl k A).append g3).append (bn.refl k Y)
   exact this.trans h5
  ·rw[bu (by omega)]
   exact⟨A,Z,j,rfl,hA,by omega,hch,bn.refl _ _⟩
theorem PR (hc:wI k ar ok) (N bs:Nat) (hN:N<100000000) (hbs:0<bs) (hbN:bs<N):∀ (n:Nat) (A Z:List (Option Nat)) (j:Nat),A.length=j*(2*bs)→A.length+Z.length=N→Z.length<n→ChS k (2*bs) A→ChS k bs Z→(∀ z∈A,ok z)→(∀ z∈Z,ok z)→
 ∃ A' Z' j',iter (X:=fA) (β:=fm) n ((N:Int),(),(bs:Int),(A.length:Int),((A.length+2*bs:Nat):Int),A++Z,ar,()) ff=some (Sum.inr ((N:Int),(),(bs:Int),(A'.length:Int),A'++Z',ar,()))∧A'.length=j'*(2*bs)∧Z'.length<2*bs∧ChS k (2*bs) A'∧ChS k bs Z'∧bn k (A++Z) (A'++Z'):=by
 intro n
 induction n with
 | zero=>intro A Z j _ _ h;omega
 | succ n ih=>
  intro A Z j hA hAZ hn hch hcz hokA hokZ
  rw[cI]
  generalize hag:(fun y=>iter n y ff)=again
  unfold ff
  dsimp only
  by_cases hb:2*bs≤Z.length
  ·rw[bp (by omega)]
   obtain⟨L,Z1,rfl,hL⟩:=oW (l:=Z) (n:=bs) (by omega)
   obtain⟨R,Y,rfl,hR⟩:=oW (l:=Z1) (n:=bs) (by simp at hb;omega)
   simp only[Xd] at hAZ hn hb
   have sL:Srt k L:=by
    have:=hcz 0
    rw[Yn,WH, ← hL,XM] at this
    exact this
   have sR:Srt k R:=by
    have:=hcz 1
    rw[Yh] at this
    conv at this=>arg 2;rw[show bs=L.length by omega,WG,show L.length=R.length by omega,XM]
    exact this
   have cY:ChS k bs Y:=by
    have:=hcz.drop 2
    rw[show L++(R++Y)=(L++R)++Y by simp,show 2*bs=(L++R).length by simp;omega,WG] at this
    exact this
   obtain⟨S,g1,g2,g3⟩:=IY hc A L R Y (by omega) (by omega) (by simp;omega) sL sR (fun z hz=>hokZ z (by simp[hz])) (fun z hz=>hokZ z (by simp[hz]))
   have e0:w64 ((A.length:Int)+(bs:Int))=((A.length+L.length:Nat):Int):=by rw[aC (by omega) (by omega)];omega
   rw[e0,show ((A.length+2*bs:Nat):Int)=((A.length+L.length+R.length:Nat):Int) by omega,show A++(L++(R++Y))=A++L++R++Y by simp,g1,Yo]
   dsimp only
   have hSl:S.length=2*bs:=by rw[g3.length];simp;omega
   have e1:w64 (((A.length+L.length+R.length:Nat):Int)+w64 (2*(bs:Int)))=(((A++S).length+2*bs:Nat):Int):=by
    rw[aC (n:=2*(bs:Int)) (by omega) (by omega),aC (by omega) (by omega)];simp;omega
   rw[e1,show ((A.length+L.length+R.length:Nat):Int)=(((A++S).length:Nat):Int) by simp;omega, ← hag]
   obtain⟨A',Z',j',h1,h2,h3,h4,h5,h6⟩:=ih (A++S) Y (j+1) (by rw[Xd,hA,hSl,XR,Yh]) (by simp;omega) (by omega) (hch.snoc hA g2 (by omega)) cY (fun z hz=>by
    rcases Xo.1 hz with h | h
    ·exact hokA z h
    ·rcases Xo.1 (g3.mem.1 h) with h | h<;>exact hokZ z (by simp[h])) (fun z hz=>hokZ z (by simp[hz]))
   refine⟨A',Z',j',h1,h2,h3,h4,h5, ?_⟩
   have:bn k (A++(L++R)++Y) (A++S++Y):=((bn.refl k A).append g3).append (bn.refl k Y)
   have h7:=this.trans h6
   simpa using h7
  ·rw[bu (by omega)]
   exact⟨A,Z,j,rfl,hA,by omega,hch,hcz,bn.refl _ _⟩
theorem PO (hc:wI k ar ok) (N:Nat) (hN:N<100000000):∀ (n bs:Nat) (l:List (Option Nat)),l.length=N→0<bs→N<bs+n∧0<n→bs<400000000→ChS k bs l→(∀ z∈l,ok z)→
 ∃ l',iter (X:=fq) (β:=fk) n ((N:Int),(),(bs:Int),l,ar,()) fe=some (Sum.inr (l',ar,()))∧Srt k l'∧bn k l l':=by
 intro n
 induction n with
 | zero=>
  intro bs l hl hbs hn hb2 hch hok
  exact absurd hn (by omega)
 | succ n ih=>
  intro bs l hl hbs hn hb2 hch hok
  rw[cI]
  generalize hag:(fun y=>iter n y fe)=again
  unfold fe
  dsimp only
  by_cases hb:bs<N
  ·rw[bp (by omega)]
   have e0:w64 (2*(bs:Int))=(((([]:List (Option Nat)).length)+2*bs:Nat):Int):=by rw[aC (by omega) (by omega)];simp
   rw[e0,show (0:Int)=((([]:List (Option Nat)).length:Nat):Int) from rfl]
   obtain⟨A,Z,j,h1,h2,h3,h4,h5,h6⟩:=PR hc N bs hN hbs hb (Int.natAbs (N:Int)+(Int.natAbs (bs:Int)+(Int.natAbs ((([]:List (Option Nat)).length:Nat):Int)+(Int.natAbs (((([]:List (Option Nat)).length)+2*bs:Nat):Int)+(List.length l+2))))) [] l 0 (by simp) (by simpa using hl) (by omega) (ChS.nil _ _) hch (by simp) hok
   rw[XA] at h1 h6
   rw[h1,bq]
   dsimp only
   have hAZ:A.length+Z.length=N:=by have:=h6.length;simp at this;omega
   have hokAZ:∀ z∈A++Z,ok z:=fun z hz=>hok z (h6.mem.1 hz)
   have e1:w64 ((A.length:Int)+(bs:Int))=((A.length+bs:Nat):Int):=by rw[aC (by omega) (by omega)];omega
   have e2:w64 ((bs:Int)*2)=((2*bs:Nat):Int):=by rw[aC (by omega) (by omega)];omega
   rw[e1,e2]
   by_cases hlast:A.length+bs<N
   ·rw[bp (by omega)]
    obtain⟨L,R,rfl,hL⟩:=oW (l:=Z) (n:=bs) (by omega)
    simp only[Xd] at hAZ h3
    have sL:Srt k L:=by
     have:=h5 0
     rw[Yn,WH, ← hL,XM] at this
     exact this
    have sR:Srt k R:=by
     have:=h5 1
     rw[Yh] at this
     conv at this=>arg 2;rw[show List.drop bs (L++R)=R by rw[← hL];exact WG,XO (by omega)]
     exact this
    obtain⟨S,g1,g2,g3⟩:=IY hc A L R [] (by omega) (by omega) (by simp;omega) sL sR (fun z hz=>hokAZ z (by simp[hz])) (fun z hz=>hokAZ z (by simp[hz]))
    simp only[Wz] at g1
    rw[show ((A.length+bs:Nat):Int)=((A.length+L.length:Nat):Int) by omega,show ((N:Nat):Int)=((A.length+L.length+R.length:Nat):Int) by omega,show A++(L++R)=A++L++R by simp,g1,Yo, ← hag]
    have hsam:bn k l (A++S):=h6.trans (by simpa using (bn.refl k A).append g3)
    obtain⟨l',q1,q2,q3⟩:=ih (2*bs) (A++S) (by rw[hsam.length];exact hl) (by omega) ⟨by omega,by omega⟩ (by omega) (h4.snoc h2 g2 (by rw[g3.length];simp;omega)) (fun z hz=>hok z (hsam.mem.1 hz))
    rw[show ((A.length+L.length+R.length:Nat):Int)=((N:Nat):Int) by omega]
    exact⟨l',q1,q2,hsam.trans q3⟩
   ·rw[bu (by omega), ← hag]
    have sZ:Srt k Z:=by
     have:=h5 0
     rw[Yn,WH,XO (by omega)] at this
     exact this
    obtain⟨l',q1,q2,q3⟩:=ih (2*bs) (A++Z) (by simp;omega) (by omega) ⟨by omega,by omega⟩ (by omega) (h4.snoc h2 sZ (by omega)) hokAZ
    exact⟨l',q1,q2,h6.trans q3⟩
  ·rw[bu (by omega)]
   refine⟨l,rfl, ?_,bn.refl _ _⟩
   have:=hch 0
   rw[Yn,WH,XO (by omega)] at this
   exact this
theorem Nt (hc:wI k ar ok) (l:List (Option Nat)) (hl:l.length<100000000) (hok:∀ z∈l,ok z):∃ l',dA l () ar=some (l',())∧Srt k l'∧bn k l l':=by
 unfold dA iP
 obtain⟨A,Z,j,h1,h2,h3,h4,h5⟩:=OY hc l.length hl (Int.natAbs (l.length:Int)+(Int.natAbs (20:Int)+(Int.natAbs (0:Int)+(Int.natAbs (20:Int)+(List.length l+2))))) [] l 0 (by simp) (by simp) (by omega) (ChS.nil _ _) (by simp) hok
 simp only[Xg,XA] at h1 h5
 rw[show ((0+20:Nat):Int)=20 from rfl,show ((0:Nat):Int)=0 from rfl] at h1
 rw[h1,bq]
 dsimp only
 have hAZ:A.length+Z.length=l.length:=by have:=h5.length;simp at this;omega
 obtain⟨Z',g1,g2,g3⟩:=GV hc A Z [] (by simp;omega) (fun z hz=>hok z (h5.mem.1 (by simp[hz])))
 simp only[Wz] at g1
 rw[show ((A.length+Z.length:Nat):Int)=(l.length:Int) by omega] at g1
 rw[g1,Yo]
 dsimp only
 have hsam:bn k l (A++Z'):=h5.trans ((bn.refl k A).append g3)
 obtain⟨l',q1,q2,q3⟩:=PO hc l.length hl (Int.natAbs (l.length:Int)+(Int.natAbs (20:Int)+(List.length (A++Z')+2))) 20 (A++Z') hsam.length (by omega) ⟨by omega,by omega⟩ (by omega) (h4.snoc h2 g2 (by rw[g3.length];omega)) (fun z hz=>hok z (hsam.mem.1 hz))
 rw[show ((20:Nat):Int)=20 from rfl] at q1
 rw[q1,bq]
 exact⟨l',rfl,q2,hsam.trans q3⟩
end
end Go.Md.SL
set_option linter.all false
namespace Go.Md
open Go.Dn
theorem Srt.congr {α:Type} {k k':α→Int} {l:List α} (h:∀ x,x∈l→k x=k' x) (hs:Srt k l):Srt k' l:=
 List.Pairwise.imp_of_mem (fun {a b} ha hb hab=>by rw[← h a ha, ← h b hb];exact hab) hs
theorem bn.congr {α:Type} {k k':α→Int} {l l':List α} (h:∀ x,x∈l→k x=k' x) (hs:bn k l l'):bn k' l l':=
 ⟨hs.perm,fun v=>by
   have e1:l'.filter (fun x=>k' x==v)=l'.filter (fun x=>k x==v):=List.filter_congr fun x hx=>by rw[h x (hs.mem.1 hx)]
   have e2:l.filter (fun x=>k' x==v)=l.filter (fun x=>k x==v):=List.filter_congr fun x hx=>by rw[h x hx]
   rw[e1,e2];exact hs.keys v⟩
abbrev mz (day:Int) (x:ai):Bool:=decide (0<x.opn∧x.due≤day)
def nM (day:Int) (A:List ai):List ai:=Kx ai.due ((fJ A).filter (mz day)) []
theorem Er (day:Int) (A:List ai):Srt ai.due (nM day A)∧bn ai.due ((fJ A).filter (mz day)) (nM day A):=QN _ List.Pairwise.nil
theorem AP {day:Int} {A:List ai} {x:ai} (h:x∈nM day A):x∈A∧0<x.opn∧x.due≤day:=by
 have:=(Er day A).2.mem.1 h
 obtain⟨h1,h2⟩:=Xr.1 this
 exact⟨(mN A).mem_iff.1 h1,YP h2⟩
theorem Jj {day:Int} {A:List ai} (hI:Ids A):(nM day A).length≤500:=by
 have h1:=(Er day A).2.length
 have h2:=List.length_filter_le (mz day) (fJ A)
 have h3:=(mN A).length_eq
 have:=hI.len
 omega
abbrev hOf (A:List ai) (x:ai):Option Nat:=gq x.no A
theorem Ah {A:List ai} (hI:Ids A) {x:ai} (hx:x∈A):∃ j,hOf A x=some j∧A[j]? =some x:=MU hI ((mN A).mem_iff.2 hx)
def Oo (A:List ai) (z:Option Nat):Int:=((z.bind fun j=>A[j]?).map ai.due).getD 0
theorem Ia {A:List ai} (hI:Ids A) {x:ai} (hx:x∈A):Oo A (hOf A x)=x.due:=by
 obtain⟨j,h1,h2⟩:=Ah hI hx
 unfold Oo
 rw[h1,Yo,h2];rfl
variable {l:List aa} {A:List ai}
theorem Td (hI:Ids A) (hF:∀ x,x∈A→1≤x.due∧x.due≤3652059) (day:Int):dA (((fJ A).filter (mz day)).map (hOf A)) () (A.map ai.tup)=some ((nM day A).map (hOf A),()):=by
 have hmem:∀ x,x∈(fJ A).filter (mz day)→x∈A:=fun x hx=>(mN A).mem_iff.1 (Xr.1 hx).1
 have hmem2:∀ x,x∈nM day A→x∈A:=fun x hx=>(AP hx).1
 have hlen:(((fJ A).filter (mz day)).map (hOf A)).length<100000000:=by
  have h2:=List.length_filter_le (mz day) (fJ A)
  have h3:=(mN A).length_eq
  have:=hI.len
  rw[Xf];omega
 obtain⟨l',e1,e2,e3⟩:=SL.Nt (k:=Oo A) (ar:=A.map ai.tup) (ok:=fun z=>∃ x,x∈A∧z=hOf A x) (fun a b ⟨x,hx,ha⟩ ⟨y,hy,hb⟩=>by
  obtain⟨i,h1,h2⟩:=Ah hI hx
  obtain⟨j,h3,h4⟩:=Ah hI hy
  have f1:=hF x hx;have f2:=hF y hy
  refine⟨x.due - y.due, ?_, ?_⟩
  ·unfold dK
   rw[ha,h1,Yo,gh h2,Yo,hb,h3,Yo,gh h4,Yo]
   show some (w64 (x.due - y.due),())=_
   rw[aC (by omega) (by omega)]
  ·rw[ha,hb,Ia hI hx,Ia hI hy];omega) (((fJ A).filter (mz day)).map (hOf A)) hlen (fun z hz=>by
  obtain⟨x,hx,rfl⟩:=Xv.1 hz
  exact⟨x,hmem x hx,rfl⟩)
 rw[e1]
 obtain⟨s1,s2⟩:=Er day A
 have t1:Srt (Oo A) ((nM day A).map (hOf A)):=Srt.OA (Srt.congr (fun x hx=>(Ia hI (hmem2 x hx)).symm) s1)
 have t2:bn (Oo A) (((fJ A).filter (mz day)).map (hOf A)) ((nM day A).map (hOf A)):=bn.OA (bn.congr (fun x hx=>(Ia hI (hmem x hx)).symm) s2)
 rw[OM e2 t1 e3 t2]
theorem Kj (hg:Good l A) (hI:Ids A) (hF:∀ x,x∈A→1≤x.due∧x.due≤3652059) (o:aj) (l2:List aa) (ref:List ah) (pts:List au) (wt day:Int):
 iy (o,l2,mapOf A,ref,pts,wt,()) day (A.map ai.tup)=some ((nM day A).map (hOf A),(o,l2,mapOf A,ref,pts,wt,()),A.map ai.tup,()):=by
 obtain⟨o1,o2,o3,o4,o5,o6⟩:=o
 have zB:maxLen=9223372036854775807:=rfl
 have hSl:(fJ A).length≤500:=by rw[(mN A).length_eq];exact hI.len
 have hHl:(AX A).length=(fJ A).length:=by unfold AX;rw[Xf]
 unfold iy
 dsimp only
 rw[Bi hI (o1,o2,o3,o4,o5,o6) l2,Yo]
 dsimp only
 have loop:∀ n,(fJ A).length<n→iter (X:=gv) (β:=jg) n (day,[],((AX A).length:Int),0,o1,o2,o3,o4,o5,o6,l2,wt,ref,pts,AX A,mapOf A,A.map ai.tup,()) jf=
  some (Sum.inr (((fJ A).filter (mz day)).map (hOf A),o1,o2,o3,o4,o5,o6,l2,wt,ref,pts,mapOf A,A.map ai.tup,())):=by
  intro n hn
  refine kO (Inv:=fun i X=>X=((day,(((fJ A).take i).filter (mz day)).map (hOf A),((AX A).length:Int),(i:Int),o1,o2,o3,o4,o5,o6,l2,wt,ref,pts,AX A,mapOf A,A.map ai.tup,()):gv)) (fJ A).length
   (fun z=>z=some (Sum.inr (((fJ A).filter (mz day)).map (hOf A),o1,o2,o3,o4,o5,o6,l2,wt,ref,pts,mapOf A,A.map ai.tup,()))) ?_ ?_ n 0 _ rfl (Ym _) (by omega)
  ·rintro i X again hi rfl hag
   unfold jf
   dsimp only
   have hx:(fJ A)[i]? =some (fJ A)[i]:=WV hi
   generalize (fJ A)[i]=x at hx
   obtain⟨k,hk,hkx,_,hm⟩:=RY hg hI hx
   have hlen:((((fJ A).take i).filter (mz day)).map (hOf A)).length≤i:=by
    rw[Xf]
    have:=List.length_filter_le (mz day) ((fJ A).take i)
    rw[Xj] at this
    omega
   have e:(fJ A).take (i+1)=(fJ A).take i++[x]:=oF hx
   have hkk:some k=hOf A x:=by
    unfold AX at hk
    rw[WY,hx] at hk
    exact (Option.some.inj hk).symm
   rw[hHl,YB (show (i:Int)<((fJ A).length:Int) by omega),Yz,gi (by rw[V6];exact⟨YB (by omega),rfl⟩),Ws,hk,Yo,kS hkx (hg.sound.line x hm).1,Yo]
   dsimp only
   rw[aC (n:=(i:Int)+1) (by omega) (by omega)]
   by_cases c:mz day x=true
   ·obtain⟨c1,c2⟩:=YP c
    have e2:(((fJ A).take i).filter (mz day)).map (hOf A)++[some k]=(((fJ A).take (i+1)).filter (mz day)).map (hOf A):=by
     rw[e,WL,Xk,List.filter_cons,YJ c,hkk];rfl
    rw[YB (show x.opn>0 from c1),Yz,Yo,gh hkx,Yo,Yo]
    dsimp only
    rw[YB c2,Yz,gi (by rw[V6];exact⟨YB (by omega),YB (by omega)⟩),e2, ← hHl]
    exact hag _ rfl
   ·have e2:(((fJ A).take i).filter (mz day)).map (hOf A)=(((fJ A).take (i+1)).filter (mz day)).map (hOf A):=by
     rw[e,WL,Xk,List.filter_cons,YI c];simp
    by_cases c1:0<x.opn
    ·have c2:¬x.due≤day:=fun h=>c (YB ⟨c1,h⟩)
     rw[YB (show x.opn>0 from c1),Yz,Yo,gh hkx,Yo,Yo]
     dsimp only
     rw[YA c2,Yy,e2, ← hHl]
     exact hag _ rfl
    ·rw[YA (show ¬x.opn>0 from c1),Yy,Yo]
     dsimp only
     rw[Yy,e2, ← hHl]
     exact hag _ rfl
  ·rintro X again rfl
   unfold jf
   dsimp only
   rw[hHl,YA (show ¬((fJ A).length:Int)<((fJ A).length:Int) by omega),Yy,XN]
 rw[loop _ (by omega),bq]
 dsimp only
 rw[Td hI hF day,Yo]
def Bn (x:ai):cg:=(x.no,lU x.opn,x.due)
theorem OL (o:aj) (l:List aa) (day:Int):Cg o l day=some (if lnF o l day=0 then (nM day (dc o l 0 day).1).map Bn else [],lnF o l day,()):=by
 have zB:maxLen=9223372036854775807:=rfl
 unfold Cg
 rw[FI]
 unfold lnF
 by_cases h:fN o l=0
 rotate_left
 ·rw[YJ (show fN o l≠0 from h),YJ (show fN o l≠0 from h)]
  show (bif fN o l != 0 then _ else _)=_
  rw[iS h,Yz,YI h]
 rw[YI (show ¬fN o l≠0 from fun e=>e h),YI (show ¬fN o l≠0 from fun e=>e h)]
 by_cases hd:1≤day∧day≤3652059
 rotate_left
 ·rw[YJ hd,YI hd];rfl
 rw[YI (show ¬¬(1≤day∧day≤3652059) from fun e=>e hd),YJ hd,YJ rfl]
 refine Eq.trans KK ?_
 rw[IQ h hd,Yo]
 dsimp only
 rw[zne,Yy]
 obtain⟨hg,hI⟩:=Ec h 0 day
 have hF:∀ x,x∈(dc o l 0 day).1→1≤x.due∧x.due≤3652059:=fun x hx=>by
  have h1:=(Rq h 0 day x hx).due
  have h2:=(qm (qd h).1).1
  omega
 rw[Kj hg hI hF o l,Yo]
 generalize (dc o l 0 day).1=A at hg hI hF
 dsimp only
 generalize hD:nM day A=D
 have hm:∀ x,x∈D→x∈A:=fun x hx=>by rw[← hD] at hx;exact (AP hx).1
 have hDl:D.length≤500:=by rw[← hD];exact Jj hI
 have hml:(D.map (hOf A)).length=D.length:=Xf _
 have loop:∀ n,D.length<n→iter (X:=s8) (β:=xk) n ([],((D.map (hOf A)).length:Int),0,D.map (hOf A),A.map ai.tup,()) xh=some (Sum.inr (D.map Bn,A.map ai.tup,())):=by
  intro n hn
  refine kO (Inv:=fun i X=>X=(((D.take i).map Bn,((D.map (hOf A)).length:Int),(i:Int),D.map (hOf A),A.map ai.tup,()):s8)) D.length (fun z=>z=some (Sum.inr (D.map Bn,A.map ai.tup,()))) ?_ ?_ n 0 _ rfl (Ym _) (by omega)
  ·rintro i X again hi rfl hag
   unfold xh
   dsimp only
   have hx:D[i]? =some D[i]:=WV hi
   generalize D[i]=x at hx
   have hxA:=hm x (Xw hx)
   obtain⟨k,hk,hkx⟩:=Ah hI hxA
   have hk':(D.map (hOf A))[i]? =some (some k):=by rw[WY,hx,Yu,hk]
   obtain⟨p1,p2⟩:=Hs (hg.sound.line x hxA).1
   have hlen:((D.take i).map Bn).length=i:=by rw[Xf,Xj];omega
   rw[YB (show (i:Int)<((D.map (hOf A)).length:Int) by omega),Yz,gi (by rw[V6];exact⟨YB (by omega),rfl⟩),Ws,hk',Yo,Yo,gh hkx,Yo,kS hkx (hg.sound.line x hxA).1,Yo]
   dsimp only
   rw[lY p1 (by omega),Yo,Yo,gh hkx,Yo,hlen,gi (by rw[V6];exact⟨YB (by omega),YB (by omega)⟩),aC (n:=(i:Int)+1) (by omega) (by omega)]
   have e:(D.take i).map Bn++[(x.no,lU x.opn,x.due)]=(D.take (i+1)).map Bn:=by rw[oF hx,Xk];rfl
   dsimp only
   rw[e]
   exact hag _ rfl
  ·rintro X again rfl
   unfold xh
   dsimp only
   rw[hml,YA (show ¬(D.length:Int)<(D.length:Int) by omega),Yy,XN]
 rw[loop _ (by omega),bq]
end Go.Md
set_option linter.all false
namespace Go.Md
open Go.Dn
theorem fuel1 (a b c:Nat) (h:0<c):b<a+(b+c):=by omega
end Go.Md
set_option linter.all false
namespace Go.Md
open Go.Dn
end Go.Md
set_option linter.all false
namespace Go.Md
open Go.Dn
theorem NN.app {l:List aa} {P:Int→List au} {A:List ai} {L:List dz} (h:NN l P A L) (d':aa):NN (l++[d']) P A L:=
 ⟨h.len,fun k x y hx hy=>by
   obtain⟨r1,r2,r3,r4,r5⟩:=h.rel k x y hx hy
   refine⟨r1,r2,r3,fun hn=> ?_,r5⟩
   obtain⟨j,d,e1,e2,e3⟩:=r4 hn
   exact⟨j,d,e1,by rw[WQ (WX.1 e2).1];exact e2,e3⟩⟩
theorem WOk.app {l:List aa} {x:ai} (h:WOk l x) (d':aa):WOk (l++[d']) x:=
 ⟨h.low,fun h0=>by
   obtain⟨d,hd,hk⟩:=h.kind h0
   exact⟨d,by rw[WQ (WX.1 hd).1];exact hd,hk⟩⟩
theorem Good.app {l:List aa} {A:List ai} (h:Good l A) (d':aa):Good (l++[d']) A:=
 ⟨⟨fun x hx=>⟨(h.sound.line x hx).1,(h.sound.line x hx).2.app d'⟩⟩,h.pr⟩
end Go.Md
set_option linter.all false
namespace Go.Md
open Go.Dn
end Go.Md
