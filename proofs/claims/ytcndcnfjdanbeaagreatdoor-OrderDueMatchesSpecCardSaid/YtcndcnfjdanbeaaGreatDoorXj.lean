/-
  Plain facts: what is due, asked, answered; the plain law is true of all data. No condition.
-/
import Derived.Test.YtcndcnfjdanbeaaGreatDoorXx
import Derived.Test.YtcndcnfjdanbeaaGreatDoorXq
import Derived.Test.YtcndcnfjdanbeaaGreatDoorXk
set_option linter.all false
set_option linter.all false
namespace Go.Md.SL
open Go.Dn Go.Md
section
variable {k:Option Nat→Int} {ar:List aq} {ok:Option Nat→Prop}
def zW (k:Option Nat→Int) (ar:List aq) (ok:Option Nat→Prop):Prop:=∀ a b,ok a→ok b→∃ c,dZ a b ar=some (c,())∧(c<0↔k a<k b)
theorem ac8 (hc:zW k ar ok) (a:Nat) (bI:Int) (iI:Int) (X:List (Option Nat)) (hX:X.length=a):∀ (n:Nat) (P1:List (Option Nat)) (x:Option Nat) (B:List (Option Nat)),P1.length<n→(X++P1++x::B).length<1000000000→ok x→(∀ y∈P1,ok y)→
 ∃ P2 P3,P1=P2++P3∧(∀ y∈P3,k x<k y)∧(∀ y,P2.getLast? =some y→k y≤k x)∧
 iter (X:=dA) (β:=dx) n ((a:Int),bI,(),iI,((a+P1.length:Nat):Int),X++P1++x::B,ar,()) dn=some (Sum.inr ((a:Int),bI,(),iI,X++P2++x::(P3++B),ar,())):=by
 intro n
 induction n with
 | zero=>intro P1 x B h;omega
 | succ n ih=>
  intro P1 x B hn hlen hx hP
  rw[cl]
  generalize hag:(fun y=>iter n y dn)=again
  unfold dn
  dsimp only
  rcases List.eq_nil_or_concat P1 with rfl | ⟨P,y,rfl⟩
  ·rw[bh (by simp)]
   exact⟨[],[],rfl,by simp,by simp,by simp⟩
  ·rw[List.concat_eq_append] at*
   simp only[ah9,aia,aie] at hlen hn ⊢
   have e1:w64 (((a+(P.length+1):Nat):Int) - 1)=(((X++P).length:Nat):Int):=by rw[av (by omega) (by omega)];simp[hX];omega
   have e2:(((a+(P.length+1):Nat):Int))=(((X++P).length+1:Nat):Int):=by simp[hX];omega
   have el:X++(P++[y])++x::B=(X++P)++y::x::B:=by simp
   obtain⟨c,hcc,hlt⟩:=hc x y hx (hP y (by simp))
   rw[aX (by omega),e1,e2,el]
   simp only[ahs,get_at,PY,ajq,hcc]
   rw[bq (by simp only[agW,ajH,ah9,aia,aij,aie];omega),bq (by simp only[agW,ajH,ah9,aia,aij,aie];omega)]
   by_cases hk:k x<k y
   ·rw[aX (hlt.2 hk),bq (by simp only[agW,ajH,ah9,aia,aij,aie];omega),bq (by simp only[agW,ajH,ah9,aia,aij,aie];omega),bq (by simp only[agW,ajH,ah9,aia,aij,aie];omega),
     bq (by simp only[agW,ajH,ah9,aia,aij,aie];omega)]
    have hg:(((X++P)++y::x::B).set ((X++P).length+1) y)[(X++P).length]? =some y:=by rw[ah3 (by omega),get_at]
    rw[hg,ajq,Zm, ← hag]
    obtain⟨P2,P3,h1,h2,h3,h4⟩:=ih P x (y::B) (by omega) (by simp;omega) hx (fun z hz=>hP z (by simp[hz]))
    refine⟨P2,P3++[y],by rw[h1];simp, ?_,h3, ?_⟩
    ·intro z hz
     rcases aip.1 hz with hz | hz
     ·exact h2 z hz
     ·rw[aiD.1 hz];exact hk
    ·have e3:(((X++P).length:Nat):Int)=((a+P.length:Nat):Int):=by simp[hX]
     rw[e3]
     show iter n _ _=_
     rw[h4];simp
   ·rw[bh (fun h=>hk (hlt.1 h))]
    refine⟨P++[y],[],by simp,by simp,fun z hz=> ?_,by simp⟩
    simp at hz
    subst hz;omega
theorem OF (hc:zW k ar ok) (X S Y:List (Option Nat)) (hlen:(X++S++Y).length<1000000000) (hok:∀ y∈S,ok y):
 ∃ S',cJ (X++S++Y) (X.length:Int) ((X.length+S.length:Nat):Int) () ar=some (X++S'++Y,())∧Srt k S'∧bL k S S':=by
 simp only[ah9] at hlen
 have loop:∀ (n:Nat) (Q P:List (Option Nat)) (l:List (Option Nat)),Q.length<n→l=X++P++Q++Y→P.length+Q.length=S.length→Srt k P→(∀ y∈P,ok y)→(∀ y∈Q,ok y)→
  ∃ S',iter (X:=dz) (β:=dw) n ((X.length:Int),((X.length+S.length:Nat):Int),(),((X.length+P.length:Nat):Int),l,ar,()) cA=some (Sum.inr (X++S'++Y,ar,()))∧Srt k S'∧bL k (P++Q) S':=by
  intro n
  induction n with
  | zero=>intro Q P l h;omega
  | succ n ih=>
   intro Q P l hn hl hPQ hs hokP hokQ
   rw[cl]
   generalize hag:(fun y=>iter n y cA)=again
   unfold cA
   dsimp only
   cases Q with
   | nil=>
    rw[bh (by simp at hPQ;omega)]
    exact⟨P,by rw[hl];simp,hs,by simpa using bL.refl k P⟩
   | cons x Q=>
    simp only[aia] at hn hPQ
    rw[aX (by omega)]
    have hl':l=X++P++x::(Q++Y):=by rw[hl];simp
    obtain⟨P2,P3,h1,h2,h3,h4⟩:=ac8 hc X.length ((X.length+S.length:Nat):Int) ((X.length+P.length:Nat):Int) X rfl
     (Int.natAbs (X.length:Int)+(Int.natAbs ((X.length+S.length:Nat):Int)+(Int.natAbs ((X.length+P.length:Nat):Int)+(Int.natAbs ((X.length+P.length:Nat):Int)+(List.length l+2))))) P x (Q++Y) (by omega) (by simp;omega) (hokQ x (by simp)) hokP
    rw[← hl'] at h4
    rw[h4,aK]
    dsimp only
    have e1:w64 (((X.length+P.length:Nat):Int)+1)=((X.length+(P2++x::P3).length:Nat):Int):=by
     rw[av (by omega) (by omega),h1];simp;omega
    rw[e1, ← hag]
    rw[h1] at hs hokP
    obtain⟨hs',hsam⟩:=aek hs h2 h3
    obtain⟨S',g1,g2,g3⟩:=ih Q (P2++x::P3) (X++P2++x::(P3++(Q++Y))) (by omega) (by simp) (by rw[h1] at hPQ;simp at hPQ ⊢;omega) hs' (fun y hy=>by
     rcases hsam.mem.1 hy |> aip.1 with h | h
     ·exact hokP y h
     ·rw[aiD.1 h];exact hokQ x (by simp)) (fun y hy=>hokQ y (by simp[hy]))
    refine⟨S',g1,g2, ?_⟩
    have:bL k (P++x::Q) (P2++x::P3++Q):=by
     rw[h1]
     have:=hsam.append (bL.refl k Q)
     simpa using this
    exact this.trans g3
 unfold cJ
 cases S with
 | nil=>
  have e1:w64 ((X.length:Int)+1)=((X.length+1:Nat):Int):=by rw[av (by omega) (by omega)];omega
  rw[e1]
  obtain⟨n,hn⟩:∃ n,(Int.natAbs (X.length:Int)+(Int.natAbs ((X.length+([]:List (Option Nat)).length:Nat):Int)+(Int.natAbs ((X.length+1:Nat):Int)+(List.length (X++[]++Y)+2))))=n+1:=⟨_,rfl⟩
  rw[hn,cl]
  unfold cA
  dsimp only
  rw[bh (by simp;omega)]
  exact⟨[],rfl,List.Pairwise.nil,bL.refl _ _⟩
 | cons x S=>
  have e1:w64 ((X.length:Int)+1)=((X.length+[x].length:Nat):Int):=by rw[av (by omega) (by omega)];simp
  rw[e1]
  obtain⟨S',g1,g2,g3⟩:=loop (Int.natAbs (X.length:Int)+(Int.natAbs ((X.length+(x::S).length:Nat):Int)+(Int.natAbs ((X.length+[x].length:Nat):Int)+(List.length (X++(x::S)++Y)+2)))) S [x] (X++(x::S)++Y) (by simp;omega) (by simp) (by simp;omega) (List.pairwise_singleton _ _) (fun y hy=>hok y (by simp at hy;simp[hy])) (fun y hy=>hok y (by simp[hy]))
  rw[g1,aK]
  exact⟨S',rfl,g2,by simpa using g3⟩
theorem Hs (X M Y:List (Option Nat)):∀ (P Q:List (Option Nat)),P.length=Q.length→(X++P++M++Q++Y).length<1000000000→
 cF (X++P++M++Q++Y) (X.length:Int) ((X.length+P.length+M.length:Nat):Int) (P.length:Int) () ar=some (X++Q++M++P++Y,()):=by
 intro P Q hPQ hlen
 simp only[ah9] at hlen
 have loop:∀ (n:Nat) (P1 P2 Q1 Q2:List (Option Nat)) (l:List (Option Nat)),P2.length<n→P1.length+P2.length=P.length→P1.length=Q1.length→P2.length=Q2.length→l=X++P1++P2++M++Q1++Q2++Y→
  iter (X:=er) (β:=ep) n ((X.length:Int),((X.length+P.length+M.length:Nat):Int),(P.length:Int),(P1.length:Int),l,ar,()) eo=some (Sum.inr (X++P1++Q2++M++Q1++P2++Y,ar,())):=by
  intro n
  induction n with
  | zero=>intro P1 P2 Q1 Q2 l h;omega
  | succ n ih=>
   intro P1 P2 Q1 Q2 l hn h1 h2 h3 hl
   rw[cl]
   generalize hag:(fun y=>iter n y eo)=again
   unfold eo
   dsimp only
   cases P2 with
   | nil=>
    have:Q2=[]:=ahI (by simpa using h3.symm)
    subst this
    rw[bh (by simp at h1;omega),hl]
   | cons p P2=>
    cases Q2 with
    | nil=>simp at h3
    | cons q Q2=>
     simp only[aia] at hn h1 h3
     have ll:l.length=X.length+P.length+M.length+Q.length+Y.length:=by rw[hl];simp;omega
     have e1:w64 (((X.length+P.length+M.length:Nat):Int)+(P1.length:Int))=(((X++P1++p::P2++M++Q1).length:Nat):Int):=by rw[av (by omega) (by omega)];simp;omega
     have e2:w64 ((X.length:Int)+(P1.length:Int))=(((X++P1).length:Nat):Int):=by rw[av (by omega) (by omega)];simp
     have l1:l=(X++P1++p::P2++M++Q1)++q::(Q2++Y):=by rw[hl];simp
     have l2:l=(X++P1)++p::(P2++M++Q1++q::(Q2++Y)):=by rw[hl];simp
     have g1:l[(X++P1++p::P2++M++Q1).length]? =some q:=by rw[l1];exact get_at _ _ _
     have g2:l[(X++P1).length]? =some p:=by rw[l2];exact get_at _ _ _
     have g3:l.set (X++P1).length q=(X++P1++q::P2++M++Q1)++q::(Q2++Y):=by
      rw[l2,aa8];simp
     have hlq:(X++P1++p::P2++M++Q1).length=(X++P1++q::P2++M++Q1).length:=by simp
     have g4:(l.set (X++P1).length q)[(X++P1++p::P2++M++Q1).length]? =some q:=by rw[g3,hlq];exact get_at _ _ _
     have g5:(l.set (X++P1).length q).set (X++P1++p::P2++M++Q1).length p=X++(P1++[q])++P2++M++(Q1++[p])++Q2++Y:=by rw[g3,hlq,aa8];simp
     rw[aX (by omega),e1,e2]
     simp only[ahs,g1,g2,g4,g5,ajq,aij,ll]
     have lq:(X++P1++p::P2++M++Q1).length<X.length+P.length+M.length+Q.length+Y.length:=by simp;omega
     have lp:(X++P1).length<X.length+P.length+M.length+Q.length+Y.length:=by simp;omega
     rw[bq (by simp only[agW,ajH];omega),bq (by simp only[agW,ajH];omega),bq (by simp only[agW,ajH];omega),bq (by simp only[agW,ajH];omega)]
     have e3:w64 ((P1.length:Int)+1)=(((P1++[q]).length:Nat):Int):=by rw[av (by omega) (by omega)];simp
     rw[e3, ← hag]
     show iter n _ _=_
     rw[ih (P1++[q]) P2 (Q1++[p]) Q2 _ (by omega) (by simp;omega) (by simp;omega) (by omega) rfl]
     simp
 unfold cF
 rw[show (0:Int)=((([]:List (Option Nat)).length:Nat):Int) from rfl,loop _ [] P [] Q (X++P++M++Q++Y) (by simp;omega) (by simp) rfl hPQ (by simp),aK]
 simp
theorem aat (m:Nat):∀ (n:Nat) (X U V Y:List (Option Nat)),U.length+V.length<n→0<U.length→0<V.length→X.length+U.length=m→(X++U++V++Y).length<1000000000→
 ∃ (X' U' V' Y':List (Option Nat)),iter (X:=fC) (β:=fB) n ((m:Int),(),(U.length:Int),(V.length:Int),X++U++V++Y,ar,()) fA=some (Sum.inr ((m:Int),(),(U'.length:Int),X'++U'++V'++Y',ar,()))∧U'.length=V'.length∧X'.length+U'.length=m∧X'++V'++U'++Y'=X++V++U++Y∧(X'++U'++V'++Y').length<1000000000:=by
 intro n
 induction n with
 | zero=>intro X U V Y h;omega
 | succ n ih=>
  intro X U V Y hn hU hV hm hlen
  rw[cl]
  generalize hag:(fun y=>iter n y fA)=again
  unfold fA
  dsimp only
  by_cases he:U.length=V.length
  ·have hb:((U.length:Int) != (V.length:Int))=false:=by simp[he]
   rw[hb,ajB]
   exact⟨X,U,V,Y,rfl,he,hm,rfl,hlen⟩
  ·have hb:((U.length:Int) != (V.length:Int))=true:=by simp;omega
   rw[hb,ajC]
   simp only[ah9] at hlen
   have e1:w64 ((m:Int) - (U.length:Int))=(X.length:Int):=by rw[av (by omega) (by omega)];omega
   rw[e1]
   by_cases hgt:V.length<U.length
   ·rw[aX (by omega)]
    obtain⟨U1,U2,rfl,hU1⟩:=qN (l:=U) (n:=V.length) (by omega)
    simp only[ah9] at*
    have hsw:=Hs (ar:=ar) X U2 Y U1 V hU1 (by simp;omega)
    rw[show ((X.length+U1.length+U2.length:Nat):Int)=(m:Int) by omega,hU1] at hsw
    rw[show X++(U1++U2)++V++Y=X++U1++U2++V++Y by simp,hsw,ajq]
    have e2:w64 (((U1.length+U2.length:Nat):Int) - (V.length:Int))=(U2.length:Int):=by rw[av (by omega) (by omega)];omega
    rw[e2, ← hag]
    obtain⟨X',U',V',Y',h1,h2,h3,h4,h5⟩:=ih (X++V) U2 U1 Y (by omega) (by omega) (by omega) (by simp;omega) (by simp;omega)
    refine⟨X',U',V',Y', ?_,h2,h3,by rw[h4];simp,h5⟩
    rw[← hU1]
    exact h1
   ·rw[bh (by omega)]
    obtain⟨V1,V2,rfl,hV1⟩:=qN (l:=V) (n:=V.length - U.length) (by omega)
    simp only[ah9] at*
    have e3:w64 (w64 ((m:Int)+((V1.length+V2.length:Nat):Int)) - (U.length:Int))=((X.length+U.length+V1.length:Nat):Int):=by
     rw[av (n:=(m:Int)+((V1.length+V2.length:Nat):Int)) (by omega) (by omega),av (by omega) (by omega)];omega
    have hsw:=Hs (ar:=ar) X V1 Y U V2 (by omega) (by simp;omega)
    rw[e3,show X++U++(V1++V2)++Y=X++U++V1++V2++Y by simp,hsw,ajq]
    have e2:w64 (((V1.length+V2.length:Nat):Int) - (U.length:Int))=(V1.length:Int):=by rw[av (by omega) (by omega)];omega
    rw[e2, ← hag]
    obtain⟨X',U',V',Y',h1,h2,h3,h4,h5⟩:=ih X V2 V1 (U++Y) (by omega) (by omega) (by omega) (by omega) (by simp;omega)
    refine⟨X',U',V',Y', ?_,h2,h3,by rw[h4];simp,h5⟩
    rw[show ((U.length:Nat):Int)=(V2.length:Int) by omega,show X++V2++V1++U++Y=X++V2++V1++(U++Y) by simp]
    exact h1
theorem adJ (X U V Y:List (Option Nat)) (hU:0<U.length) (hV:0<V.length) (hlen:(X++U++V++Y).length<1000000000):
 fZ (X++U++V++Y) (X.length:Int) ((X.length+U.length:Nat):Int) ((X.length+U.length+V.length:Nat):Int) () ar=some (X++V++U++Y,()):=by
 unfold fZ
 simp only[ah9] at hlen
 have e1:w64 (((X.length+U.length:Nat):Int) - (X.length:Int))=(U.length:Int):=by rw[av (by omega) (by omega)];omega
 have e2:w64 (((X.length+U.length+V.length:Nat):Int) - ((X.length+U.length:Nat):Int))=(V.length:Int):=by rw[av (by omega) (by omega)];omega
 rw[e1,e2]
 obtain⟨X',U',V',Y',h1,h2,h3,h4,h5⟩:=aat (ar:=ar) (X.length+U.length) (Int.natAbs ((X.length+U.length:Nat):Int)+(Int.natAbs (U.length:Int)+(Int.natAbs (V.length:Int)+(List.length (X++U++V++Y)+2)))) X U V Y (by omega) hU hV rfl (by simp;omega)
 rw[h1,aK]
 dsimp only
 simp only[ah9] at h5
 have e3:w64 (((X.length+U.length:Nat):Int) - (U'.length:Int))=(X'.length:Int):=by rw[av (by omega) (by omega)];omega
 have hsw:=Hs (ar:=ar) X' [] Y' U' V' h2 (by simp;omega)
 simp only[ahy,aie,aiY] at hsw
 rw[e3,show ((X.length+U.length:Nat):Int)=((X'.length+U'.length:Nat):Int) by omega,hsw,ajq,h4]
theorem afy (i:Nat):∀ (n:Nat) (A V Y:List (Option Nat)) (x:Option Nat),V.length<n→A.length+1+V.length=i→(A++x::V++Y).length<1000000000→
 iter (X:=eX) (β:=eV) n ((i:Int),(A.length:Int),A++x::V++Y,ar,()) eS=some (Sum.inr (A++V++x::Y,ar,())):=by
 intro n
 induction n with
 | zero=>intro A V Y x h;omega
 | succ n ih=>
  intro A V Y x hn hi hlen
  rw[cl]
  generalize hag:(fun y=>iter n y eS)=again
  unfold eS
  dsimp only
  simp only[ah9,aia] at hlen
  have e0:w64 ((i:Int) - 1)=(i:Int) - 1:=av (by omega) (by omega)
  rw[e0]
  cases V with
  | nil=>rw[bh (by simp at hi;omega)];simp
  | cons v V=>
   simp only[aia] at hn hi hlen
   have e1:w64 ((A.length:Int)+1)=((A.length+1:Nat):Int):=by rw[av (by omega) (by omega)];omega
   have el:A++x::(v::V)++Y=A++x::v::(V++Y):=by simp
   have hg:((A++x::v::(V++Y)).set A.length v)[A.length+1]? =some v:=by rw[ah3 (by omega),PY]
   rw[aX (by omega),e1,el]
   simp only[ahs,get_at,PY,ajq,hg,adT,aij]
   rw[bq (by simp only[agW,ajH,ah9,aia];omega),bq (by simp only[agW,ajH,ah9,aia];omega),bq (by simp only[agW,ajH,ah9,aia];omega),bq (by simp only[agW,ajH,ah9,aia];omega), ← hag]
   have:=ih (A++[v]) V Y x (by omega) (by simp;omega) (by simp;omega)
   simp only[ah9,aia,aie,ajn] at this
   show iter n _ _=_
   rw[show A++v::x::(V++Y)=A++[v]++x::V++Y by simp,this]
   simp
theorem adq (A:List (Option Nat)):∀ (n:Nat) (U Y:List (Option Nat)) (y:Option Nat),U.length<n→(A++U++y::Y).length<1000000000→
 iter (X:=eE) (β:=eA) n ((A.length:Int),((A.length+U.length:Nat):Int),A++U++y::Y,ar,()) ew=some (Sum.inr (A++y::U++Y,ar,())):=by
 intro n
 induction n with
 | zero=>intro U Y y h;omega
 | succ n ih=>
  intro U Y y hn hlen
  rw[cl]
  generalize hag:(fun y=>iter n y ew)=again
  unfold ew
  dsimp only
  simp only[ah9,aia] at hlen
  rcases List.eq_nil_or_concat U with rfl | ⟨V,u,rfl⟩
  ·rw[bh (by simp)];simp
  ·rw[List.concat_eq_append] at*
   simp only[ah9,aia,aie] at hn hlen ⊢
   have e1:w64 (((A.length+(V.length+(0+1)):Nat):Int) - 1)=(((A++V).length:Nat):Int):=by rw[av (by omega) (by omega)];simp;omega
   have e2:((A.length+(V.length+(0+1)):Nat):Int)=(((A++V).length+1:Nat):Int):=by simp;omega
   have el:A++(V++[u])++y::Y=(A++V)++u::y::Y:=by simp
   have hg:(((A++V)++u::y::Y).set ((A++V).length+1) u)[(A++V).length]? =some u:=by rw[ah3 (by omega),get_at]
   rw[aX (by omega),e1,e2,el]
   simp only[ahs,get_at,PY,ajq,hg,Zm,aij]
   rw[bq (by simp only[agW,ajH,ah9,aia];omega),bq (by simp only[agW,ajH,ah9,aia];omega),bq (by simp only[agW,ajH,ah9,aia];omega),bq (by simp only[agW,ajH,ah9,aia];omega), ← hag]
   have:=ih V (u::Y) y (by omega) (by simp;omega)
   show iter n _ _=_
   rw[show (((A++V).length:Nat):Int)=((A.length+V.length:Nat):Int) by simp,this]
   simp
theorem Vs (hc:zW k ar ok) (X R Y:List (Option Nat)) (x:Option Nat) (hlen:(X++[x]++R++Y).length<1000000000) (hR:Srt k R) (hx:ok x) (hok:∀ y∈R,ok y) (n:Nat) (hn:R.length<n):
 ∃ R1 R2,R=R1++R2∧(∀ y∈R1,k y<k x)∧(∀ y∈R2,k x≤k y)∧iter (X:=eW) (β:=eU) n ((X.length:Int),(),((X.length+1:Nat):Int),((X.length+1+R.length:Nat):Int),X++[x]++R++Y,ar,()) cT=some (Sum.inr ((X.length:Int),((X.length+1+R1.length:Nat):Int),X++[x]++R++Y,ar,())):=by
 simp only[ah9,aia,aie] at hlen
 have hx0:(X++[x]++R++Y)[X.length]? =some x:=by simp
 have hRt:∀ i (h:i<R.length),(X++[x]++R++Y)[X.length+1+i]? =some R[i]:=fun i h=>abB X [x] R Y h
 obtain⟨r,h1,h2,h3,h4,h5⟩:=bsearch (f:=cT) (fun i j=>((X.length:Int),(),(i:Int),(j:Int),X++[x]++R++Y,ar,())) (fun i=>some (Sum.inr ((X.length:Int),(i:Int),X++[x]++R++Y,ar,())))
  (fun t=>k ((R[t - (X.length+1)]?).getD none)<k x) (X.length+1) (X.length+1+R.length) (by
    intro i j again hi hij hj
    unfold cT
    dsimp only
    have hh:(i+j) / 2 - (X.length+1)<R.length:=by omega
    have hg:=hRt _ hh
    rw[show X.length+1+((i+j) / 2 - (X.length+1))=(i+j) / 2 by omega] at hg
    rw[aX (by omega),P7 i j (by omega)]
    simp only[ahs,hg,hx0,ajq]
    obtain⟨c,hcc,hlt⟩:=hc R[(i+j) / 2 - (X.length+1)] x (hok _ (ah8 _)) hx
    rw[hcc,bq (by simp only[agW,ajH,ah9,aia];omega),bq (by simp only[agW,ajH,ah9,aia];omega),ajq,ahX hh]
    dsimp only[Option.getD]
    by_cases hk:k R[(i+j) / 2 - (X.length+1)]<k x
    ·rw[aX (hlt.2 hk),ajO hk,av (by omega) (by omega)];rfl
    ·rw[bh (fun h=>hk (hlt.1 h)),ajN hk])
  (by
    intro i again _ _
    unfold cT
    dsimp only
    rw[bh (by omega)])
  (by
    intro s t hs hst ht hP
    rw[ahX (by omega)] at hP ⊢
    have:=hR.get (i:=s - (X.length+1)) (j:=t - (X.length+1)) (by omega) (by omega)
    simp only[ajr] at hP ⊢
    omega)
  n (X.length+1) (X.length+1+R.length) (by omega) (ai5 _) (by omega) (ai5 _) (fun t h1 h2=>by omega) (fun t h1 h2=>by omega)
 obtain⟨R1,R2,rfl,hR1⟩:=qN (l:=R) (n:=r - (X.length+1)) (by omega)
 refine⟨R1,R2,rfl, ?_, ?_, ?_⟩
 ·intro y hy
  obtain⟨i,hi,rfl⟩:=aiw.1 hy
  have:=h4 (X.length+1+i) (by omega) (by omega)
  rw[show X.length+1+i - (X.length+1)=i by omega,ahS hi,ahX hi] at this
  exact this
 ·intro y hy
  obtain⟨i,hi,rfl⟩:=aiw.1 hy
  have:=h5 (X.length+1+(R1.length+i)) (by omega) (by simp;omega)
  rw[show X.length+1+(R1.length+i) - (X.length+1)=R1.length+i by omega,ahT (by omega),show R1.length+i - R1.length=i by omega,ahX hi] at this
  simp only[ajr] at this
  omega
 ·rw[h1,show X.length+1+R1.length=r by omega]
theorem T6 (hc:zW k ar ok) (X L Y:List (Option Nat)) (y:Option Nat) (hlen:(X++L++[y]++Y).length<1000000000) (hL:Srt k L) (hy:ok y) (hok:∀ z∈L,ok z) (n:Nat) (hn:L.length<n):
 ∃ L1 L2,L=L1++L2∧(∀ z∈L1,k z≤k y)∧(∀ z∈L2,k y<k z)∧iter (X:=eD) (β:=ez) n (((X.length+L.length:Nat):Int),(),(X.length:Int),((X.length+L.length:Nat):Int),X++L++[y]++Y,ar,()) cO=some (Sum.inr (((X.length+L.length:Nat):Int),((X.length+L1.length:Nat):Int),X++L++[y]++Y,ar,())):=by
 simp only[ah9,aia,aie] at hlen
 have hy0:(X++L++[y]++Y)[X.length+L.length]? =some y:=by
  have:=abB X L [y] Y (i:=0) (by simp)
  simpa using this
 have hLt:∀ i (h:i<L.length),(X++L++[y]++Y)[X.length+i]? =some L[i]:=fun i h=>aeW X L [y] Y h
 obtain⟨r,h1,h2,h3,h4,h5⟩:=bsearch (f:=cO) (fun i j=>(((X.length+L.length:Nat):Int),(),(i:Int),(j:Int),X++L++[y]++Y,ar,())) (fun i=>some (Sum.inr (((X.length+L.length:Nat):Int),(i:Int),X++L++[y]++Y,ar,())))
  (fun t=>¬ k y<k ((L[t - X.length]?).getD none)) X.length (X.length+L.length) (by
    intro i j again hi hij hj
    unfold cO
    dsimp only
    have hh:(i+j) / 2 - X.length<L.length:=by omega
    have hg:=hLt _ hh
    rw[show X.length+((i+j) / 2 - X.length)=(i+j) / 2 by omega] at hg
    rw[aX (by omega),P7 i j (by omega)]
    simp only[ahs,hg,hy0,ajq]
    obtain⟨c,hcc,hlt⟩:=hc y L[(i+j) / 2 - X.length] hy (hok _ (ah8 _))
    rw[hcc,bq (by simp only[agW,ajH,ah9,aia];omega),bq (by simp only[agW,ajH,ah9,aia];omega),ajq,ahX hh]
    dsimp only[Option.getD]
    by_cases hk:k y<k L[(i+j) / 2 - X.length]
    ·rw[ajG (hlt.2 hk),ag7,ajB,ajN (fun h=>h hk)]
    ·rw[ajE (fun h=>hk (hlt.1 h)),ag6,ajC,ajO hk,av (by omega) (by omega)];rfl)
  (by
    intro i again _ _
    unfold cO
    dsimp only
    rw[bh (by omega)])
  (by
    intro s t hs hst ht hP
    rw[ahX (by omega)] at hP ⊢
    have:=hL.get (i:=s - X.length) (j:=t - X.length) (by omega) (by omega)
    simp only[ajr] at hP ⊢
    omega)
  n X.length (X.length+L.length) (by omega) (ai5 _) (by omega) (ai5 _) (fun t h1 h2=>by omega) (fun t h1 h2=>by omega)
 obtain⟨L1,L2,rfl,hL1⟩:=qN (l:=L) (n:=r - X.length) (by omega)
 refine⟨L1,L2,rfl, ?_, ?_, ?_⟩
 ·intro z hz
  obtain⟨i,hi,rfl⟩:=aiw.1 hz
  have:=h4 (X.length+i) (by omega) (by omega)
  rw[show X.length+i - X.length=i by omega,ahS hi,ahX hi] at this
  simp only[ajr] at this
  omega
 ·intro z hz
  obtain⟨i,hi,rfl⟩:=aiw.1 hz
  have:=h5 (X.length+(L1.length+i)) (by omega) (by simp;omega)
  rw[show X.length+(L1.length+i) - X.length=L1.length+i by omega,ahT (by omega),show L1.length+i - L1.length=i by omega,ahX hi] at this
  simp only[ajr] at this
  omega
 ·rw[h1,show X.length+L1.length=r by omega]
theorem YQ (hc:zW k ar ok) (X L R Y:List (Option Nat)) (hlen:(X++L++R++Y).length<1000000000) (hL:Srt k L) (hR:Srt k R) (hokL:∀ z∈L,ok z) (hokR:∀ z∈R,ok z) (mid lo hi:Nat) (hmid:mid=(X.length+(X.length+L.length+R.length)) / 2)
 (hcase:(mid<X.length+L.length∧lo+R.length=mid∧hi=mid∧X.length≤lo)∨(X.length+L.length≤mid∧lo=X.length∧hi=X.length+L.length)) (n:Nat) (hn:hi<n):
 ∃ s:Nat,iter (X:=eF) (β:=eC) n ((X.length:Int),((X.length+L.length:Nat):Int),((X.length+L.length+R.length:Nat):Int),(),(mid:Int),((mid+(X.length+L.length):Nat):Int),(lo:Int),(hi:Int),((mid+(X.length+L.length):Nat):Int) - 1,X++L++R++Y,ar,()) cP=some (Sum.inr ((X.length:Int),((X.length+L.length:Nat):Int),((X.length+L.length+R.length:Nat):Int),(),(mid:Int),((mid+(X.length+L.length):Nat):Int),(s:Int),X++L++R++Y,ar,()))∧
  lo≤s∧s≤hi∧(∀ i j (_:i<L.length) (_:j<R.length),X.length+i+1=s→j+s=mid→k L[i]≤k R[j])∧(∀ i j (_:i<L.length) (_:j<R.length),X.length+i=s→j+1+s=mid→k R[j]<k L[i]):=by
 simp only[ah9] at hlen
 have hLt:∀ i (h:i<L.length),(X++L++R++Y)[X.length+i]? =some L[i]:=fun i h=>aeW X L R Y h
 have hRt:∀ i (h:i<R.length),(X++L++R++Y)[X.length+L.length+i]? =some R[i]:=fun i h=>abB X L R Y h
 obtain⟨r,h1,h2,h3,h4,h5⟩:=bsearch (f:=cP) (fun i j=>((X.length:Int),((X.length+L.length:Nat):Int),((X.length+L.length+R.length:Nat):Int),(),(mid:Int),((mid+(X.length+L.length):Nat):Int),(i:Int),(j:Int),((mid+(X.length+L.length):Nat):Int) - 1,X++L++R++Y,ar,()))
  (fun s=>some (Sum.inr ((X.length:Int),((X.length+L.length:Nat):Int),((X.length+L.length+R.length:Nat):Int),(),(mid:Int),((mid+(X.length+L.length):Nat):Int),(s:Int),X++L++R++Y,ar,())))
  (fun t=>¬ k ((R[mid - 1 - t]?).getD none)<k ((L[t - X.length]?).getD none)) lo hi (by
    intro i j again hi1 hij hj
    unfold cP
    dsimp only
    generalize hh0:(i+j) / 2=h
    have hhL:h - X.length<L.length:=by omega
    have hhR:mid - 1 - h<R.length:=by omega
    have hg:=hLt _ hhL
    rw[show X.length+(h - X.length)=h by omega] at hg
    have hg2:=hRt _ hhR
    rw[aX (by omega),P7 i j (by omega),hh0]
    have e1:w64 (((mid+(X.length+L.length):Nat):Int) - 1 - (h:Int))=((X.length+L.length+(mid - 1 - h):Nat):Int):=by rw[av (by omega) (by omega)];omega
    rw[e1]
    simp only[ahs,hg,hg2,ajq]
    obtain⟨c,hcc,hlt⟩:=hc R[mid - 1 - h] L[h - X.length] (hokR _ (ah8 _)) (hokL _ (ah8 _))
    rw[hcc,bq (by simp only[agW,ajH,ah9];omega),bq (by simp only[agW,ajH,ah9];omega),ajq,ahX hhL,ahX hhR]
    dsimp only[Option.getD]
    by_cases hk:k R[mid - 1 - h]<k L[h - X.length]
    ·rw[ajG (hlt.2 hk),ag7,ajB,ajN (fun h=>h hk)]
    ·rw[ajE (fun h=>hk (hlt.1 h)),ag6,ajC,ajO hk,av (by omega) (by omega)];rfl)
  (by
    intro i again _ _
    unfold cP
    dsimp only
    rw[bh (by omega)])
  (by
    intro s t hs hst ht hP
    rw[ahX (show t - X.length<L.length by omega),ahX (show mid - 1 - t<R.length by omega)] at hP
    rw[ahX (show s - X.length<L.length by omega),ahX (show mid - 1 - s<R.length by omega)]
    have a1:=hL.get (i:=s - X.length) (j:=t - X.length) (by omega) (by omega)
    have a2:=hR.get (i:=mid - 1 - t) (j:=mid - 1 - s) (by omega) (by omega)
    simp only[ajr] at hP ⊢
    omega)
  n lo hi (by omega) (ai5 _) (by omega) (ai5 _) (fun t h1 h2=>by omega) (fun t h1 h2=>by omega)
 refine⟨r,h1,h2,h3, ?_, ?_⟩
 ·intro i j hi' hj' e1 e2
  have:=h4 (X.length+i) (by omega) (by omega)
  rw[show X.length+i - X.length=i by omega,show mid - 1 - (X.length+i)=j by omega,ahX hi',ahX hj'] at this
  simp only[ajr] at this
  omega
 ·intro i j hi' hj' e1 e2
  have:=h5 (X.length+i) (by omega) (by omega)
  rw[show X.length+i - X.length=i by omega,show mid - 1 - (X.length+i)=j by omega,ahX hi',ahX hj'] at this
  simp only[ajr] at this
  omega
def Zn (self:((List (Option Nat))×Int×Int×Int×Unit×(List aq)×Unit)→Option ((List (Option Nat))×Unit)) (x:(List (Option Nat))×Int×Int×Int×Unit×(List aq)×Unit):=bY self x.1 x.2.1 x.2.2.1 x.2.2.2.1 x.2.2.2.2.1 x.2.2.2.2.2.1
set_option maxHeartbeats 4000000 in
theorem Zo (hc:zW k ar ok):∀ (n:Nat) (X L R Y:List (Option Nat)),L.length+R.length<n+2→0<L.length→0<R.length→(X++L++R++Y).length<1000000000→Srt k L→Srt k R→(∀ z∈L,ok z)→(∀ z∈R,ok z)→
 ∃ S,He Zn n (X++L++R++Y,(X.length:Int),((X.length+L.length:Nat):Int),((X.length+L.length+R.length:Nat):Int),(),ar,())=some (X++S++Y,())∧Srt k S∧bL k (L++R) S:=by
 intro n
 induction n with
 | zero=>intro X L R Y h h1 h2;omega
 | succ n ih=>
  intro X L R Y hn hL0 hR0 hlen hL hR hokL hokR
  have hlen':=hlen
  simp only[ah9] at hlen
  show ∃ S,Zn (He Zn n) _=_∧_
  generalize hself:He Zn n=self at ih
  unfold Zn bY
  dsimp only
  have e1:w64 (((X.length+L.length:Nat):Int) - (X.length:Int))=(L.length:Int):=by rw[av (by omega) (by omega)];omega
  have e2:w64 (((X.length+L.length+R.length:Nat):Int) - ((X.length+L.length:Nat):Int))=(R.length:Int):=by rw[av (by omega) (by omega)];omega
  rw[e1,e2]
  by_cases hL1:L.length=1
  ·obtain⟨x,rfl⟩:∃ x,L=[x]:=List.length_eq_one_iff.1 hL1
   rw[show ((([x].length:Nat):Int)==1)=true by simp,ajC]
   obtain⟨R1,R2,rfl,h1,h2,h3⟩:=Vs hc X R Y x hlen' hR (hokL x (by simp)) hokR (Int.natAbs (X.length:Int)+(Int.natAbs ((X.length+[x].length:Nat):Int)+(Int.natAbs ((X.length+[x].length+R.length:Nat):Int)+(List.length (X++[x]++R++Y)+2)))) (by simp;omega)
   simp only[aia,aie,ajn] at h3 ⊢
   rw[h3,aK]
   dsimp only
   have hmv:=afy (ar:=ar) (X.length+1+R1.length) (Int.natAbs ((X.length+1+R1.length:Nat):Int)+(Int.natAbs (X.length:Int)+(List.length (X++[x]++(R1++R2)++Y)+2))) X R1 (R2++Y) x (by simp;omega) rfl (by simp at hlen ⊢;omega)
   rw[show X++x::R1++(R2++Y)=X++[x]++(R1++R2)++Y by simp] at hmv
   rw[hmv,aK]
   refine⟨R1++x::R2,by simp, ?_, ?_⟩
   ·exact hR.left.append (aiG.2 ⟨h2,hR.right⟩) (fun y hy z hz=>by
     rcases ais.1 hz with rfl | hz
     ·have:=h1 y hy;omega
     ·exact hR.La y hy z hz)
   ·have:=(bL.swap (k:=k) (u:=[x]) (v:=R1) (fun y hy z hz=>by rw[aiD.1 hy];have:=h1 z hz;omega)).append (bL.refl k R2)
    simpa using this
  ·rw[show (((L.length:Nat):Int)==1)=false by simp;omega,ajB]
   by_cases hR1:R.length=1
   ·obtain⟨y,rfl⟩:∃ x,R=[x]:=List.length_eq_one_iff.1 hR1
    rw[show ((([y].length:Nat):Int)==1)=true by simp,ajC]
    obtain⟨L1,L2,rfl,h1,h2,h3⟩:=T6 hc X L Y y hlen' hL (hokR y (by simp)) hokL (Int.natAbs ((X.length+L.length:Nat):Int)+(Int.natAbs (X.length:Int)+(Int.natAbs ((X.length+L.length:Nat):Int)+(List.length (X++L++[y]++Y)+2)))) (by omega)
    rw[h3,aK]
    dsimp only
    have hmv:=adq (ar:=ar) (X++L1) (Int.natAbs ((X.length+L1.length:Nat):Int)+(Int.natAbs ((X.length+(L1++L2).length:Nat):Int)+(List.length (X++(L1++L2)++[y]++Y)+2))) L2 Y y (by simp;omega) (by simp at hlen ⊢;omega)
    rw[show X++L1++L2++y::Y=X++(L1++L2)++[y]++Y by simp,show (((X++L1).length:Nat):Int)=((X.length+L1.length:Nat):Int) by simp,show (((X++L1).length+L2.length:Nat):Int)=((X.length+(L1++L2).length:Nat):Int) by simp;omega] at hmv
    rw[hmv,aK]
    refine⟨L1++y::L2,by simp, ?_, ?_⟩
    ·exact hL.left.append (aiG.2 ⟨fun z hz=>by have:=h2 z hz;omega,hL.right⟩) (fun z hz w hw=>by
      rcases ais.1 hw with rfl | hw
      ·exact h1 z hz
      ·exact hL.La z hz w hw)
    ·have:=(bL.refl k L1).append (bL.swap (k:=k) (u:=L2) (v:=[y]) (fun z hz w hw=>by rw[aiD.1 hw];have:=h2 z hz;omega))
     simpa using this
   ·rw[show (((R.length:Nat):Int)==1)=false by simp;omega,ajB]
    have eh:=P7 X.length (X.length+L.length+R.length) (by omega)
    rw[eh]
    generalize hmid:(X.length+(X.length+L.length+R.length)) / 2=mid
    have e3:w64 ((mid:Int)+((X.length+L.length:Nat):Int))=((mid+(X.length+L.length):Nat):Int):=by rw[av (by omega) (by omega)];omega
    rw[e3]
    obtain⟨lo,hi,hcase,hv⟩:∃ lo hi:Nat,((mid<X.length+L.length∧lo+R.length=mid∧hi=mid∧X.length≤lo)∨(X.length+L.length≤mid∧lo=X.length∧hi=X.length+L.length))∧
     (bif decide (((X.length+L.length:Nat):Int)>(mid:Int)) then
       (some (Sum.inr ((X.length:Int),((X.length+L.length:Nat):Int),((X.length+L.length+R.length:Nat):Int),(),(mid:Int),((mid+(X.length+L.length):Nat):Int),w64 (((mid+(X.length+L.length):Nat):Int) - ((X.length+L.length+R.length:Nat):Int)),(mid:Int),X++L++R++Y,ar,())):Option (((List (Option Nat))×Unit) ⊕ (Int×Int×Int×Unit×Int×Int×Int×Int×(List (Option Nat))×(List aq)×Unit)))
     else some (Sum.inr ((X.length:Int),((X.length+L.length:Nat):Int),((X.length+L.length+R.length:Nat):Int),(),(mid:Int),((mid+(X.length+L.length):Nat):Int),(X.length:Int),((X.length+L.length:Nat):Int),X++L++R++Y,ar,())))=some (Sum.inr ((X.length:Int),((X.length+L.length:Nat):Int),((X.length+L.length+R.length:Nat):Int),(),(mid:Int),((mid+(X.length+L.length):Nat):Int),(lo:Int),(hi:Int),X++L++R++Y,ar,())):=by
     by_cases hm:mid<X.length+L.length
     ·refine⟨mid - R.length,mid,.inl ⟨hm,by omega,rfl,by omega⟩, ?_⟩
      rw[aX (by omega),av (by omega) (by omega),show ((mid+(X.length+L.length):Nat):Int) - ((X.length+L.length+R.length:Nat):Int)=((mid - R.length:Nat):Int) by omega]
     ·refine⟨X.length,X.length+L.length,.inr ⟨by omega,rfl,rfl⟩, ?_⟩
      rw[bh (by omega)]
    rw[hv,aK]
    dsimp only
    have e4:w64 (((mid+(X.length+L.length):Nat):Int) - 1)=((mid+(X.length+L.length):Nat):Int) - 1:=av (by omega) (by omega)
    rw[e4]
    obtain⟨s,h1,h2,h3,hF2,hF1⟩:=YQ hc X L R Y hlen' hL hR hokL hokR mid lo hi hmid.symm hcase (Int.natAbs (X.length:Int)+(Int.natAbs ((X.length+L.length:Nat):Int)+(Int.natAbs ((X.length+L.length+R.length:Nat):Int)+(Int.natAbs (mid:Int)+(Int.natAbs ((mid+(X.length+L.length):Nat):Int)+(Int.natAbs (lo:Int)+(Int.natAbs (hi:Int)+(Int.natAbs (((mid+(X.length+L.length):Nat):Int) - 1)+(List.length (X++L++R++Y)+2))))))))) (by omega)
    rw[h1,aK]
    dsimp only
    clear h1 hv
    obtain⟨L1,L2,rfl,hL1l⟩:=qN (l:=L) (n:=s - X.length) (by omega)
    obtain⟨R1,R2,rfl,hR1l⟩:=qN (l:=R) (n:=mid - s) (by simp only[ah9] at *;omega)
    simp only[ah9] at hn hlen hL1 hR1 hmid hcase e1 e2 e3 e4 eh hL0 hR0
    have F1:∀ y∈R1,∀ z∈L2,k y<k z:=by
     intro y hy z hz
     have hr0:0<R1.length:=aif hy
     have hl0:0<L2.length:=aif hz
     have:=hF1 L1.length (R1.length - 1) (by simp;omega) (by simp;omega) (by omega) (by omega)
     rw[List.getElem_append_left (show R1.length - 1<R1.length by omega),List.getElem_append_right (by omega)] at this
     obtain⟨i,hi',rfl⟩:=aiw.1 hy
     obtain⟨j,hj',rfl⟩:=aiw.1 hz
     have a1:=hR.left.get (i:=i) (j:=R1.length - 1) (by omega) (by omega)
     have a2:=hL.right.get (i:=L1.length - L1.length) (j:=j) (by omega) hj'
     omega
    have F2:∀ y∈L1,∀ z∈R2,k y≤k z:=by
     intro y hy z hz
     have hr0:0<L1.length:=aif hy
     have hl0:0<R2.length:=aif hz
     have:=hF2 (L1.length - 1) R1.length (by simp;omega) (by simp;omega) (by omega) (by omega)
     rw[List.getElem_append_left (show L1.length - 1<L1.length by omega),List.getElem_append_right (by omega)] at this
     obtain⟨i,hi',rfl⟩:=aiw.1 hy
     obtain⟨j,hj',rfl⟩:=aiw.1 hz
     have a1:=hL.left.get (i:=i) (j:=L1.length - 1) (by omega) (by omega)
     have a2:=hR.right.get (i:=R1.length - R1.length) (j:=j) (by omega) hj'
     omega
    have e5:w64 (((mid+(X.length+(L1++L2).length):Nat):Int) - (s:Int))=((X.length+(L1++L2).length+R1.length:Nat):Int):=by
     rw[av (by simp;omega) (by simp;omega)];simp only[ah9];omega
    rw[e5]
    have hokL1:∀ z∈L1,ok z:=fun z hz=>hokL z (by simp[hz])
    have hokL2:∀ z∈L2,ok z:=fun z hz=>hokL z (by simp[hz])
    have hokR1:∀ z∈R1,ok z:=fun z hz=>hokR z (by simp[hz])
    have hokR2:∀ z∈R2,ok z:=fun z hz=>hokR z (by simp[hz])
    have ph1:∃ S1,(X.length<s→s<mid→self (X++L1++R1++(L2++R2++Y),(X.length:Int),(s:Int),(mid:Int),(),ar,())=some (X++S1++(L2++R2++Y),()))∧(¬(X.length<s∧s<mid)→S1=L1++R1)∧Srt k S1∧bL k (L1++R1) S1:=by
     by_cases hb:X.length<s∧s<mid
     ·obtain⟨S1,g1,g2,g3⟩:=ih X L1 R1 (L2++R2++Y) (by omega) (by omega) (by omega) (by simp;omega) hL.left hR.left hokL1 hokR1
      rw[show ((X.length+L1.length:Nat):Int)=(s:Int) by omega,show ((X.length+L1.length+R1.length:Nat):Int)=(mid:Int) by omega] at g1
      exact⟨S1,fun _ _=>g1,fun h=>absurd hb h,g2,g3⟩
     ·refine⟨L1++R1,fun h1 h2=>absurd ⟨h1,h2⟩ hb,fun _=>rfl, ?_,bL.refl _ _⟩
      rcases (show L1.length=0∨R1.length=0 by omega) with h | h
      ·rw[ahI h];exact hR.left
      ·rw[ahI h,ahy];exact hL.left
    obtain⟨S1,hS1a,hS1b,hS1s,hS1e⟩:=ph1
    have hS1l:S1.length=L1.length+R1.length:=by rw[hS1e.length];simp
    have ph2:∃ S2,(bif decide ((mid:Int)<((X.length+(L1++L2).length+R1.length:Nat):Int)) then
     bif decide (((X.length+(L1++L2).length+R1.length:Nat):Int)<((X.length+(L1++L2).length+(R1++R2).length:Nat):Int)) then
      Option.bind (self (X++S1++(L2++R2++Y),(mid:Int),((X.length+(L1++L2).length+R1.length:Nat):Int),((X.length+(L1++L2).length+(R1++R2).length:Nat):Int),(),ar,())) fun r38=>some (r38.1,())
     else some (X++S1++(L2++R2++Y),())
     else some (X++S1++(L2++R2++Y),()))=some (X++(S1++S2)++Y,())∧Srt k S2∧bL k (L2++R2) S2:=by
     simp only[ah9]
     by_cases hb1:0<L2.length
     ·rw[aX (by omega)]
      by_cases hb2:0<R2.length
      ·rw[aX (by omega)]
       obtain⟨S2,g1,g2,g3⟩:=ih (X++S1) L2 R2 Y (by omega) hb1 hb2 (by simp;omega) hL.right hR.right hokL2 hokR2
       rw[show (((X++S1).length:Nat):Int)=(mid:Int) by simp;omega,show (((X++S1).length+L2.length:Nat):Int)=((X.length+(L1.length+L2.length)+R1.length:Nat):Int) by simp;omega,show (((X++S1).length+L2.length+R2.length:Nat):Int)=((X.length+(L1.length+L2.length)+(R1.length+R2.length):Nat):Int) by simp;omega] at g1
       rw[show X++S1++(L2++R2++Y)=X++S1++L2++R2++Y by simp,g1]
       exact⟨S2,by simp,g2,g3⟩
      ·have:R2=[]:=ahI (by omega)
       subst this
       rw[bh (by simp)]
       exact⟨L2,by simp,hL.right,by simpa using bL.refl k L2⟩
     ·have:L2=[]:=ahI (by omega)
      subst this
      rw[bh (by simp;omega)]
      exact⟨R2,by simp,hR.right,bL.refl _ _⟩
    obtain⟨S2,hE2,hS2s,hS2e⟩:=ph2
    have fin:Srt k (S1++S2)∧bL k (L1++L2++(R1++R2)) (S1++S2):=by
     constructor
     ·refine hS1s.append hS2s fun y hy z hz=> ?_
      rcases aip.1 (hS1e.mem.1 hy) with h | h<;>rcases aip.1 (hS2e.mem.1 hz) with h' | h'
      ·exact hL.La y h z h'
      ·exact F2 y h z h'
      ·have:=F1 y h z h';omega
      ·exact hR.La y h z h'
     ·have h1:bL k (L1++(L2++R1)++R2) (L1++(R1++L2)++R2):=((bL.refl k L1).append (bL.swap fun y hy z hz=>by have:=F1 z hz y hy;omega)).append (bL.refl k R2)
      have h2:=hS1e.append hS2e
      have h3:bL k (L1++L2++(R1++R2)) (L1++R1++(L2++R2)):=by simpa using h1
      exact h3.trans h2
    refine⟨S1++S2, ?_,fin.1,fin.2⟩
    have hsL:((X.length+(L1++L2).length:Nat):Int)=((X.length+L1.length+L2.length:Nat):Int):=by simp;omega
    have tail:∀ (D:List (Option Nat)),D=X++L1++R1++(L2++R2++Y)→
     (bif decide ((X.length:Int)<(s:Int)) then
       aI (β:=((List (Option Nat))×Unit)) (γ:=(Int×Unit×Int×Int×(List (Option Nat))×(List aq)×Unit)) (
        bif decide ((s:Int)<(mid:Int)) then
         Option.bind (self (D,(X.length:Int),(s:Int),(mid:Int),(),ar,())) fun r35=>
         some (Sum.inr (((X.length+(L1++L2).length+(R1++R2).length:Nat):Int),(),(mid:Int),((X.length+(L1++L2).length+R1.length:Nat):Int),r35.1,ar,()))
        else
         some (Sum.inr (((X.length+(L1++L2).length+(R1++R2).length:Nat):Int),(),(mid:Int),((X.length+(L1++L2).length+R1.length:Nat):Int),D,ar,()))) fun v36=>
       bif decide (v36.2.2.1<v36.2.2.2.1) then
        bif decide (v36.2.2.2.1<v36.1) then
         Option.bind (self (v36.2.2.2.2.1,v36.2.2.1,v36.2.2.2.1,v36.1,v36.2.1,v36.2.2.2.2.2.1,())) fun r37=>
         some (r37.1,())
        else
         some (v36.2.2.2.2.1,())
       else
        some (v36.2.2.2.2.1,())
     else
      bif decide ((mid:Int)<((X.length+(L1++L2).length+R1.length:Nat):Int)) then
       bif decide (((X.length+(L1++L2).length+R1.length:Nat):Int)<((X.length+(L1++L2).length+(R1++R2).length:Nat):Int)) then
        Option.bind (self (D,(mid:Int),((X.length+(L1++L2).length+R1.length:Nat):Int),((X.length+(L1++L2).length+(R1++R2).length:Nat):Int),(),ar,())) fun r38=>
        some (r38.1,())
       else
        some (D,())
      else
       some (D,()))=some (X++(S1++S2)++Y,()):=by
     intro D hD
     by_cases hb1:X.length<s
     ·rw[aX (by omega)]
      by_cases hb2:s<mid
      ·rw[aX (by omega),hD,hS1a hb1 hb2,ajq,aK]
       exact hE2
      ·rw[bh (by omega),aK,hD]
       have:X++L1++R1++(L2++R2++Y)=X++S1++(L2++R2++Y):=by rw[hS1b (fun h=>hb2 h.2)];simp
       rw[this]
       exact hE2
     ·rw[bh (by omega),hD]
      have:X++L1++R1++(L2++R2++Y)=X++S1++(L2++R2++Y):=by rw[hS1b (fun h=>hb1 h.1)];simp
      rw[this]
      exact hE2
    by_cases hsm:s<X.length+(L1++L2).length
    ·rw[aX (by omega)]
     by_cases hme:0<R1.length
     ·have hrot:=adJ (ar:=ar) (X++L1) L2 R1 (R2++Y) (by simp at hsm;omega) hme (by simp;omega)
      rw[show (((X++L1).length:Nat):Int)=(s:Int) by simp;omega,show (((X++L1).length+L2.length:Nat):Int)=((X.length+(L1++L2).length:Nat):Int) by simp;omega,show (((X++L1).length+L2.length+R1.length:Nat):Int)=((X.length+(L1++L2).length+R1.length:Nat):Int) by simp;omega,
       show X++L1++L2++R1++(R2++Y)=X++(L1++L2)++(R1++R2)++Y by simp] at hrot
      rw[aX (by omega),hrot,ajq,aK]
      exact tail _ (by simp)
     ·have:R1=[]:=ahI (by omega)
      subst this
      rw[bh (by simp),aK]
      exact tail _ (by simp)
    ·rw[bh (by omega)]
     have:L2=[]:=ahI (by simp at hsm;omega)
     subst this
     exact tail _ (by simp)
theorem RD (hc:zW k ar ok) (X L R Y:List (Option Nat)) (h1:0<L.length) (h2:0<R.length) (hlen:(X++L++R++Y).length<1000000000) (hL:Srt k L) (hR:Srt k R) (hokL:∀ z∈L,ok z) (hokR:∀ z∈R,ok z):
 ∃ S,dL (X++L++R++Y) (X.length:Int) ((X.length+L.length:Nat):Int) ((X.length+L.length+R.length:Nat):Int) () ar=some (X++S++Y,())∧Srt k S∧bL k (L++R) S:=by
 unfold dL
 exact Zo hc _ X L R Y (by unfold gh;simp only[ah9];omega) h1 h2 hlen hL hR hokL hokR
theorem Zl (hc:zW k ar ok) (N:Nat) (hN:N<100000000):∀ (n:Nat) (A Z:List (Option Nat)) (j:Nat),A.length=j*20→A.length+Z.length=N→Z.length<n→ChS k 20 A→(∀ z∈A,ok z)→(∀ z∈Z,ok z)→
 ∃ A' Z' j',iter (X:=fJ) (β:=fG) n ((N:Int),(),20,(A.length:Int),((A.length+20:Nat):Int),A++Z,ar,()) fD=some (Sum.inr ((N:Int),(),20,(A'.length:Int),A'++Z',ar,()))∧A'.length=j'*20∧Z'.length<20∧ChS k 20 A'∧bL k (A++Z) (A'++Z'):=by
 intro n
 induction n with
 | zero=>intro A Z j _ _ h;omega
 | succ n ih=>
  intro A Z j hA hAZ hn hch hokA hokZ
  rw[cl]
  generalize hag:(fun y=>iter n y fD)=again
  unfold fD
  dsimp only
  by_cases hb:20≤Z.length
  ·rw[aX (by omega)]
   obtain⟨S,Y,rfl,hS⟩:=qN (l:=Z) (n:=20) hb
   simp only[ah9] at hAZ hn
   obtain⟨S',g1,g2,g3⟩:=OF hc A S Y (by simp;omega) (fun z hz=>hokZ z (by simp[hz]))
   rw[hS] at g1
   rw[show A++(S++Y)=A++S++Y by simp,g1,ajq]
   dsimp only
   have hS':S'.length=20:=by rw[g3.length,hS]
   have e1:w64 (((A.length+20:Nat):Int)+20)=(((A++S').length+20:Nat):Int):=by rw[av (by omega) (by omega)];simp;omega
   rw[e1,show ((A.length+20:Nat):Int)=(((A++S').length:Nat):Int) by simp;omega, ← hag]
   obtain⟨A',Z',j',h1,h2,h3,h4,h5⟩:=ih (A++S') Y (j+1) (by simp;omega) (by simp;omega) (by omega) (hch.snoc hA g2 (by omega)) (fun z hz=>by
    rcases aip.1 hz with h | h
    ·exact hokA z h
    ·exact hokZ z (by simp[g3.mem.1 h])) (fun z hz=>hokZ z (by simp[hz]))
   refine⟨A',Z',j',h1,h2,h3,h4, ?_⟩
   have:bL k (A++S++Y) (A++S'++Y):=((bL.refl k A).append g3).append (bL.refl k Y)
   exact this.trans h5
  ·rw[bh (by omega)]
   exact⟨A,Z,j,rfl,hA,by omega,hch,bL.refl _ _⟩
theorem aay (hc:zW k ar ok) (N bs:Nat) (hN:N<100000000) (hbs:0<bs) (hbN:bs<N):∀ (n:Nat) (A Z:List (Option Nat)) (j:Nat),A.length=j*(2*bs)→A.length+Z.length=N→Z.length<n→ChS k (2*bs) A→ChS k bs Z→(∀ z∈A,ok z)→(∀ z∈Z,ok z)→
 ∃ A' Z' j',iter (X:=fL) (β:=fI) n ((N:Int),(),(bs:Int),(A.length:Int),((A.length+2*bs:Nat):Int),A++Z,ar,()) fF=some (Sum.inr ((N:Int),(),(bs:Int),(A'.length:Int),A'++Z',ar,()))∧A'.length=j'*(2*bs)∧Z'.length<2*bs∧ChS k (2*bs) A'∧ChS k bs Z'∧bL k (A++Z) (A'++Z'):=by
 intro n
 induction n with
 | zero=>intro A Z j _ _ h;omega
 | succ n ih=>
  intro A Z j hA hAZ hn hch hcz hokA hokZ
  rw[cl]
  generalize hag:(fun y=>iter n y fF)=again
  unfold fF
  dsimp only
  by_cases hb:2*bs≤Z.length
  ·rw[aX (by omega)]
   obtain⟨L,Z1,rfl,hL⟩:=qN (l:=Z) (n:=bs) (by omega)
   obtain⟨R,Y,rfl,hR⟩:=qN (l:=Z1) (n:=bs) (by simp at hb;omega)
   simp only[ah9] at hAZ hn hb
   have sL:Srt k L:=by
    have:=hcz 0
    rw[ajp,ahG, ← hL,aiR] at this
    exact this
   have sR:Srt k R:=by
    have:=hcz 1
    rw[ajj] at this
    conv at this=>arg 2;rw[show bs=L.length by omega,ahE,show L.length=R.length by omega,aiR]
    exact this
   have cY:ChS k bs Y:=by
    have:=hcz.drop 2
    rw[show L++(R++Y)=(L++R)++Y by simp,show 2*bs=(L++R).length by simp;omega,ahE] at this
    exact this
   obtain⟨S,g1,g2,g3⟩:=RD hc A L R Y (by omega) (by omega) (by simp;omega) sL sR (fun z hz=>hokZ z (by simp[hz])) (fun z hz=>hokZ z (by simp[hz]))
   have e0:w64 ((A.length:Int)+(bs:Int))=((A.length+L.length:Nat):Int):=by rw[av (by omega) (by omega)];omega
   rw[e0,show ((A.length+2*bs:Nat):Int)=((A.length+L.length+R.length:Nat):Int) by omega,show A++(L++(R++Y))=A++L++R++Y by simp,g1,ajq]
   dsimp only
   have hSl:S.length=2*bs:=by rw[g3.length];simp;omega
   have e1:w64 (((A.length+L.length+R.length:Nat):Int)+w64 (2*(bs:Int)))=(((A++S).length+2*bs:Nat):Int):=by
    rw[av (n:=2*(bs:Int)) (by omega) (by omega),av (by omega) (by omega)];simp;omega
   rw[e1,show ((A.length+L.length+R.length:Nat):Int)=(((A++S).length:Nat):Int) by simp;omega, ← hag]
   obtain⟨A',Z',j',h1,h2,h3,h4,h5,h6⟩:=ih (A++S) Y (j+1) (by rw[ah9,hA,hSl,aiX,ajj]) (by simp;omega) (by omega) (hch.snoc hA g2 (by omega)) cY (fun z hz=>by
    rcases aip.1 hz with h | h
    ·exact hokA z h
    ·rcases aip.1 (g3.mem.1 h) with h | h<;>exact hokZ z (by simp[h])) (fun z hz=>hokZ z (by simp[hz]))
   refine⟨A',Z',j',h1,h2,h3,h4,h5, ?_⟩
   have:bL k (A++(L++R)++Y) (A++S++Y):=((bL.refl k A).append g3).append (bL.refl k Y)
   have h7:=this.trans h6
   simpa using h7
  ·rw[bh (by omega)]
   exact⟨A,Z,j,rfl,hA,by omega,hch,hcz,bL.refl _ _⟩
theorem aax (hc:zW k ar ok) (N:Nat) (hN:N<100000000):∀ (n bs:Nat) (l:List (Option Nat)),l.length=N→0<bs→N<bs+n∧0<n→bs<400000000→ChS k bs l→(∀ z∈l,ok z)→
 ∃ l',iter (X:=fK) (β:=fH) n ((N:Int),(),(bs:Int),l,ar,()) fE=some (Sum.inr (l',ar,()))∧Srt k l'∧bL k l l':=by
 intro n
 induction n with
 | zero=>
  intro bs l hl hbs hn hb2 hch hok
  exact absurd hn (by omega)
 | succ n ih=>
  intro bs l hl hbs hn hb2 hch hok
  rw[cl]
  generalize hag:(fun y=>iter n y fE)=again
  unfold fE
  dsimp only
  by_cases hb:bs<N
  ·rw[aX (by omega)]
   have e0:w64 (2*(bs:Int))=(((([]:List (Option Nat)).length)+2*bs:Nat):Int):=by rw[av (by omega) (by omega)];simp
   rw[e0,show (0:Int)=((([]:List (Option Nat)).length:Nat):Int) from rfl]
   obtain⟨A,Z,j,h1,h2,h3,h4,h5,h6⟩:=aay hc N bs hN hbs hb (Int.natAbs (N:Int)+(Int.natAbs (bs:Int)+(Int.natAbs ((([]:List (Option Nat)).length:Nat):Int)+(Int.natAbs (((([]:List (Option Nat)).length)+2*bs:Nat):Int)+(List.length l+2))))) [] l 0 (by simp) (by simpa using hl) (by omega) (ChS.nil _ _) hch (by simp) hok
   rw[aiE] at h1 h6
   rw[h1,aK]
   dsimp only
   have hAZ:A.length+Z.length=N:=by have:=h6.length;simp at this;omega
   have hokAZ:∀ z∈A++Z,ok z:=fun z hz=>hok z (h6.mem.1 hz)
   have e1:w64 ((A.length:Int)+(bs:Int))=((A.length+bs:Nat):Int):=by rw[av (by omega) (by omega)];omega
   have e2:w64 ((bs:Int)*2)=((2*bs:Nat):Int):=by rw[av (by omega) (by omega)];omega
   rw[e1,e2]
   by_cases hlast:A.length+bs<N
   ·rw[aX (by omega)]
    obtain⟨L,R,rfl,hL⟩:=qN (l:=Z) (n:=bs) (by omega)
    simp only[ah9] at hAZ h3
    have sL:Srt k L:=by
     have:=h5 0
     rw[ajp,ahG, ← hL,aiR] at this
     exact this
    have sR:Srt k R:=by
     have:=h5 1
     rw[ajj] at this
     conv at this=>arg 2;rw[show List.drop bs (L++R)=R by rw[← hL];exact ahE,aiT (by omega)]
     exact this
    obtain⟨S,g1,g2,g3⟩:=RD hc A L R [] (by omega) (by omega) (by simp;omega) sL sR (fun z hz=>hokAZ z (by simp[hz])) (fun z hz=>hokAZ z (by simp[hz]))
    simp only[ahy] at g1
    rw[show ((A.length+bs:Nat):Int)=((A.length+L.length:Nat):Int) by omega,show ((N:Nat):Int)=((A.length+L.length+R.length:Nat):Int) by omega,show A++(L++R)=A++L++R by simp,g1,ajq, ← hag]
    have hsam:bL k l (A++S):=h6.trans (by simpa using (bL.refl k A).append g3)
    obtain⟨l',q1,q2,q3⟩:=ih (2*bs) (A++S) (by rw[hsam.length];exact hl) (by omega) ⟨by omega,by omega⟩ (by omega) (h4.snoc h2 g2 (by rw[g3.length];simp;omega)) (fun z hz=>hok z (hsam.mem.1 hz))
    rw[show ((A.length+L.length+R.length:Nat):Int)=((N:Nat):Int) by omega]
    exact⟨l',q1,q2,hsam.trans q3⟩
   ·rw[bh (by omega), ← hag]
    have sZ:Srt k Z:=by
     have:=h5 0
     rw[ajp,ahG,aiT (by omega)] at this
     exact this
    obtain⟨l',q1,q2,q3⟩:=ih (2*bs) (A++Z) (by simp;omega) (by omega) ⟨by omega,by omega⟩ (by omega) (h4.snoc h2 sZ (by omega)) hokAZ
    exact⟨l',q1,q2,h6.trans q3⟩
  ·rw[bh (by omega)]
   refine⟨l,rfl, ?_,bL.refl _ _⟩
   have:=hch 0
   rw[ajp,ahG,aiT (by omega)] at this
   exact this
theorem Xw (hc:zW k ar ok) (l:List (Option Nat)) (hl:l.length<100000000) (hok:∀ z∈l,ok z):∃ l',dR l () ar=some (l',())∧Srt k l'∧bL k l l':=by
 unfold dR jg
 obtain⟨A,Z,j,h1,h2,h3,h4,h5⟩:=Zl hc l.length hl (Int.natAbs (l.length:Int)+(Int.natAbs (20:Int)+(Int.natAbs (0:Int)+(Int.natAbs (20:Int)+(List.length l+2))))) [] l 0 (by simp) (by simp) (by omega) (ChS.nil _ _) (by simp) hok
 simp only[aie,aiE] at h1 h5
 rw[show ((0+20:Nat):Int)=20 from rfl,show ((0:Nat):Int)=0 from rfl] at h1
 rw[h1,aK]
 dsimp only
 have hAZ:A.length+Z.length=l.length:=by have:=h5.length;simp at this;omega
 obtain⟨Z',g1,g2,g3⟩:=OF hc A Z [] (by simp;omega) (fun z hz=>hok z (h5.mem.1 (by simp[hz])))
 simp only[ahy] at g1
 rw[show ((A.length+Z.length:Nat):Int)=(l.length:Int) by omega] at g1
 rw[g1,ajq]
 dsimp only
 have hsam:bL k l (A++Z'):=h5.trans ((bL.refl k A).append g3)
 obtain⟨l',q1,q2,q3⟩:=aax hc l.length hl (Int.natAbs (l.length:Int)+(Int.natAbs (20:Int)+(List.length (A++Z')+2))) 20 (A++Z') hsam.length (by omega) ⟨by omega,by omega⟩ (by omega) (h4.snoc h2 g2 (by rw[g3.length];omega)) (fun z hz=>hok z (hsam.mem.1 hz))
 rw[show ((20:Nat):Int)=20 from rfl] at q1
 rw[q1,aK]
 exact⟨l',rfl,q2,hsam.trans q3⟩
end
end Go.Md.SL
set_option linter.all false
namespace Go.Md
open Go.Dn
theorem Srt.congr {α:Type} {k k':α→Int} {l:List α} (h:∀ x,x∈l→k x=k' x) (hs:Srt k l):Srt k' l:=
 List.Pairwise.imp_of_mem (fun {a b} ha hb hab=>by rw[← h a ha, ← h b hb];exact hab) hs
theorem bL.congr {α:Type} {k k':α→Int} {l l':List α} (h:∀ x,x∈l→k x=k' x) (hs:bL k l l'):bL k' l l':=
 ⟨hs.perm,fun v=>by
   have e1:l'.filter (fun x=>k' x==v)=l'.filter (fun x=>k x==v):=List.filter_congr fun x hx=>by rw[h x (hs.mem.1 hx)]
   have e2:l.filter (fun x=>k' x==v)=l.filter (fun x=>k x==v):=List.filter_congr fun x hx=>by rw[h x hx]
   rw[e1,e2];exact hs.keys v⟩
abbrev lu (day:Int) (x:ai):Bool:=decide (0<x.opn∧x.due≤day)
def xC (day:Int) (A:List ai):List ai:=mR ai.due ((aH A).filter (lu day)) []
theorem Lp (day:Int) (A:List ai):Srt ai.due (xC day A)∧bL ai.due ((aH A).filter (lu day)) (xC day A):=TP _ List.Pairwise.nil
theorem Ys {day:Int} {A:List ai} {x:ai} (h:x∈xC day A):x∈A∧0<x.opn∧x.due≤day:=by
 have:=(Lp day A).2.mem.1 h
 obtain⟨h1,h2⟩:=aiu.1 this
 exact⟨(bG A).mem_iff.1 h1,ajU h2⟩
theorem RZ {day:Int} {A:List ai} (hI:Ids A):(xC day A).length≤500:=by
 have h1:=(Lp day A).2.length
 have h2:=aic (lu day) (aH A)
 have h3:=(bG A).length_eq
 have:=hI.len
 omega
abbrev hOf (A:List ai) (x:ai):Option Nat:=dH x.no A
theorem P6 {A:List ai} (hI:Ids A) {x:ai} (hx:x∈A):∃ j,hOf A x=some j∧A[j]? =some x:=II hI ((bG A).mem_iff.2 hx)
def YI (A:List ai) (z:Option Nat):Int:=((z.bind fun j=>A[j]?).map ai.due).getD 0
theorem P9 {A:List ai} (hI:Ids A) {x:ai} (hx:x∈A):YI A (hOf A x)=x.due:=by
 obtain⟨j,h1,h2⟩:=P6 hI hx
 unfold YI
 rw[h1,ajq,h2];rfl
variable {l:List aa} {A:List ai}
theorem aec (hI:Ids A) (hF:∀ x,x∈A→1≤x.due∧x.due≤3652059) (day:Int):dR (((aH A).filter (lu day)).map (hOf A)) () (A.map ai.tup)=some ((xC day A).map (hOf A),()):=by
 have hmem:∀ x,x∈(aH A).filter (lu day)→x∈A:=fun x hx=>(bG A).mem_iff.1 (aiu.1 hx).1
 have hmem2:∀ x,x∈xC day A→x∈A:=fun x hx=>(Ys hx).1
 have hlen:(((aH A).filter (lu day)).map (hOf A)).length<100000000:=by
  have h2:=aic (lu day) (aH A)
  have h3:=(bG A).length_eq
  have:=hI.len
  rw[aid];omega
 obtain⟨l',e1,e2,e3⟩:=SL.Xw (k:=YI A) (ar:=A.map ai.tup) (ok:=fun z=>∃ x,x∈A∧z=hOf A x) (fun a b ⟨x,hx,ha⟩ ⟨y,hy,hb⟩=>by
  obtain⟨i,h1,h2⟩:=P6 hI hx
  obtain⟨j,h3,h4⟩:=P6 hI hy
  have f1:=hF x hx;have f2:=hF y hy
  refine⟨x.due - y.due, ?_, ?_⟩
  ·unfold dZ
   rw[ha,h1,ajq,fV h2,ajq,hb,h3,ajq,fV h4,ajq]
   show some (w64 (x.due - y.due),())=_
   rw[av (by omega) (by omega)]
  ·rw[ha,hb,P9 hI hx,P9 hI hy];omega) (((aH A).filter (lu day)).map (hOf A)) hlen (fun z hz=>by
  obtain⟨x,hx,rfl⟩:=aiy.1 hz
  exact⟨x,hmem x hx,rfl⟩)
 rw[e1]
 obtain⟨s1,s2⟩:=Lp day A
 have t1:Srt (YI A) ((xC day A).map (hOf A)):=Srt.OU (Srt.congr (fun x hx=>(P9 hI (hmem2 x hx)).symm) s1)
 have t2:bL (YI A) (((aH A).filter (lu day)).map (hOf A)) ((xC day A).map (hOf A)):=bL.OU (bL.congr (fun x hx=>(P9 hI (hmem x hx)).symm) s2)
 rw[Pj e2 t1 e3 t2]
theorem abv (hg:Good l A) (hI:Ids A) (hF:∀ x,x∈A→1≤x.due∧x.due≤3652059) (o:aj) (l2:List aa) (ref:List ah) (pts:List aC) (wt day:Int):
 lB (o,l2,mapOf A,ref,pts,wt,()) day (A.map ai.tup)=some ((xC day A).map (hOf A),(o,l2,mapOf A,ref,pts,wt,()),A.map ai.tup,()):=by
 obtain⟨o1,o2,o3,o4,o5,o6⟩:=o
 have nq:maxLen=9223372036854775807:=rfl
 have hSl:(aH A).length≤500:=by rw[(bG A).length_eq];exact hI.len
 have hHl:(o7 A).length=(aH A).length:=by unfold o7;rw[aid]
 unfold lB
 dsimp only
 rw[oa hI (o1,o2,o3,o4,o5,o6) l2,ajq]
 dsimp only
 have loop:∀ n,(aH A).length<n→iter (X:=gA) (β:=jF) n (day,[],((o7 A).length:Int),0,o1,o2,o3,o4,o5,o6,l2,wt,ref,pts,o7 A,mapOf A,A.map ai.tup,()) jE=
  some (Sum.inr (((aH A).filter (lu day)).map (hOf A),o1,o2,o3,o4,o5,o6,l2,wt,ref,pts,mapOf A,A.map ai.tup,())):=by
  intro n hn
  refine bS (Inv:=fun i X=>X=((day,(((aH A).take i).filter (lu day)).map (hOf A),((o7 A).length:Int),(i:Int),o1,o2,o3,o4,o5,o6,l2,wt,ref,pts,o7 A,mapOf A,A.map ai.tup,()):gA)) (aH A).length
   (fun z=>z=some (Sum.inr (((aH A).filter (lu day)).map (hOf A),o1,o2,o3,o4,o5,o6,l2,wt,ref,pts,mapOf A,A.map ai.tup,()))) ?_ ?_ n 0 _ rfl (ajo _) (by omega)
  ·rintro i X again hi rfl hag
   unfold jE
   dsimp only
   have hx:(aH A)[i]? =some (aH A)[i]:=ahX hi
   generalize (aH A)[i]=x at hx
   obtain⟨k,hk,hkx,_,hm⟩:=OB hg hI hx
   have hlen:((((aH A).take i).filter (lu day)).map (hOf A)).length≤i:=by
    rw[aid]
    have:=aic (lu day) ((aH A).take i)
    rw[aik] at this
    omega
   have e:(aH A).take (i+1)=(aH A).take i++[x]:=gG hx
   have hkk:some k=hOf A x:=by
    unfold o7 at hk
    rw[ah0,hx] at hk
    exact (Option.some.inj hk).symm
   rw[hHl,ajG (show (i:Int)<((aH A).length:Int) by omega),ajC,bK (by rw[agW];exact⟨ajG (by omega),rfl⟩),ahs,hk,ajq,lN hkx (hg.sound.line x hm).1,ajq]
   dsimp only
   rw[av (n:=(i:Int)+1) (by omega) (by omega)]
   by_cases c:lu day x=true
   ·obtain⟨c1,c2⟩:=ajU c
    have e2:(((aH A).take i).filter (lu day)).map (hOf A)++[some k]=(((aH A).take (i+1)).filter (lu day)).map (hOf A):=by
     rw[e,ahK,ail,ahL,ajO c,hkk];rfl
    rw[ajG (show x.opn>0 from c1),ajC,ajq,fV hkx,ajq,ajq]
    dsimp only
    rw[ajG c2,ajC,bK (by rw[agW];exact⟨ajG (by omega),ajG (by omega)⟩),e2, ← hHl]
    exact hag _ rfl
   ·have e2:(((aH A).take i).filter (lu day)).map (hOf A)=(((aH A).take (i+1)).filter (lu day)).map (hOf A):=by
     rw[e,ahK,ail,ahL,ajN c];simp
    by_cases c1:0<x.opn
    ·have c2:¬x.due≤day:=fun h=>c (ajG ⟨c1,h⟩)
     rw[ajG (show x.opn>0 from c1),ajC,ajq,fV hkx,ajq,ajq]
     dsimp only
     rw[ajE c2,ajB,e2, ← hHl]
     exact hag _ rfl
    ·rw[ajE (show ¬x.opn>0 from c1),ajB,ajq]
     dsimp only
     rw[ajB,e2, ← hHl]
     exact hag _ rfl
  ·rintro X again rfl
   unfold jE
   dsimp only
   rw[hHl,ajE (show ¬((aH A).length:Int)<((aH A).length:Int) by omega),ajB,aiS]
 rw[loop _ (by omega),aK]
 dsimp only
 rw[aec hI hF day,ajq]
def ou (x:ai):fO:=(x.no,bM x.opn,x.due)
theorem Za (o:aj) (l:List aa) (day:Int):Ir o l day=some (if lnF o l day=0 then (xC day (fe o l 0 day).1).map ou else [],lnF o l day,()):=by
 have nq:maxLen=9223372036854775807:=rfl
 unfold Ir
 rw[Ew]
 unfold lnF
 by_cases h:dX o l=0
 rotate_left
 ·rw[ajO (show dX o l≠0 from h),ajO (show dX o l≠0 from h)]
  show (bif dX o l != 0 then _ else _)=_
  rw[cI h,ajC,ajN h]
 rw[ajN (show ¬dX o l≠0 from fun e=>e h),ajN (show ¬dX o l≠0 from fun e=>e h)]
 by_cases hd:1≤day∧day≤3652059
 rotate_left
 ·rw[ajO hd,ajN hd];rfl
 rw[ajN (show ¬¬(1≤day∧day≤3652059) from fun e=>e hd),ajO hd,ajO rfl]
 refine Eq.trans LY ?_
 rw[Js h hd,ajq]
 dsimp only
 rw[zne,ajB]
 obtain⟨hg,hI⟩:=nQ h 0 day
 have hF:∀ x,x∈(fe o l 0 day).1→1≤x.due∧x.due≤3652059:=fun x hx=>by
  have h1:=(afT h 0 day x hx).due
  have h2:=(nH (pQ h).1).1
  omega
 rw[abv hg hI hF o l,ajq]
 generalize (fe o l 0 day).1=A at hg hI hF
 dsimp only
 generalize hD:xC day A=D
 have hm:∀ x,x∈D→x∈A:=fun x hx=>by rw[← hD] at hx;exact (Ys hx).1
 have hDl:D.length≤500:=by rw[← hD];exact RZ hI
 have hml:(D.map (hOf A)).length=D.length:=aid _
 have loop:∀ n,D.length<n→iter (X:=vG) (β:=AH) n ([],((D.map (hOf A)).length:Int),0,D.map (hOf A),A.map ai.tup,()) AG=some (Sum.inr (D.map ou,A.map ai.tup,())):=by
  intro n hn
  refine bS (Inv:=fun i X=>X=(((D.take i).map ou,((D.map (hOf A)).length:Int),(i:Int),D.map (hOf A),A.map ai.tup,()):vG)) D.length (fun z=>z=some (Sum.inr (D.map ou,A.map ai.tup,()))) ?_ ?_ n 0 _ rfl (ajo _) (by omega)
  ·rintro i X again hi rfl hag
   unfold AG
   dsimp only
   have hx:D[i]? =some D[i]:=ahX hi
   generalize D[i]=x at hx
   have hxA:=hm x (aiz hx)
   obtain⟨k,hk,hkx⟩:=P6 hI hxA
   have hk':(D.map (hOf A))[i]? =some (some k):=by rw[ah0,hx,ajw,hk]
   obtain⟨p1,p2⟩:=Pf (hg.sound.line x hxA).1
   have hlen:((D.take i).map ou).length=i:=by rw[aid,aik];omega
   rw[ajG (show (i:Int)<((D.map (hOf A)).length:Int) by omega),ajC,bK (by rw[agW];exact⟨ajG (by omega),rfl⟩),ahs,hk',ajq,ajq,fV hkx,ajq,lN hkx (hg.sound.line x hxA).1,ajq]
   dsimp only
   rw[pz p1 (by omega),ajq,ajq,fV hkx,ajq,hlen,bK (by rw[agW];exact⟨ajG (by omega),ajG (by omega)⟩),av (n:=(i:Int)+1) (by omega) (by omega)]
   have e:(D.take i).map ou++[(x.no,bM x.opn,x.due)]=(D.take (i+1)).map ou:=by rw[gG hx,ail];rfl
   dsimp only
   rw[e]
   exact hag _ rfl
  ·rintro X again rfl
   unfold AG
   dsimp only
   rw[hml,ajE (show ¬(D.length:Int)<(D.length:Int) by omega),ajB,aiS]
 rw[loop _ (by omega),aK]
end Go.Md
set_option linter.all false
namespace Go.Md
open Go.Dn
theorem fuel1 (a b c:Nat) (h:0<c):b<a+(b+c):=by omega
abbrev gN (s:bn):Int:=s.2.2.2.2.2.1
theorem acX {day len i:Int} {M out:List bn} {s:bn} (ho:out.length≤500):∀ (r:List bn) (n:Nat),r.length≤out.length→out.take r.length=r.reverse→r.length<n→
 iter (X:=xh) (β:=xg) n (day,out,(r.length:Int),len,i,s.1,s.2.1,s.2.2.1,s.2.2.2.1.1,s.2.2.2.1.2,s.2.2.2.2.1.1,s.2.2.2.2.1.2,s.2.2.2.2.2.1,s.2.2.2.2.2.2.1.1,s.2.2.2.2.2.2.1.2,s.2.2.2.2.2.2.2.1.1,s.2.2.2.2.2.2.2.1.2,s.2.2.2.2.2.2.2.2.1.1,s.2.2.2.2.2.2.2.2.1.2,s.2.2.2.2.2.2.2.2.2.1,s.2.2.2.2.2.2.2.2.2.2,M,()) rS=
  some (Sum.inr (day,out,(rR gN (gN s) r:Int),len,i,s.1,s.2.1,s.2.2.1,s.2.2.2.1.1,s.2.2.2.1.2,s.2.2.2.2.1.1,s.2.2.2.2.1.2,s.2.2.2.2.2.1,s.2.2.2.2.2.2.1.1,s.2.2.2.2.2.2.1.2,s.2.2.2.2.2.2.2.1.1,s.2.2.2.2.2.2.2.1.2,s.2.2.2.2.2.2.2.2.1.1,s.2.2.2.2.2.2.2.2.1.2,s.2.2.2.2.2.2.2.2.2.1,s.2.2.2.2.2.2.2.2.2.2,M,())):=by
 intro r
 induction r with
 | nil=>
  intro n _ _ hn
  obtain⟨n,rfl⟩:∃ m,n=m+1:=⟨n - 1,by omega⟩
  rw[cl]
  unfold rS
  rfl
 | cons e r ih=>
  intro n hl ht hn
  rw[aia] at hl hn ht
  obtain⟨n,rfl⟩:∃ m,n=m+1:=⟨n - 1,by omega⟩
  rw[cl]
  generalize hag:(fun y=>iter n y rS)=again
  have he:out[r.length]? =some e:=by
   have:=congrArg (·[r.length]?) ht
   simpa [ahT] using this
  have ht':out.take r.length=r.reverse:=by
   have:=congrArg (List.take r.length) ht
   have h2:(r.reverse++[e]).take r.length=r.reverse:=by
    rw[show r.length=r.reverse.length by simp,aiR]
   rw[aiV,ajd (by omega),List.reverse_cons,h2] at this
   exact this
  unfold rS
  dsimp only
  rw[aia,ajG (show ((r.length+1:Nat):Int)>0 by omega),ajC,av (n:=((r.length+1:Nat):Int) - 1) (by omega) (by omega),show ((r.length+1:Nat):Int) - 1=(r.length:Int) by omega,
   bK (by rw[agW];exact⟨ajG (by omega),ajG (by omega)⟩),ahs,he,ajq,ajq]
  dsimp only
  by_cases h:gN s<gN e
  ·have e1:rR gN (gN s) (e::r)=rR gN (gN s) r:=by simp only[rR];rw[ajO h]
   rw[e1,show decide (s.2.2.2.2.2.1<e.2.2.2.2.2.1)=true from ajG h,ajC, ← hag]
   exact ih n (by omega) ht' (by omega)
  ·have e1:rR gN (gN s) (e::r)=r.length+1:=by simp only[rR];rw[ajN h]
   rw[e1,show decide (s.2.2.2.2.2.1<e.2.2.2.2.2.1)=false from ajE h,ajB]
abbrev p7 (day:Int) (s:bn):Bool:=decide (s.2.2.2.2.2.2.2.2.2.1≠0∧gN s≤day)
theorem aar {day:Int} {M:List bn} (hM:M.length≤500):∀ n,M.length<n→iter (X:=rT) (β:=xe) n (day,[],(M.length:Int),0,M,()) xd=some (Sum.inr (mR gN (M.filter (p7 day)) [],())):=by
 intro n hn
 refine bS (Inv:=fun i X=>X=((day,mR gN ((M.take i).filter (p7 day)) [],(M.length:Int),(i:Int),M,()):rT)) M.length (fun z=>z=some (Sum.inr (mR gN (M.filter (p7 day)) [],()))) ?_ ?_ n 0 _ rfl (ajo _) (by omega)
 ·rintro i X again hi rfl hag
  unfold xd
  dsimp only
  have hx:M[i]? =some M[i]:=ahX hi
  generalize M[i]=s at hx
  have e:M.take (i+1)=M.take i++[s]:=gG hx
  have hol:(mR gN ((M.take i).filter (p7 day)) []).length≤499:=by
   rw[abH]
   have:=aic (p7 day) (M.take i)
   rw[aik] at this
   simp only[aie]
   omega
  generalize hout:mR gN ((M.take i).filter (p7 day)) []=out at hol
  rw[ajG (show (i:Int)<(M.length:Int) by omega),ajC,bK (by rw[agW];exact⟨ajG (by omega),rfl⟩),ahs,hx,ajq]
  by_cases c1:s.2.2.2.2.2.2.2.2.2.1=0
  ·rw[show (s.2.2.2.2.2.2.2.2.2.1==0)=true by simpa using c1,ajC,av (n:=(i:Int)+1) (by omega) (by omega)]
   have e2:out=mR gN ((M.take (i+1)).filter (p7 day)) []:=by
    rw[e,ahK,ahL,ajN (show ¬p7 day s=true from fun h=>(ajU h).1 c1),ahN,ahy];exact hout.symm
   rw[e2]
   exact hag _ rfl
  ·rw[cr c1,ajB]
   by_cases c2:day<s.2.2.2.2.2.1
   ·rw[ajG (show s.2.2.2.2.2.1>day from c2),ajC,av (n:=(i:Int)+1) (by omega) (by omega)]
    have e2:out=mR gN ((M.take (i+1)).filter (p7 day)) []:=by
     rw[e,ahK,ahL,ajN (show ¬p7 day s=true from fun h=>by
      have:gN s≤day:=(ajU h).2
      have c2:day<gN s:=c2
      omega),ahN,ahy];exact hout.symm
    rw[e2]
    exact hag _ rfl
   ·rw[ajE (show ¬s.2.2.2.2.2.1>day from c2),ajB]
    have hpl:=acX (day:=day) (len:=(M.length:Int)) (i:=(i:Int)) (M:=M) (out:=out) (s:=s) (by omega) out.reverse
    rw[aii,List.reverse_reverse,aiS] at hpl
    rw[hpl _ (ai5 _) rfl (fuel1 _ _ _ (by with_reducible repeat (first | exact Nat.zero_lt_two | refine Nat.add_pos_right _ ?_))),aK]
    dsimp only
    have hp:=KP gN (gN s) out.reverse
    rw[aii] at hp
    have hins:o9 out (rR gN (gN s) out.reverse:Int) [s]=some (OE gN s out,()):=by
     show (bif _ then _ else _)=_
     rw[show (decide (0≤((rR gN (gN s) out.reverse:Nat):Int))&&(decide (((rR gN (gN s) out.reverse:Nat):Int)≤(out.length:Int))&&(decide (0<[s].length)&&(decide ((out.length+[s].length)*144≤140737488355328)&&decide (out.length+[s].length≤4611686018427387904)))))=true by
      simp only[agW,ajH,List.length_singleton];omega,ajC,ahs]
     rfl
    refine bs hins ?_
    rw[av (n:=(i:Int)+1) (by omega) (by omega)]
    have e2:OE gN s out=mR gN ((M.take (i+1)).filter (p7 day)) []:=by
     rw[e,ahK,ahL,ajO (show p7 day s=true from ajG ⟨c1,by show s.2.2.2.2.2.1≤day;omega⟩),ahN]
     unfold mR at hout ⊢
     rw[ahQ,hout];rfl
    dsimp only
    rw[e2]
    exact hag _ rfl
 ·rintro X again rfl
  unfold xd
  dsimp only
  rw[ajE (show ¬(M.length:Int)<(M.length:Int) by omega),ajB,aiS]
theorem abw {l:List aa} {A:List ai} (hg:Good l A) (day:Int):mR gN (((aH A).map aW).filter (p7 day)) []=(xC day A).map aW:=by
 have hf:((aH A).map aW).filter (p7 day)=((aH A).filter (lu day)).map aW:=by
  rw[List.filter_map]
  refine congrArg (List.map aW) (List.filter_congr fun x hx=> ?_)
  have hm:=(bG A).mem_iff.1 hx
  obtain⟨p1,_⟩:=Pf (hg.sound.line x hm).1
  have hs:=(Gp 3 x.opn).2
  show decide ((few 3 x.opn).1≠0∧x.due≤day)=decide (0<x.opn∧x.due≤day)
  rw[ajD]
  constructor
  ·rintro⟨h1,h2⟩;exact⟨by
    rcases Int.lt_or_le 0 x.opn with h | h
    ·exact h
    ·exact absurd (hs.2 (by omega)) h1,h2⟩
  ·rintro⟨h1,h2⟩;exact⟨fun h=>by have:=hs.1 h;omega,h2⟩
 rw[hf]
 obtain⟨s1,s2⟩:=Lp day A
 obtain⟨t1,t2⟩:=TP (k:=gN) (((aH A).filter (lu day)).map aW) (out:=[]) List.Pairwise.nil
 exact Pj t1 (Srt.OU (k:=gN) (f:=aW) s1) t2 (bL.OU (k:=gN) (f:=aW) s2)
theorem adH {o:aj} {l l2:List aa} {P:Int→List aC} {A:List ai} {L:List ak} {ref:List ah} (h:sK l P A L) (hg:Good l A) (hI:Ids A) (day:Int):CW (o,l2,L,ref) day=some ((xC day A).map aW,()):=by
 have hSl:(aH A).length≤500:=by rw[(bG A).length_eq];exact hI.len
 unfold CW
 rw[Pw h hI,ajq]
 dsimp only
 rw[aar (by rw[aid];exact hSl) _ (by omega),aK,abw hg day]
theorem adF (o:aj) (l:List aa) (day:Int) (tx:∀ d,d∈l→Txt d):Ut o l day=some (if lnF o l day=0 then (xC day (fe o l 0 day).1).map ou else [],lnF o l day,()):=by
 have nq:maxLen=9223372036854775807:=rfl
 unfold Ut
 rw[AY o l day tx,ajq]
 dsimp only
 by_cases h:lnF o l day=0
 rotate_left
 ·rw[cI h,ajC,ajN h]
 obtain⟨h1,_⟩:=Cd h
 obtain⟨L,e1,e2⟩:=IA h1 day
 obtain⟨hg,hI⟩:=nQ h1 0 day
 rw[ajO h,h,zne,ajB,e1,ajq]
 dsimp only
 rw[adH e2 hg hI day,ajq]
 clear e1 e2
 generalize (fe o l 0 day).1=A at hg hI
 dsimp only
 have hDl:=RZ (day:=day) hI
 generalize xC day A=D at hDl
 have hml:(D.map aW).length=D.length:=aid _
 have loop:∀ n,D.length<n→iter (X:=DX) (β:=Ix) n ([],((D.map aW).length:Int),0,D.map aW,()) Iw=some (Sum.inr (D.map ou,())):=by
  intro n hn
  refine bS (Inv:=fun i X=>X=(((D.take i).map ou,((D.map aW).length:Int),(i:Int),D.map aW,()):DX)) D.length (fun z=>z=some (Sum.inr (D.map ou,()))) ?_ ?_ n 0 _ rfl (ajo _) (by omega)
  ·rintro i X again hi rfl hag
   unfold Iw
   dsimp only
   have hx:D[i]? =some D[i]:=ahX hi
   generalize D[i]=x at hx
   have hk':(D.map aW)[i]? =some (aW x):=by rw[ah0,hx];rfl
   have hlen:((D.take i).map ou).length=i:=by rw[aid,aik];omega
   rw[ajG (show (i:Int)<((D.map aW).length:Int) by omega),ajC,bK (by rw[agW];exact⟨ajG (by omega),rfl⟩),ahs,hk',ajq,hlen,bK (by rw[agW];exact⟨ajG (by omega),ajG (by omega)⟩),av (n:=(i:Int)+1) (by omega) (by omega)]
   have e:(D.take i).map ou++[((aW x).1,(aW x).2.2.2.2.2.2.2.2.2,(aW x).2.2.2.2.2.1)]=(D.take (i+1)).map ou:=by rw[gG hx,ail];rfl
   rw[e]
   exact hag _ rfl
  ·rintro X again rfl
   unfold Iw
   dsimp only
   rw[hml,ajE (show ¬(D.length:Int)<(D.length:Int) by omega),ajB,aiS]
 rw[loop _ (by omega),aK]
end Go.Md
set_option linter.all false
namespace Go.Md
open Go.Dn
theorem JC (l:List fO) (hl:l.length≤2001):mD l l=some (true,()):=by
 unfold mD
 rw[show ((l.length:Int) != (l.length:Int))=false by simp,ajB]
 have:∀ n,l.length<n→iter (X:=gW) (β:=jX) n (l,l,(l.length:Int),0,()) jW=some (Sum.inr ()):=by
  intro n hn
  refine bS (Inv:=fun i X=>X=((l,l,(l.length:Int),(i:Int),()):gW)) l.length (fun z=>z=some (Sum.inr ())) ?_ ?_ n 0 _ rfl (ajo _) (by omega)
  ·rintro i X again hi rfl hag
   unfold jW
   dsimp only
   have hy:l[i]? =some l[i]:=ahX hi
   rw[ajG (show (i:Int)<(l.length:Int) by omega),ajC,bR hy,ajq,ajq]
   simp only[ajz,Bool.and_self,ag7,ajB]
   rw[av (n:=(i:Int)+1) (by omega) (by omega)]
   exact hag _ rfl
  ·rintro X again rfl
   unfold jW
   dsimp only
   rw[ajE (show ¬(l.length:Int)<(l.length:Int) by omega),ajB]
 rw[this _ (by omega),aK]
theorem zU (l:List Int) (hl:l.length≤2001):ox l l=some (true,()):=by
 unfold ox
 rw[show ((l.length:Int) != (l.length:Int))=false by simp,ajB]
 have:∀ n,l.length<n→iter (X:=kM) (β:=oU) n (l,l,(l.length:Int),0,()) oT=some (Sum.inr ()):=by
  intro n hn
  refine bS (Inv:=fun i X=>X=((l,l,(l.length:Int),(i:Int),()):kM)) l.length (fun z=>z=some (Sum.inr ())) ?_ ?_ n 0 _ rfl (ajo _) (by omega)
  ·rintro i X again hi rfl hag
   unfold oT
   dsimp only
   have hy:l[i]? =some l[i]:=ahX hi
   rw[ajG (show (i:Int)<(l.length:Int) by omega),ajC,bR hy,ajq,ajq,show (l[i] != l[i])=false by simp,ajB,av (n:=(i:Int)+1) (by omega) (by omega)]
   exact hag _ rfl
  ·rintro X again rfl
   unfold oT
   dsimp only
   rw[ajE (show ¬(l.length:Int)<(l.length:Int) by omega),ajB]
 rw[this _ (by omega),aK]
abbrev OI (day:Int) (x:ai):Bool:=decide (0<x.opn∧x.due<day)
def p9 (day:Int) (M:List ai):List Int:=(M.filter (OI day)).map ai.no
theorem OP (day:Int) (M:List ai):(p9 day M).length≤M.length:=by
 unfold p9
 rw[aid]
 exact aic _ _
theorem Wy {day:Int} {M:List ai} {x:ai} (h:OI day x=true):p9 day (M++[x])=p9 day M++[x.no]:=by
 unfold p9;rw[ahK,ahL,ajO h,ail];rfl
theorem LL {day:Int} {M:List ai} {x:ai} (h:¬OI day x=true):p9 day (M++[x])=p9 day M:=by
 unfold p9;rw[ahK,ahL,ajN h,ahN,ahy]
theorem Uj (o:aj) (l:List aa) (day:Int):AI o l day=some (if lnF o l day=0 then p9 day (aH (fe o l 0 day).1) else [],lnF o l day,()):=by
 have nq:maxLen=9223372036854775807:=rfl
 unfold AI
 rw[Ew]
 unfold lnF
 by_cases h:dX o l=0
 rotate_left
 ·rw[ajO (show dX o l≠0 from h),ajO (show dX o l≠0 from h)]
  show (bif dX o l != 0 then _ else _)=_
  rw[cI h,ajC,ajN h]
 rw[ajN (show ¬dX o l≠0 from fun e=>e h),ajN (show ¬dX o l≠0 from fun e=>e h)]
 by_cases hd:1≤day∧day≤3652059
 rotate_left
 ·rw[ajO hd,ajN hd];rfl
 rw[ajN (show ¬¬(1≤day∧day≤3652059) from fun e=>e hd),ajO hd,ajO rfl]
 refine Eq.trans LY ?_
 rw[Js h hd,ajq]
 dsimp only
 rw[zne,ajB]
 obtain⟨hg,hI⟩:=nQ h 0 day
 rw[oa hI o l,ajq]
 generalize (fe o l 0 day).1=A at hg hI
 have hSl:(aH A).length≤500:=by rw[(bG A).length_eq];exact hI.len
 have hHl:(o7 A).length=(aH A).length:=by unfold o7;rw[aid]
 dsimp only
 have loop:∀ n,(aH A).length<n→iter (X:=qc) (β:=uO) n (day,[],((o7 A).length:Int),0,o7 A,A.map ai.tup,()) uN=some (Sum.inr (p9 day (aH A),A.map ai.tup,())):=by
  intro n hn
  refine bS (Inv:=fun i X=>X=((day,p9 day ((aH A).take i),((o7 A).length:Int),(i:Int),o7 A,A.map ai.tup,()):qc)) (aH A).length (fun z=>z=some (Sum.inr (p9 day (aH A),A.map ai.tup,()))) ?_ ?_ n 0 _ rfl (ajo _) (by omega)
  ·rintro i X again hi rfl hag
   unfold uN
   dsimp only
   have hx:(aH A)[i]? =some (aH A)[i]:=ahX hi
   generalize (aH A)[i]=x at hx
   obtain⟨k,hk,hkx,_,hm⟩:=OB hg hI hx
   have hlen:=OP day ((aH A).take i)
   rw[aik] at hlen
   have e:(aH A).take (i+1)=(aH A).take i++[x]:=gG hx
   rw[ajG (show (i:Int)<((o7 A).length:Int) by omega),ajC,bK (by rw[agW];exact⟨ajG (by omega),rfl⟩),ahs,hk,ajq,lN hkx (hg.sound.line x hm).1,ajq]
   dsimp only
   rw[av (n:=(i:Int)+1) (by omega) (by omega)]
   by_cases c:OI day x=true
   ·obtain⟨c1,c2⟩:=ajU c
    rw[ajG (show x.opn>0 from c1),ajC,ajq,fV hkx,ajq,ajq]
    dsimp only
    rw[ajG c2,ajC,ajq,fV hkx,ajq,bK (by rw[agW];exact⟨ajG (by omega),ajG (by omega)⟩), ← Wy c, ← e]
    exact hag _ rfl
   ·by_cases c1:0<x.opn
    ·have c2:¬x.due<day:=fun h=>c (ajG ⟨c1,h⟩)
     rw[ajG (show x.opn>0 from c1),ajC,ajq,fV hkx,ajq,ajq]
     dsimp only
     rw[ajE c2,ajB, ← LL c, ← e]
     exact hag _ rfl
    ·rw[ajE (show ¬x.opn>0 from c1),ajB,ajq]
     dsimp only
     rw[ajB, ← LL c, ← e]
     exact hag _ rfl
  ·rintro X again rfl
   unfold uN
   dsimp only
   rw[hHl,ajE (show ¬((aH A).length:Int)<((aH A).length:Int) by omega),ajB,aiS]
 rw[loop _ (by omega),aK]
theorem Zj (o:aj) (l:List aa) (day:Int) (tx:∀ d,d∈l→Txt d):Iy o l day=some (if lnF o l day=0 then p9 day (aH (fe o l 0 day).1) else [],lnF o l day,()):=by
 have nq:maxLen=9223372036854775807:=rfl
 unfold Iy
 rw[AY o l day tx,ajq]
 dsimp only
 by_cases h:lnF o l day=0
 rotate_left
 ·rw[cI h,ajC,ajN h]
 obtain⟨h1,_⟩:=Cd h
 obtain⟨L,e1,e2⟩:=IA h1 day
 obtain⟨hg,hI⟩:=nQ h1 0 day
 rw[ajO h,h,zne,ajB,e1,ajq]
 dsimp only
 rw[Pw e2 hI,ajq]
 clear e1 e2
 generalize (fe o l 0 day).1=A at hg hI
 have hSl:(aH A).length≤500:=by rw[(bG A).length_eq];exact hI.len
 have hml:((aH A).map aW).length=(aH A).length:=aid _
 dsimp only
 have loop:∀ n,(aH A).length<n→iter (X:=vP) (β:=AX) n (day,[],(((aH A).map aW).length:Int),0,(aH A).map aW,()) AW=some (Sum.inr (p9 day (aH A),())):=by
  intro n hn
  refine bS (Inv:=fun i X=>X=((day,p9 day ((aH A).take i),(((aH A).map aW).length:Int),(i:Int),(aH A).map aW,()):vP)) (aH A).length (fun z=>z=some (Sum.inr (p9 day (aH A),()))) ?_ ?_ n 0 _ rfl (ajo _) (by omega)
  ·rintro i X again hi rfl hag
   unfold AW
   dsimp only
   have hx:(aH A)[i]? =some (aH A)[i]:=ahX hi
   generalize (aH A)[i]=x at hx
   have hk:((aH A).map aW)[i]? =some (aW x):=by rw[ah0,hx];rfl
   have hm:x∈A:=(bG A).mem_iff.1 (aiz hx)
   obtain⟨p1,p2⟩:=Pf (hg.sound.line x hm).1
   have hs:=Gp 3 x.opn
   have hdd:decide ((aW x).2.2.2.2.2.2.2.2.2.1>0)=decide (0<x.opn):=by
    show decide ((few 3 x.opn).1>0)=_
    rw[ajD]
    have a:=hs.1;have b:=hs.2
    constructor<;>intro h<;>omega
   have hlen:=OP day ((aH A).take i)
   rw[aik] at hlen
   have e:(aH A).take (i+1)=(aH A).take i++[x]:=gG hx
   rw[ajG (show (i:Int)<(((aH A).map aW).length:Int) by omega),ajC,bK (by rw[agW];exact⟨ajG (by omega),rfl⟩),ahs,hk,ajq,hdd,av (n:=(i:Int)+1) (by omega) (by omega)]
   by_cases c:OI day x=true
   ·obtain⟨c1,c2⟩:=ajU c
    rw[ajG c1,ajC,ajq]
    dsimp only
    rw[show decide ((aW x).2.2.2.2.2.1<day)=true from ajG c2,ajC,bK (by rw[agW];exact⟨ajG (by omega),ajG (by omega)⟩),show (aW x).1=x.no from rfl, ← Wy c, ← e]
    exact hag _ rfl
   ·by_cases c1:0<x.opn
    ·have c2:¬x.due<day:=fun h=>c (ajG ⟨c1,h⟩)
     rw[ajG c1,ajC,ajq]
     dsimp only
     rw[show decide ((aW x).2.2.2.2.2.1<day)=false from ajE c2,ajB, ← LL c, ← e]
     exact hag _ rfl
    ·rw[ajE c1,ajB,ajq]
     dsimp only
     rw[ajB, ← LL c, ← e]
     exact hag _ rfl
  ·rintro X again rfl
   unfold AW
   dsimp only
   rw[hml,ajE (show ¬((aH A).length:Int)<((aH A).length:Int) by omega),ajB,aiS]
 rw[loop _ (by omega),aK]
theorem ad5 {M:List ai} {x:ai} (h:0≤x.wish):((M++[x]).filter wsh).map ai.wish=(M.filter wsh).map ai.wish++[x.wish]:=by
 rw[ahK,ail,ahL,ajO (show wsh x=true from ajG h)];rfl
theorem ae4 {M:List ai} {x:ai} (h:¬0≤x.wish):((M++[x]).filter wsh).map ai.wish=(M.filter wsh).map ai.wish:=by
 rw[ahK,ahL,ajN (show ¬wsh x=true from fun e=>h (ajU e)),ahN,ahy]
theorem aaq (o:aj) (l:List aa) (day:Int) (tx:∀ d,d∈l→Txt d):Mf o l day=some (if lnF o l day=0 then VT (oZ (fe o l 0 day).1) else [],lnF o l day,()):=by
 have nq:maxLen=9223372036854775807:=rfl
 unfold Mf
 rw[AY o l day tx,ajq]
 dsimp only
 by_cases h:lnF o l day=0
 rotate_left
 ·rw[cI h,ajC,ajN h]
 obtain⟨h1,_⟩:=Cd h
 obtain⟨L,e1,e2⟩:=IA h1 day
 obtain⟨hg,hI⟩:=nQ h1 0 day
 rw[ajO h,h,zne,ajB,e1,ajq]
 clear e1
 generalize (fe o l 0 day).1=A at hg hI e2
 have hSl:(aH A).length≤500:=by rw[(bG A).length_eq];exact hI.len
 have hLl:=e2.len
 dsimp only
 have loop:∀ n,L.length<n→iter (X:=yh) (β:=CU) n ([],(L.length:Int),0,L,()) CT=some (Sum.inr (oZ A,())):=by
  intro n hn
  refine bS (Inv:=fun i X=>X=(((((aH A).take i).filter wsh).map ai.wish,(L.length:Int),(i:Int),L,()):yh)) L.length (fun z=>z=some (Sum.inr (oZ A,()))) ?_ ?_ n 0 _ rfl (ajo _) (by omega)
  ·rintro i X again hi rfl hag
   unfold CT
   dsimp only
   have hx:(aH A)[i]? =some ((aH A)[i]'(by omega)):=ahX (by omega)
   generalize (aH A)[i]'(by omega)=x at hx
   obtain⟨y,hy,hr⟩:=e2.get hx
   have hlen:((((aH A).take i).filter wsh).map ai.wish).length≤i:=by
    rw[aid]
    have:=aic wsh ((aH A).take i)
    rw[aik] at this
    omega
   have e:(aH A).take (i+1)=(aH A).take i++[x]:=gG hx
   rw[ajG (show (i:Int)<(L.length:Int) by omega),ajC,bK (by rw[agW];exact⟨ajG (by omega),rfl⟩),ahs,hy,ajq,hr.wish,av (n:=(i:Int)+1) (by omega) (by omega)]
   by_cases h0:0≤x.wish
   ·rw[ajG (show x.wish≥0 from h0),ajC,bK (by rw[agW];exact⟨ajG (by omega),ajG (by omega)⟩), ← ad5 h0, ← e]
    exact hag _ rfl
   ·rw[ajE (show ¬x.wish≥0 from h0),ajB, ← ae4 h0, ← e]
    exact hag _ rfl
  ·rintro X again rfl
   unfold CT
   dsimp only
   rw[ajE (show ¬(L.length:Int)<(L.length:Int) by omega),ajB,aiT (by omega)]
   rfl
 rw[loop _ (by omega),aK]
 dsimp only
 have hl:(oZ A).length<4294967296:=by
  have h1:=aic wsh (aH A)
  unfold oZ
  rw[aid];omega
 have hs:slices_Sort_int (oZ A)=some (VT (oZ A),()):=by
  show (bif decide ((oZ A).length<4294967296) then _ else _)=_
  rw[ajG hl];rfl
 rw[hs,ajq]
end Go.Md
set_option linter.all false
namespace Go.Md
open Go.Dn
def WLn (l:List aa) (x:ai):Prop:=0≤x.wish→∃ d,l[x.wish.toNat]? =some d∧bA d=x.no
theorem acn {o:aj} {l:List aa} {i:Nat} {d:aa} {x:ai} (hx:LOk x) (hw:WOk l x) (hl:∀ d,d∈l→bf d=0):(aV o l i d x).2.wish=x.wish∨(aV o l i d x).2.wish= -1∨(aV o l i d x).2.wish=(i:Int):=by
 unfold aV
 split
 ·rcases quick (cG o) (i:Int) d x with h | h
  ·rw[h];exact .inl rfl
  ·rw[h];exact .inr (.inr rfl)
 ·split
  ·have h3:=(SS (d:=d) hx hw hl).2.2.1
   split
   ·rcases h3 with h | h
    ·rw[h];exact .inl rfl
    ·exact .inr (.inl h)
   ·rcases h3 with h | h
    ·rw[h];exact .inl rfl
    ·exact .inr (.inl h)
  ·split
   ·split<;>exact .inl rfl
   ·split
    ·unfold Bi
     split
     ·exact .inl rfl
     ·split<;>exact .inl rfl
    ·have hm:(cm (bX o) d x).2.wish=x.wish:=by
      unfold cm
      split
      ·split
       ·rfl
       ·split<;>rfl
      ·split
       ·split<;>rfl
       ·split<;>rfl
     split
     ·split
      ·exact .inl hm
      ·exact .inl hm
     ·exact .inl hm
theorem acR {o:aj} {l:List aa} {i:Nat} {d:aa} {A:List ai} (hA:Good l A) (hF:∀ x,x∈A→WLn l x) (hl:∀ d,d∈l→bf d=0) (hd:l[i]? =some d):∀ x,x∈(bN o l i d A).2→WLn l x:=by
 unfold bN
 by_cases k1:aF d=1
 ·rw[ajO k1]
  split
  ·exact hF
  ·split
   ·exact hF
   ·split
    ·exact hF
    ·intro x hx
     rcases aip.1 hx with hx | hx
     ·exact hF x hx
     ·simp only[aiD] at hx
      subst hx
      exact fun _=>⟨d,by show l[((i:Int)).toNat]? =some d;simpa using hd,rfl⟩
 ·rw[ajN k1]
  split
  ·exact hF
  ·rename_i k hk
   split
   ·rename_i y hy
    intro x hx
    rcases aiB hx with hx | hx
    ·exact hF x hx
    ·subst hx
     have hm:=aiz hy
     obtain⟨h1,h2⟩:=hA.sound.line y hm
     obtain⟨_,_,hno,_⟩:=BS (o:=o) h1 h2 hl hd
     obtain⟨z,hz,hzn⟩:=pU hk
     rw[hy] at hz;cases hz
     intro h0
     rcases acn (o:=o) (i:=i) (d:=d) h1 h2 hl with h | h | h
     ·rw[h] at h0 ⊢
      rw[hno];exact hF y hm h0
     ·rw[h] at h0;omega
     ·rw[h,hno]
      exact⟨d,by simpa using hd,hzn.symm⟩
   ·exact hF
theorem aeH {o:aj} {l:List aa} {wt day:Int} (hl:∀ d,d∈l→bf d=0):∀ (r:List aa) (i:Nat) (A:List ai) (ref:List (Int×Int)) (pts:List aC),l.drop i=r→Good l A→(∀ x,x∈A→WLn l x)→
 ∀ x,x∈(gV o l wt day r i A ref pts).1→WLn l x:=by
 intro r
 induction r with
 | nil=>intro i A ref pts _ hA hI;exact hI
 | cons d r ih=>
  intro i A ref pts hdr hA hI
  have hd:l[i]? =some d:=by
   have:=congrArg (·[0]?) hdr
   simpa [ahW] using this
  have hr':l.drop (i+1)=r:=by
   have:=congrArg List.tail hdr
   simpa [aiN] using this
  have hgood:=wL (o:=o) hA hl hd
  have hids:=acR (o:=o) hA hI hl hd
  simp only[gV]
  split
  ·exact hI
  ·split
   ·exact ih (i+1) _ _ _ hr' hgood hids
   ·exact ih (i+1) _ _ _ hr' hgood hids
theorem ad3 {o:aj} {l:List aa} (h:dX o l=0) (wt day:Int):∀ x,x∈(fe o l wt day).1→WLn l x:=by
 obtain⟨h1,h2⟩:=pQ h
 obtain⟨h3,h4⟩:=iM h2
 refine aeH h4 l 0 _ [] [] rfl (wR h1 l) fun x hx=> ?_
 obtain⟨q,_,rfl⟩:=aiy.1 hx
 intro h0
 have:(0:Int)≤ -1:=h0
 omega
def hit (l:List aa) (to:Int) (w:Int):Bool:=decide (0≤w)&&((l[w.toNat]?).any fun d=>d.2.2.1==to)
theorem ZM {l:List aa} (h:gM l=0) {i j:Nat} {a b:aa} (ha:l[i]? =some a) (hb:l[j]? =some b) (e1:a.2.1=b.2.1) (e2:a.2.2.1=b.2.2.1):i=j:=by
 have hp:=(Te h).2
 rw[aiH] at hp
 obtain⟨hi,rfl⟩:=ahZ.1 ha
 obtain⟨hj,rfl⟩:=ahZ.1 hb
 rcases ajc i j with c | c | c
 ·exact absurd (by show (_,_)=(_,_);rw[e1,e2]) (hp i j hi hj c)
 ·exact c
 ·exact absurd (by show (_,_)=(_,_);rw[e1,e2]) (hp j i hj hi c)
theorem Vl {l:List aa} (h:gM l=0) {to:Int} {x:ai} (hw:WOk l x):hit l to x.wish=true↔∃ i,Ca l to=some i∧x.wish=(i:Int):=by
 obtain⟨_,h4⟩:=iM h
 unfold hit
 rw[agW]
 constructor
 ·rintro⟨h0,h1⟩
  have h0:=ajU h0
  obtain⟨d,hd,hk⟩:=hw.kind h0
  rw[hd] at h1
  have h1:d.2.2.1=to:=by simpa using h1
  obtain⟨_,b2,_,k1,k2,_⟩:=bz (h4 d (aiz hd))
  have hb:d.2.1=1:=by
   have:¬d.2.1=2:=fun e=>by
    have:=k2.2 e
    have hk:d.2.2.2.1≤4:=hk
    omega
   omega
  cases hi:Ca l to with
  | none=>
   have:=ahO.1 hi d (aiz hd)
   rw[show isB to d=true from ajG ⟨hb,h1⟩] at this
   cases this
  | some i=>
   obtain⟨w,hw1,w1,w2⟩:=Ij hi
   have:=ZM h hd hw1 (by rw[hb,w1]) (by rw[h1,w2])
   exact⟨i,rfl,by omega⟩
 ·rintro⟨i,hi,e⟩
  obtain⟨w,hw1,w1,w2⟩:=Ij hi
  rw[e]
  refine⟨ajG (by omega), ?_⟩
  rw[ahs,hw1]
  simpa using w2
theorem R8 {l:List aa} {to v:Int} (M:List ai) (h:∀ x,x∈M→hit l to x.wish=true→x.wish=v):∀ m:Int,M.foldl (fun m x=>if hit l to x.wish=true then x.wish else m) m=if (M.any fun x=>hit l to x.wish)=true then v else m:=by
 induction M with
 | nil=>intro m;rfl
 | cons x M ih=>
  intro m
  rw[List.foldl_cons,ih (fun y hy=>h y (by simp[hy])),List.any_cons]
  by_cases c:hit l to x.wish=true
  ·rw[ajO c,c,Bool.true_or,ajO rfl,h x (by simp) c]
   split<;>rfl
  ·rw[ajN c,show hit l to x.wish=false by simpa using c,ag2]
theorem afw (a b:Nat) (h:0<b):a<a+b:=by omega
theorem ZC {l:List aa} {P:Int→List aC} {A:List ai} {L:List ak} {ref:List ah} (hB:sK l P A L) (hg:Good l A) (hI:Ids A) {day to:Int} {o1 o2 o3 p1 p2 p3:Bys} {o4 o5 p4 p5:Int} {o6 p6:List aL}:
 ∀ n,L.length<n→iter (X:=vO) (β:=AV) n (l,day,to,(-1),(L.length:Int),0,o1,o2,o3,o4,o5,o6,0,0,0,0,0,[],0,0,[],0,0,0,0,p1,p2,p3,p4,p5,p6,l,L,ref,()) AU=
  some (Sum.inr (l,day,to,(aH A).foldl (fun m x=>if hit l to x.wish=true then x.wish else m) (-1),o1,o2,o3,o4,o5,o6,0,0,0,0,0,[],0,0,[],0,0,0,0,p1,p2,p3,p4,p5,p6,l,L,ref,())):=by
 intro n hn
 have hLl:=hB.len
 have hSl:(aH A).length≤500:=by rw[(bG A).length_eq];exact hI.len
 refine bS (Inv:=fun i X=>X=((l,day,to,((aH A).take i).foldl (fun m x=>if hit l to x.wish=true then x.wish else m) (-1),(L.length:Int),(i:Int),o1,o2,o3,o4,o5,o6,0,0,0,0,0,[],0,0,[],0,0,0,0,p1,p2,p3,p4,p5,p6,l,L,ref,()):vO)) L.length
  (fun z=>z=some (Sum.inr (l,day,to,(aH A).foldl (fun m x=>if hit l to x.wish=true then x.wish else m) (-1),o1,o2,o3,o4,o5,o6,0,0,0,0,0,[],0,0,[],0,0,0,0,p1,p2,p3,p4,p5,p6,l,L,ref,()))) ?_ ?_ n 0 _ rfl (ajo _) (by omega)
 ·rintro i X again hi rfl hag
  unfold AU
  dsimp only
  have hx:(aH A)[i]? =some ((aH A)[i]'(by omega)):=ahX (by omega)
  generalize (aH A)[i]'(by omega)=x at hx
  obtain⟨y,hy,hr⟩:=hB.get hx
  have hm:x∈A:=(bG A).mem_iff.1 (aiz hx)
  have hw:=(hg.sound.line x hm).2
  have e:((aH A).take (i+1)).foldl (fun m x=>if hit l to x.wish=true then x.wish else m) (-1)=if hit l to x.wish=true then x.wish else ((aH A).take i).foldl (fun m x=>if hit l to x.wish=true then x.wish else m) (-1):=by
   rw[gG hx,ahQ];rfl
  have hcond:(bif decide (y.2.1≥0) then Option.bind (idx l y.2.1) fun y3=>some (y3.2.2.1==to,()) else some (false,()))=some (hit l to x.wish,()):=by
   rw[hr.wish]
   unfold hit
   by_cases h0:0≤x.wish
   ·obtain⟨d,hd,_⟩:=hw.kind h0
    rw[ajG (show x.wish≥0 from h0),ajC,GD h0 hd,ajq,hd]
    rfl
   ·rw[ajE (show ¬x.wish≥0 from h0),ajB]
    rfl
  rw[ajG (show (i:Int)<(L.length:Int) by omega),ajC,bK (by rw[agW];exact⟨ajG (by omega),rfl⟩),ahs,hy,ajq,hcond,ajq]
  dsimp only
  rw[av (n:=(i:Int)+1) (by omega) (by omega)]
  by_cases c:hit l to x.wish=true
  ·rw[ajO c] at e
   rw[c,ajC,hr.wish, ← e]
   exact hag _ rfl
  ·rw[ajN c] at e
   rw[show hit l to x.wish=false by simpa using c,ajB, ← e]
   exact hag _ rfl
 ·rintro X again rfl
  unfold AU
  dsimp only
  rw[ajE (show ¬(L.length:Int)<(L.length:Int) by omega),ajB,aiT (by omega)]
theorem sK.app {l:List aa} {P:Int→List aC} {A:List ai} {L:List ak} (h:sK l P A L) (d':aa):sK (l++[d']) P A L:=
 ⟨h.len,fun k x y hx hy=>by
   obtain⟨r1,r2,r3,r4,r5⟩:=h.rel k x y hx hy
   refine⟨r1,r2,r3,fun hn=> ?_,r5⟩
   obtain⟨j,d,e1,e2,e3⟩:=r4 hn
   exact⟨j,d,e1,by rw[ahS (ahZ.1 e2).1];exact e2,e3⟩⟩
theorem WOk.app {l:List aa} {x:ai} (h:WOk l x) (d':aa):WOk (l++[d']) x:=
 ⟨h.low,fun h0=>by
   obtain⟨d,hd,hk⟩:=h.kind h0
   exact⟨d,by rw[ahS (ahZ.1 hd).1];exact hd,hk⟩⟩
theorem Good.app {l:List aa} {A:List ai} (h:Good l A) (d':aa):Good (l++[d']) A:=
 ⟨⟨fun x hx=>⟨(h.sound.line x hx).1,(h.sound.line x hx).2.app d'⟩⟩,h.pr⟩
set_option maxHeartbeats 1000000 in
theorem Zi (o:aj) (l:List aa) (day to:Int) (tx:∀ d,d∈l→Txt d):Iv o l day to=some ((US o l day to).1,(US o l day to).2,()):=by
 unfold Iv US
 rw[AY o l day tx,ajq]
 unfold lnF
 dsimp only
 by_cases h:dX o l=0
 rotate_left
 ·rw[ajO (show dX o l≠0 from h),cI h,ajC,ajO (show dX o l≠0 from h)];rfl
 rw[ajN (show ¬dX o l≠0 from fun e=>e h),ajN (show ¬dX o l≠0 from fun e=>e h)]
 obtain⟨h1,h2⟩:=pQ h
 obtain⟨h3,h4⟩:=iM h2
 by_cases hday:1≤day∧day≤3652059
 rotate_left
 ·rw[ajN hday,ajO hday];rfl
 rw[ajO hday,ajN (show ¬¬(1≤day∧day≤3652059) from fun e=>e hday),zne,ajB,aaN l day h3,ajq]
 dsimp only
 cases hla:l.getLast?.any fun q=>decide (day<q.1)
 rotate_left
 ·rw[ajC,ajO rfl];rfl
 rw[ajB,ajN (show ¬false=true by nofun)]
 obtain⟨L,e1,e2⟩:=IA h 3652059
 obtain⟨hg,hI⟩:=nQ h 0 3652059
 have hW:=ad3 h 0 3652059
 have he:=(nH h1).2.1
 rw[e1,ajq]
 clear e1
 generalize (fe o l 0 3652059).1=A at hg hI hW e2
 generalize (fe o l 0 3652059).2.1=ref
 dsimp only
 have hn0:(0:Nat)<ref.length+2:=Nat.succ_pos _
 rw[ZC e2 hg hI _ (by with_reducible repeat (first | exact afw _ _ hn0 | refine Nat.lt_add_left _ ?_)),aK]
 dsimp only
 have hv:∀ v,(∀ i,Ca l to=some i→v=(i:Int))→(aH A).foldl (fun m x=>if hit l to x.wish=true then x.wish else m) (-1)=if ((aH A).any fun x=>hit l to x.wish)=true then v else -1:=fun v hv=>R8 _ (fun x hx hh=>by
  have hm:=(bG A).mem_iff.1 hx
  obtain⟨i,hi,e⟩:=(Vl h2 (hg.sound.line x hm).2).1 hh
  rw[e,hv i hi]) (-1)
 have hnone:((aH A).any fun x=>hit l to x.wish)=false→(bif decide ((aH A).foldl (fun m x=>if hit l to x.wish=true then x.wish else m) (-1)<0) then (1:Nat) else 0)=1:=fun hf=>by
  have:(aH A).foldl (fun m x=>if hit l to x.wish=true then x.wish else m) (-1)= -1:=by
   rw[R8 (v:=(-1)) (aH A) (fun x hx hh=>by
    rw[ahv] at hf
    exact absurd hh (hf x hx)) (-1),ajN (by rw[hf];nofun)]
  rw[this];rfl
 have hneg:((aH A).any fun x=>hit l to x.wish)=false→(aH A).foldl (fun m x=>if hit l to x.wish=true then x.wish else m) (-1)= -1:=fun hf=>by
  rw[R8 (v:=(-1)) (aH A) (fun x hx hh=>by
   rw[ahv] at hf
   exact absurd hh (hf x hx)) (-1),ajN (by rw[hf];nofun)]
 cases hix:Ca l to with
 | none=>
  have hf:((aH A).any fun x=>hit l to x.wish)=false:=by
   rw[ahv]
   intro x hx hh
   have hm:=(bG A).mem_iff.1 hx
   obtain⟨i,hi,_⟩:=(Vl h2 (hg.sound.line x hm).2).1 hh
   rw[hix] at hi;cases hi
  rw[hneg hf];rfl
 | some i=>
  obtain⟨w,hw,w1,w2⟩:=Ij hix
  dsimp only
  rw[hw]
  dsimp only
  have hdir:∀ x,x∈A→(hit l to x.wish=true↔x.wish=(i:Int)):=fun x hx=>by
   rw[Vl h2 (hg.sound.line x hx).2]
   constructor
   ·rintro⟨j,hj,e⟩;rw[hix] at hj;cases hj;exact e
   ·exact fun e=>⟨i,hix,e⟩
  have hself:∀ x,x∈A→x.wish=(i:Int)→jD (bA w) A=some x:=fun x hx e=>by
   obtain⟨d,hd,hn⟩:=hW x hx (by rw[e];omega)
   rw[e,ahs,hw] at hd
   cases hd
   obtain⟨j,hj,hjx⟩:=II hI ((bG A).mem_iff.2 hx)
   rw[hn]
   exact Ax hj hjx
  have hout:(∀ x,x∈A→¬x.wish=(i:Int))→((aH A).any fun x=>hit l to x.wish)=false:=fun hh=>by
   rw[ahv]
   intro x hx hhit
   have hm:=(bG A).mem_iff.1 hx
   exact hh x hm ((hdir x hm).1 hhit)
  cases hln:jD (bA w) A with
  | none=>
   rw[hneg (hout fun x hx e=>by rw[hself x hx e] at hln;cases hln)];rfl
  | some x=>
   have hxA:x∈A:=by
    unfold jD at hln
    cases hf:dH (bA w) A with
    | none=>rw[hf] at hln;cases hln
    | some k=>rw[hf] at hln;exact aiz hln
   dsimp only
   by_cases hwi:x.wish=(i:Int)
   rotate_left
   ·rw[ajO (show x.wish≠(i:Int) from hwi),hneg (hout fun z hz e=>by
     have:=hself z hz e
     rw[hln] at this;cases this
     exact hwi e)];rfl
   rw[ajN (show ¬x.wish≠(i:Int) from fun e=>e hwi),hv (i:Int) (fun j hj=>by rw[hix] at hj;cases hj;rfl),ajO (ahw.2 ⟨x,(bG A).mem_iff.2 hxA,(hdir x hxA).2 hwi⟩),ajE (show ¬(i:Int)<0 by omega),ajB]
   by_cases hlen:2000≤l.length
   ·rw[ajO hlen,ajG (show (l.length:Int)≥2000 by omega),ajC];rfl
   have nq:maxLen=9223372036854775807:=rfl
   rw[ajN hlen,ajE (show ¬(l.length:Int)≥2000 by omega),ajB,Pv 2 l h3,ajq,bR hw,ajq,Mk l h3,ajq]
   dsimp only
   obtain⟨hwd,wb2,wb3,wk,_,wln,_⟩:=bz (h4 w (aiz hw))
   rw[bK (by rw[agW];exact⟨ajG (by omega),ajG (by omega)⟩),ads,ajq,G9 wk,ajq]
   dsimp only
   have hans:gM (l++[mH l day 5 (bA w) to])=0:=abi h (by omega) hday (fun q hq=>by
    rw[hq] at hla
    have:decide (day<q.1)=false:=hla
    have:=of_decide_eq_false this
    omega) (.inl rfl) wln (by omega)
   have hl':=(iM hans).2
   have hget:(l++[mH l day 5 (bA w) to])[l.length]? =some (mH l day 5 (bA w) to):=by rw[ahT (ai5 _),Nat.sub_self];rfl
   have href:=M6 (o:=o) (ref:=[]) (e2.app (mH l day 5 (bA w) to)) (hg.app _) hI hl' he hget
   have hdz:(bN o (l++[mH l day 5 (bA w) to]) l.length (mH l day 5 (bA w) to) A).1=0↔(br l (mH l day 5 (bA w) to) x).1=0:=by
    rw[acQ hg.sound]
    unfold jD at hln
    cases hf:dH (bA w) A with
    | none=>rw[hf] at hln;cases hln
    | some k=>
     rw[hf] at hln
     rw[Ia (show aF (mH l day 5 (bA w) to)≠1 by show (5:Int)≠1;omega) (show dH (bA (mH l day 5 (bA w) to)) A=some k from hf) hln]
     show (aV o l l.length (mH l day 5 (bA w) to) x).1=0↔_
     unfold aV
     rw[ajN (show ¬(5:Int)≤4 by omega),ajO (show (5:Int)≤6 by omega)]
     split
     ·rename_i h0;exact⟨fun _=>h0,fun _=>rfl⟩
     ·exact Iff.rfl
   have hfin:(Option.bind (gC (o,l++[mH l day 5 (bA w) to],L,[]) (l.length:Int)) fun r16=>some (r16.1 != 0,()))=some (decide ((br l (mH l day 5 (bA w) to) x).1≠0),()):=by
    rw[href,ajq]
    by_cases ha:(br l (mH l day 5 (bA w) to) x).1=0
    ·rw[hdz.2 ha,ajE (fun e=>e ha)];rfl
    ·rw[ajG ha]
     show some ((bN o (l++[mH l day 5 (bA w) to]) l.length (mH l day 5 (bA w) to) A).1 != 0,())=_
     rw[cI (fun e=>ha (hdz.1 e))]
   have hcond:(bif usU w.2.2.2.1 then bif decide (w.2.2.2.2.2.2.2.2.2.1<day) then some (true,()) else (Option.bind (gC (o,l++[mH l day 5 (bA w) to],L,[]) (l.length:Int)) fun r16=>some (r16.1 != 0,()))
    else (Option.bind (gC (o,l++[mH l day 5 (bA w) to],L,[]) (l.length:Int)) fun r16=>some (r16.1 != 0,())))=some (decide ((usU (aF w)=true∧cZ w<day)∨(br l (mH l day 5 (bA w) to) x).1≠0),()):=by
    rw[hfin]
    show (bif usU (aF w) then bif decide (cZ w<day) then _ else _ else _)=_
    cases usU (aF w)
    ·simp
    ·by_cases c:cZ w<day
     ·simp[c]
     ·simp[c]
   refine bs hcond ?_
   by_cases hu:usU (aF w)=true∧cZ w<day
   ·rw[ajG (Or.inl hu),ajO hu];rfl
   ·rw[ajN hu]
    by_cases ha:(br l (mH l day 5 (bA w) to) x).1=0
    ·rw[ajN (fun e=>e ha),ajE (fun e=>e.elim hu fun e=>e ha)];rfl
    ·rw[ajO ha,ajG (Or.inr ha)];rfl
end Go.Md
set_option linter.all false
namespace Go.Md
open Go.Dn
theorem law_OrderDueMatchesSpec (o:aj) (l:List aa) (day to:Int) (tx:∀ d,d∈l→Txt d):lz o l day to=some (true,()):=by
 unfold lz
 have b1:(if lnF o l day=0 then (xC day (fe o l 0 day).1).map ou else []).length≤2001:=by
  split
  ·rename_i h
   rw[aid]
   have:=RZ (day:=day) (nQ (Cd h).1 0 day).2
   omega
  ·exact ajo _
 have b2:(if lnF o l day=0 then p9 day (aH (fe o l 0 day).1) else []).length≤2001:=by
  split
  ·rename_i h
   have h1:=OP day (aH (fe o l 0 day).1)
   have h2:=(bG (fe o l 0 day).1).length_eq
   have:=(nQ (Cd h).1 0 day).2.len
   omega
  ·exact ajo _
 have b3:(if lnF o l day=0 then VT (oZ (fe o l 0 day).1) else []).length≤2001:=by
  split
  ·rename_i h
   have h0:(VT (oZ (fe o l 0 day).1)).length=(oZ (fe o l 0 day).1).length:=List.length_mergeSort _
   have h1:=aic wsh (aH (fe o l 0 day).1)
   have h2:=(bG (fe o l 0 day).1).length_eq
   have:=(nQ (Cd h).1 0 day).2.len
   have h3:(oZ (fe o l 0 day).1).length≤500:=by unfold oZ;rw[aid];omega
   omega
  ·exact ajo _
 have hne:∀ z:Int,(z != z)=false:=fun z=>by simp
 rw[Za,ajq,adF o l day tx,ajq]
 dsimp only
 rw[hne,ajB,JC _ b1,ajq,ag7,ajB,Uj,ajq,Zj o l day tx,ajq]
 dsimp only
 rw[hne,ajB,zU _ b2,ajq,ag7,ajB,VB,ajq,aaq o l day tx,ajq]
 dsimp only
 rw[hne,ajB,zU _ b3,ajq,ag7,ajB,Ui,ajq,Zi o l day to tx,ajq]
 simp only[ajz,Bool.and_self,ajC]
 rw[afU];rfl
end Go.Md
