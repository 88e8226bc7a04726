/-
  Plain facts: what is due, asked, answered. No condition.
-/
import Derived.Test.YtcndcnfjdanbeaaGreatDoorXx
import Derived.Test.YtcndcnfjdanbeaaGreatDoorXq
import Derived.Test.YtcndcnfjdanbeaaGreatDoorXk
set_option linter.all false
set_option linter.all false
namespace Go.Md.SL
open Go.Dn Go.Md
section
variable {k:Option Nat→Int} {ar:List an} {ok:Option Nat→Prop}
def zU (k:Option Nat→Int) (ar:List an) (ok:Option Nat→Prop):Prop:=∀ a b,ok a→ok b→∃ c,ep a b ar=some (c,())∧(c<0↔k a<k b)
theorem acu (hc:zU k ar ok) (a:Nat) (bI:Int) (iI:Int) (X:List (Option Nat)) (hX:X.length=a):∀ (n:Nat) (P1:List (Option Nat)) (x:Option Nat) (B:List (Option Nat)),P1.length<n→(X++P1++x::B).length<1000000000→ok x→(∀ y∈P1,ok y)→
 ∃ P2 P3,P1=P2++P3∧(∀ y∈P3,k x<k y)∧(∀ y,P2.getLast? =some y→k y≤k x)∧
 iter (X:=dI) (β:=dF) n ((a:Int),bI,(),iI,((a+P1.length:Nat):Int),X++P1++x::B,ar,()) dB=some (Sum.inr ((a:Int),bI,(),iI,X++P2++x::(P3++B),ar,())):=by
 intro n
 induction n with
 | zero=>intro P1 x B h;omega
 | succ n ih=>
  intro P1 x B hn hlen hx hP
  rw[bH]
  generalize hag:(fun y=>iter n y dB)=again
  unfold dB
  dsimp only
  rcases List.eq_nil_or_concat P1 with rfl | ⟨P,y,rfl⟩
  ·rw[bh (by simp)]
   exact⟨[],[],rfl,by simp,by simp,by simp⟩
  ·rw[List.concat_eq_append] at*
   simp only[ahH,ahI,ahM] at hlen hn ⊢
   have e1:w64 (((a+(P.length+1):Nat):Int) - 1)=(((X++P).length:Nat):Int):=by rw[av (by omega) (by omega)];simp[hX];omega
   have e2:(((a+(P.length+1):Nat):Int))=(((X++P).length+1:Nat):Int):=by simp[hX];omega
   have el:X++(P++[y])++x::B=(X++P)++y::x::B:=by simp
   obtain⟨c,hcc,hlt⟩:=hc x y hx (hP y (by simp))
   rw[aY (by omega),e1,e2,el]
   simp only[ag2,get_at,O7,ai1,hcc]
   rw[bp (by simp only[agx,aji,ahH,ahI,ahQ,ahM];omega),bp (by simp only[agx,aji,ahH,ahI,ahQ,ahM];omega)]
   by_cases hk:k x<k y
   ·rw[aY (hlt.2 hk),bp (by simp only[agx,aji,ahH,ahI,ahQ,ahM];omega),bp (by simp only[agx,aji,ahH,ahI,ahQ,ahM];omega),bp (by simp only[agx,aji,ahH,ahI,ahQ,ahM];omega),
     bp (by simp only[agx,aji,ahH,ahI,ahQ,ahM];omega)]
    have hg:(((X++P)++y::x::B).set ((X++P).length+1) y)[(X++P).length]? =some y:=by rw[ahB (by omega),get_at]
    rw[hg,ai1,Yx, ← hag]
    obtain⟨P2,P3,h1,h2,h3,h4⟩:=ih P x (y::B) (by omega) (by simp;omega) hx (fun z hz=>hP z (by simp[hz]))
    refine⟨P2,P3++[y],by rw[h1];simp, ?_,h3, ?_⟩
    ·intro z hz
     rcases ahX.1 hz with hz | hz
     ·exact h2 z hz
     ·rw[aib.1 hz];exact hk
    ·have e3:(((X++P).length:Nat):Int)=((a+P.length:Nat):Int):=by simp[hX]
     rw[e3]
     show iter n _ _=_
     rw[h4];simp
   ·rw[bh (fun h=>hk (hlt.1 h))]
    refine⟨P++[y],[],by simp,by simp,fun z hz=> ?_,by simp⟩
    simp at hz
    subst hz;omega
theorem NQ (hc:zU k ar ok) (X S Y:List (Option Nat)) (hlen:(X++S++Y).length<1000000000) (hok:∀ y∈S,ok y):
 ∃ S',cP (X++S++Y) (X.length:Int) ((X.length+S.length:Nat):Int) () ar=some (X++S'++Y,())∧Srt k S'∧bM k S S':=by
 simp only[ahH] at hlen
 have loop:∀ (n:Nat) (Q P:List (Option Nat)) (l:List (Option Nat)),Q.length<n→l=X++P++Q++Y→P.length+Q.length=S.length→Srt k P→(∀ y∈P,ok y)→(∀ y∈Q,ok y)→
  ∃ S',iter (X:=dH) (β:=dD) n ((X.length:Int),((X.length+S.length:Nat):Int),(),((X.length+P.length:Nat):Int),l,ar,()) cD=some (Sum.inr (X++S'++Y,ar,()))∧Srt k S'∧bM k (P++Q) S':=by
  intro n
  induction n with
  | zero=>intro Q P l h;omega
  | succ n ih=>
   intro Q P l hn hl hPQ hs hokP hokQ
   rw[bH]
   generalize hag:(fun y=>iter n y cD)=again
   unfold cD
   dsimp only
   cases Q with
   | nil=>
    rw[bh (by simp at hPQ;omega)]
    exact⟨P,by rw[hl];simp,hs,by simpa using bM.refl k P⟩
   | cons x Q=>
    simp only[ahI] at hn hPQ
    rw[aY (by omega)]
    have hl':l=X++P++x::(Q++Y):=by rw[hl];simp
    obtain⟨P2,P3,h1,h2,h3,h4⟩:=acu hc X.length ((X.length+S.length:Nat):Int) ((X.length+P.length:Nat):Int) X rfl
     (Int.natAbs (X.length:Int)+(Int.natAbs ((X.length+S.length:Nat):Int)+(Int.natAbs ((X.length+P.length:Nat):Int)+(Int.natAbs ((X.length+P.length:Nat):Int)+(List.length l+2))))) P x (Q++Y) (by omega) (by simp;omega) (hokQ x (by simp)) hokP
    rw[← hl'] at h4
    rw[h4,aM]
    dsimp only
    have e1:w64 (((X.length+P.length:Nat):Int)+1)=((X.length+(P2++x::P3).length:Nat):Int):=by
     rw[av (by omega) (by omega),h1];simp;omega
    rw[e1, ← hag]
    rw[h1] at hs hokP
    obtain⟨hs',hsam⟩:=adI hs h2 h3
    obtain⟨S',g1,g2,g3⟩:=ih Q (P2++x::P3) (X++P2++x::(P3++(Q++Y))) (by omega) (by simp) (by rw[h1] at hPQ;simp at hPQ ⊢;omega) hs' (fun y hy=>by
     rcases hsam.mem.1 hy |> ahX.1 with h | h
     ·exact hokP y h
     ·rw[aib.1 h];exact hokQ x (by simp)) (fun y hy=>hokQ y (by simp[hy]))
    refine⟨S',g1,g2, ?_⟩
    have:bM k (P++x::Q) (P2++x::P3++Q):=by
     rw[h1]
     have:=hsam.append (bM.refl k Q)
     simpa using this
    exact this.trans g3
 unfold cP
 cases S with
 | nil=>
  have e1:w64 ((X.length:Int)+1)=((X.length+1:Nat):Int):=by rw[av (by omega) (by omega)];omega
  rw[e1]
  obtain⟨n,hn⟩:∃ n,(Int.natAbs (X.length:Int)+(Int.natAbs ((X.length+([]:List (Option Nat)).length:Nat):Int)+(Int.natAbs ((X.length+1:Nat):Int)+(List.length (X++[]++Y)+2))))=n+1:=⟨_,rfl⟩
  rw[hn,bH]
  unfold cD
  dsimp only
  rw[bh (by simp;omega)]
  exact⟨[],rfl,List.Pairwise.nil,bM.refl _ _⟩
 | cons x S=>
  have e1:w64 ((X.length:Int)+1)=((X.length+[x].length:Nat):Int):=by rw[av (by omega) (by omega)];simp
  rw[e1]
  obtain⟨S',g1,g2,g3⟩:=loop (Int.natAbs (X.length:Int)+(Int.natAbs ((X.length+(x::S).length:Nat):Int)+(Int.natAbs ((X.length+[x].length:Nat):Int)+(List.length (X++(x::S)++Y)+2)))) S [x] (X++(x::S)++Y) (by simp;omega) (by simp) (by simp;omega) (List.pairwise_singleton _ _) (fun y hy=>hok y (by simp at hy;simp[hy])) (fun y hy=>hok y (by simp[hy]))
  rw[g1,aM]
  exact⟨S',rfl,g2,by simpa using g3⟩
theorem GG (X M Y:List (Option Nat)):∀ (P Q:List (Option Nat)),P.length=Q.length→(X++P++M++Q++Y).length<1000000000→
 cI (X++P++M++Q++Y) (X.length:Int) ((X.length+P.length+M.length:Nat):Int) (P.length:Int) () ar=some (X++Q++M++P++Y,()):=by
 intro P Q hPQ hlen
 simp only[ahH] at hlen
 have loop:∀ (n:Nat) (P1 P2 Q1 Q2:List (Option Nat)) (l:List (Option Nat)),P2.length<n→P1.length+P2.length=P.length→P1.length=Q1.length→P2.length=Q2.length→l=X++P1++P2++M++Q1++Q2++Y→
  iter (X:=ez) (β:=ew) n ((X.length:Int),((X.length+P.length+M.length:Nat):Int),(P.length:Int),(P1.length:Int),l,ar,()) er=some (Sum.inr (X++P1++Q2++M++Q1++P2++Y,ar,())):=by
  intro n
  induction n with
  | zero=>intro P1 P2 Q1 Q2 l h;omega
  | succ n ih=>
   intro P1 P2 Q1 Q2 l hn h1 h2 h3 hl
   rw[bH]
   generalize hag:(fun y=>iter n y er)=again
   unfold er
   dsimp only
   cases P2 with
   | nil=>
    have:Q2=[]:=ahj (by simpa using h3.symm)
    subst this
    rw[bh (by simp at h1;omega),hl]
   | cons p P2=>
    cases Q2 with
    | nil=>simp at h3
    | cons q Q2=>
     simp only[ahI] at hn h1 h3
     have ll:l.length=X.length+P.length+M.length+Q.length+Y.length:=by rw[hl];simp;omega
     have e1:w64 (((X.length+P.length+M.length:Nat):Int)+(P1.length:Int))=(((X++P1++p::P2++M++Q1).length:Nat):Int):=by rw[av (by omega) (by omega)];simp;omega
     have e2:w64 ((X.length:Int)+(P1.length:Int))=(((X++P1).length:Nat):Int):=by rw[av (by omega) (by omega)];simp
     have l1:l=(X++P1++p::P2++M++Q1)++q::(Q2++Y):=by rw[hl];simp
     have l2:l=(X++P1)++p::(P2++M++Q1++q::(Q2++Y)):=by rw[hl];simp
     have g1:l[(X++P1++p::P2++M++Q1).length]? =some q:=by rw[l1];exact get_at _ _ _
     have g2:l[(X++P1).length]? =some p:=by rw[l2];exact get_at _ _ _
     have g3:l.set (X++P1).length q=(X++P1++q::P2++M++Q1)++q::(Q2++Y):=by
      rw[l2,aam];simp
     have hlq:(X++P1++p::P2++M++Q1).length=(X++P1++q::P2++M++Q1).length:=by simp
     have g4:(l.set (X++P1).length q)[(X++P1++p::P2++M++Q1).length]? =some q:=by rw[g3,hlq];exact get_at _ _ _
     have g5:(l.set (X++P1).length q).set (X++P1++p::P2++M++Q1).length p=X++(P1++[q])++P2++M++(Q1++[p])++Q2++Y:=by rw[g3,hlq,aam];simp
     rw[aY (by omega),e1,e2]
     simp only[ag2,g1,g2,g4,g5,ai1,ahQ,ll]
     have lq:(X++P1++p::P2++M++Q1).length<X.length+P.length+M.length+Q.length+Y.length:=by simp;omega
     have lp:(X++P1).length<X.length+P.length+M.length+Q.length+Y.length:=by simp;omega
     rw[bp (by simp only[agx,aji];omega),bp (by simp only[agx,aji];omega),bp (by simp only[agx,aji];omega),bp (by simp only[agx,aji];omega)]
     have e3:w64 ((P1.length:Int)+1)=(((P1++[q]).length:Nat):Int):=by rw[av (by omega) (by omega)];simp
     rw[e3, ← hag]
     show iter n _ _=_
     rw[ih (P1++[q]) P2 (Q1++[p]) Q2 _ (by omega) (by simp;omega) (by simp;omega) (by omega) rfl]
     simp
 unfold cI
 rw[show (0:Int)=((([]:List (Option Nat)).length:Nat):Int) from rfl,loop _ [] P [] Q (X++P++M++Q++Y) (by simp;omega) (by simp) rfl hPQ (by simp),aM]
 simp
theorem ZA (m:Nat):∀ (n:Nat) (X U V Y:List (Option Nat)),U.length+V.length<n→0<U.length→0<V.length→X.length+U.length=m→(X++U++V++Y).length<1000000000→
 ∃ (X' U' V' Y':List (Option Nat)),iter (X:=fG) (β:=fF) n ((m:Int),(),(U.length:Int),(V.length:Int),X++U++V++Y,ar,()) fE=some (Sum.inr ((m:Int),(),(U'.length:Int),X'++U'++V'++Y',ar,()))∧U'.length=V'.length∧X'.length+U'.length=m∧X'++V'++U'++Y'=X++V++U++Y∧(X'++U'++V'++Y').length<1000000000:=by
 intro n
 induction n with
 | zero=>intro X U V Y h;omega
 | succ n ih=>
  intro X U V Y hn hU hV hm hlen
  rw[bH]
  generalize hag:(fun y=>iter n y fE)=again
  unfold fE
  dsimp only
  by_cases he:U.length=V.length
  ·have hb:((U.length:Int) != (V.length:Int))=false:=by simp[he]
   rw[hb,ajc]
   exact⟨X,U,V,Y,rfl,he,hm,rfl,hlen⟩
  ·have hb:((U.length:Int) != (V.length:Int))=true:=by simp;omega
   rw[hb,ajd]
   simp only[ahH] at hlen
   have e1:w64 ((m:Int) - (U.length:Int))=(X.length:Int):=by rw[av (by omega) (by omega)];omega
   rw[e1]
   by_cases hgt:V.length<U.length
   ·rw[aY (by omega)]
    obtain⟨U1,U2,rfl,hU1⟩:=qL (l:=U) (n:=V.length) (by omega)
    simp only[ahH] at*
    have hsw:=GG (ar:=ar) X U2 Y U1 V hU1 (by simp;omega)
    rw[show ((X.length+U1.length+U2.length:Nat):Int)=(m:Int) by omega,hU1] at hsw
    rw[show X++(U1++U2)++V++Y=X++U1++U2++V++Y by simp,hsw,ai1]
    have e2:w64 (((U1.length+U2.length:Nat):Int) - (V.length:Int))=(U2.length:Int):=by rw[av (by omega) (by omega)];omega
    rw[e2, ← hag]
    obtain⟨X',U',V',Y',h1,h2,h3,h4,h5⟩:=ih (X++V) U2 U1 Y (by omega) (by omega) (by omega) (by simp;omega) (by simp;omega)
    refine⟨X',U',V',Y', ?_,h2,h3,by rw[h4];simp,h5⟩
    rw[← hU1]
    exact h1
   ·rw[bh (by omega)]
    obtain⟨V1,V2,rfl,hV1⟩:=qL (l:=V) (n:=V.length - U.length) (by omega)
    simp only[ahH] at*
    have e3:w64 (w64 ((m:Int)+((V1.length+V2.length:Nat):Int)) - (U.length:Int))=((X.length+U.length+V1.length:Nat):Int):=by
     rw[av (n:=(m:Int)+((V1.length+V2.length:Nat):Int)) (by omega) (by omega),av (by omega) (by omega)];omega
    have hsw:=GG (ar:=ar) X V1 Y U V2 (by omega) (by simp;omega)
    rw[e3,show X++U++(V1++V2)++Y=X++U++V1++V2++Y by simp,hsw,ai1]
    have e2:w64 (((V1.length+V2.length:Nat):Int) - (U.length:Int))=(V1.length:Int):=by rw[av (by omega) (by omega)];omega
    rw[e2, ← hag]
    obtain⟨X',U',V',Y',h1,h2,h3,h4,h5⟩:=ih X V2 V1 (U++Y) (by omega) (by omega) (by omega) (by omega) (by simp;omega)
    refine⟨X',U',V',Y', ?_,h2,h3,by rw[h4];simp,h5⟩
    rw[show ((U.length:Nat):Int)=(V2.length:Int) by omega,show X++V2++V1++U++Y=X++V2++V1++(U++Y) by simp]
    exact h1
theorem ac6 (X U V Y:List (Option Nat)) (hU:0<U.length) (hV:0<V.length) (hlen:(X++U++V++Y).length<1000000000):
 gh (X++U++V++Y) (X.length:Int) ((X.length+U.length:Nat):Int) ((X.length+U.length+V.length:Nat):Int) () ar=some (X++V++U++Y,()):=by
 unfold gh
 simp only[ahH] at hlen
 have e1:w64 (((X.length+U.length:Nat):Int) - (X.length:Int))=(U.length:Int):=by rw[av (by omega) (by omega)];omega
 have e2:w64 (((X.length+U.length+V.length:Nat):Int) - ((X.length+U.length:Nat):Int))=(V.length:Int):=by rw[av (by omega) (by omega)];omega
 rw[e1,e2]
 obtain⟨X',U',V',Y',h1,h2,h3,h4,h5⟩:=ZA (ar:=ar) (X.length+U.length) (Int.natAbs ((X.length+U.length:Nat):Int)+(Int.natAbs (U.length:Int)+(Int.natAbs (V.length:Int)+(List.length (X++U++V++Y)+2)))) X U V Y (by omega) hU hV rfl (by simp;omega)
 rw[h1,aM]
 dsimp only
 simp only[ahH] at h5
 have e3:w64 (((X.length+U.length:Nat):Int) - (U'.length:Int))=(X'.length:Int):=by rw[av (by omega) (by omega)];omega
 have hsw:=GG (ar:=ar) X' [] Y' U' V' h2 (by simp;omega)
 simp only[ag9,ahM,aiz] at hsw
 rw[e3,show ((X.length+U.length:Nat):Int)=((X'.length+U'.length:Nat):Int) by omega,hsw,ai1,h4]
theorem aeY (i:Nat):∀ (n:Nat) (A V Y:List (Option Nat)) (x:Option Nat),V.length<n→A.length+1+V.length=i→(A++x::V++Y).length<1000000000→
 iter (X:=fe) (β:=eY) n ((i:Int),(A.length:Int),A++x::V++Y,ar,()) eW=some (Sum.inr (A++V++x::Y,ar,())):=by
 intro n
 induction n with
 | zero=>intro A V Y x h;omega
 | succ n ih=>
  intro A V Y x hn hi hlen
  rw[bH]
  generalize hag:(fun y=>iter n y eW)=again
  unfold eW
  dsimp only
  simp only[ahH,ahI] at hlen
  have e0:w64 ((i:Int) - 1)=(i:Int) - 1:=av (by omega) (by omega)
  rw[e0]
  cases V with
  | nil=>rw[bh (by simp at hi;omega)];simp
  | cons v V=>
   simp only[ahI] at hn hi hlen
   have e1:w64 ((A.length:Int)+1)=((A.length+1:Nat):Int):=by rw[av (by omega) (by omega)];omega
   have el:A++x::(v::V)++Y=A++x::v::(V++Y):=by simp
   have hg:((A++x::v::(V++Y)).set A.length v)[A.length+1]? =some v:=by rw[ahB (by omega),O7]
   rw[aY (by omega),e1,el]
   simp only[ag2,get_at,O7,ai1,hg,adk,ahQ]
   rw[bp (by simp only[agx,aji,ahH,ahI];omega),bp (by simp only[agx,aji,ahH,ahI];omega),bp (by simp only[agx,aji,ahH,ahI];omega),bp (by simp only[agx,aji,ahH,ahI];omega), ← hag]
   have:=ih (A++[v]) V Y x (by omega) (by simp;omega) (by simp;omega)
   simp only[ahH,ahI,ahM,aiX] at this
   show iter n _ _=_
   rw[show A++v::x::(V++Y)=A++[v]++x::V++Y by simp,this]
   simp
theorem acK (A:List (Option Nat)):∀ (n:Nat) (U Y:List (Option Nat)) (y:Option Nat),U.length<n→(A++U++y::Y).length<1000000000→
 iter (X:=eG) (β:=eD) n ((A.length:Int),((A.length+U.length:Nat):Int),A++U++y::Y,ar,()) eA=some (Sum.inr (A++y::U++Y,ar,())):=by
 intro n
 induction n with
 | zero=>intro U Y y h;omega
 | succ n ih=>
  intro U Y y hn hlen
  rw[bH]
  generalize hag:(fun y=>iter n y eA)=again
  unfold eA
  dsimp only
  simp only[ahH,ahI] at hlen
  rcases List.eq_nil_or_concat U with rfl | ⟨V,u,rfl⟩
  ·rw[bh (by simp)];simp
  ·rw[List.concat_eq_append] at*
   simp only[ahH,ahI,ahM] at hn hlen ⊢
   have e1:w64 (((A.length+(V.length+(0+1)):Nat):Int) - 1)=(((A++V).length:Nat):Int):=by rw[av (by omega) (by omega)];simp;omega
   have e2:((A.length+(V.length+(0+1)):Nat):Int)=(((A++V).length+1:Nat):Int):=by simp;omega
   have el:A++(V++[u])++y::Y=(A++V)++u::y::Y:=by simp
   have hg:(((A++V)++u::y::Y).set ((A++V).length+1) u)[(A++V).length]? =some u:=by rw[ahB (by omega),get_at]
   rw[aY (by omega),e1,e2,el]
   simp only[ag2,get_at,O7,ai1,hg,Yx,ahQ]
   rw[bp (by simp only[agx,aji,ahH,ahI];omega),bp (by simp only[agx,aji,ahH,ahI];omega),bp (by simp only[agx,aji,ahH,ahI];omega),bp (by simp only[agx,aji,ahH,ahI];omega), ← hag]
   have:=ih V (u::Y) y (by omega) (by simp;omega)
   show iter n _ _=_
   rw[show (((A++V).length:Nat):Int)=((A.length+V.length:Nat):Int) by simp,this]
   simp
theorem Ut (hc:zU k ar ok) (X R Y:List (Option Nat)) (x:Option Nat) (hlen:(X++[x]++R++Y).length<1000000000) (hR:Srt k R) (hx:ok x) (hok:∀ y∈R,ok y) (n:Nat) (hn:R.length<n):
 ∃ R1 R2,R=R1++R2∧(∀ y∈R1,k y<k x)∧(∀ y∈R2,k x≤k y)∧iter (X:=eZ) (β:=eX) n ((X.length:Int),(),((X.length+1:Nat):Int),((X.length+1+R.length:Nat):Int),X++[x]++R++Y,ar,()) c9=some (Sum.inr ((X.length:Int),((X.length+1+R1.length:Nat):Int),X++[x]++R++Y,ar,())):=by
 simp only[ahH,ahI,ahM] at hlen
 have hx0:(X++[x]++R++Y)[X.length]? =some x:=by simp
 have hRt:∀ i (h:i<R.length),(X++[x]++R++Y)[X.length+1+i]? =some R[i]:=fun i h=>aaR X [x] R Y h
 obtain⟨r,h1,h2,h3,h4,h5⟩:=bsearch (f:=c9) (fun i j=>((X.length:Int),(),(i:Int),(j:Int),X++[x]++R++Y,ar,())) (fun i=>some (Sum.inr ((X.length:Int),(i:Int),X++[x]++R++Y,ar,())))
  (fun t=>k ((R[t - (X.length+1)]?).getD none)<k x) (X.length+1) (X.length+1+R.length) (by
    intro i j again hi hij hj
    unfold c9
    dsimp only
    have hh:(i+j) / 2 - (X.length+1)<R.length:=by omega
    have hg:=hRt _ hh
    rw[show X.length+1+((i+j) / 2 - (X.length+1))=(i+j) / 2 by omega] at hg
    rw[aY (by omega),Pb i j (by omega)]
    simp only[ag2,hg,hx0,ai1]
    obtain⟨c,hcc,hlt⟩:=hc R[(i+j) / 2 - (X.length+1)] x (hok _ (ahG _)) hx
    rw[hcc,bp (by simp only[agx,aji,ahH,ahI];omega),bp (by simp only[agx,aji,ahH,ahI];omega),ai1,ahv hh]
    dsimp only[Option.getD]
    by_cases hk:k R[(i+j) / 2 - (X.length+1)]<k x
    ·rw[aY (hlt.2 hk),ajp hk,av (by omega) (by omega)];rfl
    ·rw[bh (fun h=>hk (hlt.1 h)),ajo hk])
  (by
    intro i again _ _
    unfold c9
    dsimp only
    rw[bh (by omega)])
  (by
    intro s t hs hst ht hP
    rw[ahv (by omega)] at hP ⊢
    have:=hR.get (i:=s - (X.length+1)) (j:=t - (X.length+1)) (by omega) (by omega)
    simp only[ai2] at hP ⊢
    omega)
  n (X.length+1) (X.length+1+R.length) (by omega) (aiF _) (by omega) (aiF _) (fun t h1 h2=>by omega) (fun t h1 h2=>by omega)
 obtain⟨R1,R2,rfl,hR1⟩:=qL (l:=R) (n:=r - (X.length+1)) (by omega)
 refine⟨R1,R2,rfl, ?_, ?_, ?_⟩
 ·intro y hy
  obtain⟨i,hi,rfl⟩:=ah4.1 hy
  have:=h4 (X.length+1+i) (by omega) (by omega)
  rw[show X.length+1+i - (X.length+1)=i by omega,ahq hi,ahv hi] at this
  exact this
 ·intro y hy
  obtain⟨i,hi,rfl⟩:=ah4.1 hy
  have:=h5 (X.length+1+(R1.length+i)) (by omega) (by simp;omega)
  rw[show X.length+1+(R1.length+i) - (X.length+1)=R1.length+i by omega,ahr (by omega),show R1.length+i - R1.length=i by omega,ahv hi] at this
  simp only[ai2] at this
  omega
 ·rw[h1,show X.length+1+R1.length=r by omega]
theorem S8 (hc:zU k ar ok) (X L Y:List (Option Nat)) (y:Option Nat) (hlen:(X++L++[y]++Y).length<1000000000) (hL:Srt k L) (hy:ok y) (hok:∀ z∈L,ok z) (n:Nat) (hn:L.length<n):
 ∃ L1 L2,L=L1++L2∧(∀ z∈L1,k z≤k y)∧(∀ z∈L2,k y<k z)∧iter (X:=eF) (β:=eC) n (((X.length+L.length:Nat):Int),(),(X.length:Int),((X.length+L.length:Nat):Int),X++L++[y]++Y,ar,()) cV=some (Sum.inr (((X.length+L.length:Nat):Int),((X.length+L1.length:Nat):Int),X++L++[y]++Y,ar,())):=by
 simp only[ahH,ahI,ahM] at hlen
 have hy0:(X++L++[y]++Y)[X.length+L.length]? =some y:=by
  have:=aaR X L [y] Y (i:=0) (by simp)
  simpa using this
 have hLt:∀ i (h:i<L.length),(X++L++[y]++Y)[X.length+i]? =some L[i]:=fun i h=>aem X L [y] Y h
 obtain⟨r,h1,h2,h3,h4,h5⟩:=bsearch (f:=cV) (fun i j=>(((X.length+L.length:Nat):Int),(),(i:Int),(j:Int),X++L++[y]++Y,ar,())) (fun i=>some (Sum.inr (((X.length+L.length:Nat):Int),(i:Int),X++L++[y]++Y,ar,())))
  (fun t=>¬ k y<k ((L[t - X.length]?).getD none)) X.length (X.length+L.length) (by
    intro i j again hi hij hj
    unfold cV
    dsimp only
    have hh:(i+j) / 2 - X.length<L.length:=by omega
    have hg:=hLt _ hh
    rw[show X.length+((i+j) / 2 - X.length)=(i+j) / 2 by omega] at hg
    rw[aY (by omega),Pb i j (by omega)]
    simp only[ag2,hg,hy0,ai1]
    obtain⟨c,hcc,hlt⟩:=hc y L[(i+j) / 2 - X.length] hy (hok _ (ahG _))
    rw[hcc,bp (by simp only[agx,aji,ahH,ahI];omega),bp (by simp only[agx,aji,ahH,ahI];omega),ai1,ahv hh]
    dsimp only[Option.getD]
    by_cases hk:k y<k L[(i+j) / 2 - X.length]
    ·rw[ajh (hlt.2 hk),agI,ajc,ajo (fun h=>h hk)]
    ·rw[ajf (fun h=>hk (hlt.1 h)),agH,ajd,ajp hk,av (by omega) (by omega)];rfl)
  (by
    intro i again _ _
    unfold cV
    dsimp only
    rw[bh (by omega)])
  (by
    intro s t hs hst ht hP
    rw[ahv (by omega)] at hP ⊢
    have:=hL.get (i:=s - X.length) (j:=t - X.length) (by omega) (by omega)
    simp only[ai2] at hP ⊢
    omega)
  n X.length (X.length+L.length) (by omega) (aiF _) (by omega) (aiF _) (fun t h1 h2=>by omega) (fun t h1 h2=>by omega)
 obtain⟨L1,L2,rfl,hL1⟩:=qL (l:=L) (n:=r - X.length) (by omega)
 refine⟨L1,L2,rfl, ?_, ?_, ?_⟩
 ·intro z hz
  obtain⟨i,hi,rfl⟩:=ah4.1 hz
  have:=h4 (X.length+i) (by omega) (by omega)
  rw[show X.length+i - X.length=i by omega,ahq hi,ahv hi] at this
  simp only[ai2] at this
  omega
 ·intro z hz
  obtain⟨i,hi,rfl⟩:=ah4.1 hz
  have:=h5 (X.length+(L1.length+i)) (by omega) (by simp;omega)
  rw[show X.length+(L1.length+i) - X.length=L1.length+i by omega,ahr (by omega),show L1.length+i - L1.length=i by omega,ahv hi] at this
  simp only[ai2] at this
  omega
 ·rw[h1,show X.length+L1.length=r by omega]
theorem XX (hc:zU k ar ok) (X L R Y:List (Option Nat)) (hlen:(X++L++R++Y).length<1000000000) (hL:Srt k L) (hR:Srt k R) (hokL:∀ z∈L,ok z) (hokR:∀ z∈R,ok z) (mid lo hi:Nat) (hmid:mid=(X.length+(X.length+L.length+R.length)) / 2)
 (hcase:(mid<X.length+L.length∧lo+R.length=mid∧hi=mid∧X.length≤lo)∨(X.length+L.length≤mid∧lo=X.length∧hi=X.length+L.length)) (n:Nat) (hn:hi<n):
 ∃ s:Nat,iter (X:=eH) (β:=eE) n ((X.length:Int),((X.length+L.length:Nat):Int),((X.length+L.length+R.length:Nat):Int),(),(mid:Int),((mid+(X.length+L.length):Nat):Int),(lo:Int),(hi:Int),((mid+(X.length+L.length):Nat):Int) - 1,X++L++R++Y,ar,()) cW=some (Sum.inr ((X.length:Int),((X.length+L.length:Nat):Int),((X.length+L.length+R.length:Nat):Int),(),(mid:Int),((mid+(X.length+L.length):Nat):Int),(s:Int),X++L++R++Y,ar,()))∧
  lo≤s∧s≤hi∧(∀ i j (_:i<L.length) (_:j<R.length),X.length+i+1=s→j+s=mid→k L[i]≤k R[j])∧(∀ i j (_:i<L.length) (_:j<R.length),X.length+i=s→j+1+s=mid→k R[j]<k L[i]):=by
 simp only[ahH] at hlen
 have hLt:∀ i (h:i<L.length),(X++L++R++Y)[X.length+i]? =some L[i]:=fun i h=>aem X L R Y h
 have hRt:∀ i (h:i<R.length),(X++L++R++Y)[X.length+L.length+i]? =some R[i]:=fun i h=>aaR X L R Y h
 obtain⟨r,h1,h2,h3,h4,h5⟩:=bsearch (f:=cW) (fun i j=>((X.length:Int),((X.length+L.length:Nat):Int),((X.length+L.length+R.length:Nat):Int),(),(mid:Int),((mid+(X.length+L.length):Nat):Int),(i:Int),(j:Int),((mid+(X.length+L.length):Nat):Int) - 1,X++L++R++Y,ar,()))
  (fun s=>some (Sum.inr ((X.length:Int),((X.length+L.length:Nat):Int),((X.length+L.length+R.length:Nat):Int),(),(mid:Int),((mid+(X.length+L.length):Nat):Int),(s:Int),X++L++R++Y,ar,())))
  (fun t=>¬ k ((R[mid - 1 - t]?).getD none)<k ((L[t - X.length]?).getD none)) lo hi (by
    intro i j again hi1 hij hj
    unfold cW
    dsimp only
    generalize hh0:(i+j) / 2=h
    have hhL:h - X.length<L.length:=by omega
    have hhR:mid - 1 - h<R.length:=by omega
    have hg:=hLt _ hhL
    rw[show X.length+(h - X.length)=h by omega] at hg
    have hg2:=hRt _ hhR
    rw[aY (by omega),Pb i j (by omega),hh0]
    have e1:w64 (((mid+(X.length+L.length):Nat):Int) - 1 - (h:Int))=((X.length+L.length+(mid - 1 - h):Nat):Int):=by rw[av (by omega) (by omega)];omega
    rw[e1]
    simp only[ag2,hg,hg2,ai1]
    obtain⟨c,hcc,hlt⟩:=hc R[mid - 1 - h] L[h - X.length] (hokR _ (ahG _)) (hokL _ (ahG _))
    rw[hcc,bp (by simp only[agx,aji,ahH];omega),bp (by simp only[agx,aji,ahH];omega),ai1,ahv hhL,ahv hhR]
    dsimp only[Option.getD]
    by_cases hk:k R[mid - 1 - h]<k L[h - X.length]
    ·rw[ajh (hlt.2 hk),agI,ajc,ajo (fun h=>h hk)]
    ·rw[ajf (fun h=>hk (hlt.1 h)),agH,ajd,ajp hk,av (by omega) (by omega)];rfl)
  (by
    intro i again _ _
    unfold cW
    dsimp only
    rw[bh (by omega)])
  (by
    intro s t hs hst ht hP
    rw[ahv (show t - X.length<L.length by omega),ahv (show mid - 1 - t<R.length by omega)] at hP
    rw[ahv (show s - X.length<L.length by omega),ahv (show mid - 1 - s<R.length by omega)]
    have a1:=hL.get (i:=s - X.length) (j:=t - X.length) (by omega) (by omega)
    have a2:=hR.get (i:=mid - 1 - t) (j:=mid - 1 - s) (by omega) (by omega)
    simp only[ai2] at hP ⊢
    omega)
  n lo hi (by omega) (aiF _) (by omega) (aiF _) (fun t h1 h2=>by omega) (fun t h1 h2=>by omega)
 refine⟨r,h1,h2,h3, ?_, ?_⟩
 ·intro i j hi' hj' e1 e2
  have:=h4 (X.length+i) (by omega) (by omega)
  rw[show X.length+i - X.length=i by omega,show mid - 1 - (X.length+i)=j by omega,ahv hi',ahv hj'] at this
  simp only[ai2] at this
  omega
 ·intro i j hi' hj' e1 e2
  have:=h5 (X.length+i) (by omega) (by omega)
  rw[show X.length+i - X.length=i by omega,show mid - 1 - (X.length+i)=j by omega,ahv hi',ahv hj'] at this
  simp only[ai2] at this
  omega
def Yy (self:((List (Option Nat))×Int×Int×Int×Unit×(List an)×Unit)→Option ((List (Option Nat))×Unit)) (x:(List (Option Nat))×Int×Int×Int×Unit×(List an)×Unit):=bY self x.1 x.2.1 x.2.2.1 x.2.2.2.1 x.2.2.2.2.1 x.2.2.2.2.2.1
set_option maxHeartbeats 4000000 in
theorem Yz (hc:zU k ar ok):∀ (n:Nat) (X L R Y:List (Option Nat)),L.length+R.length<n+2→0<L.length→0<R.length→(X++L++R++Y).length<1000000000→Srt k L→Srt k R→(∀ z∈L,ok z)→(∀ z∈R,ok z)→
 ∃ S,Gu Yy n (X++L++R++Y,(X.length:Int),((X.length+L.length:Nat):Int),((X.length+L.length+R.length:Nat):Int),(),ar,())=some (X++S++Y,())∧Srt k S∧bM k (L++R) S:=by
 intro n
 induction n with
 | zero=>intro X L R Y h h1 h2;omega
 | succ n ih=>
  intro X L R Y hn hL0 hR0 hlen hL hR hokL hokR
  have hlen':=hlen
  simp only[ahH] at hlen
  show ∃ S,Yy (Gu Yy n) _=_∧_
  generalize hself:Gu Yy n=self at ih
  unfold Yy bY
  dsimp only
  have e1:w64 (((X.length+L.length:Nat):Int) - (X.length:Int))=(L.length:Int):=by rw[av (by omega) (by omega)];omega
  have e2:w64 (((X.length+L.length+R.length:Nat):Int) - ((X.length+L.length:Nat):Int))=(R.length:Int):=by rw[av (by omega) (by omega)];omega
  rw[e1,e2]
  by_cases hL1:L.length=1
  ·obtain⟨x,rfl⟩:∃ x,L=[x]:=List.length_eq_one_iff.1 hL1
   rw[show ((([x].length:Nat):Int)==1)=true by simp,ajd]
   obtain⟨R1,R2,rfl,h1,h2,h3⟩:=Ut hc X R Y x hlen' hR (hokL x (by simp)) hokR (Int.natAbs (X.length:Int)+(Int.natAbs ((X.length+[x].length:Nat):Int)+(Int.natAbs ((X.length+[x].length+R.length:Nat):Int)+(List.length (X++[x]++R++Y)+2)))) (by simp;omega)
   simp only[ahI,ahM,aiX] at h3 ⊢
   rw[h3,aM]
   dsimp only
   have hmv:=aeY (ar:=ar) (X.length+1+R1.length) (Int.natAbs ((X.length+1+R1.length:Nat):Int)+(Int.natAbs (X.length:Int)+(List.length (X++[x]++(R1++R2)++Y)+2))) X R1 (R2++Y) x (by simp;omega) rfl (by simp at hlen ⊢;omega)
   rw[show X++x::R1++(R2++Y)=X++[x]++(R1++R2)++Y by simp] at hmv
   rw[hmv,aM]
   refine⟨R1++x::R2,by simp, ?_, ?_⟩
   ·exact hR.left.append (aie.2 ⟨h2,hR.right⟩) (fun y hy z hz=>by
     rcases ah0.1 hz with rfl | hz
     ·have:=h1 y hy;omega
     ·exact hR.Km y hy z hz)
   ·have:=(bM.swap (k:=k) (u:=[x]) (v:=R1) (fun y hy z hz=>by rw[aib.1 hy];have:=h1 z hz;omega)).append (bM.refl k R2)
    simpa using this
  ·rw[show (((L.length:Nat):Int)==1)=false by simp;omega,ajc]
   by_cases hR1:R.length=1
   ·obtain⟨y,rfl⟩:∃ x,R=[x]:=List.length_eq_one_iff.1 hR1
    rw[show ((([y].length:Nat):Int)==1)=true by simp,ajd]
    obtain⟨L1,L2,rfl,h1,h2,h3⟩:=S8 hc X L Y y hlen' hL (hokR y (by simp)) hokL (Int.natAbs ((X.length+L.length:Nat):Int)+(Int.natAbs (X.length:Int)+(Int.natAbs ((X.length+L.length:Nat):Int)+(List.length (X++L++[y]++Y)+2)))) (by omega)
    rw[h3,aM]
    dsimp only
    have hmv:=acK (ar:=ar) (X++L1) (Int.natAbs ((X.length+L1.length:Nat):Int)+(Int.natAbs ((X.length+(L1++L2).length:Nat):Int)+(List.length (X++(L1++L2)++[y]++Y)+2))) L2 Y y (by simp;omega) (by simp at hlen ⊢;omega)
    rw[show X++L1++L2++y::Y=X++(L1++L2)++[y]++Y by simp,show (((X++L1).length:Nat):Int)=((X.length+L1.length:Nat):Int) by simp,show (((X++L1).length+L2.length:Nat):Int)=((X.length+(L1++L2).length:Nat):Int) by simp;omega] at hmv
    rw[hmv,aM]
    refine⟨L1++y::L2,by simp, ?_, ?_⟩
    ·exact hL.left.append (aie.2 ⟨fun z hz=>by have:=h2 z hz;omega,hL.right⟩) (fun z hz w hw=>by
      rcases ah0.1 hw with rfl | hw
      ·exact h1 z hz
      ·exact hL.Km z hz w hw)
    ·have:=(bM.refl k L1).append (bM.swap (k:=k) (u:=L2) (v:=[y]) (fun z hz w hw=>by rw[aib.1 hw];have:=h2 z hz;omega))
     simpa using this
   ·rw[show (((R.length:Nat):Int)==1)=false by simp;omega,ajc]
    have eh:=Pb X.length (X.length+L.length+R.length) (by omega)
    rw[eh]
    generalize hmid:(X.length+(X.length+L.length+R.length)) / 2=mid
    have e3:w64 ((mid:Int)+((X.length+L.length:Nat):Int))=((mid+(X.length+L.length):Nat):Int):=by rw[av (by omega) (by omega)];omega
    rw[e3]
    obtain⟨lo,hi,hcase,hv⟩:∃ lo hi:Nat,((mid<X.length+L.length∧lo+R.length=mid∧hi=mid∧X.length≤lo)∨(X.length+L.length≤mid∧lo=X.length∧hi=X.length+L.length))∧
     (bif decide (((X.length+L.length:Nat):Int)>(mid:Int)) then
       (some (Sum.inr ((X.length:Int),((X.length+L.length:Nat):Int),((X.length+L.length+R.length:Nat):Int),(),(mid:Int),((mid+(X.length+L.length):Nat):Int),w64 (((mid+(X.length+L.length):Nat):Int) - ((X.length+L.length+R.length:Nat):Int)),(mid:Int),X++L++R++Y,ar,())):Option (((List (Option Nat))×Unit) ⊕ (Int×Int×Int×Unit×Int×Int×Int×Int×(List (Option Nat))×(List an)×Unit)))
     else some (Sum.inr ((X.length:Int),((X.length+L.length:Nat):Int),((X.length+L.length+R.length:Nat):Int),(),(mid:Int),((mid+(X.length+L.length):Nat):Int),(X.length:Int),((X.length+L.length:Nat):Int),X++L++R++Y,ar,())))=some (Sum.inr ((X.length:Int),((X.length+L.length:Nat):Int),((X.length+L.length+R.length:Nat):Int),(),(mid:Int),((mid+(X.length+L.length):Nat):Int),(lo:Int),(hi:Int),X++L++R++Y,ar,())):=by
     by_cases hm:mid<X.length+L.length
     ·refine⟨mid - R.length,mid,.inl ⟨hm,by omega,rfl,by omega⟩, ?_⟩
      rw[aY (by omega),av (by omega) (by omega),show ((mid+(X.length+L.length):Nat):Int) - ((X.length+L.length+R.length:Nat):Int)=((mid - R.length:Nat):Int) by omega]
     ·refine⟨X.length,X.length+L.length,.inr ⟨by omega,rfl,rfl⟩, ?_⟩
      rw[bh (by omega)]
    rw[hv,aM]
    dsimp only
    have e4:w64 (((mid+(X.length+L.length):Nat):Int) - 1)=((mid+(X.length+L.length):Nat):Int) - 1:=av (by omega) (by omega)
    rw[e4]
    obtain⟨s,h1,h2,h3,hF2,hF1⟩:=XX hc X L R Y hlen' hL hR hokL hokR mid lo hi hmid.symm hcase (Int.natAbs (X.length:Int)+(Int.natAbs ((X.length+L.length:Nat):Int)+(Int.natAbs ((X.length+L.length+R.length:Nat):Int)+(Int.natAbs (mid:Int)+(Int.natAbs ((mid+(X.length+L.length):Nat):Int)+(Int.natAbs (lo:Int)+(Int.natAbs (hi:Int)+(Int.natAbs (((mid+(X.length+L.length):Nat):Int) - 1)+(List.length (X++L++R++Y)+2))))))))) (by omega)
    rw[h1,aM]
    dsimp only
    clear h1 hv
    obtain⟨L1,L2,rfl,hL1l⟩:=qL (l:=L) (n:=s - X.length) (by omega)
    obtain⟨R1,R2,rfl,hR1l⟩:=qL (l:=R) (n:=mid - s) (by simp only[ahH] at *;omega)
    simp only[ahH] at hn hlen hL1 hR1 hmid hcase e1 e2 e3 e4 eh hL0 hR0
    have F1:∀ y∈R1,∀ z∈L2,k y<k z:=by
     intro y hy z hz
     have hr0:0<R1.length:=ahN hy
     have hl0:0<L2.length:=ahN hz
     have:=hF1 L1.length (R1.length - 1) (by simp;omega) (by simp;omega) (by omega) (by omega)
     rw[List.getElem_append_left (show R1.length - 1<R1.length by omega),List.getElem_append_right (by omega)] at this
     obtain⟨i,hi',rfl⟩:=ah4.1 hy
     obtain⟨j,hj',rfl⟩:=ah4.1 hz
     have a1:=hR.left.get (i:=i) (j:=R1.length - 1) (by omega) (by omega)
     have a2:=hL.right.get (i:=L1.length - L1.length) (j:=j) (by omega) hj'
     omega
    have F2:∀ y∈L1,∀ z∈R2,k y≤k z:=by
     intro y hy z hz
     have hr0:0<L1.length:=ahN hy
     have hl0:0<R2.length:=ahN hz
     have:=hF2 (L1.length - 1) R1.length (by simp;omega) (by simp;omega) (by omega) (by omega)
     rw[List.getElem_append_left (show L1.length - 1<L1.length by omega),List.getElem_append_right (by omega)] at this
     obtain⟨i,hi',rfl⟩:=ah4.1 hy
     obtain⟨j,hj',rfl⟩:=ah4.1 hz
     have a1:=hL.left.get (i:=i) (j:=L1.length - 1) (by omega) (by omega)
     have a2:=hR.right.get (i:=R1.length - R1.length) (j:=j) (by omega) hj'
     omega
    have e5:w64 (((mid+(X.length+(L1++L2).length):Nat):Int) - (s:Int))=((X.length+(L1++L2).length+R1.length:Nat):Int):=by
     rw[av (by simp;omega) (by simp;omega)];simp only[ahH];omega
    rw[e5]
    have hokL1:∀ z∈L1,ok z:=fun z hz=>hokL z (by simp[hz])
    have hokL2:∀ z∈L2,ok z:=fun z hz=>hokL z (by simp[hz])
    have hokR1:∀ z∈R1,ok z:=fun z hz=>hokR z (by simp[hz])
    have hokR2:∀ z∈R2,ok z:=fun z hz=>hokR z (by simp[hz])
    have ph1:∃ S1,(X.length<s→s<mid→self (X++L1++R1++(L2++R2++Y),(X.length:Int),(s:Int),(mid:Int),(),ar,())=some (X++S1++(L2++R2++Y),()))∧(¬(X.length<s∧s<mid)→S1=L1++R1)∧Srt k S1∧bM k (L1++R1) S1:=by
     by_cases hb:X.length<s∧s<mid
     ·obtain⟨S1,g1,g2,g3⟩:=ih X L1 R1 (L2++R2++Y) (by omega) (by omega) (by omega) (by simp;omega) hL.left hR.left hokL1 hokR1
      rw[show ((X.length+L1.length:Nat):Int)=(s:Int) by omega,show ((X.length+L1.length+R1.length:Nat):Int)=(mid:Int) by omega] at g1
      exact⟨S1,fun _ _=>g1,fun h=>absurd hb h,g2,g3⟩
     ·refine⟨L1++R1,fun h1 h2=>absurd ⟨h1,h2⟩ hb,fun _=>rfl, ?_,bM.refl _ _⟩
      rcases (show L1.length=0∨R1.length=0 by omega) with h | h
      ·rw[ahj h];exact hR.left
      ·rw[ahj h,ag9];exact hL.left
    obtain⟨S1,hS1a,hS1b,hS1s,hS1e⟩:=ph1
    have hS1l:S1.length=L1.length+R1.length:=by rw[hS1e.length];simp
    have ph2:∃ S2,(bif decide ((mid:Int)<((X.length+(L1++L2).length+R1.length:Nat):Int)) then
     bif decide (((X.length+(L1++L2).length+R1.length:Nat):Int)<((X.length+(L1++L2).length+(R1++R2).length:Nat):Int)) then
      Option.bind (self (X++S1++(L2++R2++Y),(mid:Int),((X.length+(L1++L2).length+R1.length:Nat):Int),((X.length+(L1++L2).length+(R1++R2).length:Nat):Int),(),ar,())) fun r38=>some (r38.1,())
     else some (X++S1++(L2++R2++Y),())
     else some (X++S1++(L2++R2++Y),()))=some (X++(S1++S2)++Y,())∧Srt k S2∧bM k (L2++R2) S2:=by
     simp only[ahH]
     by_cases hb1:0<L2.length
     ·rw[aY (by omega)]
      by_cases hb2:0<R2.length
      ·rw[aY (by omega)]
       obtain⟨S2,g1,g2,g3⟩:=ih (X++S1) L2 R2 Y (by omega) hb1 hb2 (by simp;omega) hL.right hR.right hokL2 hokR2
       rw[show (((X++S1).length:Nat):Int)=(mid:Int) by simp;omega,show (((X++S1).length+L2.length:Nat):Int)=((X.length+(L1.length+L2.length)+R1.length:Nat):Int) by simp;omega,show (((X++S1).length+L2.length+R2.length:Nat):Int)=((X.length+(L1.length+L2.length)+(R1.length+R2.length):Nat):Int) by simp;omega] at g1
       rw[show X++S1++(L2++R2++Y)=X++S1++L2++R2++Y by simp,g1]
       exact⟨S2,by simp,g2,g3⟩
      ·have:R2=[]:=ahj (by omega)
       subst this
       rw[bh (by simp)]
       exact⟨L2,by simp,hL.right,by simpa using bM.refl k L2⟩
     ·have:L2=[]:=ahj (by omega)
      subst this
      rw[bh (by simp;omega)]
      exact⟨R2,by simp,hR.right,bM.refl _ _⟩
    obtain⟨S2,hE2,hS2s,hS2e⟩:=ph2
    have fin:Srt k (S1++S2)∧bM k (L1++L2++(R1++R2)) (S1++S2):=by
     constructor
     ·refine hS1s.append hS2s fun y hy z hz=> ?_
      rcases ahX.1 (hS1e.mem.1 hy) with h | h<;>rcases ahX.1 (hS2e.mem.1 hz) with h' | h'
      ·exact hL.Km y h z h'
      ·exact F2 y h z h'
      ·have:=F1 y h z h';omega
      ·exact hR.Km y h z h'
     ·have h1:bM k (L1++(L2++R1)++R2) (L1++(R1++L2)++R2):=((bM.refl k L1).append (bM.swap fun y hy z hz=>by have:=F1 z hz y hy;omega)).append (bM.refl k R2)
      have h2:=hS1e.append hS2e
      have h3:bM k (L1++L2++(R1++R2)) (L1++R1++(L2++R2)):=by simpa using h1
      exact h3.trans h2
    refine⟨S1++S2, ?_,fin.1,fin.2⟩
    have hsL:((X.length+(L1++L2).length:Nat):Int)=((X.length+L1.length+L2.length:Nat):Int):=by simp;omega
    have tail:∀ (D:List (Option Nat)),D=X++L1++R1++(L2++R2++Y)→
     (bif decide ((X.length:Int)<(s:Int)) then
       aH (β:=((List (Option Nat))×Unit)) (γ:=(Int×Unit×Int×Int×(List (Option Nat))×(List an)×Unit)) (
        bif decide ((s:Int)<(mid:Int)) then
         Option.bind (self (D,(X.length:Int),(s:Int),(mid:Int),(),ar,())) fun r35=>
         some (Sum.inr (((X.length+(L1++L2).length+(R1++R2).length:Nat):Int),(),(mid:Int),((X.length+(L1++L2).length+R1.length:Nat):Int),r35.1,ar,()))
        else
         some (Sum.inr (((X.length+(L1++L2).length+(R1++R2).length:Nat):Int),(),(mid:Int),((X.length+(L1++L2).length+R1.length:Nat):Int),D,ar,()))) fun v36=>
       bif decide (v36.2.2.1<v36.2.2.2.1) then
        bif decide (v36.2.2.2.1<v36.1) then
         Option.bind (self (v36.2.2.2.2.1,v36.2.2.1,v36.2.2.2.1,v36.1,v36.2.1,v36.2.2.2.2.2.1,())) fun r37=>
         some (r37.1,())
        else
         some (v36.2.2.2.2.1,())
       else
        some (v36.2.2.2.2.1,())
     else
      bif decide ((mid:Int)<((X.length+(L1++L2).length+R1.length:Nat):Int)) then
       bif decide (((X.length+(L1++L2).length+R1.length:Nat):Int)<((X.length+(L1++L2).length+(R1++R2).length:Nat):Int)) then
        Option.bind (self (D,(mid:Int),((X.length+(L1++L2).length+R1.length:Nat):Int),((X.length+(L1++L2).length+(R1++R2).length:Nat):Int),(),ar,())) fun r38=>
        some (r38.1,())
       else
        some (D,())
      else
       some (D,()))=some (X++(S1++S2)++Y,()):=by
     intro D hD
     by_cases hb1:X.length<s
     ·rw[aY (by omega)]
      by_cases hb2:s<mid
      ·rw[aY (by omega),hD,hS1a hb1 hb2,ai1,aM]
       exact hE2
      ·rw[bh (by omega),aM,hD]
       have:X++L1++R1++(L2++R2++Y)=X++S1++(L2++R2++Y):=by rw[hS1b (fun h=>hb2 h.2)];simp
       rw[this]
       exact hE2
     ·rw[bh (by omega),hD]
      have:X++L1++R1++(L2++R2++Y)=X++S1++(L2++R2++Y):=by rw[hS1b (fun h=>hb1 h.1)];simp
      rw[this]
      exact hE2
    by_cases hsm:s<X.length+(L1++L2).length
    ·rw[aY (by omega)]
     by_cases hme:0<R1.length
     ·have hrot:=ac6 (ar:=ar) (X++L1) L2 R1 (R2++Y) (by simp at hsm;omega) hme (by simp;omega)
      rw[show (((X++L1).length:Nat):Int)=(s:Int) by simp;omega,show (((X++L1).length+L2.length:Nat):Int)=((X.length+(L1++L2).length:Nat):Int) by simp;omega,show (((X++L1).length+L2.length+R1.length:Nat):Int)=((X.length+(L1++L2).length+R1.length:Nat):Int) by simp;omega,
       show X++L1++L2++R1++(R2++Y)=X++(L1++L2)++(R1++R2)++Y by simp] at hrot
      rw[aY (by omega),hrot,ai1,aM]
      exact tail _ (by simp)
     ·have:R1=[]:=ahj (by omega)
      subst this
      rw[bh (by simp),aM]
      exact tail _ (by simp)
    ·rw[bh (by omega)]
     have:L2=[]:=ahj (by simp at hsm;omega)
     subst this
     exact tail _ (by simp)
theorem QE (hc:zU k ar ok) (X L R Y:List (Option Nat)) (h1:0<L.length) (h2:0<R.length) (hlen:(X++L++R++Y).length<1000000000) (hL:Srt k L) (hR:Srt k R) (hokL:∀ z∈L,ok z) (hokR:∀ z∈R,ok z):
 ∃ S,dO (X++L++R++Y) (X.length:Int) ((X.length+L.length:Nat):Int) ((X.length+L.length+R.length:Nat):Int) () ar=some (X++S++Y,())∧Srt k S∧bM k (L++R) S:=by
 unfold dO
 exact Yz hc _ X L R Y (by unfold gp;simp only[ahH];omega) h1 h2 hlen hL hR hokL hokR
theorem Yw (hc:zU k ar ok) (N:Nat) (hN:N<100000000):∀ (n:Nat) (A Z:List (Option Nat)) (j:Nat),A.length=j*20→A.length+Z.length=N→Z.length<n→ChS k 20 A→(∀ z∈A,ok z)→(∀ z∈Z,ok z)→
 ∃ A' Z' j',iter (X:=fN) (β:=fK) n ((N:Int),(),20,(A.length:Int),((A.length+20:Nat):Int),A++Z,ar,()) fH=some (Sum.inr ((N:Int),(),20,(A'.length:Int),A'++Z',ar,()))∧A'.length=j'*20∧Z'.length<20∧ChS k 20 A'∧bM k (A++Z) (A'++Z'):=by
 intro n
 induction n with
 | zero=>intro A Z j _ _ h;omega
 | succ n ih=>
  intro A Z j hA hAZ hn hch hokA hokZ
  rw[bH]
  generalize hag:(fun y=>iter n y fH)=again
  unfold fH
  dsimp only
  by_cases hb:20≤Z.length
  ·rw[aY (by omega)]
   obtain⟨S,Y,rfl,hS⟩:=qL (l:=Z) (n:=20) hb
   simp only[ahH] at hAZ hn
   obtain⟨S',g1,g2,g3⟩:=NQ hc A S Y (by simp;omega) (fun z hz=>hokZ z (by simp[hz]))
   rw[hS] at g1
   rw[show A++(S++Y)=A++S++Y by simp,g1,ai1]
   dsimp only
   have hS':S'.length=20:=by rw[g3.length,hS]
   have e1:w64 (((A.length+20:Nat):Int)+20)=(((A++S').length+20:Nat):Int):=by rw[av (by omega) (by omega)];simp;omega
   rw[e1,show ((A.length+20:Nat):Int)=(((A++S').length:Nat):Int) by simp;omega, ← hag]
   obtain⟨A',Z',j',h1,h2,h3,h4,h5⟩:=ih (A++S') Y (j+1) (by simp;omega) (by simp;omega) (by omega) (hch.snoc hA g2 (by omega)) (fun z hz=>by
    rcases ahX.1 hz with h | h
    ·exact hokA z h
    ·exact hokZ z (by simp[g3.mem.1 h])) (fun z hz=>hokZ z (by simp[hz]))
   refine⟨A',Z',j',h1,h2,h3,h4, ?_⟩
   have:bM k (A++S++Y) (A++S'++Y):=((bM.refl k A).append g3).append (bM.refl k Y)
   exact this.trans h5
  ·rw[bh (by omega)]
   exact⟨A,Z,j,rfl,hA,by omega,hch,bM.refl _ _⟩
theorem ZE (hc:zU k ar ok) (N bs:Nat) (hN:N<100000000) (hbs:0<bs) (hbN:bs<N):∀ (n:Nat) (A Z:List (Option Nat)) (j:Nat),A.length=j*(2*bs)→A.length+Z.length=N→Z.length<n→ChS k (2*bs) A→ChS k bs Z→(∀ z∈A,ok z)→(∀ z∈Z,ok z)→
 ∃ A' Z' j',iter (X:=fP) (β:=fM) n ((N:Int),(),(bs:Int),(A.length:Int),((A.length+2*bs:Nat):Int),A++Z,ar,()) fJ=some (Sum.inr ((N:Int),(),(bs:Int),(A'.length:Int),A'++Z',ar,()))∧A'.length=j'*(2*bs)∧Z'.length<2*bs∧ChS k (2*bs) A'∧ChS k bs Z'∧bM k (A++Z) (A'++Z'):=by
 intro n
 induction n with
 | zero=>intro A Z j _ _ h;omega
 | succ n ih=>
  intro A Z j hA hAZ hn hch hcz hokA hokZ
  rw[bH]
  generalize hag:(fun y=>iter n y fJ)=again
  unfold fJ
  dsimp only
  by_cases hb:2*bs≤Z.length
  ·rw[aY (by omega)]
   obtain⟨L,Z1,rfl,hL⟩:=qL (l:=Z) (n:=bs) (by omega)
   obtain⟨R,Y,rfl,hR⟩:=qL (l:=Z1) (n:=bs) (by simp at hb;omega)
   simp only[ahH] at hAZ hn hb
   have sL:Srt k L:=by
    have:=hcz 0
    rw[ai0,ahh, ← hL,aiq] at this
    exact this
   have sR:Srt k R:=by
    have:=hcz 1
    rw[aiT] at this
    conv at this=>arg 2;rw[show bs=L.length by omega,ahf,show L.length=R.length by omega,aiq]
    exact this
   have cY:ChS k bs Y:=by
    have:=hcz.drop 2
    rw[show L++(R++Y)=(L++R)++Y by simp,show 2*bs=(L++R).length by simp;omega,ahf] at this
    exact this
   obtain⟨S,g1,g2,g3⟩:=QE hc A L R Y (by omega) (by omega) (by simp;omega) sL sR (fun z hz=>hokZ z (by simp[hz])) (fun z hz=>hokZ z (by simp[hz]))
   have e0:w64 ((A.length:Int)+(bs:Int))=((A.length+L.length:Nat):Int):=by rw[av (by omega) (by omega)];omega
   rw[e0,show ((A.length+2*bs:Nat):Int)=((A.length+L.length+R.length:Nat):Int) by omega,show A++(L++(R++Y))=A++L++R++Y by simp,g1,ai1]
   dsimp only
   have hSl:S.length=2*bs:=by rw[g3.length];simp;omega
   have e1:w64 (((A.length+L.length+R.length:Nat):Int)+w64 (2*(bs:Int)))=(((A++S).length+2*bs:Nat):Int):=by
    rw[av (n:=2*(bs:Int)) (by omega) (by omega),av (by omega) (by omega)];simp;omega
   rw[e1,show ((A.length+L.length+R.length:Nat):Int)=(((A++S).length:Nat):Int) by simp;omega, ← hag]
   obtain⟨A',Z',j',h1,h2,h3,h4,h5,h6⟩:=ih (A++S) Y (j+1) (by rw[ahH,hA,hSl,aix,aiT]) (by simp;omega) (by omega) (hch.snoc hA g2 (by omega)) cY (fun z hz=>by
    rcases ahX.1 hz with h | h
    ·exact hokA z h
    ·rcases ahX.1 (g3.mem.1 h) with h | h<;>exact hokZ z (by simp[h])) (fun z hz=>hokZ z (by simp[hz]))
   refine⟨A',Z',j',h1,h2,h3,h4,h5, ?_⟩
   have:bM k (A++(L++R)++Y) (A++S++Y):=((bM.refl k A).append g3).append (bM.refl k Y)
   have h7:=this.trans h6
   simpa using h7
  ·rw[bh (by omega)]
   exact⟨A,Z,j,rfl,hA,by omega,hch,hcz,bM.refl _ _⟩
theorem ZD (hc:zU k ar ok) (N:Nat) (hN:N<100000000):∀ (n bs:Nat) (l:List (Option Nat)),l.length=N→0<bs→N<bs+n∧0<n→bs<400000000→ChS k bs l→(∀ z∈l,ok z)→
 ∃ l',iter (X:=fO) (β:=fL) n ((N:Int),(),(bs:Int),l,ar,()) fI=some (Sum.inr (l',ar,()))∧Srt k l'∧bM k l l':=by
 intro n
 induction n with
 | zero=>
  intro bs l hl hbs hn hb2 hch hok
  exact absurd hn (by omega)
 | succ n ih=>
  intro bs l hl hbs hn hb2 hch hok
  rw[bH]
  generalize hag:(fun y=>iter n y fI)=again
  unfold fI
  dsimp only
  by_cases hb:bs<N
  ·rw[aY (by omega)]
   have e0:w64 (2*(bs:Int))=(((([]:List (Option Nat)).length)+2*bs:Nat):Int):=by rw[av (by omega) (by omega)];simp
   rw[e0,show (0:Int)=((([]:List (Option Nat)).length:Nat):Int) from rfl]
   obtain⟨A,Z,j,h1,h2,h3,h4,h5,h6⟩:=ZE hc N bs hN hbs hb (Int.natAbs (N:Int)+(Int.natAbs (bs:Int)+(Int.natAbs ((([]:List (Option Nat)).length:Nat):Int)+(Int.natAbs (((([]:List (Option Nat)).length)+2*bs:Nat):Int)+(List.length l+2))))) [] l 0 (by simp) (by simpa using hl) (by omega) (ChS.nil _ _) hch (by simp) hok
   rw[aic] at h1 h6
   rw[h1,aM]
   dsimp only
   have hAZ:A.length+Z.length=N:=by have:=h6.length;simp at this;omega
   have hokAZ:∀ z∈A++Z,ok z:=fun z hz=>hok z (h6.mem.1 hz)
   have e1:w64 ((A.length:Int)+(bs:Int))=((A.length+bs:Nat):Int):=by rw[av (by omega) (by omega)];omega
   have e2:w64 ((bs:Int)*2)=((2*bs:Nat):Int):=by rw[av (by omega) (by omega)];omega
   rw[e1,e2]
   by_cases hlast:A.length+bs<N
   ·rw[aY (by omega)]
    obtain⟨L,R,rfl,hL⟩:=qL (l:=Z) (n:=bs) (by omega)
    simp only[ahH] at hAZ h3
    have sL:Srt k L:=by
     have:=h5 0
     rw[ai0,ahh, ← hL,aiq] at this
     exact this
    have sR:Srt k R:=by
     have:=h5 1
     rw[aiT] at this
     conv at this=>arg 2;rw[show List.drop bs (L++R)=R by rw[← hL];exact ahf,ais (by omega)]
     exact this
    obtain⟨S,g1,g2,g3⟩:=QE hc A L R [] (by omega) (by omega) (by simp;omega) sL sR (fun z hz=>hokAZ z (by simp[hz])) (fun z hz=>hokAZ z (by simp[hz]))
    simp only[ag9] at g1
    rw[show ((A.length+bs:Nat):Int)=((A.length+L.length:Nat):Int) by omega,show ((N:Nat):Int)=((A.length+L.length+R.length:Nat):Int) by omega,show A++(L++R)=A++L++R by simp,g1,ai1, ← hag]
    have hsam:bM k l (A++S):=h6.trans (by simpa using (bM.refl k A).append g3)
    obtain⟨l',q1,q2,q3⟩:=ih (2*bs) (A++S) (by rw[hsam.length];exact hl) (by omega) ⟨by omega,by omega⟩ (by omega) (h4.snoc h2 g2 (by rw[g3.length];simp;omega)) (fun z hz=>hok z (hsam.mem.1 hz))
    rw[show ((A.length+L.length+R.length:Nat):Int)=((N:Nat):Int) by omega]
    exact⟨l',q1,q2,hsam.trans q3⟩
   ·rw[bh (by omega), ← hag]
    have sZ:Srt k Z:=by
     have:=h5 0
     rw[ai0,ahh,ais (by omega)] at this
     exact this
    obtain⟨l',q1,q2,q3⟩:=ih (2*bs) (A++Z) (by simp;omega) (by omega) ⟨by omega,by omega⟩ (by omega) (h4.snoc h2 sZ (by omega)) hokAZ
    exact⟨l',q1,q2,h6.trans q3⟩
  ·rw[bh (by omega)]
   refine⟨l,rfl, ?_,bM.refl _ _⟩
   have:=hch 0
   rw[ai0,ahh,ais (by omega)] at this
   exact this
theorem Wz (hc:zU k ar ok) (l:List (Option Nat)) (hl:l.length<100000000) (hok:∀ z∈l,ok z):∃ l',dW l () ar=some (l',())∧Srt k l'∧bM k l l':=by
 unfold dW jh
 obtain⟨A,Z,j,h1,h2,h3,h4,h5⟩:=Yw hc l.length hl (Int.natAbs (l.length:Int)+(Int.natAbs (20:Int)+(Int.natAbs (0:Int)+(Int.natAbs (20:Int)+(List.length l+2))))) [] l 0 (by simp) (by simp) (by omega) (ChS.nil _ _) (by simp) hok
 simp only[ahM,aic] at h1 h5
 rw[show ((0+20:Nat):Int)=20 from rfl,show ((0:Nat):Int)=0 from rfl] at h1
 rw[h1,aM]
 dsimp only
 have hAZ:A.length+Z.length=l.length:=by have:=h5.length;simp at this;omega
 obtain⟨Z',g1,g2,g3⟩:=NQ hc A Z [] (by simp;omega) (fun z hz=>hok z (h5.mem.1 (by simp[hz])))
 simp only[ag9] at g1
 rw[show ((A.length+Z.length:Nat):Int)=(l.length:Int) by omega] at g1
 rw[g1,ai1]
 dsimp only
 have hsam:bM k l (A++Z'):=h5.trans ((bM.refl k A).append g3)
 obtain⟨l',q1,q2,q3⟩:=ZD hc l.length hl (Int.natAbs (l.length:Int)+(Int.natAbs (20:Int)+(List.length (A++Z')+2))) 20 (A++Z') hsam.length (by omega) ⟨by omega,by omega⟩ (by omega) (h4.snoc h2 g2 (by rw[g3.length];omega)) (fun z hz=>hok z (hsam.mem.1 hz))
 rw[show ((20:Nat):Int)=20 from rfl] at q1
 rw[q1,aM]
 exact⟨l',rfl,q2,hsam.trans q3⟩
end
end Go.Md.SL
set_option linter.all false
namespace Go.Md
open Go.Dn
theorem Srt.congr {α:Type} {k k':α→Int} {l:List α} (h:∀ x,x∈l→k x=k' x) (hs:Srt k l):Srt k' l:=
 List.Pairwise.imp_of_mem (fun {a b} ha hb hab=>by rw[← h a ha, ← h b hb];exact hab) hs
theorem bM.congr {α:Type} {k k':α→Int} {l l':List α} (h:∀ x,x∈l→k x=k' x) (hs:bM k l l'):bM k' l l':=
 ⟨hs.perm,fun v=>by
   have e1:l'.filter (fun x=>k' x==v)=l'.filter (fun x=>k x==v):=List.filter_congr fun x hx=>by rw[h x (hs.mem.1 hx)]
   have e2:l.filter (fun x=>k' x==v)=l.filter (fun x=>k x==v):=List.filter_congr fun x hx=>by rw[h x hx]
   rw[e1,e2];exact hs.keys v⟩
abbrev lG (day:Int) (x:ai):Bool:=decide (0<x.opn∧x.due≤day)
def oa (day:Int) (A:List ai):List ai:=mW ai.due ((bA A).filter (lG day)) []
theorem Kz (day:Int) (A:List ai):Srt ai.due (oa day A)∧bM ai.due ((bA A).filter (lG day)) (oa day A):=SP _ List.Pairwise.nil
theorem Q6 {day:Int} {A:List ai} {x:ai} (h:x∈oa day A):x∈A∧0<x.opn∧x.due≤day:=by
 have:=(Kz day A).2.mem.1 h
 obtain⟨h1,h2⟩:=ah2.1 this
 exact⟨(dn A).mem_iff.1 h1,ajv h2⟩
theorem QZ {day:Int} {A:List ai} (hI:Ids A):(oa day A).length≤500:=by
 have h1:=(Kz day A).2.length
 have h2:=ahK (lG day) (bA A)
 have h3:=(dn A).length_eq
 have:=hI.len
 omega
abbrev hOf (A:List ai) (x:ai):Option Nat:=eU x.no A
theorem O9 {A:List ai} (hI:Ids A) {x:ai} (hx:x∈A):∃ j,hOf A x=some j∧A[j]? =some x:=OI hI ((dn A).mem_iff.2 hx)
def XL (A:List ai) (z:Option Nat):Int:=((z.bind fun j=>A[j]?).map ai.due).getD 0
theorem Pd {A:List ai} (hI:Ids A) {x:ai} (hx:x∈A):XL A (hOf A x)=x.due:=by
 obtain⟨j,h1,h2⟩:=O9 hI hx
 unfold XL
 rw[h1,ai1,h2];rfl
variable {l:List aa} {A:List ai}
theorem adz (hI:Ids A) (hF:∀ x,x∈A→1≤x.due∧x.due≤3652059) (day:Int):dW (((bA A).filter (lG day)).map (hOf A)) () (A.map ai.tup)=some ((oa day A).map (hOf A),()):=by
 have hmem:∀ x,x∈(bA A).filter (lG day)→x∈A:=fun x hx=>(dn A).mem_iff.1 (ah2.1 hx).1
 have hmem2:∀ x,x∈oa day A→x∈A:=fun x hx=>(Q6 hx).1
 have hlen:(((bA A).filter (lG day)).map (hOf A)).length<100000000:=by
  have h2:=ahK (lG day) (bA A)
  have h3:=(dn A).length_eq
  have:=hI.len
  rw[ahL];omega
 obtain⟨l',e1,e2,e3⟩:=SL.Wz (k:=XL A) (ar:=A.map ai.tup) (ok:=fun z=>∃ x,x∈A∧z=hOf A x) (fun a b ⟨x,hx,ha⟩ ⟨y,hy,hb⟩=>by
  obtain⟨i,h1,h2⟩:=O9 hI hx
  obtain⟨j,h3,h4⟩:=O9 hI hy
  have f1:=hF x hx;have f2:=hF y hy
  refine⟨x.due - y.due, ?_, ?_⟩
  ·unfold ep
   rw[ha,h1,ai1,iw h2,ai1,hb,h3,ai1,iw h4,ai1]
   show some (w64 (x.due - y.due),())=_
   rw[av (by omega) (by omega)]
  ·rw[ha,hb,Pd hI hx,Pd hI hy];omega) (((bA A).filter (lG day)).map (hOf A)) hlen (fun z hz=>by
  obtain⟨x,hx,rfl⟩:=ah6.1 hz
  exact⟨x,hmem x hx,rfl⟩)
 rw[e1]
 obtain⟨s1,s2⟩:=Kz day A
 have t1:Srt (XL A) ((oa day A).map (hOf A)):=Srt.N8 (Srt.congr (fun x hx=>(Pd hI (hmem2 x hx)).symm) s1)
 have t2:bM (XL A) (((bA A).filter (lG day)).map (hOf A)) ((oa day A).map (hOf A)):=bM.N8 (bM.congr (fun x hx=>(Pd hI (hmem x hx)).symm) s2)
 rw[Ot e2 t1 e3 t2]
theorem aaK (hg:Good l A) (hI:Ids A) (hF:∀ x,x∈A→1≤x.due∧x.due≤3652059) (o:aj) (l2:List aa) (ref:List ah) (pts:List ay) (wt day:Int):
 lI (o,l2,mapOf A,ref,pts,wt,()) day (A.map ai.tup)=some ((oa day A).map (hOf A),(o,l2,mapOf A,ref,pts,wt,()),A.map ai.tup,()):=by
 obtain⟨o1,o2,o3,o4,o5,o6⟩:=o
 have sI:maxLen=9223372036854775807:=rfl
 have hSl:(bA A).length≤500:=by rw[(dn A).length_eq];exact hI.len
 have hHl:(FW A).length=(bA A).length:=by unfold FW;rw[ahL]
 unfold lI
 dsimp only
 rw[Gl hI (o1,o2,o3,o4,o5,o6) l2,ai1]
 dsimp only
 have loop:∀ n,(bA A).length<n→iter (X:=gE) (β:=jD) n (day,[],((FW A).length:Int),0,o1,o2,o3,o4,o5,o6,l2,wt,ref,pts,FW A,mapOf A,A.map ai.tup,()) jC=
  some (Sum.inr (((bA A).filter (lG day)).map (hOf A),o1,o2,o3,o4,o5,o6,l2,wt,ref,pts,mapOf A,A.map ai.tup,())):=by
  intro n hn
  refine cO (Inv:=fun i X=>X=((day,(((bA A).take i).filter (lG day)).map (hOf A),((FW A).length:Int),(i:Int),o1,o2,o3,o4,o5,o6,l2,wt,ref,pts,FW A,mapOf A,A.map ai.tup,()):gE)) (bA A).length
   (fun z=>z=some (Sum.inr (((bA A).filter (lG day)).map (hOf A),o1,o2,o3,o4,o5,o6,l2,wt,ref,pts,mapOf A,A.map ai.tup,()))) ?_ ?_ n 0 _ rfl (aiY _) (by omega)
  ·rintro i X again hi rfl hag
   unfold jC
   dsimp only
   have hx:(bA A)[i]? =some (bA A)[i]:=ahv hi
   generalize (bA A)[i]=x at hx
   obtain⟨k,hk,hkx,_,hm⟩:=aco hg hI hx
   have hlen:((((bA A).take i).filter (lG day)).map (hOf A)).length≤i:=by
    rw[ahL]
    have:=ahK (lG day) ((bA A).take i)
    rw[ahR] at this
    omega
   have e:(bA A).take (i+1)=(bA A).take i++[x]:=fq hx
   have hkk:some k=hOf A x:=by
    unfold FW at hk
    rw[ahy,hx] at hk
    exact (Option.some.inj hk).symm
   rw[hHl,ajh (show (i:Int)<((bA A).length:Int) by omega),ajd,cw (by rw[agx];exact⟨ajh (by omega),rfl⟩),ag2,hk,ai1,qd hkx (hg.sound.line x hm).1,ai1]
   dsimp only
   rw[av (n:=(i:Int)+1) (by omega) (by omega)]
   by_cases c:lG day x=true
   ·obtain⟨c1,c2⟩:=ajv c
    have e2:(((bA A).take i).filter (lG day)).map (hOf A)++[some k]=(((bA A).take (i+1)).filter (lG day)).map (hOf A):=by
     rw[e,ahl,ahS,ahm,ajp c,hkk];rfl
    rw[ajh (show x.opn>0 from c1),ajd,ai1,iw hkx,ai1,ai1]
    dsimp only
    rw[ajh c2,ajd,cw (by rw[agx];exact⟨ajh (by omega),ajh (by omega)⟩),e2, ← hHl]
    exact hag _ rfl
   ·have e2:(((bA A).take i).filter (lG day)).map (hOf A)=(((bA A).take (i+1)).filter (lG day)).map (hOf A):=by
     rw[e,ahl,ahS,ahm,ajo c];simp
    by_cases c1:0<x.opn
    ·have c2:¬x.due≤day:=fun h=>c (ajh ⟨c1,h⟩)
     rw[ajh (show x.opn>0 from c1),ajd,ai1,iw hkx,ai1,ai1]
     dsimp only
     rw[ajf c2,ajc,e2, ← hHl]
     exact hag _ rfl
    ·rw[ajf (show ¬x.opn>0 from c1),ajc,ai1]
     dsimp only
     rw[ajc,e2, ← hHl]
     exact hag _ rfl
  ·rintro X again rfl
   unfold jC
   dsimp only
   rw[hHl,ajf (show ¬((bA A).length:Int)<((bA A).length:Int) by omega),ajc,air]
 rw[loop _ (by omega),aM]
 dsimp only
 rw[adz hI hF day,ai1]
end Go.Md
set_option linter.all false
namespace Go.Md
open Go.Dn
theorem fuel1 (a b c:Nat) (h:0<c):b<a+(b+c):=by omega
abbrev gO (s:aT):Int:=s.2.2.2.2.2.1
theorem ab9 {day len i:Int} {M out:List aT} {s:aT} (ho:out.length≤500):∀ (r:List aT) (n:Nat),r.length≤out.length→out.take r.length=r.reverse→r.length<n→
 iter (X:=wY) (β:=wX) n (day,out,(r.length:Int),len,i,s.1,s.2.1,s.2.2.1,s.2.2.2.1.1,s.2.2.2.1.2,s.2.2.2.2.1.1,s.2.2.2.2.1.2,s.2.2.2.2.2.1,s.2.2.2.2.2.2.1.1,s.2.2.2.2.2.2.1.2,s.2.2.2.2.2.2.2.1.1,s.2.2.2.2.2.2.2.1.2,s.2.2.2.2.2.2.2.2.1.1,s.2.2.2.2.2.2.2.2.1.2,s.2.2.2.2.2.2.2.2.2.1,s.2.2.2.2.2.2.2.2.2.2,M,()) rI=
  some (Sum.inr (day,out,(rH gO (gO s) r:Int),len,i,s.1,s.2.1,s.2.2.1,s.2.2.2.1.1,s.2.2.2.1.2,s.2.2.2.2.1.1,s.2.2.2.2.1.2,s.2.2.2.2.2.1,s.2.2.2.2.2.2.1.1,s.2.2.2.2.2.2.1.2,s.2.2.2.2.2.2.2.1.1,s.2.2.2.2.2.2.2.1.2,s.2.2.2.2.2.2.2.2.1.1,s.2.2.2.2.2.2.2.2.1.2,s.2.2.2.2.2.2.2.2.2.1,s.2.2.2.2.2.2.2.2.2.2,M,())):=by
 intro r
 induction r with
 | nil=>
  intro n _ _ hn
  obtain⟨n,rfl⟩:∃ m,n=m+1:=⟨n - 1,by omega⟩
  rw[bH]
  unfold rI
  rfl
 | cons e r ih=>
  intro n hl ht hn
  rw[ahI] at hl hn ht
  obtain⟨n,rfl⟩:∃ m,n=m+1:=⟨n - 1,by omega⟩
  rw[bH]
  generalize hag:(fun y=>iter n y rI)=again
  have he:out[r.length]? =some e:=by
   have:=congrArg (·[r.length]?) ht
   simpa [ahr] using this
  have ht':out.take r.length=r.reverse:=by
   have:=congrArg (List.take r.length) ht
   have h2:(r.reverse++[e]).take r.length=r.reverse:=by
    rw[show r.length=r.reverse.length by simp,aiq]
   rw[aiu,aiN (by omega),List.reverse_cons,h2] at this
   exact this
  unfold rI
  dsimp only
  rw[ahI,ajh (show ((r.length+1:Nat):Int)>0 by omega),ajd,av (n:=((r.length+1:Nat):Int) - 1) (by omega) (by omega),show ((r.length+1:Nat):Int) - 1=(r.length:Int) by omega,
   cw (by rw[agx];exact⟨ajh (by omega),ajh (by omega)⟩),ag2,he,ai1,ai1]
  dsimp only
  by_cases h:gO s<gO e
  ·have e1:rH gO (gO s) (e::r)=rH gO (gO s) r:=by simp only[rH];rw[ajp h]
   rw[e1,show decide (s.2.2.2.2.2.1<e.2.2.2.2.2.1)=true from ajh h,ajd, ← hag]
   exact ih n (by omega) ht' (by omega)
  ·have e1:rH gO (gO s) (e::r)=r.length+1:=by simp only[rH];rw[ajo h]
   rw[e1,show decide (s.2.2.2.2.2.1<e.2.2.2.2.2.1)=false from ajf h,ajc]
abbrev pY (day:Int) (s:aT):Bool:=decide (s.2.2.2.2.2.2.2.2.2.1≠0∧gO s≤day)
theorem Zz {day:Int} {M:List aT} (hM:M.length≤500):∀ n,M.length<n→iter (X:=rJ) (β:=wW) n (day,[],(M.length:Int),0,M,()) wV=some (Sum.inr (mW gO (M.filter (pY day)) [],())):=by
 intro n hn
 refine cO (Inv:=fun i X=>X=((day,mW gO ((M.take i).filter (pY day)) [],(M.length:Int),(i:Int),M,()):rJ)) M.length (fun z=>z=some (Sum.inr (mW gO (M.filter (pY day)) [],()))) ?_ ?_ n 0 _ rfl (aiY _) (by omega)
 ·rintro i X again hi rfl hag
  unfold wV
  dsimp only
  have hx:M[i]? =some M[i]:=ahv hi
  generalize M[i]=s at hx
  have e:M.take (i+1)=M.take i++[s]:=fq hx
  have hol:(mW gO ((M.take i).filter (pY day)) []).length≤499:=by
   rw[aaZ]
   have:=ahK (pY day) (M.take i)
   rw[ahR] at this
   simp only[ahM]
   omega
  generalize hout:mW gO ((M.take i).filter (pY day)) []=out at hol
  rw[ajh (show (i:Int)<(M.length:Int) by omega),ajd,cw (by rw[agx];exact⟨ajh (by omega),rfl⟩),ag2,hx,ai1]
  by_cases c1:s.2.2.2.2.2.2.2.2.2.1=0
  ·rw[show (s.2.2.2.2.2.2.2.2.2.1==0)=true by simpa using c1,ajd,av (n:=(i:Int)+1) (by omega) (by omega)]
   have e2:out=mW gO ((M.take (i+1)).filter (pY day)) []:=by
    rw[e,ahl,ahm,ajo (show ¬pY day s=true from fun h=>(ajv h).1 c1),List.filter_nil,ag9];exact hout.symm
   rw[e2]
   exact hag _ rfl
  ·rw[cJ c1,ajc]
   by_cases c2:day<s.2.2.2.2.2.1
   ·rw[ajh (show s.2.2.2.2.2.1>day from c2),ajd,av (n:=(i:Int)+1) (by omega) (by omega)]
    have e2:out=mW gO ((M.take (i+1)).filter (pY day)) []:=by
     rw[e,ahl,ahm,ajo (show ¬pY day s=true from fun h=>by
      have:gO s≤day:=(ajv h).2
      have c2:day<gO s:=c2
      omega),List.filter_nil,ag9];exact hout.symm
    rw[e2]
    exact hag _ rfl
   ·rw[ajf (show ¬s.2.2.2.2.2.1>day from c2),ajc]
    have hpl:=ab9 (day:=day) (len:=(M.length:Int)) (i:=(i:Int)) (M:=M) (out:=out) (s:=s) (by omega) out.reverse
    rw[ahP,List.reverse_reverse,air] at hpl
    rw[hpl _ (aiF _) rfl (fuel1 _ _ _ (by with_reducible repeat (first | exact aiZ | refine aiy _ ?_))),aM]
    dsimp only
    have hp:=JZ gO (gO s) out.reverse
    rw[ahP] at hp
    have hins:o8 out (rH gO (gO s) out.reverse:Int) [s]=some (NP gO s out,()):=by
     show (bif _ then _ else _)=_
     rw[show (decide (0≤((rH gO (gO s) out.reverse:Nat):Int))&&(decide (((rH gO (gO s) out.reverse:Nat):Int)≤(out.length:Int))&&(decide (0<[s].length)&&(decide ((out.length+[s].length)*144≤140737488355328)&&decide (out.length+[s].length≤4611686018427387904)))))=true by
      simp only[agx,aji,List.length_singleton];omega,ajd,ag2]
     rfl
    refine bs hins ?_
    rw[av (n:=(i:Int)+1) (by omega) (by omega)]
    have e2:NP gO s out=mW gO ((M.take (i+1)).filter (pY day)) []:=by
     rw[e,ahl,ahm,ajp (show pY day s=true from ajh ⟨c1,by show s.2.2.2.2.2.1≤day;omega⟩),List.filter_nil]
     unfold mW at hout ⊢
     rw[List.foldl_append,hout];rfl
    dsimp only
    rw[e2]
    exact hag _ rfl
 ·rintro X again rfl
  unfold wV
  dsimp only
  rw[ajf (show ¬(M.length:Int)<(M.length:Int) by omega),ajc,air]
theorem aaL {l:List aa} {A:List ai} (hg:Good l A) (day:Int):mW gO (((bA A).map aW).filter (pY day)) []=(oa day A).map aW:=by
 have hf:((bA A).map aW).filter (pY day)=((bA A).filter (lG day)).map aW:=by
  rw[List.filter_map]
  refine congrArg (List.map aW) (List.filter_congr fun x hx=> ?_)
  have hm:=(dn A).mem_iff.1 hx
  obtain⟨p1,_⟩:=On (hg.sound.line x hm).1
  have hs:=(KC 3 x.opn).2
  show decide ((few 3 x.opn).1≠0∧x.due≤day)=decide (0<x.opn∧x.due≤day)
  rw[aje]
  constructor
  ·rintro⟨h1,h2⟩;exact⟨by
    rcases Int.lt_or_le 0 x.opn with h | h
    ·exact h
    ·exact absurd (hs.2 (by omega)) h1,h2⟩
  ·rintro⟨h1,h2⟩;exact⟨fun h=>by have:=hs.1 h;omega,h2⟩
 rw[hf]
 obtain⟨s1,s2⟩:=Kz day A
 obtain⟨t1,t2⟩:=SP (k:=gO) (((bA A).filter (lG day)).map aW) (out:=[]) List.Pairwise.nil
 exact Ot t1 (Srt.N8 (k:=gO) (f:=aW) s1) t2 (bM.N8 (k:=gO) (f:=aW) s2)
theorem ac3 {o:aj} {l l2:List aa} {P:Int→List ay} {A:List ai} {L:List ak} {ref:List ah} (h:um l P A L) (hg:Good l A) (hI:Ids A) (day:Int):CB (o,l2,L,ref) day=some ((oa day A).map aW,()):=by
 have hSl:(bA A).length≤500:=by rw[(dn A).length_eq];exact hI.len
 unfold CB
 rw[Ys h hI,ai1]
 dsimp only
 rw[Zz (by rw[ahL];exact hSl) _ (by omega),aM,aaL hg day]
end Go.Md
set_option linter.all false
namespace Go.Md
open Go.Dn
theorem IN (l:List bL) (hl:l.length≤2001):mJ l l=some (true,()):=by
 unfold mJ
 rw[show ((l.length:Int) != (l.length:Int))=false by simp,ajc]
 have:∀ n,l.length<n→iter (X:=gU) (β:=jV) n (l,l,(l.length:Int),0,()) jU=some (Sum.inr ()):=by
  intro n hn
  refine cO (Inv:=fun i X=>X=((l,l,(l.length:Int),(i:Int),()):gU)) l.length (fun z=>z=some (Sum.inr ())) ?_ ?_ n 0 _ rfl (aiY _) (by omega)
  ·rintro i X again hi rfl hag
   unfold jU
   dsimp only
   have hy:l[i]? =some l[i]:=ahv hi
   rw[ajh (show (i:Int)<(l.length:Int) by omega),ajd,bZ hy,ai1,ai1]
   simp only[aja,Bool.and_self,agI,ajc]
   rw[av (n:=(i:Int)+1) (by omega) (by omega)]
   exact hag _ rfl
  ·rintro X again rfl
   unfold jU
   dsimp only
   rw[ajf (show ¬(l.length:Int)<(l.length:Int) by omega),ajc]
 rw[this _ (by omega),aM]
end Go.Md
set_option linter.all false
namespace Go.Md
open Go.Dn
theorem Ur (a b:Nat) (h:0<b):a<a+b:=by omega
theorem um.app {l:List aa} {P:Int→List ay} {A:List ai} {L:List ak} (h:um l P A L) (d':aa):um (l++[d']) P A L:=
 ⟨h.len,fun k x y hx hy=>by
   obtain⟨r1,r2,r3,r4,r5⟩:=h.rel k x y hx hy
   refine⟨r1,r2,r3,fun hn=> ?_,r5⟩
   obtain⟨j,d,e1,e2,e3⟩:=r4 hn
   exact⟨j,d,e1,by rw[ahq (ahx.1 e2).1];exact e2,e3⟩⟩
theorem WOk.app {l:List aa} {x:ai} (h:WOk l x) (d':aa):WOk (l++[d']) x:=
 ⟨h.low,fun h0=>by
   obtain⟨d,hd,hk⟩:=h.kind h0
   exact⟨d,by rw[ahq (ahx.1 hd).1];exact hd,hk⟩⟩
theorem Good.app {l:List aa} {A:List ai} (h:Good l A) (d':aa):Good (l++[d']) A:=
 ⟨⟨fun x hx=>⟨(h.sound.line x hx).1,(h.sound.line x hx).2.app d'⟩⟩,h.pr⟩
end Go.Md
set_option linter.all false
namespace Go.Md
open Go.Dn
end Go.Md
