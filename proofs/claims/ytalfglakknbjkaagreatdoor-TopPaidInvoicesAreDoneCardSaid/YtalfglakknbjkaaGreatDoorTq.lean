/-
  Plain facts: stable sorting, debts and payments. No condition.
-/
import Derived.Test.YtalfglakknbjkaaGreatDoorTp
import Derived.Test.YtalfglakknbjkaaGreatDoorTm
set_option linter.all false
namespace Go.Md
open Go.Dn
structure bw {α:Type} (k:α→Int) (l l':List α):Prop where
 perm:l.Perm l'
 keys:∀ v,l'.filter (fun x=>k x==v)=l.filter (fun x=>k x==v)
theorem bw.refl {α:Type} (k:α→Int) (l:List α):bw k l l:=⟨List.Perm.refl _,fun _=>rfl⟩
theorem bw.trans {α:Type} {k:α→Int} {a b c:List α} (h:bw k a b) (g:bw k b c):bw k a c:=⟨h.perm.trans g.perm,fun v=>(g.keys v).trans (h.keys v)⟩
theorem bw.append {α:Type} {k:α→Int} {a b c d:List α} (h:bw k a b) (g:bw k c d):bw k (a++c) (b++d):=
 ⟨h.perm.append g.perm,fun v=>by rw [W9,W9,h.keys,g.keys]⟩
theorem bw.mem {α:Type} {k:α→Int} {a b:List α} (h:bw k a b) {x:α}:x∈b↔x∈a:=h.perm.mem_iff.symm
theorem bw.length {α:Type} {k:α→Int} {a b:List α} (h:bw k a b):b.length=a.length:=h.perm.length_eq.symm
theorem bw.swap {α:Type} {k:α→Int} {u v:List α} (h:∀ x∈u,∀ y∈v,k x≠k y):bw k (u++v) (v++u):=by
 refine ⟨List.perm_append_comm,fun w=> ?_⟩
 rw [W9,W9]
 by_cases hu:∃ x∈u,k x=w
 ·obtain ⟨x,hx,rfl⟩:=hu
  have:v.filter (fun y=>k y==k x)=[]:=by
   rw [List.filter_eq_nil_iff]
   intro y hy
   simpa using fun e=>h x hx y hy e.symm
  rw [this];simp
 ·have:u.filter (fun y=>k y==w)=[]:=by
   rw [List.filter_eq_nil_iff]
   intro y hy
   simpa using fun e=>hu ⟨y,hy,e⟩
  rw [this];simp
def Srt {α:Type} (k:α→Int) (l:List α):Prop:=l.Pairwise fun x y=>k x≤k y
theorem Srt.append {α:Type} {k:α→Int} {a b:List α} (ha:Srt k a) (hb:Srt k b) (h:∀ x∈a,∀ y∈b,k x≤k y):Srt k (a++b):=XT.2 ⟨ha,hb,h⟩
theorem Srt.left {α:Type} {k:α→Int} {a b:List α} (h:Srt k (a++b)):Srt k a:=(XT.1 h).1
theorem Srt.right {α:Type} {k:α→Int} {a b:List α} (h:Srt k (a++b)):Srt k b:=(XT.1 h).2.1
theorem Srt.BX {α:Type} {k:α→Int} {a b:List α} (h:Srt k (a++b)):∀ x∈a,∀ y∈b,k x≤k y:=(XT.1 h).2.2
theorem It {α:Type} (A B:List α) (x y:α):((A++y::x::B).set (A.length+1) y).set A.length x=A++x::y::B:=by
 induction A with
 | nil=>rfl
 | cons a A ih=>simp only [WY,Xs,XX,ih]
theorem OU {α:Type} (A B:List α) (x y:α):((A++x::y::B).set A.length y).set (A.length+1) x=A++y::x::B:=by
 induction A with
 | nil=>rfl
 | cons a A ih=>simp only [WY,Xs,XX,ih]
theorem get_at {α:Type} (A B:List α) (y:α):(A++y::B)[A.length]? =some y:=by simp
theorem zi {α:Type} (A B:List α) (x y:α):(A++y::x::B)[A.length+1]? =some x:=by simp
theorem hY {α:Type} {l:List α} {n:Nat} (h:n≤l.length):∃ A B,l=A++B∧A.length=n:=⟨l.take n,l.drop n,by simp,by simp;omega⟩
section
variable {k:Option Nat→Int} {ar:List aq} {ok:Option Nat→Prop}
def kH (k:Option Nat→Int) (ar:List aq) (ok:Option Nat→Prop):Prop:=∀ a b,ok a→ok b→∃ c,lM a b ar=some (c,())∧(c<0↔k a<k b)
theorem Jw (hc:kH k ar ok) (a:Nat) (bI:Int) (iI:Int) (X:List (Option Nat)) (hX:X.length=a):∀ (n:Nat) (P1:List (Option Nat)) (x:Option Nat) (B:List (Option Nat)),P1.length<n→(X++P1++x::B).length<1000000000→ok x→(∀ y∈P1,ok y)→
 ∃ P2 P3,P1=P2++P3∧(∀ y∈P3,k x<k y)∧(∀ y,P2.getLast? =some y→k y≤k x)∧
 iter (X:=dD) (β:=dB) n ((a:Int),bI,(),iI,((a+P1.length:Nat):Int),X++P1++x::B,ar,()) dF=some (Sum.inr ((a:Int),bI,(),iI,X++P2++x::(P3++B),ar,())):=by
 intro n
 induction n with
 | zero=>intro P1 x B h;omega
 | succ n ih=>
  intro P1 x B hn hlen hx hP
  rw [bZ]
  generalize hag:(fun y=>iter n y dF)=again
  unfold dF
  dsimp only
  rcases W7 P1 with rfl | ⟨P,y,rfl⟩
  ·rw [ay (by simp)]
   exact ⟨[],[],rfl,by simp,by simp,by simp⟩
  ·rw [WX] at*
   simp only [Xr,Xs,Xv] at hlen hn ⊢
   have e1:w64 (((a+(P.length+1):Nat):Int) - 1)=(((X++P).length:Nat):Int):=by rw [au (by omega) (by omega)];simp [hX];omega
   have e2:(((a+(P.length+1):Nat):Int))=(((X++P).length+1:Nat):Int):=by simp [hX];omega
   have el:X++(P++[y])++x::B=(X++P)++y::x::B:=by simp
   obtain ⟨c,hcc,hlt⟩:=hc x y hx (hP y (by simp))
   rw [az (by omega),e1,e2,el]
   simp only [WQ,get_at,zi,Option.bind_some,hcc]
   rw [aH (by simp only [Wo,decide_eq_true_eq,Xr,Xs,Xy,Xv];omega),aH (by simp only [Wo,decide_eq_true_eq,Xr,Xs,Xy,Xv];omega)]
   by_cases hk:k x<k y
   ·rw [az (hlt.2 hk),aH (by simp only [Wo,decide_eq_true_eq,Xr,Xs,Xy,Xv];omega),aH (by simp only [Wo,decide_eq_true_eq,Xr,Xs,Xy,Xv];omega),aH (by simp only [Wo,decide_eq_true_eq,Xr,Xs,Xy,Xv];omega),
     aH (by simp only [Wo,decide_eq_true_eq,Xr,Xs,Xy,Xv];omega)]
    have hg:(((X++P)++y::x::B).set ((X++P).length+1) y)[(X++P).length]? =some y:=by rw [Xk (by omega),get_at]
    rw [hg,Option.bind_some,It, ← hag]
    obtain ⟨P2,P3,h1,h2,h3,h4⟩:=ih P x (y::B) (by omega) (by simp;omega) hx (fun z hz=>hP z (by simp [hz]))
    refine ⟨P2,P3++[y],by rw [h1];simp, ?_,h3, ?_⟩
    ·intro z hz
     rcases XF.1 hz with hz | hz
     ·exact h2 z hz
     ·rw [XQ.1 hz];exact hk
    ·have e3:(((X++P).length:Nat):Int)=((a+P.length:Nat):Int):=by simp [hX]
     rw [e3]
     show iter n _ _=_
     rw [h4];simp
   ·rw [ay (fun h=>hk (hlt.1 h))]
    refine ⟨P++[y],[],by simp,by simp,fun z hz=> ?_,by simp⟩
    simp at hz
    subst hz;omega
theorem UK {α:Type} {k:α→Int} {P:List α} (h:Srt k P) {v:Int} (hl:∀ y,P.getLast? =some y→k y≤v):∀ y∈P,k y≤v:=by
 rcases W7 P with rfl | ⟨Q,z,rfl⟩
 ·simp
 ·rw [WX] at*
  have hz:=hl z (by simp)
  intro y hy
  rcases XF.1 hy with hy | hy
  ·have:=h.BX y hy z (by simp);omega
  ·rw [XQ.1 hy];exact hz
theorem Rf {α:Type} {k:α→Int} {P2 P3:List α} {x:α} (hs:Srt k (P2++P3)) (h3:∀ y∈P3,k x<k y) (h2:∀ y,P2.getLast? =some y→k y≤k x):Srt k (P2++x::P3)∧bw k (P2++P3++[x]) (P2++x::P3):=by
 constructor
 ·refine hs.left.append (XU.2 ⟨fun y hy=>by have:=h3 y hy;omega,hs.right⟩) ?_
  intro y hy z hz
  have hy':=UK hs.left h2 y hy
  rcases XG.1 hz with rfl | hz
  ·exact hy'
  ·exact hs.BX y hy z hz
 ·rw [WV]
  refine (bw.refl k P2).append ?_
  have:=bw.swap (k:=k) (u:=P3) (v:=[x]) (fun y hy z hz=>by rw [XQ.1 hz];have:=h3 y hy;omega)
  simpa using this
theorem vF (hc:kH k ar ok) (X S Y:List (Option Nat)) (hlen:(X++S++Y).length<1000000000) (hok:∀ y∈S,ok y):
 ∃ S',cM (X++S++Y) (X.length:Int) ((X.length+S.length:Nat):Int) () ar=some (X++S'++Y,())∧Srt k S'∧bw k S S':=by
 simp only [Xr] at hlen
 have loop:∀ (n:Nat) (Q P:List (Option Nat)) (l:List (Option Nat)),Q.length<n→l=X++P++Q++Y→P.length+Q.length=S.length→Srt k P→(∀ y∈P,ok y)→(∀ y∈Q,ok y)→
  ∃ S',iter (X:=dz) (β:=dA) n ((X.length:Int),((X.length+S.length:Nat):Int),(),((X.length+P.length:Nat):Int),l,ar,()) cx=some (Sum.inr (X++S'++Y,ar,()))∧Srt k S'∧bw k (P++Q) S':=by
  intro n
  induction n with
  | zero=>intro Q P l h;omega
  | succ n ih=>
   intro Q P l hn hl hPQ hs hokP hokQ
   rw [bZ]
   generalize hag:(fun y=>iter n y cx)=again
   unfold cx
   dsimp only
   cases Q with
   | nil=>
    rw [ay (by simp at hPQ;omega)]
    exact ⟨P,by rw [hl];simp,hs,by simpa using bw.refl k P⟩
   | cons x Q=>
    simp only [Xs] at hn hPQ
    rw [az (by omega)]
    have hl':l=X++P++x::(Q++Y):=by rw [hl];simp
    obtain ⟨P2,P3,h1,h2,h3,h4⟩:=Jw hc X.length ((X.length+S.length:Nat):Int) ((X.length+P.length:Nat):Int) X rfl
     (Int.natAbs (X.length:Int)+(Int.natAbs ((X.length+S.length:Nat):Int)+(Int.natAbs ((X.length+P.length:Nat):Int)+(Int.natAbs ((X.length+P.length:Nat):Int)+(List.length l+2))))) P x (Q++Y) (by omega) (by simp;omega) (hokQ x (by simp)) hokP
    rw [← hl'] at h4
    rw [h4,aE]
    dsimp only
    have e1:w64 (((X.length+P.length:Nat):Int)+1)=((X.length+(P2++x::P3).length:Nat):Int):=by
     rw [au (by omega) (by omega),h1];simp;omega
    rw [e1, ← hag]
    rw [h1] at hs hokP
    obtain ⟨hs',hsam⟩:=Rf hs h2 h3
    obtain ⟨S',g1,g2,g3⟩:=ih Q (P2++x::P3) (X++P2++x::(P3++(Q++Y))) (by omega) (by simp) (by rw [h1] at hPQ;simp at hPQ ⊢;omega) hs' (fun y hy=>by
     rcases hsam.mem.1 hy |> XF.1 with h | h
     ·exact hokP y h
     ·rw [XQ.1 h];exact hokQ x (by simp)) (fun y hy=>hokQ y (by simp [hy]))
    refine ⟨S',g1,g2, ?_⟩
    have:bw k (P++x::Q) (P2++x::P3++Q):=by
     rw [h1]
     have:=hsam.append (bw.refl k Q)
     simpa using this
    exact this.trans g3
 unfold cM
 cases S with
 | nil=>
  have e1:w64 ((X.length:Int)+1)=((X.length+1:Nat):Int):=by rw [au (by omega) (by omega)];omega
  rw [e1]
  obtain ⟨n,hn⟩:∃ n,(Int.natAbs (X.length:Int)+(Int.natAbs ((X.length+([]:List (Option Nat)).length:Nat):Int)+(Int.natAbs ((X.length+1:Nat):Int)+(List.length (X++[]++Y)+2))))=n+1:=⟨_,rfl⟩
  rw [hn,bZ]
  unfold cx
  dsimp only
  rw [ay (by simp;omega)]
  exact ⟨[],rfl,List.Pairwise.nil,bw.refl _ _⟩
 | cons x S=>
  have e1:w64 ((X.length:Int)+1)=((X.length+[x].length:Nat):Int):=by rw [au (by omega) (by omega)];simp
  rw [e1]
  obtain ⟨S',g1,g2,g3⟩:=loop (Int.natAbs (X.length:Int)+(Int.natAbs ((X.length+(x::S).length:Nat):Int)+(Int.natAbs ((X.length+[x].length:Nat):Int)+(List.length (X++(x::S)++Y)+2)))) S [x] (X++(x::S)++Y) (by simp;omega) (by simp) (by simp;omega) (List.pairwise_singleton _ _) (fun y hy=>hok y (by simp at hy;simp [hy])) (fun y hy=>hok y (by simp [hy]))
  rw [g1,aE]
  exact ⟨S',rfl,g2,by simpa using g3⟩
end
end Go.Md
namespace Go.Md
open Go.Dn
theorem KY {α:Type} (A B:List α) (x y:α):(A++x::B).set A.length y=A++y::B:=by
 induction A with
 | nil=>rfl
 | cons a A ih=>simp only [WY,Xs,XX,ih]
section
variable {k:Option Nat→Int} {ar:List aq} {ok:Option Nat→Prop}
theorem oZ (X M Y:List (Option Nat)):∀ (P Q:List (Option Nat)),P.length=Q.length→(X++P++M++Q++Y).length<1000000000→
 cB (X++P++M++Q++Y) (X.length:Int) ((X.length+P.length+M.length:Nat):Int) (P.length:Int) () ar=some (X++Q++M++P++Y,()):=by
 intro P Q hPQ hlen
 simp only [Xr] at hlen
 have loop:∀ (n:Nat) (P1 P2 Q1 Q2:List (Option Nat)) (l:List (Option Nat)),P2.length<n→P1.length+P2.length=P.length→P1.length=Q1.length→P2.length=Q2.length→l=X++P1++P2++M++Q1++Q2++Y→
  iter (X:=fF) (β:=fC) n ((X.length:Int),((X.length+P.length+M.length:Nat):Int),(P.length:Int),(P1.length:Int),l,ar,()) fD=some (Sum.inr (X++P1++Q2++M++Q1++P2++Y,ar,())):=by
  intro n
  induction n with
  | zero=>intro P1 P2 Q1 Q2 l h;omega
  | succ n ih=>
   intro P1 P2 Q1 Q2 l hn h1 h2 h3 hl
   rw [bZ]
   generalize hag:(fun y=>iter n y fD)=again
   unfold fD
   dsimp only
   cases P2 with
   | nil=>
    have:Q2=[]:=W6 (by simpa using h3.symm)
    subst this
    rw [ay (by simp at h1;omega),hl]
   | cons p P2=>
    cases Q2 with
    | nil=>simp at h3
    | cons q Q2=>
     simp only [Xs] at hn h1 h3
     have ll:l.length=X.length+P.length+M.length+Q.length+Y.length:=by rw [hl];simp;omega
     have e1:w64 (((X.length+P.length+M.length:Nat):Int)+(P1.length:Int))=(((X++P1++p::P2++M++Q1).length:Nat):Int):=by rw [au (by omega) (by omega)];simp;omega
     have e2:w64 ((X.length:Int)+(P1.length:Int))=(((X++P1).length:Nat):Int):=by rw [au (by omega) (by omega)];simp
     have l1:l=(X++P1++p::P2++M++Q1)++q::(Q2++Y):=by rw [hl];simp
     have l2:l=(X++P1)++p::(P2++M++Q1++q::(Q2++Y)):=by rw [hl];simp
     have g1:l[(X++P1++p::P2++M++Q1).length]? =some q:=by rw [l1];exact get_at _ _ _
     have g2:l[(X++P1).length]? =some p:=by rw [l2];exact get_at _ _ _
     have g3:l.set (X++P1).length q=(X++P1++q::P2++M++Q1)++q::(Q2++Y):=by
      rw [l2,KY];simp
     have hlq:(X++P1++p::P2++M++Q1).length=(X++P1++q::P2++M++Q1).length:=by simp
     have g4:(l.set (X++P1).length q)[(X++P1++p::P2++M++Q1).length]? =some q:=by rw [g3,hlq];exact get_at _ _ _
     have g5:(l.set (X++P1).length q).set (X++P1++p::P2++M++Q1).length p=X++(P1++[q])++P2++M++(Q1++[p])++Q2++Y:=by rw [g3,hlq,KY];simp
     rw [az (by omega),e1,e2]
     simp only [WQ,g1,g2,g4,g5,Option.bind_some,Xy,ll]
     have lq:(X++P1++p::P2++M++Q1).length<X.length+P.length+M.length+Q.length+Y.length:=by simp;omega
     have lp:(X++P1).length<X.length+P.length+M.length+Q.length+Y.length:=by simp;omega
     rw [aH (by simp only [Wo,decide_eq_true_eq];omega),aH (by simp only [Wo,decide_eq_true_eq];omega),aH (by simp only [Wo,decide_eq_true_eq];omega),aH (by simp only [Wo,decide_eq_true_eq];omega)]
     have e3:w64 ((P1.length:Int)+1)=(((P1++[q]).length:Nat):Int):=by rw [au (by omega) (by omega)];simp
     rw [e3, ← hag]
     show iter n _ _=_
     rw [ih (P1++[q]) P2 (Q1++[p]) Q2 _ (by omega) (by simp;omega) (by simp;omega) (by omega) rfl]
     simp
 unfold cB
 rw [show (0:Int)=((([]:List (Option Nat)).length:Nat):Int) from rfl,loop _ [] P [] Q (X++P++M++Q++Y) (by simp;omega) (by simp) rfl hPQ (by simp),aE]
 simp
theorem FT (m:Nat):∀ (n:Nat) (X U V Y:List (Option Nat)),U.length+V.length<n→0<U.length→0<V.length→X.length+U.length=m→(X++U++V++Y).length<1000000000→
 ∃ (X' U' V' Y':List (Option Nat)),iter (X:=gQ) (β:=gN) n ((m:Int),(),(U.length:Int),(V.length:Int),X++U++V++Y,ar,()) gR=some (Sum.inr ((m:Int),(),(U'.length:Int),X'++U'++V'++Y',ar,()))∧U'.length=V'.length∧X'.length+U'.length=m∧X'++V'++U'++Y'=X++V++U++Y∧(X'++U'++V'++Y').length<1000000000:=by
 intro n
 induction n with
 | zero=>intro X U V Y h;omega
 | succ n ih=>
  intro X U V Y hn hU hV hm hlen
  rw [bZ]
  generalize hag:(fun y=>iter n y gR)=again
  unfold gR
  dsimp only
  by_cases he:U.length=V.length
  ·have hb:((U.length:Int) != (V.length:Int))=false:=by simp [he]
   rw [hb,cond_false]
   exact ⟨X,U,V,Y,rfl,he,hm,rfl,hlen⟩
  ·have hb:((U.length:Int) != (V.length:Int))=true:=by simp;omega
   rw [hb,cond_true]
   simp only [Xr] at hlen
   have e1:w64 ((m:Int) - (U.length:Int))=(X.length:Int):=by rw [au (by omega) (by omega)];omega
   rw [e1]
   by_cases hgt:V.length<U.length
   ·rw [az (by omega)]
    obtain ⟨U1,U2,rfl,hU1⟩:=hY (l:=U) (n:=V.length) (by omega)
    simp only [Xr] at*
    have hsw:=oZ (ar:=ar) X U2 Y U1 V hU1 (by simp;omega)
    rw [show ((X.length+U1.length+U2.length:Nat):Int)=(m:Int) by omega,hU1] at hsw
    rw [show X++(U1++U2)++V++Y=X++U1++U2++V++Y by simp,hsw,Option.bind_some]
    have e2:w64 (((U1.length+U2.length:Nat):Int) - (V.length:Int))=(U2.length:Int):=by rw [au (by omega) (by omega)];omega
    rw [e2, ← hag]
    obtain ⟨X',U',V',Y',h1,h2,h3,h4,h5⟩:=ih (X++V) U2 U1 Y (by omega) (by omega) (by omega) (by simp;omega) (by simp;omega)
    refine ⟨X',U',V',Y', ?_,h2,h3,by rw [h4];simp,h5⟩
    rw [← hU1]
    exact h1
   ·rw [ay (by omega)]
    obtain ⟨V1,V2,rfl,hV1⟩:=hY (l:=V) (n:=V.length - U.length) (by omega)
    simp only [Xr] at*
    have e3:w64 (w64 ((m:Int)+((V1.length+V2.length:Nat):Int)) - (U.length:Int))=((X.length+U.length+V1.length:Nat):Int):=by
     rw [au (n:=(m:Int)+((V1.length+V2.length:Nat):Int)) (by omega) (by omega),au (by omega) (by omega)];omega
    have hsw:=oZ (ar:=ar) X V1 Y U V2 (by omega) (by simp;omega)
    rw [e3,show X++U++(V1++V2)++Y=X++U++V1++V2++Y by simp,hsw,Option.bind_some]
    have e2:w64 (((V1.length+V2.length:Nat):Int) - (U.length:Int))=(V1.length:Int):=by rw [au (by omega) (by omega)];omega
    rw [e2, ← hag]
    obtain ⟨X',U',V',Y',h1,h2,h3,h4,h5⟩:=ih X V2 V1 (U++Y) (by omega) (by omega) (by omega) (by omega) (by simp;omega)
    refine ⟨X',U',V',Y', ?_,h2,h3,by rw [h4];simp,h5⟩
    rw [show ((U.length:Nat):Int)=(V2.length:Int) by omega,show X++V2++V1++U++Y=X++V2++V1++(U++Y) by simp]
    exact h1
theorem JQ (X U V Y:List (Option Nat)) (hU:0<U.length) (hV:0<V.length) (hlen:(X++U++V++Y).length<1000000000):
 iO (X++U++V++Y) (X.length:Int) ((X.length+U.length:Nat):Int) ((X.length+U.length+V.length:Nat):Int) () ar=some (X++V++U++Y,()):=by
 unfold iO
 simp only [Xr] at hlen
 have e1:w64 (((X.length+U.length:Nat):Int) - (X.length:Int))=(U.length:Int):=by rw [au (by omega) (by omega)];omega
 have e2:w64 (((X.length+U.length+V.length:Nat):Int) - ((X.length+U.length:Nat):Int))=(V.length:Int):=by rw [au (by omega) (by omega)];omega
 rw [e1,e2]
 obtain ⟨X',U',V',Y',h1,h2,h3,h4,h5⟩:=FT (ar:=ar) (X.length+U.length) (Int.natAbs ((X.length+U.length:Nat):Int)+(Int.natAbs (U.length:Int)+(Int.natAbs (V.length:Int)+(List.length (X++U++V++Y)+2)))) X U V Y (by omega) hU hV rfl (by simp;omega)
 rw [h1,aE]
 dsimp only
 simp only [Xr] at h5
 have e3:w64 (((X.length+U.length:Nat):Int) - (U'.length:Int))=(X'.length:Int):=by rw [au (by omega) (by omega)];omega
 have hsw:=oZ (ar:=ar) X' [] Y' U' V' h2 (by simp;omega)
 simp only [WW,Xv,X7] at hsw
 rw [e3,show ((X.length+U.length:Nat):Int)=((X'.length+U'.length:Nat):Int) by omega,hsw,Option.bind_some,h4]
end
end Go.Md
namespace Go.Md
open Go.Dn
theorem bsearch {X β:Type} {f:X→(X→Option β)→Option β} (mk:Nat→Nat→X) (fin:Nat→Option β) (P:Nat→Prop) [DecidablePred P] (lo hi:Nat)
 (hstep:∀ i j again,lo≤i→i<j→j≤hi→f (mk i j) again=if P ((i+j) / 2) then again (mk ((i+j) / 2+1) j) else again (mk i ((i+j) / 2)))
 (hend:∀ i again,lo≤i→i≤hi→f (mk i i) again=fin i) (mono:∀ s t,lo≤s→s≤t→t<hi→P t→P s):
 ∀ n i j,j - i<n→lo≤i→i≤j→j≤hi→(∀ t,lo≤t→t<i→P t)→(∀ t,j≤t→t<hi→¬P t)→∃ r,iter n (mk i j) f=fin r∧lo≤r∧r≤hi∧(∀ t,lo≤t→t<r→P t)∧(∀ t,r≤t→t<hi→¬P t)
 | 0,i,j,hn,_,_,_,_,_=>by omega
 | n+1,i,j,hn,h1,h2,h3,h4,h5=>by
  rw [bZ]
  by_cases hij:i=j
  ·subst hij
   exact ⟨i,hend i _ h1 h3,h1,h3,h4,h5⟩
  ·rw [hstep i j _ h1 (by omega) h3]
   by_cases hP:P ((i+j) / 2)
   ·rw [if_pos hP]
    exact bsearch mk fin P lo hi hstep hend mono n _ _ (by omega) (by omega) (by omega) h3 (fun t ht1 ht2=>mono t _ ht1 (show t≤(i+j) / 2 by omega) (by omega) hP) h5
   ·rw [if_neg hP]
    exact bsearch mk fin P lo hi hstep hend mono n _ _ (by omega) h1 (by omega) (by omega) h4 (fun t ht1 ht2 hPt=>hP (mono _ t (by omega) ht1 ht2 hPt))
theorem zj (i j:Nat) (h:i+j<4000000000000000000):w64 (Int.fdiv (bP (w64 ((i:Int)+(j:Int)))) (2 ^ 1))=(((i+j) / 2:Nat):Int):=by
 rw [au (n:=(i:Int)+(j:Int)) (by omega) (by omega),ef (by omega) (by omega),WD _ (by omega),au (by omega) (by omega)]
 omega
theorem PY {α:Type} (X L R Y:List α) {i:Nat} (h:i<L.length):(X++L++R++Y)[X.length+i]? =some L[i]:=by
 rw [WV,WV,Xc (by omega),Xb (by omega),show X.length+i - X.length=i by omega,List.getElem?_eq_getElem h]
theorem KO {α:Type} (X L R Y:List α) {i:Nat} (h:i<R.length):(X++L++R++Y)[X.length+L.length+i]? =some R[i]:=by
 rw [WV,WV,Xc (by omega),Xc (by omega),Xb (by omega),show X.length+L.length+i - X.length - L.length=i by omega,List.getElem?_eq_getElem h]
theorem Srt.get {α:Type} {k:α→Int} {l:List α} (h:Srt k l) {i j:Nat} (hij:i≤j) (hj:j<l.length):k (l[i]'(by omega))≤k l[j]:=by
 rcases Nat.lt_or_eq_of_le hij with h1 | h1
 ·exact XV.1 h i j (by omega) hj h1
 ·subst h1;exact Int.le_refl _
section
variable {k:Option Nat→Int} {ar:List aq} {ok:Option Nat→Prop}
theorem Ou (i:Nat):∀ (n:Nat) (A V Y:List (Option Nat)) (x:Option Nat),V.length<n→A.length+1+V.length=i→(A++x::V++Y).length<1000000000→
 iter (X:=fP) (β:=fU) n ((i:Int),(A.length:Int),A++x::V++Y,ar,()) gu=some (Sum.inr (A++V++x::Y,ar,())):=by
 intro n
 induction n with
 | zero=>intro A V Y x h;omega
 | succ n ih=>
  intro A V Y x hn hi hlen
  rw [bZ]
  generalize hag:(fun y=>iter n y gu)=again
  unfold gu
  dsimp only
  simp only [Xr,Xs] at hlen
  have e0:w64 ((i:Int) - 1)=(i:Int) - 1:=au (by omega) (by omega)
  rw [e0]
  cases V with
  | nil=>rw [ay (by simp at hi;omega)];simp
  | cons v V=>
   simp only [Xs] at hn hi hlen
   have e1:w64 ((A.length:Int)+1)=((A.length+1:Nat):Int):=by rw [au (by omega) (by omega)];omega
   have el:A++x::(v::V)++Y=A++x::v::(V++Y):=by simp
   have hg:((A++x::v::(V++Y)).set A.length v)[A.length+1]? =some v:=by rw [Xk (by omega),zi]
   rw [az (by omega),e1,el]
   simp only [WQ,get_at,zi,Option.bind_some,hg,OU,Xy]
   rw [aH (by simp only [Wo,decide_eq_true_eq,Xr,Xs];omega),aH (by simp only [Wo,decide_eq_true_eq,Xr,Xs];omega),aH (by simp only [Wo,decide_eq_true_eq,Xr,Xs];omega),aH (by simp only [Wo,decide_eq_true_eq,Xr,Xs];omega), ← hag]
   have:=ih (A++[v]) V Y x (by omega) (by simp;omega) (by simp;omega)
   simp only [Xr,Xs,Xv,Yt] at this
   show iter n _ _=_
   rw [show A++v::x::(V++Y)=A++[v]++x::V++Y by simp,this]
   simp
theorem Jq (A:List (Option Nat)):∀ (n:Nat) (U Y:List (Option Nat)) (y:Option Nat),U.length<n→(A++U++y::Y).length<1000000000→
 iter (X:=fL) (β:=fI) n ((A.length:Int),((A.length+U.length:Nat):Int),A++U++y::Y,ar,()) fK=some (Sum.inr (A++y::U++Y,ar,())):=by
 intro n
 induction n with
 | zero=>intro U Y y h;omega
 | succ n ih=>
  intro U Y y hn hlen
  rw [bZ]
  generalize hag:(fun y=>iter n y fK)=again
  unfold fK
  dsimp only
  simp only [Xr,Xs] at hlen
  rcases W7 U with rfl | ⟨V,u,rfl⟩
  ·rw [ay (by simp)];simp
  ·rw [WX] at*
   simp only [Xr,Xs,Xv] at hn hlen ⊢
   have e1:w64 (((A.length+(V.length+(0+1)):Nat):Int) - 1)=(((A++V).length:Nat):Int):=by rw [au (by omega) (by omega)];simp;omega
   have e2:((A.length+(V.length+(0+1)):Nat):Int)=(((A++V).length+1:Nat):Int):=by simp;omega
   have el:A++(V++[u])++y::Y=(A++V)++u::y::Y:=by simp
   have hg:(((A++V)++u::y::Y).set ((A++V).length+1) u)[(A++V).length]? =some u:=by rw [Xk (by omega),get_at]
   rw [az (by omega),e1,e2,el]
   simp only [WQ,get_at,zi,Option.bind_some,hg,It,Xy]
   rw [aH (by simp only [Wo,decide_eq_true_eq,Xr,Xs];omega),aH (by simp only [Wo,decide_eq_true_eq,Xr,Xs];omega),aH (by simp only [Wo,decide_eq_true_eq,Xr,Xs];omega),aH (by simp only [Wo,decide_eq_true_eq,Xr,Xs];omega), ← hag]
   have:=ih V (u::Y) y (by omega) (by simp;omega)
   show iter n _ _=_
   rw [show (((A++V).length:Nat):Int)=((A.length+V.length:Nat):Int) by simp,this]
   simp
theorem Bp (hc:kH k ar ok) (X R Y:List (Option Nat)) (x:Option Nat) (hlen:(X++[x]++R++Y).length<1000000000) (hR:Srt k R) (hx:ok x) (hok:∀ y∈R,ok y) (n:Nat) (hn:R.length<n):
 ∃ R1 R2,R=R1++R2∧(∀ y∈R1,k y<k x)∧(∀ y∈R2,k x≤k y)∧iter (X:=gp) (β:=gv) n ((X.length:Int),(),((X.length+1:Nat):Int),((X.length+1+R.length:Nat):Int),X++[x]++R++Y,ar,()) cZ=some (Sum.inr ((X.length:Int),((X.length+1+R1.length:Nat):Int),X++[x]++R++Y,ar,())):=by
 simp only [Xr,Xs,Xv] at hlen
 have hx0:(X++[x]++R++Y)[X.length]? =some x:=by simp
 have hRt:∀ i (h:i<R.length),(X++[x]++R++Y)[X.length+1+i]? =some R[i]:=fun i h=>KO X [x] R Y h
 obtain ⟨r,h1,h2,h3,h4,h5⟩:=bsearch (f:=cZ) (fun i j=>((X.length:Int),(),(i:Int),(j:Int),X++[x]++R++Y,ar,())) (fun i=>some (Sum.inr ((X.length:Int),(i:Int),X++[x]++R++Y,ar,())))
  (fun t=>k ((R[t - (X.length+1)]?).getD none)<k x) (X.length+1) (X.length+1+R.length) (by
    intro i j again hi hij hj
    unfold cZ
    dsimp only
    have hh:(i+j) / 2 - (X.length+1)<R.length:=by omega
    have hg:=hRt _ hh
    rw [show X.length+1+((i+j) / 2 - (X.length+1))=(i+j) / 2 by omega] at hg
    rw [az (by omega),zj i j (by omega)]
    simp only [WQ,hg,hx0,Option.bind_some]
    obtain ⟨c,hcc,hlt⟩:=hc R[(i+j) / 2 - (X.length+1)] x (hok _ (Xq _)) hx
    rw [hcc,aH (by simp only [Wo,decide_eq_true_eq,Xr,Xs];omega),aH (by simp only [Wo,decide_eq_true_eq,Xr,Xs];omega),Option.bind_some,List.getElem?_eq_getElem hh]
    dsimp only [Option.getD]
    by_cases hk:k R[(i+j) / 2 - (X.length+1)]<k x
    ·rw [az (hlt.2 hk),if_pos hk,au (by omega) (by omega)];rfl
    ·rw [ay (fun h=>hk (hlt.1 h)),if_neg hk])
  (by
    intro i again _ _
    unfold cZ
    dsimp only
    rw [ay (by omega)])
  (by
    intro s t hs hst ht hP
    rw [List.getElem?_eq_getElem (by omega)] at hP ⊢
    have:=hR.get (i:=s - (X.length+1)) (j:=t - (X.length+1)) (by omega) (by omega)
    simp only [Yw] at hP ⊢
    omega)
  n (X.length+1) (X.length+1+R.length) (by omega) (Yc _) (by omega) (Yc _) (fun t h1 h2=>by omega) (fun t h1 h2=>by omega)
 obtain ⟨R1,R2,rfl,hR1⟩:=hY (l:=R) (n:=r - (X.length+1)) (by omega)
 refine ⟨R1,R2,rfl, ?_, ?_, ?_⟩
 ·intro y hy
  obtain ⟨i,hi,rfl⟩:=XK.1 hy
  have:=h4 (X.length+1+i) (by omega) (by omega)
  rw [show X.length+1+i - (X.length+1)=i by omega,Xb hi,List.getElem?_eq_getElem hi] at this
  exact this
 ·intro y hy
  obtain ⟨i,hi,rfl⟩:=XK.1 hy
  have:=h5 (X.length+1+(R1.length+i)) (by omega) (by simp;omega)
  rw [show X.length+1+(R1.length+i) - (X.length+1)=R1.length+i by omega,Xc (by omega),show R1.length+i - R1.length=i by omega,List.getElem?_eq_getElem hi] at this
  simp only [Yw] at this
  omega
 ·rw [h1,show X.length+1+R1.length=r by omega]
theorem Ar (hc:kH k ar ok) (X L Y:List (Option Nat)) (y:Option Nat) (hlen:(X++L++[y]++Y).length<1000000000) (hL:Srt k L) (hy:ok y) (hok:∀ z∈L,ok z) (n:Nat) (hn:L.length<n):
 ∃ L1 L2,L=L1++L2∧(∀ z∈L1,k z≤k y)∧(∀ z∈L2,k y<k z)∧iter (X:=fM) (β:=fG) n (((X.length+L.length:Nat):Int),(),(X.length:Int),((X.length+L.length:Nat):Int),X++L++[y]++Y,ar,()) cR=some (Sum.inr (((X.length+L.length:Nat):Int),((X.length+L1.length:Nat):Int),X++L++[y]++Y,ar,())):=by
 simp only [Xr,Xs,Xv] at hlen
 have hy0:(X++L++[y]++Y)[X.length+L.length]? =some y:=by
  have:=KO X L [y] Y (i:=0) (by simp)
  simpa using this
 have hLt:∀ i (h:i<L.length),(X++L++[y]++Y)[X.length+i]? =some L[i]:=fun i h=>PY X L [y] Y h
 obtain ⟨r,h1,h2,h3,h4,h5⟩:=bsearch (f:=cR) (fun i j=>(((X.length+L.length:Nat):Int),(),(i:Int),(j:Int),X++L++[y]++Y,ar,())) (fun i=>some (Sum.inr (((X.length+L.length:Nat):Int),(i:Int),X++L++[y]++Y,ar,())))
  (fun t=>¬ k y<k ((L[t - X.length]?).getD none)) X.length (X.length+L.length) (by
    intro i j again hi hij hj
    unfold cR
    dsimp only
    have hh:(i+j) / 2 - X.length<L.length:=by omega
    have hg:=hLt _ hh
    rw [show X.length+((i+j) / 2 - X.length)=(i+j) / 2 by omega] at hg
    rw [az (by omega),zj i j (by omega)]
    simp only [WQ,hg,hy0,Option.bind_some]
    obtain ⟨c,hcc,hlt⟩:=hc y L[(i+j) / 2 - X.length] hy (hok _ (Xq _))
    rw [hcc,aH (by simp only [Wo,decide_eq_true_eq,Xr,Xs];omega),aH (by simp only [Wo,decide_eq_true_eq,Xr,Xs];omega),Option.bind_some,List.getElem?_eq_getElem hh]
    dsimp only [Option.getD]
    by_cases hk:k y<k L[(i+j) / 2 - X.length]
    ·rw [YH (hlt.2 hk),Bool.not_true,cond_false,if_neg (fun h=>h hk)]
    ·rw [YG (fun h=>hk (hlt.1 h)),Wx,cond_true,if_pos hk,au (by omega) (by omega)];rfl)
  (by
    intro i again _ _
    unfold cR
    dsimp only
    rw [ay (by omega)])
  (by
    intro s t hs hst ht hP
    rw [List.getElem?_eq_getElem (by omega)] at hP ⊢
    have:=hL.get (i:=s - X.length) (j:=t - X.length) (by omega) (by omega)
    simp only [Yw] at hP ⊢
    omega)
  n X.length (X.length+L.length) (by omega) (Yc _) (by omega) (Yc _) (fun t h1 h2=>by omega) (fun t h1 h2=>by omega)
 obtain ⟨L1,L2,rfl,hL1⟩:=hY (l:=L) (n:=r - X.length) (by omega)
 refine ⟨L1,L2,rfl, ?_, ?_, ?_⟩
 ·intro z hz
  obtain ⟨i,hi,rfl⟩:=XK.1 hz
  have:=h4 (X.length+i) (by omega) (by omega)
  rw [show X.length+i - X.length=i by omega,Xb hi,List.getElem?_eq_getElem hi] at this
  simp only [Yw] at this
  omega
 ·intro z hz
  obtain ⟨i,hi,rfl⟩:=XK.1 hz
  have:=h5 (X.length+(L1.length+i)) (by omega) (by simp;omega)
  rw [show X.length+(L1.length+i) - X.length=L1.length+i by omega,Xc (by omega),show L1.length+i - L1.length=i by omega,List.getElem?_eq_getElem hi] at this
  simp only [Yw] at this
  omega
 ·rw [h1,show X.length+L1.length=r by omega]
end
end Go.Md
namespace Go.Md
open Go.Dn
section
variable {k:Option Nat→Int} {ar:List aq} {ok:Option Nat→Prop}
theorem D0 (hc:kH k ar ok) (X L R Y:List (Option Nat)) (hlen:(X++L++R++Y).length<1000000000) (hL:Srt k L) (hR:Srt k R) (hokL:∀ z∈L,ok z) (hokR:∀ z∈R,ok z) (mid lo hi:Nat) (hmid:mid=(X.length+(X.length+L.length+R.length)) / 2)
 (hcase:(mid<X.length+L.length∧lo+R.length=mid∧hi=mid∧X.length≤lo)∨(X.length+L.length≤mid∧lo=X.length∧hi=X.length+L.length)) (n:Nat) (hn:hi<n):
 ∃ s:Nat,iter (X:=fJ) (β:=fH) n ((X.length:Int),((X.length+L.length:Nat):Int),((X.length+L.length+R.length:Nat):Int),(),(mid:Int),((mid+(X.length+L.length):Nat):Int),(lo:Int),(hi:Int),((mid+(X.length+L.length):Nat):Int) - 1,X++L++R++Y,ar,()) cO=some (Sum.inr ((X.length:Int),((X.length+L.length:Nat):Int),((X.length+L.length+R.length:Nat):Int),(),(mid:Int),((mid+(X.length+L.length):Nat):Int),(s:Int),X++L++R++Y,ar,()))∧
  lo≤s∧s≤hi∧(∀ i j (_:i<L.length) (_:j<R.length),X.length+i+1=s→j+s=mid→k L[i]≤k R[j])∧(∀ i j (_:i<L.length) (_:j<R.length),X.length+i=s→j+1+s=mid→k R[j]<k L[i]):=by
 simp only [Xr] at hlen
 have hLt:∀ i (h:i<L.length),(X++L++R++Y)[X.length+i]? =some L[i]:=fun i h=>PY X L R Y h
 have hRt:∀ i (h:i<R.length),(X++L++R++Y)[X.length+L.length+i]? =some R[i]:=fun i h=>KO X L R Y h
 obtain ⟨r,h1,h2,h3,h4,h5⟩:=bsearch (f:=cO) (fun i j=>((X.length:Int),((X.length+L.length:Nat):Int),((X.length+L.length+R.length:Nat):Int),(),(mid:Int),((mid+(X.length+L.length):Nat):Int),(i:Int),(j:Int),((mid+(X.length+L.length):Nat):Int) - 1,X++L++R++Y,ar,()))
  (fun s=>some (Sum.inr ((X.length:Int),((X.length+L.length:Nat):Int),((X.length+L.length+R.length:Nat):Int),(),(mid:Int),((mid+(X.length+L.length):Nat):Int),(s:Int),X++L++R++Y,ar,())))
  (fun t=>¬ k ((R[mid - 1 - t]?).getD none)<k ((L[t - X.length]?).getD none)) lo hi (by
    intro i j again hi1 hij hj
    unfold cO
    dsimp only
    generalize hh0:(i+j) / 2=h
    have hhL:h - X.length<L.length:=by omega
    have hhR:mid - 1 - h<R.length:=by omega
    have hg:=hLt _ hhL
    rw [show X.length+(h - X.length)=h by omega] at hg
    have hg2:=hRt _ hhR
    rw [az (by omega),zj i j (by omega),hh0]
    have e1:w64 (((mid+(X.length+L.length):Nat):Int) - 1 - (h:Int))=((X.length+L.length+(mid - 1 - h):Nat):Int):=by rw [au (by omega) (by omega)];omega
    rw [e1]
    simp only [WQ,hg,hg2,Option.bind_some]
    obtain ⟨c,hcc,hlt⟩:=hc R[mid - 1 - h] L[h - X.length] (hokR _ (Xq _)) (hokL _ (Xq _))
    rw [hcc,aH (by simp only [Wo,decide_eq_true_eq,Xr];omega),aH (by simp only [Wo,decide_eq_true_eq,Xr];omega),Option.bind_some,List.getElem?_eq_getElem hhL,List.getElem?_eq_getElem hhR]
    dsimp only [Option.getD]
    by_cases hk:k R[mid - 1 - h]<k L[h - X.length]
    ·rw [YH (hlt.2 hk),Bool.not_true,cond_false,if_neg (fun h=>h hk)]
    ·rw [YG (fun h=>hk (hlt.1 h)),Wx,cond_true,if_pos hk,au (by omega) (by omega)];rfl)
  (by
    intro i again _ _
    unfold cO
    dsimp only
    rw [ay (by omega)])
  (by
    intro s t hs hst ht hP
    rw [List.getElem?_eq_getElem (show t - X.length<L.length by omega),List.getElem?_eq_getElem (show mid - 1 - t<R.length by omega)] at hP
    rw [List.getElem?_eq_getElem (show s - X.length<L.length by omega),List.getElem?_eq_getElem (show mid - 1 - s<R.length by omega)]
    have a1:=hL.get (i:=s - X.length) (j:=t - X.length) (by omega) (by omega)
    have a2:=hR.get (i:=mid - 1 - t) (j:=mid - 1 - s) (by omega) (by omega)
    simp only [Yw] at hP ⊢
    omega)
  n lo hi (by omega) (Yc _) (by omega) (Yc _) (fun t h1 h2=>by omega) (fun t h1 h2=>by omega)
 refine ⟨r,h1,h2,h3, ?_, ?_⟩
 ·intro i j hi' hj' e1 e2
  have:=h4 (X.length+i) (by omega) (by omega)
  rw [show X.length+i - X.length=i by omega,show mid - 1 - (X.length+i)=j by omega,List.getElem?_eq_getElem hi',List.getElem?_eq_getElem hj'] at this
  simp only [Yw] at this
  omega
 ·intro i j hi' hj' e1 e2
  have:=h5 (X.length+i) (by omega) (by omega)
  rw [show X.length+i - X.length=i by omega,show mid - 1 - (X.length+i)=j by omega,List.getElem?_eq_getElem hi',List.getElem?_eq_getElem hj'] at this
  simp only [Yw] at this
  omega
def EX (self:((List (Option Nat))×Int×Int×Int×Unit×(List aq)×Unit)→Option ((List (Option Nat))×Unit)) (x:(List (Option Nat))×Int×Int×Int×Unit×(List aq)×Unit):=bT self x.1 x.2.1 x.2.2.1 x.2.2.2.1 x.2.2.2.2.1 x.2.2.2.2.2.1
set_option maxHeartbeats 4000000 in
theorem ED (hc:kH k ar ok):∀ (n:Nat) (X L R Y:List (Option Nat)),L.length+R.length<n+2→0<L.length→0<R.length→(X++L++R++Y).length<1000000000→Srt k L→Srt k R→(∀ z∈L,ok z)→(∀ z∈R,ok z)→
 ∃ S,w7 EX n (X++L++R++Y,(X.length:Int),((X.length+L.length:Nat):Int),((X.length+L.length+R.length:Nat):Int),(),ar,())=some (X++S++Y,())∧Srt k S∧bw k (L++R) S:=by
 intro n
 induction n with
 | zero=>intro X L R Y h h1 h2;omega
 | succ n ih=>
  intro X L R Y hn hL0 hR0 hlen hL hR hokL hokR
  have hlen':=hlen
  simp only [Xr] at hlen
  show ∃ S,EX (w7 EX n) _=_∧_
  generalize hself:w7 EX n=self at ih
  unfold EX bT
  dsimp only
  have e1:w64 (((X.length+L.length:Nat):Int) - (X.length:Int))=(L.length:Int):=by rw [au (by omega) (by omega)];omega
  have e2:w64 (((X.length+L.length+R.length:Nat):Int) - ((X.length+L.length:Nat):Int))=(R.length:Int):=by rw [au (by omega) (by omega)];omega
  rw [e1,e2]
  by_cases hL1:L.length=1
  ·obtain ⟨x,rfl⟩:∃ x,L=[x]:=Xt.1 hL1
   rw [show ((([x].length:Nat):Int)==1)=true by simp,cond_true]
   obtain ⟨R1,R2,rfl,h1,h2,h3⟩:=Bp hc X R Y x hlen' hR (hokL x (by simp)) hokR (Int.natAbs (X.length:Int)+(Int.natAbs ((X.length+[x].length:Nat):Int)+(Int.natAbs ((X.length+[x].length+R.length:Nat):Int)+(List.length (X++[x]++R++Y)+2)))) (by simp;omega)
   simp only [Xs,Xv,Yt] at h3 ⊢
   rw [h3,aE]
   dsimp only
   have hmv:=Ou (ar:=ar) (X.length+1+R1.length) (Int.natAbs ((X.length+1+R1.length:Nat):Int)+(Int.natAbs (X.length:Int)+(List.length (X++[x]++(R1++R2)++Y)+2))) X R1 (R2++Y) x (by simp;omega) rfl (by simp at hlen ⊢;omega)
   rw [show X++x::R1++(R2++Y)=X++[x]++(R1++R2)++Y by simp] at hmv
   rw [hmv,aE]
   refine ⟨R1++x::R2,by simp, ?_, ?_⟩
   ·exact hR.left.append (XU.2 ⟨h2,hR.right⟩) (fun y hy z hz=>by
     rcases XG.1 hz with rfl | hz
     ·have:=h1 y hy;omega
     ·exact hR.BX y hy z hz)
   ·have:=(bw.swap (k:=k) (u:=[x]) (v:=R1) (fun y hy z hz=>by rw [XQ.1 hy];have:=h1 z hz;omega)).append (bw.refl k R2)
    simpa using this
  ·rw [show (((L.length:Nat):Int)==1)=false by simp;omega,cond_false]
   by_cases hR1:R.length=1
   ·obtain ⟨y,rfl⟩:∃ x,R=[x]:=Xt.1 hR1
    rw [show ((([y].length:Nat):Int)==1)=true by simp,cond_true]
    obtain ⟨L1,L2,rfl,h1,h2,h3⟩:=Ar hc X L Y y hlen' hL (hokR y (by simp)) hokL (Int.natAbs ((X.length+L.length:Nat):Int)+(Int.natAbs (X.length:Int)+(Int.natAbs ((X.length+L.length:Nat):Int)+(List.length (X++L++[y]++Y)+2)))) (by omega)
    rw [h3,aE]
    dsimp only
    have hmv:=Jq (ar:=ar) (X++L1) (Int.natAbs ((X.length+L1.length:Nat):Int)+(Int.natAbs ((X.length+(L1++L2).length:Nat):Int)+(List.length (X++(L1++L2)++[y]++Y)+2))) L2 Y y (by simp;omega) (by simp at hlen ⊢;omega)
    rw [show X++L1++L2++y::Y=X++(L1++L2)++[y]++Y by simp,show (((X++L1).length:Nat):Int)=((X.length+L1.length:Nat):Int) by simp,show (((X++L1).length+L2.length:Nat):Int)=((X.length+(L1++L2).length:Nat):Int) by simp;omega] at hmv
    rw [hmv,aE]
    refine ⟨L1++y::L2,by simp, ?_, ?_⟩
    ·exact hL.left.append (XU.2 ⟨fun z hz=>by have:=h2 z hz;omega,hL.right⟩) (fun z hz w hw=>by
      rcases XG.1 hw with rfl | hw
      ·exact h1 z hz
      ·exact hL.BX z hz w hw)
    ·have:=(bw.refl k L1).append (bw.swap (k:=k) (u:=L2) (v:=[y]) (fun z hz w hw=>by rw [XQ.1 hw];have:=h2 z hz;omega))
     simpa using this
   ·rw [show (((R.length:Nat):Int)==1)=false by simp;omega,cond_false]
    have eh:=zj X.length (X.length+L.length+R.length) (by omega)
    rw [eh]
    generalize hmid:(X.length+(X.length+L.length+R.length)) / 2=mid
    have e3:w64 ((mid:Int)+((X.length+L.length:Nat):Int))=((mid+(X.length+L.length):Nat):Int):=by rw [au (by omega) (by omega)];omega
    rw [e3]
    obtain ⟨lo,hi,hcase,hv⟩:∃ lo hi:Nat,((mid<X.length+L.length∧lo+R.length=mid∧hi=mid∧X.length≤lo)∨(X.length+L.length≤mid∧lo=X.length∧hi=X.length+L.length))∧
     (bif decide (((X.length+L.length:Nat):Int)>(mid:Int)) then
       (some (Sum.inr ((X.length:Int),((X.length+L.length:Nat):Int),((X.length+L.length+R.length:Nat):Int),(),(mid:Int),((mid+(X.length+L.length):Nat):Int),w64 (((mid+(X.length+L.length):Nat):Int) - ((X.length+L.length+R.length:Nat):Int)),(mid:Int),X++L++R++Y,ar,())):Option (((List (Option Nat))×Unit) ⊕ (Int×Int×Int×Unit×Int×Int×Int×Int×(List (Option Nat))×(List aq)×Unit)))
     else some (Sum.inr ((X.length:Int),((X.length+L.length:Nat):Int),((X.length+L.length+R.length:Nat):Int),(),(mid:Int),((mid+(X.length+L.length):Nat):Int),(X.length:Int),((X.length+L.length:Nat):Int),X++L++R++Y,ar,())))=some (Sum.inr ((X.length:Int),((X.length+L.length:Nat):Int),((X.length+L.length+R.length:Nat):Int),(),(mid:Int),((mid+(X.length+L.length):Nat):Int),(lo:Int),(hi:Int),X++L++R++Y,ar,())):=by
     by_cases hm:mid<X.length+L.length
     ·refine ⟨mid - R.length,mid,.inl ⟨hm,by omega,rfl,by omega⟩, ?_⟩
      rw [az (by omega),au (by omega) (by omega),show ((mid+(X.length+L.length):Nat):Int) - ((X.length+L.length+R.length:Nat):Int)=((mid - R.length:Nat):Int) by omega]
     ·refine ⟨X.length,X.length+L.length,.inr ⟨by omega,rfl,rfl⟩, ?_⟩
      rw [ay (by omega)]
    rw [hv,aE]
    dsimp only
    have e4:w64 (((mid+(X.length+L.length):Nat):Int) - 1)=((mid+(X.length+L.length):Nat):Int) - 1:=au (by omega) (by omega)
    rw [e4]
    obtain ⟨s,h1,h2,h3,hF2,hF1⟩:=D0 hc X L R Y hlen' hL hR hokL hokR mid lo hi hmid.symm hcase (Int.natAbs (X.length:Int)+(Int.natAbs ((X.length+L.length:Nat):Int)+(Int.natAbs ((X.length+L.length+R.length:Nat):Int)+(Int.natAbs (mid:Int)+(Int.natAbs ((mid+(X.length+L.length):Nat):Int)+(Int.natAbs (lo:Int)+(Int.natAbs (hi:Int)+(Int.natAbs (((mid+(X.length+L.length):Nat):Int) - 1)+(List.length (X++L++R++Y)+2))))))))) (by omega)
    rw [h1,aE]
    dsimp only
    clear h1 hv
    obtain ⟨L1,L2,rfl,hL1l⟩:=hY (l:=L) (n:=s - X.length) (by omega)
    obtain ⟨R1,R2,rfl,hR1l⟩:=hY (l:=R) (n:=mid - s) (by simp only [Xr] at *;omega)
    simp only [Xr] at hn hlen hL1 hR1 hmid hcase e1 e2 e3 e4 eh hL0 hR0
    have F1:∀ y∈R1,∀ z∈L2,k y<k z:=by
     intro y hy z hz
     have hr0:0<R1.length:=Xw hy
     have hl0:0<L2.length:=Xw hz
     have:=hF1 L1.length (R1.length - 1) (by simp;omega) (by simp;omega) (by omega) (by omega)
     rw [Xo (show R1.length - 1<R1.length by omega),Xp (by omega)] at this
     obtain ⟨i,hi',rfl⟩:=XK.1 hy
     obtain ⟨j,hj',rfl⟩:=XK.1 hz
     have a1:=hR.left.get (i:=i) (j:=R1.length - 1) (by omega) (by omega)
     have a2:=hL.right.get (i:=L1.length - L1.length) (j:=j) (by omega) hj'
     omega
    have F2:∀ y∈L1,∀ z∈R2,k y≤k z:=by
     intro y hy z hz
     have hr0:0<L1.length:=Xw hy
     have hl0:0<R2.length:=Xw hz
     have:=hF2 (L1.length - 1) R1.length (by simp;omega) (by simp;omega) (by omega) (by omega)
     rw [Xo (show L1.length - 1<L1.length by omega),Xp (by omega)] at this
     obtain ⟨i,hi',rfl⟩:=XK.1 hy
     obtain ⟨j,hj',rfl⟩:=XK.1 hz
     have a1:=hL.left.get (i:=i) (j:=L1.length - 1) (by omega) (by omega)
     have a2:=hR.right.get (i:=R1.length - R1.length) (j:=j) (by omega) hj'
     omega
    have e5:w64 (((mid+(X.length+(L1++L2).length):Nat):Int) - (s:Int))=((X.length+(L1++L2).length+R1.length:Nat):Int):=by
     rw [au (by simp;omega) (by simp;omega)];simp only [Xr];omega
    rw [e5]
    have hokL1:∀ z∈L1,ok z:=fun z hz=>hokL z (by simp [hz])
    have hokL2:∀ z∈L2,ok z:=fun z hz=>hokL z (by simp [hz])
    have hokR1:∀ z∈R1,ok z:=fun z hz=>hokR z (by simp [hz])
    have hokR2:∀ z∈R2,ok z:=fun z hz=>hokR z (by simp [hz])
    have ph1:∃ S1,(X.length<s→s<mid→self (X++L1++R1++(L2++R2++Y),(X.length:Int),(s:Int),(mid:Int),(),ar,())=some (X++S1++(L2++R2++Y),()))∧(¬(X.length<s∧s<mid)→S1=L1++R1)∧Srt k S1∧bw k (L1++R1) S1:=by
     by_cases hb:X.length<s∧s<mid
     ·obtain ⟨S1,g1,g2,g3⟩:=ih X L1 R1 (L2++R2++Y) (by omega) (by omega) (by omega) (by simp;omega) hL.left hR.left hokL1 hokR1
      rw [show ((X.length+L1.length:Nat):Int)=(s:Int) by omega,show ((X.length+L1.length+R1.length:Nat):Int)=(mid:Int) by omega] at g1
      exact ⟨S1,fun _ _=>g1,fun h=>absurd hb h,g2,g3⟩
     ·refine ⟨L1++R1,fun h1 h2=>absurd ⟨h1,h2⟩ hb,fun _=>rfl, ?_,bw.refl _ _⟩
      rcases (show L1.length=0∨R1.length=0 by omega) with h | h
      ·rw [W6 h];exact hR.left
      ·rw [W6 h,WW];exact hL.left
    obtain ⟨S1,hS1a,hS1b,hS1s,hS1e⟩:=ph1
    have hS1l:S1.length=L1.length+R1.length:=by rw [hS1e.length];simp
    have ph2:∃ S2,(bif decide ((mid:Int)<((X.length+(L1++L2).length+R1.length:Nat):Int)) then
     bif decide (((X.length+(L1++L2).length+R1.length:Nat):Int)<((X.length+(L1++L2).length+(R1++R2).length:Nat):Int)) then
      Option.bind (self (X++S1++(L2++R2++Y),(mid:Int),((X.length+(L1++L2).length+R1.length:Nat):Int),((X.length+(L1++L2).length+(R1++R2).length:Nat):Int),(),ar,())) fun r38=>some (r38.1,())
     else some (X++S1++(L2++R2++Y),())
     else some (X++S1++(L2++R2++Y),()))=some (X++(S1++S2)++Y,())∧Srt k S2∧bw k (L2++R2) S2:=by
     simp only [Xr]
     by_cases hb1:0<L2.length
     ·rw [az (by omega)]
      by_cases hb2:0<R2.length
      ·rw [az (by omega)]
       obtain ⟨S2,g1,g2,g3⟩:=ih (X++S1) L2 R2 Y (by omega) hb1 hb2 (by simp;omega) hL.right hR.right hokL2 hokR2
       rw [show (((X++S1).length:Nat):Int)=(mid:Int) by simp;omega,show (((X++S1).length+L2.length:Nat):Int)=((X.length+(L1.length+L2.length)+R1.length:Nat):Int) by simp;omega,show (((X++S1).length+L2.length+R2.length:Nat):Int)=((X.length+(L1.length+L2.length)+(R1.length+R2.length):Nat):Int) by simp;omega] at g1
       rw [show X++S1++(L2++R2++Y)=X++S1++L2++R2++Y by simp,g1]
       exact ⟨S2,by simp,g2,g3⟩
      ·have:R2=[]:=W6 (by omega)
       subst this
       rw [ay (by simp)]
       exact ⟨L2,by simp,hL.right,by simpa using bw.refl k L2⟩
     ·have:L2=[]:=W6 (by omega)
      subst this
      rw [ay (by simp;omega)]
      exact ⟨R2,by simp,hR.right,bw.refl _ _⟩
    obtain ⟨S2,hE2,hS2s,hS2e⟩:=ph2
    have fin:Srt k (S1++S2)∧bw k (L1++L2++(R1++R2)) (S1++S2):=by
     constructor
     ·refine hS1s.append hS2s fun y hy z hz=> ?_
      rcases XF.1 (hS1e.mem.1 hy) with h | h<;>rcases XF.1 (hS2e.mem.1 hz) with h' | h'
      ·exact hL.BX y h z h'
      ·exact F2 y h z h'
      ·have:=F1 y h z h';omega
      ·exact hR.BX y h z h'
     ·have h1:bw k (L1++(L2++R1)++R2) (L1++(R1++L2)++R2):=((bw.refl k L1).append (bw.swap fun y hy z hz=>by have:=F1 z hz y hy;omega)).append (bw.refl k R2)
      have h2:=hS1e.append hS2e
      have h3:bw k (L1++L2++(R1++R2)) (L1++R1++(L2++R2)):=by simpa using h1
      exact h3.trans h2
    refine ⟨S1++S2, ?_,fin.1,fin.2⟩
    have hsL:((X.length+(L1++L2).length:Nat):Int)=((X.length+L1.length+L2.length:Nat):Int):=by simp;omega
    have tail:∀ (D:List (Option Nat)),D=X++L1++R1++(L2++R2++Y)→
     (bif decide ((X.length:Int)<(s:Int)) then
       aS (β:=((List (Option Nat))×Unit)) (γ:=(Int×Unit×Int×Int×(List (Option Nat))×(List aq)×Unit)) (
        bif decide ((s:Int)<(mid:Int)) then
         Option.bind (self (D,(X.length:Int),(s:Int),(mid:Int),(),ar,())) fun r35=>
         some (Sum.inr (((X.length+(L1++L2).length+(R1++R2).length:Nat):Int),(),(mid:Int),((X.length+(L1++L2).length+R1.length:Nat):Int),r35.1,ar,()))
        else
         some (Sum.inr (((X.length+(L1++L2).length+(R1++R2).length:Nat):Int),(),(mid:Int),((X.length+(L1++L2).length+R1.length:Nat):Int),D,ar,()))) fun v36=>
       bif decide (v36.2.2.1<v36.2.2.2.1) then
        bif decide (v36.2.2.2.1<v36.1) then
         Option.bind (self (v36.2.2.2.2.1,v36.2.2.1,v36.2.2.2.1,v36.1,v36.2.1,v36.2.2.2.2.2.1,())) fun r37=>
         some (r37.1,())
        else
         some (v36.2.2.2.2.1,())
       else
        some (v36.2.2.2.2.1,())
     else
      bif decide ((mid:Int)<((X.length+(L1++L2).length+R1.length:Nat):Int)) then
       bif decide (((X.length+(L1++L2).length+R1.length:Nat):Int)<((X.length+(L1++L2).length+(R1++R2).length:Nat):Int)) then
        Option.bind (self (D,(mid:Int),((X.length+(L1++L2).length+R1.length:Nat):Int),((X.length+(L1++L2).length+(R1++R2).length:Nat):Int),(),ar,())) fun r38=>
        some (r38.1,())
       else
        some (D,())
      else
       some (D,()))=some (X++(S1++S2)++Y,()):=by
     intro D hD
     by_cases hb1:X.length<s
     ·rw [az (by omega)]
      by_cases hb2:s<mid
      ·rw [az (by omega),hD,hS1a hb1 hb2,Option.bind_some,aE]
       exact hE2
      ·rw [ay (by omega),aE,hD]
       have:X++L1++R1++(L2++R2++Y)=X++S1++(L2++R2++Y):=by rw [hS1b (fun h=>hb2 h.2)];simp
       rw [this]
       exact hE2
     ·rw [ay (by omega),hD]
      have:X++L1++R1++(L2++R2++Y)=X++S1++(L2++R2++Y):=by rw [hS1b (fun h=>hb1 h.1)];simp
      rw [this]
      exact hE2
    by_cases hsm:s<X.length+(L1++L2).length
    ·rw [az (by omega)]
     by_cases hme:0<R1.length
     ·have hrot:=JQ (ar:=ar) (X++L1) L2 R1 (R2++Y) (by simp at hsm;omega) hme (by simp;omega)
      rw [show (((X++L1).length:Nat):Int)=(s:Int) by simp;omega,show (((X++L1).length+L2.length:Nat):Int)=((X.length+(L1++L2).length:Nat):Int) by simp;omega,show (((X++L1).length+L2.length+R1.length:Nat):Int)=((X.length+(L1++L2).length+R1.length:Nat):Int) by simp;omega,
       show X++L1++L2++R1++(R2++Y)=X++(L1++L2)++(R1++R2)++Y by simp] at hrot
      rw [az (by omega),hrot,Option.bind_some,aE]
      exact tail _ (by simp)
     ·have:R1=[]:=W6 (by omega)
      subst this
      rw [ay (by simp),aE]
      exact tail _ (by simp)
    ·rw [ay (by omega)]
     have:L2=[]:=W6 (by simp at hsm;omega)
     subst this
     exact tail _ (by simp)
end
end Go.Md
namespace Go.Md
open Go.Dn
def ChS {α:Type} (k:α→Int) (bs:Nat) (l:List α):Prop:=∀ j:Nat,Srt k ((l.drop (j*bs)).take bs)
theorem ChS.nil {α:Type} (k:α→Int) (bs:Nat):ChS k bs []:=fun _=>by simp [Srt]
theorem ChS.snoc {α:Type} {k:α→Int} {bs:Nat} {A S:List α} {j:Nat} (h:ChS k bs A) (hA:A.length=j*bs) (hS:Srt k S) (hl:S.length≤bs):ChS k bs (A++S):=by
 intro i
 rcases Yi i j with hij | hij | hij
 ·have h1:(i+1)*bs≤j*bs:=Yn _ hij
  rw [X6,Yp] at h1
  rw [List.drop_append_of_le_length (by omega),List.take_append_of_le_length (by rw [List.length_drop];omega)]
  exact h i
 ·subst hij
  rw [← hA,W3,X3 hl]
  exact hS
 ·have h1:(j+1)*bs≤i*bs:=Yn _ hij
  rw [X6,Yp] at h1
  rw [W4 (by rw [Xr];omega)]
  simp [Srt]
theorem ChS.drop {α:Type} {k:α→Int} {bs:Nat} {l:List α} (h:ChS k bs l) (i:Nat):ChS k bs (l.drop (i*bs)):=by
 intro j
 rw [W1, ← X6]
 exact h (i+j)
theorem Srt.take {α:Type} {k:α→Int} {l:List α} (h:Srt k l) (n:Nat):Srt k (l.take n):=by
 rw [← X1 n l] at h;exact h.left
section
variable {k:Option Nat→Int} {ar:List aq} {ok:Option Nat→Prop}
theorem xP (hc:kH k ar ok) (X L R Y:List (Option Nat)) (h1:0<L.length) (h2:0<R.length) (hlen:(X++L++R++Y).length<1000000000) (hL:Srt k L) (hR:Srt k R) (hokL:∀ z∈L,ok z) (hokR:∀ z∈R,ok z):
 ∃ S,dV (X++L++R++Y) (X.length:Int) ((X.length+L.length:Nat):Int) ((X.length+L.length+R.length:Nat):Int) () ar=some (X++S++Y,())∧Srt k S∧bw k (L++R) S:=by
 unfold dV
 exact ED hc _ X L R Y (by unfold iY;simp only [Xr];omega) h1 h2 hlen hL hR hokL hokR
theorem Ec (hc:kH k ar ok) (N:Nat) (hN:N<100000000):∀ (n:Nat) (A Z:List (Option Nat)) (j:Nat),A.length=j*20→A.length+Z.length=N→Z.length<n→ChS k 20 A→(∀ z∈A,ok z)→(∀ z∈Z,ok z)→
 ∃ A' Z' j',iter (X:=gH) (β:=gS) n ((N:Int),(),20,(A.length:Int),((A.length+20:Nat):Int),A++Z,ar,()) gL=some (Sum.inr ((N:Int),(),20,(A'.length:Int),A'++Z',ar,()))∧A'.length=j'*20∧Z'.length<20∧ChS k 20 A'∧bw k (A++Z) (A'++Z'):=by
 intro n
 induction n with
 | zero=>intro A Z j _ _ h;omega
 | succ n ih=>
  intro A Z j hA hAZ hn hch hokA hokZ
  rw [bZ]
  generalize hag:(fun y=>iter n y gL)=again
  unfold gL
  dsimp only
  by_cases hb:20≤Z.length
  ·rw [az (by omega)]
   obtain ⟨S,Y,rfl,hS⟩:=hY (l:=Z) (n:=20) hb
   simp only [Xr] at hAZ hn
   obtain ⟨S',g1,g2,g3⟩:=vF hc A S Y (by simp;omega) (fun z hz=>hokZ z (by simp [hz]))
   rw [hS] at g1
   rw [show A++(S++Y)=A++S++Y by simp,g1,Option.bind_some]
   dsimp only
   have hS':S'.length=20:=by rw [g3.length,hS]
   have e1:w64 (((A.length+20:Nat):Int)+20)=(((A++S').length+20:Nat):Int):=by rw [au (by omega) (by omega)];simp;omega
   rw [e1,show ((A.length+20:Nat):Int)=(((A++S').length:Nat):Int) by simp;omega, ← hag]
   obtain ⟨A',Z',j',h1,h2,h3,h4,h5⟩:=ih (A++S') Y (j+1) (by simp;omega) (by simp;omega) (by omega) (hch.snoc hA g2 (by omega)) (fun z hz=>by
    rcases XF.1 hz with h | h
    ·exact hokA z h
    ·exact hokZ z (by simp [g3.mem.1 h])) (fun z hz=>hokZ z (by simp [hz]))
   refine ⟨A',Z',j',h1,h2,h3,h4, ?_⟩
   have:bw k (A++S++Y) (A++S'++Y):=((bw.refl k A).append g3).append (bw.refl k Y)
   exact this.trans h5
  ·rw [ay (by omega)]
   exact ⟨A,Z,j,rfl,hA,by omega,hch,bw.refl _ _⟩
theorem Gg (hc:kH k ar ok) (N bs:Nat) (hN:N<100000000) (hbs:0<bs) (hbN:bs<N):∀ (n:Nat) (A Z:List (Option Nat)) (j:Nat),A.length=j*(2*bs)→A.length+Z.length=N→Z.length<n→ChS k (2*bs) A→ChS k bs Z→(∀ z∈A,ok z)→(∀ z∈Z,ok z)→
 ∃ A' Z' j',iter (X:=gK) (β:=gF) n ((N:Int),(),(bs:Int),(A.length:Int),((A.length+2*bs:Nat):Int),A++Z,ar,()) gE=some (Sum.inr ((N:Int),(),(bs:Int),(A'.length:Int),A'++Z',ar,()))∧A'.length=j'*(2*bs)∧Z'.length<2*bs∧ChS k (2*bs) A'∧ChS k bs Z'∧bw k (A++Z) (A'++Z'):=by
 intro n
 induction n with
 | zero=>intro A Z j _ _ h;omega
 | succ n ih=>
  intro A Z j hA hAZ hn hch hcz hokA hokZ
  rw [bZ]
  generalize hag:(fun y=>iter n y gE)=again
  unfold gE
  dsimp only
  by_cases hb:2*bs≤Z.length
  ·rw [az (by omega)]
   obtain ⟨L,Z1,rfl,hL⟩:=hY (l:=Z) (n:=bs) (by omega)
   obtain ⟨R,Y,rfl,hR⟩:=hY (l:=Z1) (n:=bs) (by simp at hb;omega)
   simp only [Xr] at hAZ hn hb
   have sL:Srt k L:=by
    have:=hcz 0
    rw [Yv,W5, ← hL,X2] at this
    exact this
   have sR:Srt k R:=by
    have:=hcz 1
    rw [Yp] at this
    conv at this=>arg 2;rw [show bs=L.length by omega,W3,show L.length=R.length by omega,X2]
    exact this
   have cY:ChS k bs Y:=by
    have:=hcz.drop 2
    rw [show L++(R++Y)=(L++R)++Y by simp,show 2*bs=(L++R).length by simp;omega,W3] at this
    exact this
   obtain ⟨S,g1,g2,g3⟩:=xP hc A L R Y (by omega) (by omega) (by simp;omega) sL sR (fun z hz=>hokZ z (by simp [hz])) (fun z hz=>hokZ z (by simp [hz]))
   have e0:w64 ((A.length:Int)+(bs:Int))=((A.length+L.length:Nat):Int):=by rw [au (by omega) (by omega)];omega
   rw [e0,show ((A.length+2*bs:Nat):Int)=((A.length+L.length+R.length:Nat):Int) by omega,show A++(L++(R++Y))=A++L++R++Y by simp,g1,Option.bind_some]
   dsimp only
   have hSl:S.length=2*bs:=by rw [g3.length];simp;omega
   have e1:w64 (((A.length+L.length+R.length:Nat):Int)+w64 (2*(bs:Int)))=(((A++S).length+2*bs:Nat):Int):=by
    rw [au (n:=2*(bs:Int)) (by omega) (by omega),au (by omega) (by omega)];simp;omega
   rw [e1,show ((A.length+L.length+R.length:Nat):Int)=(((A++S).length:Nat):Int) by simp;omega, ← hag]
   obtain ⟨A',Z',j',h1,h2,h3,h4,h5,h6⟩:=ih (A++S) Y (j+1) (by rw [Xr,hA,hSl,X6,Yp]) (by simp;omega) (by omega) (hch.snoc hA g2 (by omega)) cY (fun z hz=>by
    rcases XF.1 hz with h | h
    ·exact hokA z h
    ·rcases XF.1 (g3.mem.1 h) with h | h<;>exact hokZ z (by simp [h])) (fun z hz=>hokZ z (by simp [hz]))
   refine ⟨A',Z',j',h1,h2,h3,h4,h5, ?_⟩
   have:bw k (A++(L++R)++Y) (A++S++Y):=((bw.refl k A).append g3).append (bw.refl k Y)
   have h7:=this.trans h6
   simpa using h7
  ·rw [ay (by omega)]
   exact ⟨A,Z,j,rfl,hA,by omega,hch,hcz,bw.refl _ _⟩
theorem FN (hc:kH k ar ok) (N:Nat) (hN:N<100000000):∀ (n bs:Nat) (l:List (Option Nat)),l.length=N→0<bs→N<bs+n∧0<n→bs<400000000→ChS k bs l→(∀ z∈l,ok z)→
 ∃ l',iter (X:=gT) (β:=gP) n ((N:Int),(),(bs:Int),l,ar,()) gD=some (Sum.inr (l',ar,()))∧Srt k l'∧bw k l l':=by
 intro n
 induction n with
 | zero=>
  intro bs l hl hbs hn hb2 hch hok
  exact absurd hn (by omega)
 | succ n ih=>
  intro bs l hl hbs hn hb2 hch hok
  rw [bZ]
  generalize hag:(fun y=>iter n y gD)=again
  unfold gD
  dsimp only
  by_cases hb:bs<N
  ·rw [az (by omega)]
   have e0:w64 (2*(bs:Int))=(((([]:List (Option Nat)).length)+2*bs:Nat):Int):=by rw [au (by omega) (by omega)];simp
   rw [e0,show (0:Int)=((([]:List (Option Nat)).length:Nat):Int) from rfl]
   obtain ⟨A,Z,j,h1,h2,h3,h4,h5,h6⟩:=Gg hc N bs hN hbs hb (Int.natAbs (N:Int)+(Int.natAbs (bs:Int)+(Int.natAbs ((([]:List (Option Nat)).length:Nat):Int)+(Int.natAbs (((([]:List (Option Nat)).length)+2*bs:Nat):Int)+(List.length l+2))))) [] l 0 (by simp) (by simpa using hl) (by omega) (ChS.nil _ _) hch (by simp) hok
   rw [XR] at h1 h6
   rw [h1,aE]
   dsimp only
   have hAZ:A.length+Z.length=N:=by have:=h6.length;simp at this;omega
   have hokAZ:∀ z∈A++Z,ok z:=fun z hz=>hok z (h6.mem.1 hz)
   have e1:w64 ((A.length:Int)+(bs:Int))=((A.length+bs:Nat):Int):=by rw [au (by omega) (by omega)];omega
   have e2:w64 ((bs:Int)*2)=((2*bs:Nat):Int):=by rw [au (by omega) (by omega)];omega
   rw [e1,e2]
   by_cases hlast:A.length+bs<N
   ·rw [az (by omega)]
    obtain ⟨L,R,rfl,hL⟩:=hY (l:=Z) (n:=bs) (by omega)
    simp only [Xr] at hAZ h3
    have sL:Srt k L:=by
     have:=h5 0
     rw [Yv,W5, ← hL,X2] at this
     exact this
    have sR:Srt k R:=by
     have:=h5 1
     rw [Yp] at this
     conv at this=>arg 2;rw [show List.drop bs (L++R)=R by rw [← hL];exact W3,X3 (by omega)]
     exact this
    obtain ⟨S,g1,g2,g3⟩:=xP hc A L R [] (by omega) (by omega) (by simp;omega) sL sR (fun z hz=>hokAZ z (by simp [hz])) (fun z hz=>hokAZ z (by simp [hz]))
    simp only [WW] at g1
    rw [show ((A.length+bs:Nat):Int)=((A.length+L.length:Nat):Int) by omega,show ((N:Nat):Int)=((A.length+L.length+R.length:Nat):Int) by omega,show A++(L++R)=A++L++R by simp,g1,Option.bind_some, ← hag]
    have hsam:bw k l (A++S):=h6.trans (by simpa using (bw.refl k A).append g3)
    obtain ⟨l',q1,q2,q3⟩:=ih (2*bs) (A++S) (by rw [hsam.length];exact hl) (by omega) ⟨by omega,by omega⟩ (by omega) (h4.snoc h2 g2 (by rw [g3.length];simp;omega)) (fun z hz=>hok z (hsam.mem.1 hz))
    rw [show ((A.length+L.length+R.length:Nat):Int)=((N:Nat):Int) by omega]
    exact ⟨l',q1,q2,hsam.trans q3⟩
   ·rw [ay (by omega), ← hag]
    have sZ:Srt k Z:=by
     have:=h5 0
     rw [Yv,W5,X3 (by omega)] at this
     exact this
    obtain ⟨l',q1,q2,q3⟩:=ih (2*bs) (A++Z) (by simp;omega) (by omega) ⟨by omega,by omega⟩ (by omega) (h4.snoc h2 sZ (by omega)) hokAZ
    exact ⟨l',q1,q2,h6.trans q3⟩
  ·rw [ay (by omega)]
   refine ⟨l,rfl, ?_,bw.refl _ _⟩
   have:=hch 0
   rw [Yv,W5,X3 (by omega)] at this
   exact this
theorem C2 (hc:kH k ar ok) (l:List (Option Nat)) (hl:l.length<100000000) (hok:∀ z∈l,ok z):∃ l',iF l () ar=some (l',())∧Srt k l'∧bw k l l':=by
 unfold iF lF
 obtain ⟨A,Z,j,h1,h2,h3,h4,h5⟩:=Ec hc l.length hl (Int.natAbs (l.length:Int)+(Int.natAbs (20:Int)+(Int.natAbs (0:Int)+(Int.natAbs (20:Int)+(List.length l+2))))) [] l 0 (by simp) (by simp) (by omega) (ChS.nil _ _) (by simp) hok
 simp only [Xv,XR] at h1 h5
 rw [show ((0+20:Nat):Int)=20 from rfl,show ((0:Nat):Int)=0 from rfl] at h1
 rw [h1,aE]
 dsimp only
 have hAZ:A.length+Z.length=l.length:=by have:=h5.length;simp at this;omega
 obtain ⟨Z',g1,g2,g3⟩:=vF hc A Z [] (by simp;omega) (fun z hz=>hok z (h5.mem.1 (by simp [hz])))
 simp only [WW] at g1
 rw [show ((A.length+Z.length:Nat):Int)=(l.length:Int) by omega] at g1
 rw [g1,Option.bind_some]
 dsimp only
 have hsam:bw k l (A++Z'):=h5.trans ((bw.refl k A).append g3)
 obtain ⟨l',q1,q2,q3⟩:=FN hc l.length hl (Int.natAbs (l.length:Int)+(Int.natAbs (20:Int)+(List.length (A++Z')+2))) 20 (A++Z') hsam.length (by omega) ⟨by omega,by omega⟩ (by omega) (h4.snoc h2 g2 (by rw [g3.length];omega)) (fun z hz=>hok z (hsam.mem.1 hz))
 rw [show ((20:Nat):Int)=20 from rfl] at q1
 rw [q1,aE]
 exact ⟨l',rfl,q2,hsam.trans q3⟩
end
end Go.Md
namespace Go.Md
open Go.Dn
def dP {α:Type} (g:Nat→α→Int):Nat→List α→Int
 | _,[]=>0
 | i,y::r=>if g i y=0 then dP g (i+1) r else g i y
theorem qj {α:Type} {g:Nat→α→Int}:∀ {l:List α} {i:Nat},dP g i l=0→∀ j y,l[j]? =some y→g (i+j) y=0
 | [],_,_,_,_,h=>by simp at h
 | y::r,i,h,j,z,hz=>by
  simp only [dP] at h
  by_cases hg:g i y=0
  ·rw [if_pos hg] at h
   cases j with
   | zero=>simp at hz;subst hz;exact hg
   | succ j=>have:=qj h j z (by simpa using hz);rw [show i+(j+1)=i+1+j by omega];exact this
  ·rw [if_neg hg] at h;exact absurd h hg
theorem Fj {X α:Type} {γ:Type} {f:X→(X→Option ((Int×Unit) ⊕ γ))→Option ((Int×Unit) ⊕ γ)} (mk:Nat→X) (l:List α) (g:Nat→α→Int) (u:γ)
 (hstep:∀ i y again,l[i]? =some y→f (mk i) again=if g i y=0 then again (mk (i+1)) else some (Sum.inl (g i y,()))) (hend:∀ again,f (mk l.length) again=some (Sum.inr u)):
 ∀ (r:List α) (i n:Nat),l.drop i=r→i≤l.length→r.length<n→iter n (mk i) f=if dP g i r=0 then some (Sum.inr u) else some (Sum.inl (dP g i r,()))
 | _,_,0,_,_,hn=>absurd hn (Yo _)
 | [],i,n+1,hd,hi,_=>by
  have:i=l.length:=by
   have:=congrArg List.length hd
   simp at this;omega
  subst this
  rw [bZ,hend];rfl
 | y::r,i,n+1,hd,hi,hn=>by
  have hy:l[i]? =some y:=by
   have:=congrArg (·[0]?) hd
   simpa [Xf] using this
  have hr:l.drop (i+1)=r:=by
   have:=congrArg List.tail hd
   simpa [List.tail_drop] using this
  have hi':i<l.length:=(List.getElem?_eq_some_iff.1 hy).1
  rw [bZ,hstep i y _ hy]
  by_cases hg:g i y=0
  ·have e:dP g i (y::r)=dP g (i+1) r:=by simp [dP,hg]
   rw [if_pos hg,e]
   exact Fj mk l g u hstep hend r (i+1) n hr hi' (by simp at hn;omega)
  ·have e:dP g i (y::r)=g i y:=by simp [dP,hg]
   rw [if_neg hg,e,if_neg hg]
theorem iQ (a b c:Int):bV a b c=some (decide (a<b∨c<a),()):=by
 unfold bV
 by_cases h:a<b
 ·rw [az h];simp [h]
 ·rw [ay h];simp [h]
theorem EF (n:Int):yZ n=some (decide (1≤n∧n≤3652059),()):=by
 unfold yZ
 rw [iQ,Option.bind_some]
 congr 2
 simp only [← decide_not]
 congr 1
 simp only [eq_iff_iff];omega
def qU (s:List UInt8):Bool:=((ja s).map (·.1)).getD false
theorem tQ (s:List UInt8):ja s=some (qU s,()):=by
 have:∃ b,ja s=some (b,()):=by
  unfold ja
  by_cases h1:(s.length:Int)<1
  ·rw [az h1];exact ⟨_,rfl⟩
  ·rw [ay h1]
   by_cases h2:(s.length:Int)>40
   ·rw [az h2];exact ⟨_,rfl⟩
   ·rw [ay h2]
    have hs:Ef s 0=some (s[0]'(by omega)):=by simp [Ef]
    rw [hs]
    simp only [Option.bind_some]
    have ht:rP s [97,98,99,100,101,102,103,104,105,106,107,108,109,110,111,112,113,114,115,116,117,118,119,120,121,122,48,49,50,51,52,53,54,55,56,57,45]=some (Lib.trimS s [97,98,99,100,101,102,103,104,105,106,107,108,109,110,111,112,113,114,115,116,117,118,119,120,121,122,48,49,50,51,52,53,54,55,56,57,45],()):=by
     unfold rP
     rw [show (decide (s.length≤9223372036854775807))=true by simp;omega]
     rfl
    rw [ht]
    simp only [Option.bind_some]
    generalize (decide ((((s[0]'(by omega)).toNat:Int))<97))=b1
    generalize (decide ((((s[0]'(by omega)).toNat:Int))>122))=b2
    cases b1<;>cases b2<;>exact ⟨_,rfl⟩
 obtain ⟨b,hb⟩:=this
 unfold qU
 rw [hb];rfl
theorem xz (d:ak):bW d=some (if -1000000000000000≤d.1∧d.1≤1000000000000000∧0≤d.2∧d.2≤9 then 0 else 1,()):=by
 unfold bW
 rw [iQ,Option.bind_some,iQ]
 simp only [Option.bind_some]
 by_cases h1:d.1< -1000000000000000∨1000000000000000<d.1
 ·rw [az h1,if_neg (by omega)]
 ·rw [ay h1]
  by_cases h2:d.2<0∨9<d.2
  ·rw [az h2,if_neg (by omega)]
  ·rw [ay h2,if_pos (by omega)]
theorem UN {n:Nat} (h:n≤18):(10:Int) ^ n≤1000000000000000000:=by
 have:=Yr (n:=10) (by omega) h
 have h2:=WL.2 this
 simpa using h2
theorem sS (n:Nat):(0:Int)<10 ^ n:=QL (by omega) n
theorem yq (n:Int) (h0:0≤n) (h1:n≤18):wg n=some (10 ^ n.toNat,()):=by
 obtain ⟨m,rfl⟩:∃ m:Nat,n=m:=⟨n.toNat,by omega⟩
 unfold wg
 have:iter (X:=ym) (β:=ye) (Int.natAbs (1:Int)+(Int.natAbs (m:Int)+(Int.natAbs (0:Int)+2))) (1,(m:Int),0,()) yl=some (Sum.inr (10 ^ m,())):=by
  refine bN (Inv:=fun i x=>x=(10 ^ i,(m:Int),(i:Int),())) m (fun r=>r=some (Sum.inr (10 ^ m,()))) ?_ ?_ _ 0 _ (by simp) (by omega) (by omega)
  ·rintro i _ again hi rfl ih
   unfold yl
   dsimp only
   have h10:=UN (n:=i+1) (by omega)
   have hp:=sS (i+1)
   rw [WM] at h10 hp
   rw [az (by omega),au (by omega) (by omega),au (by omega) (by omega)]
   exact ih _ (by rw [WM];rfl)
  ·rintro _ again rfl
   unfold yl
   dsimp only
   rw [ay (by omega)]
 rw [this,aE]
 simp
theorem Fp (d:ak) (most:Int) (h0:0≤d.2) (h1:d.2≤9) (hm0:0≤most) (hm1:most≤1000000000):fX d most=some (decide (-(most*10 ^ d.2.toNat)≤d.1∧d.1≤most*10 ^ d.2.toNat),()):=by
 unfold fX
 rw [yq _ h0 (by omega),Option.bind_some]
 dsimp only
 have hp:=sS d.2.toNat
 have hq:(10:Int) ^ d.2.toNat≤1000000000:=by
  have:=Yr (n:=10) (by omega) (show d.2.toNat≤9 by omega)
  have h2:=WL.2 this
  simpa using h2
 have h3:most*10 ^ d.2.toNat≤1000000000*1000000000:=by
  have a1:most*10 ^ d.2.toNat≤1000000000*10 ^ d.2.toNat:=WI hm1 (by omega)
  omega
 have h4:0≤most*10 ^ d.2.toNat:=WJ hm0 (by omega)
 rw [au (n:=most*10 ^ d.2.toNat) (by omega) (by omega),au (by omega) (by omega),iQ,Option.bind_some]
 congr 2
 simp only [← decide_not]
 congr 1
 simp only [eq_iff_iff];omega
def jc (d:ak):Prop:=0<d.1∧0≤d.2∧d.2≤4∧d.1≤1000000000*10 ^ d.2.toNat
instance (d:ak):Decidable (jc d):=by unfold jc;exact inferInstance
def SC (d:ak):Int:=if jc d then 0 else 1
theorem Ca (d:ak):je d=some (SC d,()):=by
 unfold je SC
 rw [xz,Option.bind_some]
 dsimp only
 by_cases h: -1000000000000000≤d.1∧d.1≤1000000000000000∧0≤d.2∧d.2≤9
 ·rw [if_pos h,show ((0:Int) != 0)=false from rfl,cond_false]
  by_cases h1:d.1≤0
  ·rw [az h1,if_neg (by unfold jc;omega)]
  ·rw [ay h1]
   by_cases h2:d.2>4
   ·rw [az h2,if_neg (by unfold jc;omega)]
   ·rw [ay h2,Fp d 1000000000 (by omega) (by omega) (by omega) (by omega),Option.bind_some]
    dsimp only
    have hp:=sS d.2.toNat
    by_cases h3: -(1000000000*10 ^ d.2.toNat)≤d.1∧d.1≤1000000000*10 ^ d.2.toNat
    ·rw [YH h3,Bool.not_true,cond_false,if_pos (by unfold jc;omega)]
    ·rw [YG h3,Wx,cond_true,if_neg (by unfold jc;omega)]
 ·rw [if_neg h,show ((1:Int) != 0)=true from rfl,cond_true,if_neg]
  unfold jc
  intro ⟨g1,g2,g3,g4⟩
  have hq:(10:Int) ^ d.2.toNat≤10000:=by
   have:=Yr (n:=10) (by omega) (show d.2.toNat≤4 by omega)
   have h2:=WL.2 this
   simpa using h2
  omega
theorem Bf (l:List aY) (y:aY) (hl:l.length<1000000000):jE l y=some (l.any (fun o=>o.1==y.1),()):=by
 unfold jE oI
 have loop:iter (X:=hJ) (β:=ij) (List.length l+(Int.natAbs ((List.length l:Int))+(Int.natAbs (0:Int)+2))) (l,y,(List.length l:Int),0,()) ir=some (Sum.inr ())∧l.any (fun o=>o.1==y.1)=false∨
  ∃ i:Nat,iter (X:=hJ) (β:=ij) (List.length l+(Int.natAbs ((List.length l:Int))+(Int.natAbs (0:Int)+2))) (l,y,(List.length l:Int),0,()) ir=some (Sum.inl ((i:Int),()))∧l.any (fun o=>o.1==y.1)=true:=by
  refine bN (Inv:=fun i x=>x=(l,y,(List.length l:Int),(i:Int),())∧(l.take i).any (fun o=>o.1==y.1)=false) l.length (fun r=>r=some (Sum.inr ())∧l.any (fun o=>o.1==y.1)=false∨∃ i:Nat,r=some (Sum.inl ((i:Int),()))∧l.any (fun o=>o.1==y.1)=true) ?_ ?_ _ 0 _ ⟨rfl,by simp⟩ (by omega) (by omega)
  ·rintro i _ again hi ⟨rfl,hn⟩ ih
   unfold ir
   dsimp only
   have hy:l[i]? =some l[i]:=aO hi
   rw [az (by omega),bF,hy,Option.bind_some]
   unfold xm
   rw [Option.bind_some]
   dsimp only
   cases hb:(l[i].1==y.1) with
   | true=>
    right
    exact ⟨i,rfl,WU.2 ⟨l[i],Xq _,hb⟩⟩
   | false=>
    rw [cond_false,au (by omega) (by omega)]
    refine ih _ ⟨rfl, ?_⟩
    rw [X0,hy,List.any_append,hn]
    simp [hb]
  ·rintro _ again ⟨rfl,hn⟩
   unfold ir
   dsimp only
   rw [ay (by omega)]
   rw [X3 (Yc _)] at hn
   exact .inl ⟨rfl,hn⟩
 rcases loop with ⟨h1,h2⟩ | ⟨i,h1,h2⟩
 ·rw [h1,aE,Option.bind_some,h2];rfl
 ·rw [h1,iV,Option.bind_some,h2];simp
def Eg {α:Type} (day:α→Int) (l:List α) (i:Nat) (d:α):Bool:=match i with
 | 0=>false
 | j+1=>match l[j]? with
  | some q=>decide (day d<day q)
  | none=>false
def yt (l:List aY) (i:Nat) (d:aY):Int:=
 if qU d.1=false then 5 else if (l.take i).any (fun o=>o.1==d.1)=true then 7 else if ¬(1≤d.2.1∧d.2.1≤3652059) then 1
 else if Eg (·.2.1) l i d=true then 8 else if ¬jc d.2.2.1 then 1
 else if d.2.2.2.1<0∨10000<d.2.2.2.1 then 1 else if d.2.2.2.2.1<0∨d.2.2.2.1<d.2.2.2.2.1 then 1 else if d.2.2.2.2.2<0∨1000<d.2.2.2.2.2 then 1 else 0
theorem Co (l:List aY):qA l=some (if 200<l.length then 2 else dP (yt l) 0 l,()):=by
 unfold qA
 by_cases hl:200<l.length
 ·rw [az (by omega),if_pos hl]
 ·rw [ay (by omega),if_neg hl]
  have loop:=Fj (f:=qC) (fun i=>(l,l,(l.length:Int),(i:Int),())) l (yt l) () (by
   intro i y again hy
   have hi:=(List.getElem?_eq_some_iff.1 hy).1
   unfold qC
   dsimp only
   rw [az (by omega),bF,hy,Option.bind_some,tQ,Option.bind_some]
   dsimp only
   unfold yt
   cases hn:qU y.1 with
   | false=>simp
   | true=>
    rw [Bool.not_true,cond_false,if_neg (show ¬(true=false) by simp),aH (by simp only [Wo,decide_eq_true_eq];omega),W5,WQ,Bf _ _ (by rw [Xz];omega),Option.bind_some]
    dsimp only
    cases ha:(l.take i).any (fun o=>o.1==y.1) with
    | true=>simp
    | false=>
     rw [cond_false,if_neg (show ¬(false=true) by simp),EF,Option.bind_some]
     dsimp only
     by_cases hday:1≤y.2.1∧y.2.1≤3652059
     ·rw [YH hday,Bool.not_true,cond_false,if_neg (YP hday)]
      have rest:(Option.bind (je y.2.2.1) fun r7=>
       bif r7.1 != 0 then some (Sum.inl (r7.1,())) else
        Option.bind (bV y.2.2.2.1 0 10000) fun r8=>
        bif r8.1 then some (Sum.inl (1,())) else
         Option.bind (bV y.2.2.2.2.1 0 y.2.2.2.1) fun r9=>
         bif r9.1 then some (Sum.inl (1,())) else
          Option.bind (bV y.2.2.2.2.2 0 1000) fun r10=>
          bif r10.1 then some (Sum.inl (1,())) else again (l,l,(l.length:Int),w64 ((i:Int)+1),()))=
       if (if ¬jc y.2.2.1 then (1:Int) else if y.2.2.2.1<0∨10000<y.2.2.2.1 then 1 else if y.2.2.2.2.1<0∨y.2.2.2.1<y.2.2.2.2.1 then 1 else if y.2.2.2.2.2<0∨1000<y.2.2.2.2.2 then 1 else 0)=0 then again (l,l,(l.length:Int),((i+1:Nat):Int),())
       else some (Sum.inl ((if ¬jc y.2.2.1 then (1:Int) else if y.2.2.2.1<0∨10000<y.2.2.2.1 then 1 else if y.2.2.2.2.1<0∨y.2.2.2.1<y.2.2.2.2.1 then 1 else if y.2.2.2.2.2<0∨1000<y.2.2.2.2.2 then 1 else 0),())):=by
       rw [Ca,Option.bind_some,iQ,Option.bind_some,iQ,Option.bind_some,iQ,Option.bind_some,au (by omega) (by omega)]
       unfold SC
       dsimp only
       by_cases hm:jc y.2.2.1
       ·rw [if_pos hm,if_neg (YP hm),show ((0:Int) != 0)=false from rfl,cond_false]
        by_cases h1:y.2.2.2.1<0∨10000<y.2.2.2.1
        ·rw [az h1,if_pos h1];rfl
        ·rw [ay h1,if_neg h1]
         by_cases h2:y.2.2.2.2.1<0∨y.2.2.2.1<y.2.2.2.2.1
         ·rw [az h2,if_pos h2];rfl
         ·rw [ay h2,if_neg h2]
          by_cases h3:y.2.2.2.2.2<0∨1000<y.2.2.2.2.2
          ·rw [az h3,if_pos h3];rfl
          ·rw [ay h3,if_neg h3];rfl
       ·rw [if_neg hm,if_pos hm];rfl
      cases i with
      | zero=>
       rw [ay (by simp),rest]
       rfl
      | succ j=>
       have hj:l[j]? =some l[j]:=aO (by omega)
       have e1:w64 (((j+1:Nat):Int) - 1)=(j:Int):=by rw [au (by omega) (by omega)];omega
       have hp:Eg (·.2.1) l (j+1) y=decide (y.2.1<l[j].2.1):=by simp only [Eg,hj]
       rw [az (by omega),e1,bF,hj,Option.bind_some,hp]
       by_cases h4:y.2.1<l[j].2.1
       ·rw [az h4,if_pos (YH h4)];rfl
       ·rw [ay h4,YG h4,rest]
        rfl
     ·rw [YG hday,Wx,cond_true,if_pos hday];rfl)
   (by
     intro again
     unfold qC
     dsimp only
     rw [ay (by omega)])
   l 0 (List.length l+(List.length l+(Int.natAbs ((List.length l:Int))+(Int.natAbs (0:Int)+2)))) rfl (by omega) (by omega)
  rw [show ((0:Nat):Int)=0 from rfl] at loop
  rw [loop]
  by_cases h0:dP (yt l) 0 l=0
  ·rw [if_pos h0,aE,h0]
  ·rw [if_neg h0,iV]
theorem DB (l:List (List UInt8)) (y:List UInt8) (hl:l.length<1000000000):mW l y=some (l.any (fun o=>o==y),()):=by
 unfold mW uH
 have loop:iter (X:=j8) (β:=kj) (List.length l+(List.length y+(Int.natAbs ((List.length l:Int))+(Int.natAbs (0:Int)+2)))) (l,y,(List.length l:Int),0,()) j5=some (Sum.inr ())∧l.any (fun o=>o==y)=false∨
  ∃ i:Nat,iter (X:=j8) (β:=kj) (List.length l+(List.length y+(Int.natAbs ((List.length l:Int))+(Int.natAbs (0:Int)+2)))) (l,y,(List.length l:Int),0,()) j5=some (Sum.inl ((i:Int),()))∧l.any (fun o=>o==y)=true:=by
  refine bN (Inv:=fun i x=>x=(l,y,(List.length l:Int),(i:Int),())∧(l.take i).any (fun o=>o==y)=false) l.length (fun r=>r=some (Sum.inr ())∧l.any (fun o=>o==y)=false∨∃ i:Nat,r=some (Sum.inl ((i:Int),()))∧l.any (fun o=>o==y)=true) ?_ ?_ _ 0 _ ⟨rfl,by simp⟩ (by omega) (by omega)
  ·rintro i _ again hi ⟨rfl,hn⟩ ih
   unfold j5
   dsimp only
   have hy:l[i]? =some l[i]:=aO hi
   rw [az (by omega),bF,hy,Option.bind_some]
   cases hb:(y==l[i]) with
   | true=>
    right
    exact ⟨i,rfl,WU.2 ⟨l[i],Xq _,by rw [eq_of_beq hb];simp⟩⟩
   | false=>
    rw [cond_false,au (by omega) (by omega)]
    refine ih _ ⟨rfl, ?_⟩
    rw [X0,hy,List.any_append,hn]
    have:(l[i]==y)=false:=by
     cases h:(l[i]==y) with
     | false=>rfl
     | true=>rw [eq_of_beq h] at hb;simp at hb
    simp [this]
  ·rintro _ again ⟨rfl,hn⟩
   unfold j5
   dsimp only
   rw [ay (by omega)]
   rw [X3 (Yc _)] at hn
   exact .inl ⟨rfl,hn⟩
 rcases loop with ⟨h1,h2⟩ | ⟨i,h1,h2⟩
 ·rw [h1,aE,Option.bind_some,h2];rfl
 ·rw [h1,iV,Option.bind_some,h2];simp
def oH (l:List (List UInt8)) (i:Nat) (s:List UInt8):Int:=if qU s=false then 5 else if (l.take i).any (fun o=>o==s)=true then 7 else 0
def HM (l:List aP) (i:Nat) (p:aP):Int:=
 if ¬(1≤p.1∧p.1≤3652059) then 1 else if Eg (·.1) l i p=true then 8 else if ¬jc p.2.1 then 1 else if 100<p.2.2.length then 2 else dP (oH p.2.2) 0 p.2.2
theorem TJ (g1 g2:List aP) (g3 g4:Int) (l:List (List UInt8)) (hl:l.length≤100) (h1 h2 h3:Int) (n:Nat) (hn:l.length<n):
 iter (X:=gx) (β:=gy) n (g1,g2,g3,g4,l,(l.length:Int),0,h1,h2,h3,l,()) dY=if dP (oH l) 0 l=0 then some (Sum.inr (g1,g2,g3,g4,())) else some (Sum.inl (Sum.inl (dP (oH l) 0 l,()))):=by
 have key:∀ (r:List (List UInt8)) (i n:Nat),l.drop i=r→i≤l.length→r.length<n→iter (X:=gx) (β:=gy) n (g1,g2,g3,g4,l,(l.length:Int),(i:Int),h1,h2,h3,l,()) dY=if dP (oH l) i r=0 then some (Sum.inr (g1,g2,g3,g4,())) else some (Sum.inl (Sum.inl (dP (oH l) i r,()))):=by
  intro r
  induction r with
  | nil=>
   intro i n hd hi hn
   obtain ⟨n,rfl⟩:∃ m,n=m+1:=⟨n - 1,by simp at hn;omega⟩
   have:i=l.length:=by
    have:=congrArg List.length hd
    simp at this;omega
   subst this
   rw [bZ]
   unfold dY
   dsimp only
   rw [ay (by omega)];rfl
  | cons y r ih=>
   intro i n hd hi hn
   obtain ⟨n,rfl⟩:∃ m,n=m+1:=⟨n - 1,by simp at hn;omega⟩
   have hy:l[i]? =some y:=by
    have:=congrArg (·[0]?) hd
    simpa [Xf] using this
   have hr:l.drop (i+1)=r:=by
    have:=congrArg List.tail hd
    simpa [List.tail_drop] using this
   have hi':i<l.length:=(List.getElem?_eq_some_iff.1 hy).1
   rw [bZ]
   generalize hag:(fun y=>iter n y dY)=again
   unfold dY
   dsimp only
   rw [az (by omega),bF,hy,Option.bind_some,tQ,Option.bind_some]
   dsimp only
   cases hnm:qU y with
   | false=>
    have e:dP (oH l) i (y::r)=5:=by simp [dP,oH,hnm]
    rw [e];rfl
   | true=>
    rw [Bool.not_true,cond_false,aH (by simp only [Wo,decide_eq_true_eq];omega),W5,WQ,DB _ _ (by rw [Xz];omega),Option.bind_some]
    dsimp only
    cases ha:(l.take i).any (fun o=>o==y) with
    | true=>
     have e:dP (oH l) i (y::r)=7:=by
      have:oH l i y=7:=by simp only [oH,hnm,ha];rfl
      simp [dP,this]
     rw [e];rfl
    | false=>
     have e:dP (oH l) i (y::r)=dP (oH l) (i+1) r:=by
      have:oH l i y=0:=by simp only [oH,hnm,ha];rfl
      simp [dP,this]
     rw [cond_false,au (by omega) (by omega), ← hag,e]
     exact ih (i+1) n hr hi' (by simp at hn;omega)
 exact key l 0 n rfl (by omega) hn
theorem Hs (l:List aP):qH l=some (if 500<l.length then 2 else dP (HM l) 0 l,()):=by
 unfold qH
 by_cases hl:500<l.length
 ·rw [az (by omega),if_pos hl]
 ·rw [ay (by omega),if_neg hl]
  have loop:=Fj (f:=nS) (fun i=>(l,l,(l.length:Int),(i:Int),())) l (HM l) () (by
   intro i y again hy
   have hi:=(List.getElem?_eq_some_iff.1 hy).1
   unfold nS
   dsimp only
   rw [az (by omega),bF,hy,Option.bind_some,EF,Option.bind_some]
   dsimp only
   unfold HM
   by_cases hday:1≤y.1∧y.1≤3652059
   ·rw [YH hday,Bool.not_true,cond_false,if_neg (YP hday)]
    have rest:(Option.bind (je y.2.1) fun r5=>
     bif r5.1 != 0 then some (Sum.inl (r5.1,())) else
      bif decide (((y.2.2.length:Int))>100) then some (Sum.inl (2,())) else
       aS (β:=((Int×Unit) ⊕ Unit)) (γ:=((List aP)×(List aP)×Int×Int×Unit)) (
        iter (X:=gx) (β:=gy) (List.length l+(List.length l+(Int.natAbs (l.length:Int)+(Int.natAbs (i:Int)+(y.2.2.length+(Int.natAbs ((y.2.2.length:Int))+(Int.natAbs (0:Int)+(y.1.natAbs+(y.2.1.1.natAbs+(y.2.1.2.natAbs+(y.2.2.length+2))))))))))) (l,l,(l.length:Int),(i:Int),y.2.2,(y.2.2.length:Int),0,y.1,y.2.1.1,y.2.1.2,y.2.2,()) (dY)) fun v6=>
       again (v6.1,v6.2.1,v6.2.2.1,w64 (v6.2.2.2.1+1),()))=
     if (if ¬jc y.2.1 then (1:Int) else if 100<y.2.2.length then 2 else dP (oH y.2.2) 0 y.2.2)=0 then again (l,l,(l.length:Int),((i+1:Nat):Int),())
     else some (Sum.inl ((if ¬jc y.2.1 then (1:Int) else if 100<y.2.2.length then 2 else dP (oH y.2.2) 0 y.2.2),())):=by
     rw [Ca,Option.bind_some]
     unfold SC
     dsimp only
     by_cases hm:jc y.2.1
     ·rw [if_pos hm,if_neg (YP hm),show ((0:Int) != 0)=false from rfl,cond_false]
      by_cases h1:100<y.2.2.length
      ·rw [az (by omega),if_pos h1];rfl
      ·rw [ay (by omega),if_neg h1,TJ l l _ _ y.2.2 (by omega) _ _ _ _ (by omega)]
       by_cases h0:dP (oH y.2.2) 0 y.2.2=0
       ·rw [if_pos h0,if_pos h0,aE]
        dsimp only
        rw [au (by omega) (by omega)];rfl
       ·rw [if_neg h0,if_neg h0,iV]
     ·rw [if_neg hm,if_pos hm];rfl
    cases i with
    | zero=>
     rw [ay (by simp)]
     exact rest
    | succ j=>
     have hj:l[j]? =some l[j]:=aO (by omega)
     have e1:w64 (((j+1:Nat):Int) - 1)=(j:Int):=by rw [au (by omega) (by omega)];omega
     have hp:Eg (·.1) l (j+1) y=decide (y.1<l[j].1):=by simp only [Eg,hj]
     rw [az (by omega),e1,bF,hj,Option.bind_some,hp]
     by_cases h4:y.1<l[j].1
     ·rw [az h4,if_pos (YH h4)];rfl
     ·rw [ay h4,YG h4]
      exact rest
   ·rw [YG hday,Wx,cond_true,if_pos hday];rfl)
   (by
     intro again
     unfold nS
     dsimp only
     rw [ay (by omega)])
   l 0 (List.length l+(List.length l+(Int.natAbs ((List.length l:Int))+(Int.natAbs (0:Int)+2)))) rfl (by omega) (by omega)
  rw [show ((0:Nat):Int)=0 from rfl] at loop
  rw [loop]
  by_cases h0:dP (HM l) 0 l=0
  ·rw [if_pos h0,aE,h0]
  ·rw [if_neg h0,iV]
def iL (l:List aY):Int:=if 200<l.length then 2 else dP (yt l) 0 l
def BI (l:List aP):Int:=if 500<l.length then 2 else dP (HM l) 0 l
theorem K3 (d:List aY) (p:List aP):wK d p=some (if iL d≠0 then iL d else BI p,()):=by
 unfold wK
 rw [Co,Option.bind_some]
 dsimp only
 change (bif iL d != 0 then some (iL d,()) else _)=_
 by_cases h:iL d=0
 ·rw [show (iL d != 0)=false by simp [h],cond_false,Hs,Option.bind_some,if_neg (YP h)];rfl
 ·rw [show (iL d != 0)=true by simp [h],cond_true,if_pos h]
structure GA (d:aY):Prop where
 day0:1≤d.2.1
 day1:d.2.1≤3652059
 mon:jc d.2.2.1
 days0:0≤d.2.2.2.1
 days1:d.2.2.2.1≤10000
 with0:0≤d.2.2.2.2.1
 with1:d.2.2.2.2.1≤d.2.2.2.1
 disc0:0≤d.2.2.2.2.2
 disc1:d.2.2.2.2.2≤1000
theorem SW {l:List aY} {i:Nat} {d:aY} (h:yt l i d=0):GA d∧(l.take i).any (fun o=>o.1==d.1)=false:=by
 unfold yt at h
 split at h
 ·cases h
 ·split at h
  ·cases h
  ·rename_i hany
   split at h
   ·cases h
   ·rename_i h3
    split at h
    ·cases h
    ·split at h
     ·cases h
     ·rename_i h5
      split at h
      ·cases h
      ·rename_i h6
       split at h
       ·cases h
       ·rename_i h7
        split at h
        ·cases h
        ·rename_i h8
         exact ⟨⟨by omega,by omega,WC h5,by omega,by omega,by omega,by omega,by omega,by omega⟩,(Wv _).mp hany⟩
structure HY (p:aP):Prop where
 day0:1≤p.1
 day1:p.1≤3652059
 mon:jc p.2.1
 names:p.2.2.length≤100
theorem TA {l:List aP} {i:Nat} {p:aP} (h:HM l i p=0):HY p:=by
 unfold HM at h
 split at h
 ·cases h
 ·rename_i h3
  split at h
  ·cases h
  ·split at h
   ·cases h
   ·rename_i h5
    split at h
    ·cases h
    ·exact ⟨by omega,by omega,WC h5,by omega⟩
theorem Ro {l:List aY} (h:iL l=0):l.length≤200∧∀ d∈l,GA d:=by
 unfold iL at h
 split at h
 ·cases h
 ·refine ⟨by omega,fun d hd=> ?_⟩
  obtain ⟨i,hi⟩:=XL.1 hd
  have:=qj h i d hi
  rw [Yt] at this
  exact (SW this).1
theorem SN {l:List aP} (h:BI l=0):l.length≤500∧∀ d∈l,HY d:=by
 unfold BI at h
 split at h
 ·cases h
 ·refine ⟨by omega,fun d hd=> ?_⟩
  obtain ⟨i,hi⟩:=XL.1 hd
  have:=qj h i d hi
  rw [Yt] at this
  exact TA this
end Go.Md
namespace Go.Md
open Go.Dn
def bu (d:ak):Int:=d.1*10 ^ (4 - d.2).toNat
theorem jc.bu {d:ak} (h:jc d):0<bu d∧bu d≤10000000000000:=by
 obtain ⟨h1,h2,h3,h4⟩:=h
 unfold Md.bu
 have hp:=sS (4 - d.2).toNat
 refine ⟨Int.mul_pos h1 hp, ?_⟩
 have a1:d.1*10 ^ (4 - d.2).toNat≤1000000000*10 ^ d.2.toNat*10 ^ (4 - d.2).toNat:=WI h4 (by omega)
 rw [WG, ← Int.pow_add,show d.2.toNat+(4 - d.2).toNat=4 by omega] at a1
 omega
theorem IF {d:ak} (h:jc d):zF d=some (bu d,()):=by
 have hc:=h.bu
 obtain ⟨h1,h2,h3,h4⟩:=h
 unfold zF
 rw [au (by omega) (by omega),yq _ (by omega) (by omega),Option.bind_some]
 unfold Md.bu at hc
 dsimp only
 rw [au (by omega) (by omega)];rfl
abbrev Bd:=aq
def lV (x:Bd):Int:=x.2.1
def nB (x:Bd):Int:=x.2.2.1
def taken (x:Bd):Int:=x.2.2.2.1
def done (x:Bd):Int:=x.2.2.2.2
def uf (day:Int) (x:Bd):Bool:=decide (x.1.2.1≤day)&&(done x==0)
def uS (x:Bd):Int:=min (x.1.2.2.1.1*x.1.2.2.2.2.2 / 1000*10 ^ (4 - x.1.2.2.1.2).toNat) (lV x)
def u9 (left day:Int) (x:Bd):Int×Bd:=(left - min left (lV x),(x.1,lV x - min left (lV x),nB x+min left (lV x),taken x,if lV x - min left (lV x)=0 then day else done x))
def nG (left day:Int) (x:Bd):Int×Bd:=
 if left<lV x - uS x∨x.1.2.1+x.1.2.2.2.2.1<day then u9 left day x else (left - (lV x - uS x),(x.1,0,nB x+(lV x - uS x),uS x,day))
structure vq (x:Bd):Prop where
 d:GA x.1
 owes0:0≤lV x
 paid0:0≤nB x
 taken0:0≤taken x
 sum:lV x+nB x+taken x=bu x.1.2.2.1
 none:done x=0→taken x=0
 done0:done x=0∨x.1.2.1≤done x
 iff:lV x=0↔done x≠0
theorem vq.le {x:Bd} (h:vq x):lV x≤10000000000000∧nB x≤10000000000000∧taken x≤10000000000000:=by
 have:=h.d.mon.bu;have:=h.sum;have:=h.owes0;have:=h.paid0;have:=h.taken0;omega
theorem DC {x:Bd} (h:vq x):0≤uS x∧uS x≤lV x∧0≤x.1.2.2.1.1*x.1.2.2.2.2.2∧x.1.2.2.1.1*x.1.2.2.2.2.2≤10000000000000000∧0≤x.1.2.2.1.1*x.1.2.2.2.2.2 / 1000*10 ^ (4 - x.1.2.2.1.2).toNat∧x.1.2.2.1.1*x.1.2.2.2.2.2 / 1000*10 ^ (4 - x.1.2.2.1.2).toNat≤10000000000000:=by
 obtain ⟨hd,ho,_⟩:=h
 have hc:=hd.mon.bu
 obtain ⟨h1,h2,h3,h4⟩:=hd.mon
 have hp:=sS (4 - x.1.2.2.1.2).toNat
 have hq:(10:Int) ^ x.1.2.2.1.2.toNat≤10000:=by
  have:=Yr (n:=10) (by omega) (show x.1.2.2.1.2.toNat≤4 by omega)
  have h2:=WL.2 this
  simpa using h2
 have hu:x.1.2.2.1.1≤10000000000000:=by omega
 have a1:0≤x.1.2.2.1.1*x.1.2.2.2.2.2:=WJ (by omega) hd.disc0
 have a2:x.1.2.2.1.1*x.1.2.2.2.2.2≤x.1.2.2.1.1*1000:=WH hd.disc1 (by omega)
 have a3:x.1.2.2.1.1*x.1.2.2.2.2.2 / 1000≤x.1.2.2.1.1:=by omega
 have a4:0≤x.1.2.2.1.1*x.1.2.2.2.2.2 / 1000:=by omega
 have a5:x.1.2.2.1.1*x.1.2.2.2.2.2 / 1000*10 ^ (4 - x.1.2.2.1.2).toNat≤x.1.2.2.1.1*10 ^ (4 - x.1.2.2.1.2).toNat:=WI a3 (by omega)
 have a6:0≤x.1.2.2.1.1*x.1.2.2.2.2.2 / 1000*10 ^ (4 - x.1.2.2.1.2).toNat:=WJ a4 (by omega)
 unfold bu at hc
 refine ⟨?_, ?_,a1,by omega,a6,by omega⟩
 ·unfold uS;omega
 ·unfold uS;omega
section
variable {ar:List Bd} {h:Nat} {x:Bd}
theorem IP (day:Int) (hx:ar[h]? =some x):nU (some h) day ar=some (uf day x,()):=by
 unfold nU uf done
 simp only [Option.bind_some,hx]
 by_cases hd:x.1.2.1≤day
 ·rw [az hd,YH hd];rfl
 ·rw [ay hd,YG hd];rfl
theorem Qm (hx:ar[h]? =some x) (ok:vq x):qk (some h) ar=some (uS x,()):=by
 obtain ⟨b1,b2,b3,b4,b5,b6⟩:=DC ok
 obtain ⟨h1,h2,h3,h4⟩:=ok.d.mon
 unfold qk
 simp only [Option.bind_some,hx]
 rw [au (n:=4 - x.1.2.2.1.2) (by omega) (by omega),yq _ (by omega) (by omega),Option.bind_some]
 dsimp only
 have e:w64 (w64 (Int.tdiv (w64 (x.1.2.2.1.1*x.1.2.2.2.2.2)) 1000)*10 ^ (4 - x.1.2.2.1.2).toNat)=x.1.2.2.1.1*x.1.2.2.2.2.2 / 1000*10 ^ (4 - x.1.2.2.1.2).toNat:=by
  rw [au (n:=x.1.2.2.1.1*x.1.2.2.2.2.2) (by omega) (by omega),Int.tdiv_eq_ediv_of_nonneg b3,au (n:=x.1.2.2.1.1*x.1.2.2.2.2.2 / 1000) (by omega) (by omega),au (by omega) (by omega)]
 rw [e]
 unfold uS lV
 congr 2
 by_cases hlt:x.2.1<x.1.2.2.1.1*x.1.2.2.2.2.2 / 1000*10 ^ (4 - x.1.2.2.1.2).toNat
 ·rw [if_pos hlt];omega
 ·rw [if_neg hlt];omega
theorem Hy {α:Type} {l:List α} {i:Nat} {x y:α} (h:l[i]? =some x):(l.set i y)[i]? =some y:=Xl (List.getElem?_eq_some_iff.1 h).1
theorem LI (left day:Int) (hx:ar[h]? =some x) (ok:vq x) (hl:0≤left) (hl2:left≤10000000000000):p9 (some h) left day ar=some ((u9 left day x).1,ar.set h (u9 left day x).2,()):=by
 have hb:=ok.le
 have h0:=ok.owes0
 have h1:=ok.paid0
 unfold lV nB at*
 unfold p9 u9 lV nB taken done
 have e:(if x.2.1<left then x.2.1 else left)=min left x.2.1:=by split<;>omega
 simp only [Option.bind_some,hx,Hy hx,e]
 have e1:w64 (x.2.2.1+min left x.2.1)=x.2.2.1+min left x.2.1:=au (by omega) (by omega)
 have e2:w64 (x.2.1 - min left x.2.1)=x.2.1 - min left x.2.1:=au (by omega) (by omega)
 have e3:w64 (left - min left x.2.1)=left - min left x.2.1:=au (by omega) (by omega)
 simp only [e1,e2,e3,List.set_set,Hy hx,Option.bind_some]
 by_cases hz:x.2.1 - min left x.2.1=0
 ·rw [hz];rfl
 ·rw [show (x.2.1 - min left x.2.1==0)=false by simpa using hz,cond_false,if_neg hz]
theorem Pn (left day:Int) (hx:ar[h]? =some x) (ok:vq x) (hl:0≤left) (hl2:left≤10000000000000):qo (some h) left day ar=some ((nG left day x).1,ar.set h (nG left day x).2,()):=by
 have hb:=ok.le
 have h0:=ok.owes0
 have h1:=ok.paid0
 obtain ⟨b1,b2,_⟩:=DC ok
 have d1:=ok.d.day0;have d2:=ok.d.day1;have d3:=ok.d.with0;have d4:=ok.d.with1;have d5:=ok.d.days1
 unfold qo nG
 rw [Qm hx ok,LI left day hx ok hl hl2]
 unfold lV nB at*
 simp only [Option.bind_some,hx,Hy hx]
 generalize uS x=dc at*
 have e1:w64 (x.2.1 - dc)=x.2.1 - dc:=au (by omega) (by omega)
 have e2:w64 (x.1.2.1+x.1.2.2.2.2.1)=x.1.2.1+x.1.2.2.2.2.1:=au (by omega) (by omega)
 rw [e1,e2]
 by_cases c1:left<x.2.1 - dc
 ·rw [az (by omega),if_pos (.inl c1)]
 ·rw [ay (by omega)]
  by_cases c2:x.1.2.1+x.1.2.2.2.2.1<day
  ·rw [az (by omega),if_pos (.inr c2)]
  ·rw [ay (by omega),if_neg (by omega)]
   have e3:w64 (x.2.2.1+(x.2.1 - dc))=x.2.2.1+(x.2.1 - dc):=au (by omega) (by omega)
   have e4:w64 (left - (x.2.1 - dc))=left - (x.2.1 - dc):=au (by omega) (by omega)
   simp only [e3,e4,List.set_set,Hy hx,Option.bind_some]
theorem RY {left day:Int} (ok:vq x) (ht:uf day x=true) (hday:0<day) (hl:0≤left):vq (u9 left day x).2∧0≤(u9 left day x).1∧(u9 left day x).1+nB (u9 left day x).2=left+nB x∧(u9 left day x).2.1=x.1:=by
 simp only [uf,Wo,decide_eq_true_eq,YD] at ht
 obtain ⟨hd,h0,h1,h2,h3,h4,h5,h6⟩:=ok
 unfold u9
 unfold lV nB taken done at*
 refine ⟨⟨hd, ?_, ?_, ?_, ?_, ?_, ?_, ?_⟩, ?_, ?_,rfl⟩<;>simp only [lV,nB,taken,done]
 ·omega
 ·omega
 ·exact h2
 ·omega
 ·intro h;split at h
  ·omega
  ·exact h4 h
 ·split
  ·right;exact ht.1
  ·exact h5
 ·split
  ·constructor
   ·intro _;omega
   ·intro _;assumption
  ·constructor
   ·intro h;omega
   ·intro h;exact absurd ht.2 h
 ·omega
 ·omega
theorem Ub {left day:Int} (ok:vq x) (ht:uf day x=true) (hday:0<day) (hl:0≤left):vq (nG left day x).2∧0≤(nG left day x).1∧(nG left day x).1+nB (nG left day x).2=left+nB x∧(nG left day x).2.1=x.1:=by
 unfold nG
 split
 ·exact RY ok ht hday hl
 ·rename_i hc
  obtain ⟨b1,b2,_⟩:=DC ok
  simp only [uf,Wo,decide_eq_true_eq,YD] at ht
  obtain ⟨hd,h0,h1,h2,h3,h4,h5,h6⟩:=ok
  have htk:=h4 ht.2
  generalize uS x=dc at*
  unfold lV nB taken done at*
  refine ⟨⟨hd, ?_, ?_, ?_, ?_, ?_, ?_, ?_⟩, ?_, ?_,rfl⟩<;>simp only [lV,nB,taken,done]
  ·omega
  ·omega
  ·omega
  ·omega
  ·intro h;omega
  ·right;exact ht.1
  ·constructor
   ·intro _;omega
   ·intro _;trivial
  ·omega
  ·omega
end
end Go.Md
namespace Go.Md
open Go.Dn
theorem R7 {x:Bd} {left day:Int} (ok:vq x) (hl:0≤left):(u9 left day x).1≤left:=by
 have:=ok.owes0;unfold u9;simp only;omega
theorem TO {x:Bd} {left day:Int} (ok:vq x) (hl:0≤left):(nG left day x).1≤left:=by
 unfold nG
 split
 ·exact R7 ok hl
 ·obtain ⟨b1,b2,_⟩:=DC ok;simp only;omega
def oG (day:Int) (find:List UInt8→Option Nat) (s:Int×List Bd) (n:List UInt8):Int×List Bd:=match find n with
 | some h=>(match s.2[h]? with
  | some x=>if uf day x=true then ((nG s.1 day x).1,s.2.set h (nG s.1 day x).2) else s
  | none=>s)
 | none=>s
def oK (day:Int) (s:Int×List Bd) (o:Option Nat):Int×List Bd:=match o with
 | some h=>(match s.2[h]? with
  | some x=>if 0<s.1∧uf day x=true then ((u9 s.1 day x).1,s.2.set h (u9 s.1 day x).2) else s
  | none=>s)
 | none=>s
def Hj (find:List UInt8→Option Nat) (order:List (Option Nat)) (p:aP) (ar:List Bd):Int×List Bd:=order.foldl (oK p.1) (p.2.2.foldl (oG p.1 find) (bu p.2.1,ar))
def iH (find:List UInt8→Option Nat) (order:List (Option Nat)) (day:Int):List aP→List Int→List Bd→List Int×List Bd
 | [],rest,ar=>(rest,ar)
 | p::r,rest,ar=>if day<p.1 then (rest,ar) else iH find order day r (rest++[(Hj find order p ar).1]) (Hj find order p ar).2
structure ku (ds:List aY) (ar:List Bd):Prop where
 ds:ar.map (·.1)=ds
 ok:∀ x∈ar,vq x
theorem ku.len {ds:List aY} {ar:List Bd} (h:ku ds ar):ar.length=ds.length:=by rw [← h.ds];simp
theorem ku.set {ds:List aY} {ar:List Bd} (h:ku ds ar) {i:Nat} {x y:Bd} (hx:ar[i]? =some x) (hy:vq y) (he:y.1=x.1):ku ds (ar.set i y):=by
 refine ⟨?_,fun z hz=> ?_⟩
 ·rw [XE,he, ← h.ds]
  apply W8
  intro j
  by_cases hj:i=j
  ·subst hj
   rw [Xl (by simp;exact (List.getElem?_eq_some_iff.1 hx).1),List.getElem?_map,hx];rfl
  ·rw [Xk hj]
 ·rcases XO hz with hz | rfl
  ·exact h.ok z hz
  ·exact hy
theorem ku.get {ds:List aY} {ar:List Bd} (h:ku ds ar) {i:Nat} {x:Bd} (hx:ar[i]? =some x):vq x:=h.ok x (List.mem_of_getElem? hx)
def wG (ar:List Bd):Int:=(ar.map nB).sum
theorem Vn {l:List Int} {i:Nat} {x y:Int} (h:l[i]? =some x):(l.set i y).sum=l.sum+(y - x):=by
 induction l generalizing i with
 | nil=>simp at h
 | cons a l ih=>
  cases i with
  | zero=>simp at h;subst h;simp;omega
  | succ i=>simp only [XX,XZ,ih (by simpa using h)];omega
theorem LQ {ar:List Bd} {i:Nat} {x y:Bd} (h:ar[i]? =some x):wG (ar.set i y)=wG ar+(nB y - nB x):=by
 unfold wG
 rw [XE,Vn (x:=nB x) (by rw [List.getElem?_map,h];rfl)]
structure yP (ds:List aY) (L T:Int) (s:Int×List Bd):Prop where
 ar:ku ds s.2
 l0:0≤s.1
 l1:s.1≤L
 tot:s.1+wG s.2=T
theorem QG {ds:List aY} {L T day:Int} {find:List UInt8→Option Nat} {s:Int×List Bd} {n:List UInt8} (h:yP ds L T s) (hday:0<day):yP ds L T (oG day find s n):=by
 unfold oG
 split
 ·split
  ·rename_i hh x hx
   split
   ·rename_i ht
    have hk:=h.ar.get hx
    obtain ⟨a1,a2,a3,a4⟩:=Ub hk ht hday h.l0
    have a5:=TO (day:=day) hk h.l0
    refine ⟨h.ar.set hx a1 a4,a2,by have:=h.l1;simp only;omega, ?_⟩
    simp only
    rw [LQ hx]
    have:=h.tot;omega
   ·exact h
  ·exact h
 ·exact h
theorem Ql {ds:List aY} {L T day:Int} {s:Int×List Bd} {o:Option Nat} (h:yP ds L T s) (hday:0<day):yP ds L T (oK day s o):=by
 unfold oK
 split
 ·split
  ·rename_i hh x hx
   split
   ·rename_i ht
    have hk:=h.ar.get hx
    obtain ⟨a1,a2,a3,a4⟩:=RY hk ht.2 hday h.l0
    have a5:=R7 (day:=day) hk h.l0
    refine ⟨h.ar.set hx a1 a4,a2,by have:=h.l1;simp only;omega, ?_⟩
    simp only
    rw [LQ hx]
    have:=h.tot;omega
   ·exact h
  ·exact h
 ·exact h
theorem Mq {ds:List aY} {L T day:Int} {find:List UInt8→Option Nat} (hday:0<day):∀ {l:List (List UInt8)} {s:Int×List Bd},yP ds L T s→yP ds L T (l.foldl (oG day find) s)
 | [],_,h=>h
 | a::l,s,h=>by
  rw [Xa]
  exact Mq (l:=l) hday (QG h hday)
theorem QU {ds:List aY} {L T day:Int} (hday:0<day):∀ {l:List (Option Nat)} {s:Int×List Bd},yP ds L T s→yP ds L T (l.foldl (oK day) s)
 | [],_,h=>h
 | a::l,s,h=>by
  rw [Xa]
  exact QU (l:=l) hday (Ql h hday)
theorem Jn {ds:List aY} {find:List UInt8→Option Nat} {order:List (Option Nat)} {p:aP} {ar:List Bd} (h:ku ds ar) (hp:HY p):yP ds (bu p.2.1) (bu p.2.1+wG ar) (Hj find order p ar):=by
 have hday:0<p.1:=by have:=hp.day0;omega
 exact QU hday (Mq hday ⟨h,by have:=hp.mon.bu;simp only;omega,Int.le_refl _,rfl⟩)
abbrev J8:=List ((List UInt8)×(Option Nat))
def iP (m:J8) (n:List UInt8):Option Nat:=Option.getD (rR (k:= .str) (v:= .hnd) m n) none
theorem S4 {ds:List aY} {L T:Int} (hL:L≤10000000000000) (day0:Int) (al:List (Option Nat)) (rest:List Int) (ps:List aP) (g1 g2:Int) (names:List (List UInt8)) (hnl:names.length≤100) (day:Int) (hday:0<day) (g3 g4:Int) (g5:List (List UInt8)) (order:List (Option Nat)) (m:J8) (hm:∀ n h,iP m n=some h→h<ds.length) (left:Int) (ar:List Bd) (hok:yP ds L T (left,ar)) (fuel:Nat) (hf:names.length<fuel):
 iter (X:=rH) (β:=rI) fuel (day0,al,rest,left,ps,g1,g2,names,(names.length:Int),0,day,g3,g4,g5,order,m,ar,()) rB=
  some (Sum.inr (day0,al,rest,(names.foldl (oG day (iP m)) (left,ar)).1,ps,g1,g2,day,g3,g4,g5,order,m,(names.foldl (oG day (iP m)) (left,ar)).2,())):=by
 refine bN (Inv:=fun i x=>∃ s:Int×List Bd,x=(day0,al,rest,s.1,ps,g1,g2,names,(names.length:Int),(i:Int),day,g3,g4,g5,order,m,s.2,())∧yP ds L T s∧(names.drop i).foldl (oG day (iP m)) s=names.foldl (oG day (iP m)) (left,ar)) names.length
  (fun r=>r=some (Sum.inr (day0,al,rest,(names.foldl (oG day (iP m)) (left,ar)).1,ps,g1,g2,day,g3,g4,g5,order,m,(names.foldl (oG day (iP m)) (left,ar)).2,()))) ?_ ?_ fuel 0 _ ⟨(left,ar),rfl,hok,rfl⟩ (by omega) (by omega)
 ·rintro i _ again hi ⟨s,rfl,hs,he⟩ ih
  unfold rB
  dsimp only
  have hy:names[i]? =some names[i]:=aO hi
  rw [W2 hi,Xa] at he
  have next:∀ s',s'=oG day (iP m) s names[i]→again (day0,al,rest,s'.1,ps,g1,g2,names,(names.length:Int),w64 ((i:Int)+1),day,g3,g4,g5,order,m,s'.2,())=some (Sum.inr (day0,al,rest,(names.foldl (oG day (iP m)) (left,ar)).1,ps,g1,g2,day,g3,g4,g5,order,m,(names.foldl (oG day (iP m)) (left,ar)).2,())):=by
   intro s' hs'
   rw [au (by omega) (by omega)]
   exact ih _ ⟨s',rfl,by rw [hs'];exact QG hs hday,by rw [hs'];exact he⟩
  rw [az (by omega),bF,hy,Option.bind_some]
  change (bif !(Option.isNone (iP m names[i])) then (Option.bind (nU (iP m names[i]) day s.2) fun r3=>bif r3.1 then (Option.bind (qo (iP m names[i]) s.1 day s.2) fun r4=>again (day0,al,rest,r4.1,ps,g1,g2,names,(names.length:Int),w64 ((i:Int)+1),day,g3,g4,g5,order,m,r4.2.1,())) else again (day0,al,rest,s.1,ps,g1,g2,names,(names.length:Int),w64 ((i:Int)+1),day,g3,g4,g5,order,m,s.2,())) else again (day0,al,rest,s.1,ps,g1,g2,names,(names.length:Int),w64 ((i:Int)+1),day,g3,g4,g5,order,m,s.2,()))=_
  cases hfd:iP m names[i] with
  | none=>exact next s (by simp only [oG,hfd])
  | some h=>
   have hlt:=hm _ _ hfd
   have hx:s.2[h]? =some (s.2[h]'(by rw [hs.ar.len];exact hlt)):=aO _
   generalize s.2[h]'(by rw [hs.ar.len];exact hlt)=x at hx
   have hk:=hs.ar.get hx
   simp only [Option.isNone_some,Wx,cond_true]
   rw [IP day hx,Option.bind_some]
   dsimp only
   cases ht:uf day x with
   | false=>exact next s (by simp only [oG,hfd,hx,ht];rfl)
   | true=>
    have:=hs.l1;have:=hs.l0
    rw [cond_true,Pn s.1 day hx hk (by omega) (by omega),Option.bind_some]
    exact next ((nG s.1 day x).1,s.2.set h (nG s.1 day x).2) (by simp only [oG,hfd,hx,ht];rfl)
 ·rintro _ again ⟨s,rfl,hs,he⟩
  unfold rB
  dsimp only
  rw [ay (by omega)]
  rw [W4 (Yc _),List.foldl_nil] at he
  rw [he]
theorem Tm {ds:List aY} {L T:Int} (hL:L≤10000000000000) (day0:Int) (al:List (Option Nat)) (rest:List Int) (ps:List aP) (g1 g2:Int) (day:Int) (hday:0<day) (g3 g4:Int) (g5:List (List UInt8)) (order:List (Option Nat)) (hol:order.length<1000000) (hord:∀ o∈order,∃ h,o=some h∧h<ds.length) (m:J8) (left:Int) (ar:List Bd) (hok:yP ds L T (left,ar)) (fuel:Nat) (hf:order.length<fuel):
 iter (X:=rm) (β:=rG) fuel (day0,al,rest,left,ps,g1,g2,(order.length:Int),0,day,g3,g4,g5,order,m,ar,()) rj=
  some (Sum.inr (day0,al,rest,(order.foldl (oK day) (left,ar)).1,ps,g1,g2,order,m,(order.foldl (oK day) (left,ar)).2,())):=by
 refine bN (Inv:=fun i x=>∃ s:Int×List Bd,x=(day0,al,rest,s.1,ps,g1,g2,(order.length:Int),(i:Int),day,g3,g4,g5,order,m,s.2,())∧yP ds L T s∧(order.drop i).foldl (oK day) s=order.foldl (oK day) (left,ar)) order.length
  (fun r=>r=some (Sum.inr (day0,al,rest,(order.foldl (oK day) (left,ar)).1,ps,g1,g2,order,m,(order.foldl (oK day) (left,ar)).2,()))) ?_ ?_ fuel 0 _ ⟨(left,ar),rfl,hok,rfl⟩ (by omega) (by omega)
 ·rintro i _ again hi ⟨s,rfl,hs,he⟩ ih
  unfold rj
  dsimp only
  have hy:order[i]? =some order[i]:=aO hi
  obtain ⟨h,ho,hlt⟩:=hord order[i] (Xq _)
  rw [W2 hi,Xa] at he
  have next:∀ s',s'=oK day s order[i]→again (day0,al,rest,s'.1,ps,g1,g2,(order.length:Int),w64 ((i:Int)+1),day,g3,g4,g5,order,m,s'.2,())=some (Sum.inr (day0,al,rest,(order.foldl (oK day) (left,ar)).1,ps,g1,g2,order,m,(order.foldl (oK day) (left,ar)).2,())):=by
   intro s' hs'
   rw [au (by omega) (by omega)]
   exact ih _ ⟨s',rfl,by rw [hs'];exact Ql hs hday,by rw [hs'];exact he⟩
  rw [az (by omega),aH (by simp only [Wo,decide_eq_true_eq];omega),WQ,hy,Option.bind_some]
  have hx:s.2[h]? =some (s.2[h]'(by rw [hs.ar.len];exact hlt)):=aO _
  generalize s.2[h]'(by rw [hs.ar.len];exact hlt)=x at hx
  have hk:=hs.ar.get hx
  rw [ho] at next ⊢
  by_cases h0:s.1>0
  ·rw [az h0,IP day hx,Option.bind_some]
   dsimp only
   cases ht:uf day x with
   | false=>exact next s (by simp only [oK,hx,ht];simp)
   | true=>
    have:=hs.l1;have:=hs.l0
    rw [cond_true,LI s.1 day hx hk (by omega) (by omega),Option.bind_some]
    exact next ((u9 s.1 day x).1,s.2.set h (u9 s.1 day x).2) (by simp only [oK,hx,ht];rw [if_pos ⟨h0,trivial⟩])
  ·rw [ay h0]
   exact next s (by simp only [oK,hx];rw [if_neg (fun h=>h0 h.1)])
 ·rintro _ again ⟨s,rfl,hs,he⟩
  unfold rj
  dsimp only
  rw [ay (by omega)]
  rw [W4 (Yc _),List.foldl_nil] at he
  rw [he]
theorem Uc {ds:List aY} (day0:Int) (al:List (Option Nat)) (ps:List aP) (hps:∀ p∈ps,HY p) (hpl:ps.length≤500) (order:List (Option Nat)) (hol:order.length<1000000) (hord:∀ o∈order,∃ h,o=some h∧h<ds.length) (m:J8) (hm:∀ n h,iP m n=some h→h<ds.length) (ar:List Bd) (hok:ku ds ar) (fuel:Nat) (hf:ps.length<fuel):
 iter (X:=rL) (β:=rA) fuel (day0,al,[],ps,(ps.length:Int),0,order,m,ar,()) ri=
  some (Sum.inr (al,(iH (iP m) order day0 ps [] ar).1,(iH (iP m) order day0 ps [] ar).2,())):=by
 refine bN (Inv:=fun i x=>∃ (rest:List Int) (ar':List Bd),x=(day0,al,rest,ps,(ps.length:Int),(i:Int),order,m,ar',())∧rest.length=i∧ku ds ar'∧iH (iP m) order day0 (ps.drop i) rest ar'=iH (iP m) order day0 ps [] ar) ps.length
  (fun r=>r=some (Sum.inr (al,(iH (iP m) order day0 ps [] ar).1,(iH (iP m) order day0 ps [] ar).2,()))) ?_ ?_ fuel 0 _ ⟨[],ar,rfl,rfl,hok,rfl⟩ (by omega) (by omega)
 ·rintro i _ again hi ⟨rest,ar',rfl,hr,ha,he⟩ ih
  unfold ri
  dsimp only
  have hy:ps[i]? =some ps[i]:=aO hi
  have hpo:=hps ps[i] (Xq _)
  rw [W2 hi] at he
  rw [az (by omega),bF,hy,Option.bind_some]
  generalize ps[i]=p at*
  by_cases hd:p.1>day0
  ·rw [az hd]
   simp only [iH] at he
   rw [if_pos (by omega)] at he
   rw [← he]
  ·rw [ay hd,IF hpo.mon,Option.bind_some]
   dsimp only
   have hday:0<p.1:=by have:=hpo.day0;omega
   have hc:=hpo.mon.bu
   simp only [iH] at he
   rw [if_neg (by omega)] at he
   have st0:yP ds (bu p.2.1) (bu p.2.1+wG ar') (bu p.2.1,ar'):=⟨ha,by simp only;omega,Int.le_refl _,rfl⟩
   rw [S4 (ds:=ds) hc.2 day0 al rest ps (ps.length:Int) (i:Int) p.2.2 hpo.names p.1 hday p.2.1.1 p.2.1.2 p.2.2 order m hm (bu p.2.1) ar' st0 _ (by omega),aE]
   dsimp only
   have st1:yP ds (bu p.2.1) (bu p.2.1+wG ar') (p.2.2.foldl (oG p.1 (iP m)) (bu p.2.1,ar')):=Mq hday st0
   rw [Tm (ds:=ds) hc.2 day0 al rest ps (ps.length:Int) (i:Int) p.1 hday p.2.1.1 p.2.1.2 p.2.2 order hol hord m _ _ st1 _ (by omega),aE]
   dsimp only
   rw [aH (lX (by omega) (by omega)),au (by omega) (by omega)]
   have st2:=Jn (find:=iP m) (order:=order) ha hpo
   exact ih _ ⟨_,_,rfl,by simp [hr],st2.ar,he⟩
 ·rintro _ again ⟨rest,ar',rfl,hr,ha,he⟩
  unfold ri
  dsimp only
  rw [ay (by omega)]
  rw [W4 (Yc _)] at he
  simp only [iH] at he
  rw [← he]
def iq (ds:List aY):List Bd:=ds.map fun d=>(d,bu d.2.2.1,0,0,0)
theorem J5 {ds:List aY} (h:∀ d∈ds,GA d):ku ds (iq ds):=by
 refine ⟨by unfold iq;rw [List.map_map];exact (XB (fun _ _=>rfl)).trans (List.map_id ds),fun x hx=> ?_⟩
 obtain ⟨d,hd,rfl⟩:=XM.1 hx
 have hc:=(h d hd).mon.bu
 exact ⟨h d hd,by simp only [lV];omega,by simp [nB],by simp [taken],by simp [lV,nB,taken],by simp [taken],.inl (by simp [done]),by simp only [lV,done];omega⟩
def mZ (n:List UInt8):List aY→Nat→Option Nat→Option Nat
 | [],_,acc=>acc
 | d::r,i,acc=>mZ n r (i+1) (if d.1==n then some i else acc)
theorem QT {n:List UInt8} {N:Nat}:∀ {l:List aY} {i:Nat} {acc:Option Nat},i+l.length=N→(∀ h,acc=some h→h<N)→∀ h,mZ n l i acc=some h→h<N
 | [],_,_,_,ha,h,hh=>ha h hh
 | d::r,i,acc,hl,ha,h,hh=>by
  simp only [mZ] at hh
  refine QT (l:=r) (by simp at hl;omega) (fun h' h2=> ?_) h hh
  split at h2
  ·cases h2;simp at hl;omega
  ·exact ha h' h2
theorem Ce {k v:Ty} (p:k.den×v.den) (m:List (k.den×v.den)) (n:k.den):rR (p::m) n=bif k.beq n p.1 then some p.2 else rR m n:=by
 unfold rR
 rw [List.find?_cons]
 cases k.beq n p.1<;>rfl
theorem TV {k v:Ty} (p:k.den×v.den) (m:List (k.den×v.den)) (x:k.den) (y:v.den):yJ (p::m) x y=bif k.beq x p.1 then (x,y)::m else p::yJ m x y:=rfl
theorem T7 {k v:Ty} (hb:∀ a b:k.den,k.beq a b=true↔a=b) (m:List (k.den×v.den)) (x:k.den) (y:v.den) (n:k.den):rR (yJ m x y) n=bif k.beq x n then some y else rR m n:=by
 have hcomm:∀ a b:k.den,k.beq a b=k.beq b a:=fun a b=>by
  rw [Bool.eq_iff_iff,hb,hb];exact eq_comm
 induction m with
 | nil=>
  change rR [(x,y)] n=_
  rw [Ce,hcomm n x]
 | cons p m ih=>
  rw [TV]
  cases hp:k.beq x p.1 with
  | true=>
   rw [cond_true,Ce,Ce,hcomm n p.1, ← (hb _ _).1 hp,hcomm n x]
   cases k.beq x n<;>rfl
  | false=>
   rw [cond_false,Ce,Ce,ih]
   cases hn:k.beq n p.1 with
   | true=>
    have:k.beq x n=false:=by
     cases h:k.beq x n with
     | false=>rfl
     | true=>rw [(hb _ _).1 h,hn] at hp;cases hp
    rw [this];rfl
   | false=>rfl
theorem Vk (a b:(Ty.str).den):Ty.beq .str a b=true↔a=b:=by
 show ((show List UInt8 from a)==(show List UInt8 from b))=true↔_
 exact YD
theorem Tl (m:J8) (x:List UInt8) (y:Option Nat) (n:List UInt8):iP (yJ (k:= .str) (v:= .hnd) m x y) n=if x==n then y else iP m n:=by
 have:=T7 (k:= .str) (v:= .hnd) Vk m x y n
 unfold iP
 cases hx:(x==n) with
 | true=>
  have h2:Ty.beq .str x n=true:=hx
  rw [h2] at this
  have h3:=congrArg (fun o:Option (Option Nat)=>o.getD none) this
  exact h3
 | false=>
  have h2:Ty.beq .str x n=false:=hx
  rw [h2] at this
  have h3:=congrArg (fun o:Option (Option Nat)=>o.getD none) this
  exact h3
theorem SR (ds:List aY) (hds:∀ d∈ds,GA d) (hl:ds.length≤200) (ps:List aP) (day:Int) (fuel:Nat) (hf:ds.length<fuel):
 ∃ m:J8,iter (X:=tu) (β:=tM) fuel (ps,day,[],ds,(ds.length:Int),0,[],[],()) tK=some (Sum.inr (ps,day,(List.range ds.length).map some,m,iq ds,()))∧∀ n,iP m n=mZ n ds 0 none:=by
 refine bN (Inv:=fun i x=>∃ m:J8,x=(ps,day,(List.range i).map some,ds,(ds.length:Int),(i:Int),m,iq (ds.take i),())∧∀ n,mZ n (ds.drop i) i (iP m n)=mZ n ds 0 none) ds.length
  (fun r=>∃ m:J8,r=some (Sum.inr (ps,day,(List.range ds.length).map some,m,iq ds,()))∧∀ n,iP m n=mZ n ds 0 none) ?_ ?_ fuel 0 _ ⟨[],rfl,fun n=>rfl⟩ (by omega) (by omega)
 ·rintro i _ again hi ⟨m,rfl,hm⟩ ih
  unfold tK
  dsimp only
  have hy:ds[i]? =some ds[i]:=aO hi
  have hdk:=hds ds[i] (Xq _)
  have hal:(iq (ds.take i)).length=i:=by simp [iq];omega
  rw [az (by omega),bF,hy,Option.bind_some,IF hdk.mon,Option.bind_some]
  dsimp only
  rw [aH (lX (by simp;omega) (by simp;omega)),au (by omega) (by omega),hal]
  refine ih _ ⟨yJ (k:= .str) (v:= .hnd) m ds[i].1 (some i), ?_,fun n=> ?_⟩
  ·have e1:(List.range (i+1)).map some=(List.range i).map some++[some i]:=by rw [List.range_succ,XA];rfl
   have e2:iq (ds.take (i+1))=iq (ds.take i)++[(ds[i],bu ds[i].2.2.1,0,0,0)]:=by
    unfold iq;rw [yg hy,XA];rfl
   rw [e1,e2];rfl
  ·have:=hm n
   rw [W2 hi] at this
   simp only [mZ] at this
   rw [← this]
   congr 1
   exact Tl m ds[i].1 (some i) n
 ·rintro _ again ⟨m,rfl,hm⟩
  unfold tK
  dsimp only
  rw [ay (by omega),X3 (Yc _)]
  refine ⟨m,rfl,fun n=> ?_⟩
  have:=hm n
  rw [W4 (Yc _)] at this
  exact this
def N9 (ar:List Bd) (o:Option Nat):Int:=match o with
 | some h=>(match ar[h]? with
  | some x=>x.1.2.1+x.1.2.2.2.1
  | none=>0)
 | none=>0
theorem VK (ar:List Bd):kH (N9 ar) ar (fun o=>∃ h x,o=some h∧ar[h]? =some x∧vq x):=by
 rintro a b ⟨h,x,rfl,hx,kx⟩ ⟨h',y,rfl,hy,ky⟩
 have a1:=kx.d.day0;have a2:=kx.d.day1;have a3:=kx.d.days0;have a4:=kx.d.days1
 have b1:=ky.d.day0;have b2:=ky.d.day1;have b3:=ky.d.days0;have b4:=ky.d.days1
 unfold lM wJ
 simp only [Option.bind_some,hx,hy,N9]
 refine ⟨_,rfl, ?_⟩
 rw [au (n:=x.1.2.1+x.1.2.2.2.1) (by omega) (by omega),au (n:=y.1.2.1+y.1.2.2.2.1) (by omega) (by omega),au (by omega) (by omega)]
 omega
theorem Pf {β:Type} (a:Option β):both a a=a:=Tt a
theorem UG (l:List (Option Nat)) (hl:l.length<1000000):mm l=some (l,()):=by
 unfold mm
 rw [aH (lX (by omega) (by omega))]
 cases l with
 | nil=>exact Pf _
 | cons a l=>rfl
theorem Ma (ds:List aY) (hds:∀ d∈ds,GA d) (hl:ds.length≤200) (ps:List aP) (hps:∀ p∈ps,HY p) (hpl:ps.length≤500) (day:Int):
 ∃ order,Srt (N9 (iq ds)) order∧bw (N9 (iq ds)) ((List.range ds.length).map some) order∧
  yd ds ps day []=some ((List.range ds.length).map some,(iH (fun n=>mZ n ds 0 none) order day ps [] (iq ds)).1,(iH (fun n=>mZ n ds 0 none) order day ps [] (iq ds)).2,()):=by
 have ha:=J5 hds
 obtain ⟨m,h1,h2⟩:=SR ds hds hl ps day (List.length ps+(Int.natAbs day+(List.length ([]:List (Option Nat))+(List.length ds+(Int.natAbs ((List.length ds:Int))+(Int.natAbs (0:Int)+(List.length ([]:List ((List UInt8)×(Option Nat)))+(List.length ([]:List aq)+2)))))))) (by omega)
 have hall:∀ o∈(List.range ds.length).map some,∃ h x,o=some h∧(iq ds)[h]? =some x∧vq x:=by
  intro o ho
  obtain ⟨h,hh,rfl⟩:=XM.1 ho
  have hlt:h<(iq ds).length:=by rw [ha.len];simpa using hh
  exact ⟨h,_,rfl,aO hlt,ha.get (aO hlt)⟩
 obtain ⟨order,g1,g2,g3⟩:=C2 (VK (iq ds)) ((List.range ds.length).map some) (by simp;omega) hall
 refine ⟨order,g2,g3, ?_⟩
 unfold yd
 rw [h1,aE]
 dsimp only
 rw [UG _ (by simp;omega),Option.bind_some]
 dsimp only
 rw [g1,Option.bind_some]
 dsimp only
 have hfind:iP m=fun n=>mZ n ds 0 none:=funext h2
 have hord:∀ o∈order,∃ h,o=some h∧h<ds.length:=by
  intro o ho
  obtain ⟨h,hh,rfl⟩:=XM.1 (g3.mem.1 ho)
  exact ⟨h,rfl,by simpa using hh⟩
 have hol:order.length=ds.length:=by rw [g3.length];simp
 rw [Uc (ds:=ds) day ((List.range ds.length).map some) ps hps hpl order (by omega) hord m (fun n h hh=>by
  rw [hfind] at hh
  exact QT (by simp) (fun h h2=>by cases h2) h hh) (iq ds) ha _ (by omega),aE,hfind]
end Go.Md
namespace Go.Md
open Go.Dn
def few:Nat→Int→Int×Nat
 | 0,z=>(z,0)
 | p+1,z=>if z % 10=0 then few p (z / 10) else (z,p+1)
theorem RX:∀ (p:Nat) (z:Int),(few p z).2≤p∧(few p z).1*10 ^ (p - (few p z).2)=z∧(few p z).1.natAbs≤z.natAbs
 | 0,z=>by simp [few]
 | p+1,z=>by
  unfold few
  split
  ·rename_i h
   obtain ⟨h1,h2,h3⟩:=RX p (z / 10)
   refine ⟨by omega, ?_,by omega⟩
   rw [show p+1 - (few p (z / 10)).2=(p - (few p (z / 10)).2)+1 by omega,WM, ← WG,h2]
   omega
  ·simp
theorem Qi:∀ p,few p 0=(0,0)
 | 0=>rfl
 | p+1=>by unfold few;simp [Qi p]
theorem Bt (z:Int) (p:Int):lI (W z) p=some (if z.natAbs≤1000000000000000 then ((z,p),0,()) else ((0,0),1,())):=by
 unfold lI
 rw [sX z 1000000000000000 (by omega) (by omega),Option.bind_some]
 by_cases h:(z.natAbs:Int)≤1000000000000000
 ·rw [if_pos h,if_pos (by omega)];rfl
 ·rw [if_neg h,if_neg (by omega)];rfl
theorem Mn (z:Int) (hz:z.natAbs<4294967296 ^ 99) (p:Nat) (hp:p≤1000):ya (W z) (p:Int)=some (if (few p z).1.natAbs≤1000000000000000 then (((few p z).1,((few p z).2:Int)),0,()) else ((0,0),1,())):=by
 unfold ya
 rw [dS 10 (by omega) (by omega),Option.bind_some]
 dsimp only
 have loop:∀ (n:Nat) (z:Int) (p:Nat),z.natAbs<4294967296 ^ 99→p≤1000→p<n→iter (X:=tG) (β:=tD) n ((p:Int),(W z).1,(W z).2,0,0,(W 10).1,(W 10).2,()) td=some (Sum.inr (((few p z).2:Int),(W (few p z).1).1,(W (few p z).1).2,0,0,())):=by
  intro n
  induction n with
  | zero=>intro z p _ _ h;omega
  | succ n ih=>
   intro z p hz hp hn
   rw [bZ]
   generalize hag:(fun y=>iter n y td)=again
   unfold td
   dsimp only
   cases p with
   | zero=>rw [ay (by omega)];rfl
   | succ p=>
    have e10:(10:Int).natAbs=10:=rfl
    rw [az (by omega)]
    change (Option.bind (o5 (W z) (W 10)) _)=_
    rw [Ao z 10 hz (by rw [e10];exact Yf (by omega) (Yr (n:=4294967296) (by omega) (show 1≤99 by omega))) (by omega),Option.bind_some]
    dsimp only
    rw [lY,Option.bind_some]
    dsimp only
    rw [e10]
    by_cases hm:z % 10=0
    ·have hm2:z.natAbs % 10=0:=by omega
     rw [hm2,show ((((0:Nat):Int).sign) != 0)=false from rfl,cond_false]
     change (Option.bind (aC (W z)) _)=_
     rw [lY,Option.bind_some]
     dsimp only
     have hf:few (p+1) z=few p (z / 10):=by simp [few,hm]
     rw [hf]
     have hz':(z / 10).natAbs<4294967296 ^ 99:=Ye (by omega) hz
     by_cases hneg:z<0
     ·rw [az (by rw [WN hneg];omega),vM _ (by simp only [Int.natAbs_natCast];exact Ye (Nat.div_le_self _ _) hz),Option.bind_some]
      dsimp only
      rw [show -((z.natAbs / 10:Nat):Int)=z / 10 by omega,au (by omega) (by omega),show ((p+1:Nat):Int) - 1=(p:Int) by omega, ← hag]
      exact ih (z / 10) p hz' (by omega) (by omega)
     ·rw [ay (by
       rcases (show z=0∨0<z by omega) with h | h
       ·subst h;decide
       ·rw [WO h];omega),show ((z.natAbs / 10:Nat):Int)=z / 10 by omega,au (by omega) (by omega),show ((p+1:Nat):Int) - 1=(p:Int) by omega, ← hag]
      exact ih (z / 10) p hz' (by omega) (by omega)
    ·have hm2:0<z.natAbs % 10:=by omega
     have:(((z.natAbs % 10:Nat):Int).sign != 0)=true:=by
      rw [WO (by omega)];rfl
     rw [this,cond_true]
     have hf:few (p+1) z=(z,p+1):=by simp [few,hm]
     rw [hf]
 have:=loop (Int.natAbs (p:Int)+(List.length (W z).2+(Int.natAbs (0:Int)+(Int.natAbs (0:Int)+(List.length (W 10).2+2))))) z p hz hp (by omega)
 rw [this,aE]
 dsimp only
 change (Option.bind (lI (W (few p z).1) ((few p z).2:Int)) _)=_
 rw [Bt,Option.bind_some]
def told (n:Int):ak:=((few 4 n).1,((few 4 n).2:Int))
theorem Um:(18446744073709551616:Nat)≤4294967296 ^ 99:=by
 have:=Yr (n:=4294967296) (by omega) (show 2≤99 by omega)
 omega
theorem PC (n:Int) (h:n.natAbs≤1000000000000000):DF n=some (told n,0,()):=by
 unfold DF
 rw [dS n (by omega) (by omega),Option.bind_some]
 dsimp only
 have:=Mn n (Yf (by omega) Um) 4 (by omega)
 rw [show ((4:Nat):Int)=4 from rfl] at this
 have h2:=(RX 4 n).2.2
 rw [this,if_pos (by omega),Option.bind_some];rfl
theorem wV (n:Int) (h:n.natAbs≤1000000000000000):k9 n=some (told n,()):=by
 unfold k9
 rw [PC n h];rfl
def gU (d:ak):Prop:=d.1.natAbs≤1000000000000000∧0≤d.2∧d.2≤9
theorem jc.dec {d:ak} (h:jc d):gU d:=by
 obtain ⟨h1,h2,h3,h4⟩:=h
 have hq:(10:Int) ^ d.2.toNat≤10000:=by
  have:=Yr (n:=10) (by omega) (show d.2.toNat≤4 by omega)
  have h2:=WL.2 this
  simpa using h2
 exact ⟨by omega,h2,by omega⟩
end Go.Md
namespace Go.Md
open Go.Dn
def No (x:Bd):gM:=(x.1.1,told (nB x),told (taken x),done x)
theorem O6 {ds:List aY} {find:List UInt8→Option Nat} {order:List (Option Nat)} {day:Int}:∀ {ps:List aP} {rest:List Int} {ar:List Bd},(∀ p∈ps,HY p)→ku ds ar→(∀ n∈rest,0≤n∧n≤10000000000000)→
 ku ds (iH find order day ps rest ar).2∧(∀ n∈(iH find order day ps rest ar).1,0≤n∧n≤10000000000000)
 | [],_,_,_,ha,hr=>⟨ha,hr⟩
 | p::ps,rest,ar,hp,ha,hr=>by
  unfold iH
  split
  ·exact ⟨ha,hr⟩
  ·have hpo:=hp p (by simp)
   have hs:=Jn (find:=find) (order:=order) ha hpo
   refine O6 (fun q hq=>hp q (by simp [hq])) hs.ar (fun n hn=> ?_)
   rcases XF.1 hn with h | h
   ·exact hr n h
   ·rw [XQ.1 h]
    have:=hpo.mon.bu;have:=hs.l0;have:=hs.l1;omega
theorem Nw {ds:List aY} {find:List UInt8→Option Nat} {order:List (Option Nat)} {day:Int}:∀ {ps:List aP} {rest:List Int} {ar:List Bd},(∀ p∈ps,HY p)→(∀ p∈ps,p.1≤day)→ku ds ar→
 (iH find order day ps rest ar).1.sum+wG (iH find order day ps rest ar).2=rest.sum+wG ar+(ps.map fun p=>bu p.2.1).sum∧(iH find order day ps rest ar).1.length=rest.length+ps.length
 | [],_,_,_,_,_=>by simp [iH]
 | p::ps,rest,ar,hp,hd,ha=>by
  unfold iH
  rw [if_neg (by have:=hd p (by simp);omega)]
  have hpo:=hp p (by simp)
  have hs:=Jn (find:=find) (order:=order) ha hpo
  obtain ⟨h1,h2⟩:=Nw (ps:=ps) (find:=find) (order:=order) (day:=day) (rest:=rest++[(Hj find order p ar).1]) (fun q hq=>hp q (by simp [hq])) (fun q hq=>hd q (by simp [hq])) hs.ar
  refine ⟨?_,by rw [h2];simp;omega⟩
  rw [h1]
  have:=hs.tot
  simp only [XY,XZ,List.sum_nil,XC]
  omega
theorem T8 {ar:List Bd} {n i:Nat} (hn:ar.length=n) (hi:i<n):((List.range n).map some)[i]? =some (some i):=by simp [hi]
theorem RO (ds:List aY) (ps:List aP):
 (∃ f,f≠0∧yz ds ps=some ([],[],f,())∧f=(if iL ds≠0 then iL ds else BI ps))∨
 (iL ds=0∧BI ps=0∧∃ order,Srt (N9 (iq ds)) order∧bw (N9 (iq ds)) ((List.range ds.length).map some) order∧
   yz ds ps=some ((iH (fun n=>mZ n ds 0 none) order 3652059 ps [] (iq ds)).2.map No,(iH (fun n=>mZ n ds 0 none) order 3652059 ps [] (iq ds)).1.map told,0,())):=by
 unfold yz
 rw [K3,Option.bind_some]
 dsimp only
 by_cases hf:(if iL ds≠0 then iL ds else BI ps)=0
 ·right
  have h1:iL ds=0:=by
   by_cases h:iL ds=0
   ·exact h
   ·rw [if_pos h] at hf;exact hf
  have h2:BI ps=0:=by rw [if_neg (YP h1)] at hf;exact hf
  obtain ⟨hl,hds⟩:=Ro h1
  obtain ⟨hpl,hps⟩:=SN h2
  obtain ⟨order,g1,g2,g3⟩:=Ma ds hds hl ps hps hpl 3652059
  refine ⟨h1,h2,order,g1,g2, ?_⟩
  rw [hf,show ((0:Int) != 0)=false from rfl,cond_false,g3,Option.bind_some]
  dsimp only
  have ha:=O6 (find:=fun n=>mZ n ds 0 none) (order:=order) (day:=3652059) (rest:=[]) hps (J5 hds) (by simp)
  generalize hres:iH (fun n=>mZ n ds 0 none) order 3652059 ps [] (iq ds)=res at ha
  obtain ⟨rest,ar⟩:=res
  dsimp only at ha ⊢
  have hal:ar.length=ds.length:=ha.1.len
  have loop1:∀ (hnd:List (Option Nat)),hnd=(List.range ds.length).map some→∀ fuel,hnd.length<fuel→iter (X:=BK) (β:=BZ) fuel (rest,[],hnd,(hnd.length:Int),0,ar,()) BT=some (Sum.inr (rest,ar.map No,ar,())):=by
   intro hnd hh fuel hfu
   have hlen:hnd.length=ds.length:=by rw [hh];simp
   refine bN (Inv:=fun i x=>x=(rest,(ar.take i).map No,hnd,(hnd.length:Int),(i:Int),ar,())) hnd.length (fun r=>r=some (Sum.inr (rest,ar.map No,ar,()))) ?_ ?_ fuel 0 _ (by simp) (by omega) (by omega)
   ·rintro i _ again hi rfl ih
    unfold BT
    dsimp only
    have hx:ar[i]? =some (ar[i]'(by omega)):=aO _
    generalize ar[i]'(by omega)=x at hx
    have hk:=ha.1.get hx
    have hb:=hk.le
    have p0:=hk.paid0
    have t0:=hk.taken0
    have hg:hnd[i]? =some (some i):=by rw [hh];exact T8 hal (by omega)
    rw [az (by omega),bF,hg]
    simp only [Option.bind_some,hx]
    change (Option.bind (k9 (nB x)) fun r7=>Option.bind (k9 (taken x)) fun r10=>_)=_
    rw [wV _ (by omega),Option.bind_some,wV _ (by omega),Option.bind_some]
    dsimp only
    rw [aH (lX (by simp;omega) (by simp;omega)),au (by omega) (by omega)]
    refine ih _ ?_
    rw [yg hx,XA];rfl
   ·rintro _ again rfl
    unfold BT
    dsimp only
    rw [ay (by omega),X3 (by omega)]
  have hrl:rest.length≤ps.length:=by
   have:=(Nw (ds:=ds) (find:=fun n=>mZ n ds 0 none) (order:=order) (day:=3652059) (rest:=[]) (ar:=iq ds) hps (fun p hp=>(hps p hp).day1) (J5 hds)).2
   rw [hres] at this;simp at this;omega
  have loop2:∀ (xs:List gM) fuel,rest.length<fuel→iter (X:=Al) (β:=Ab) fuel (xs,[],rest,(rest.length:Int),0,ar,()) Am=some (Sum.inr (xs,rest.map told,ar,())):=by
   intro xs fuel hfu
   refine bN (Inv:=fun i x=>x=(xs,(rest.take i).map told,rest,(rest.length:Int),(i:Int),ar,())) rest.length (fun r=>r=some (Sum.inr (xs,rest.map told,ar,()))) ?_ ?_ fuel 0 _ (by simp) (by omega) (by omega)
   ·rintro i _ again hi rfl ih
    unfold Am
    dsimp only
    have hx:rest[i]? =some (rest[i]'(by omega)):=aO _
    have hb:=ha.2 (rest[i]'(by omega)) (Xq _)
    generalize rest[i]'(by omega)=x at hx hb
    rw [az (by omega),bF,hx,Option.bind_some,wV _ (by omega),Option.bind_some]
    dsimp only
    rw [aH (lX (by simp;omega) (by simp;omega)),au (by omega) (by omega)]
    refine ih _ ?_
    rw [yg hx,XA];rfl
   ·rintro _ again rfl
    unfold Am
    dsimp only
    rw [ay (by omega),X3 (by omega)]
  rw [loop1 _ rfl _ (by omega),aE]
  dsimp only
  rw [loop2 _ _ (by omega),aE]
 ·left
  refine ⟨_,hf, ?_,rfl⟩
  rw [show ((if iL ds≠0 then iL ds else BI ps) != 0)=true by simpa using hf,cond_true]
end Go.Md
namespace Go.Md
open Go.Dn
end Go.Md
namespace Go.Md
open Go.Dn
end Go.Md
namespace Go.Md
open Go.Dn
def Q7 (D:Int) (S:Nat→Prop) (ar:List Bd):Prop:=∀ i x,S i→ar[i]? =some x→done x=0∨D<done x
theorem Q7.set {D:Int} {S:Nat→Prop} {ar:List Bd} {h:Nat} {x y:Bd} (hq:Q7 D S ar) (hx:ar[h]? =some x) (hy:(done x=0∨D<done x)→(done y=0∨D<done y)):Q7 D S (ar.set h y):=by
 intro i z hi hz
 by_cases e:h=i
 ·subst e
  rw [Hy hx] at hz
  cases hz
  exact hy (hq h x hi hx)
 ·rw [Xk e] at hz
  exact hq i z hi hz
end Go.Md
namespace Go.Md
open Go.Dn
set_option maxRecDepth 100000 in
instance (d:ak):Decidable (gU d):=by unfold gU;infer_instance
end Go.Md
