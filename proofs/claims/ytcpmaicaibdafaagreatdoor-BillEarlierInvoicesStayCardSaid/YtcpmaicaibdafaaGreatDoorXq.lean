/-
  Plain facts, small ones. No condition.
-/
import Derived.Test.YtcpmaicaibdafaaGreatDoorXp
import Derived.Test.YtcpmaicaibdafaaGreatDoorXm
set_option linter.all false
namespace Go.Md
open Go.Dn
theorem zne:((0:Int) != 0)=false:=rfl
structure cw {α:Type} (k:α→Int) (l l':List α):Prop where
 perm:l.Perm l'
 keys:∀ v,l'.filter (fun x=>k x==v)=l.filter (fun x=>k x==v)
theorem cw.refl {α:Type} (k:α→Int) (l:List α):cw k l l:=⟨List.Perm.refl _,fun _=>rfl⟩
theorem cw.trans {α:Type} {k:α→Int} {a b c:List α} (h:cw k a b) (g:cw k b c):cw k a c:=⟨h.perm.trans g.perm,fun v=>(g.keys v).trans (h.keys v)⟩
theorem cw.append {α:Type} {k:α→Int} {a b c d:List α} (h:cw k a b) (g:cw k c d):cw k (a++c) (b++d):=
 ⟨h.perm.append g.perm,fun v=>by rw[aaQ,aaQ,h.keys,g.keys]⟩
theorem cw.mem {α:Type} {k:α→Int} {a b:List α} (h:cw k a b) {x:α}:x∈b↔x∈a:=h.perm.mem_iff.symm
theorem cw.length {α:Type} {k:α→Int} {a b:List α} (h:cw k a b):b.length=a.length:=h.perm.length_eq.symm
theorem cw.swap {α:Type} {k:α→Int} {u v:List α} (h:∀ x∈u,∀ y∈v,k x≠k y):cw k (u++v) (v++u):=by
 refine⟨List.perm_append_comm,fun w=> ?_⟩
 rw[aaQ,aaQ]
 by_cases hu:∃ x∈u,k x=w
 ·obtain⟨x,hx,rfl⟩:=hu
  have:v.filter (fun y=>k y==k x)=[]:=by
   rw[List.filter_eq_nil_iff]
   intro y hy
   simpa using fun e=>h x hx y hy e.symm
  rw[this];simp
 ·have:u.filter (fun y=>k y==w)=[]:=by
   rw[List.filter_eq_nil_iff]
   intro y hy
   simpa using fun e=>hu ⟨y,hy,e⟩
  rw[this];simp
def Srt {α:Type} (k:α→Int) (l:List α):Prop:=l.Pairwise fun x y=>k x≤k y
theorem Srt.append {α:Type} {k:α→Int} {a b:List α} (ha:Srt k a) (hb:Srt k b) (h:∀ x∈a,∀ y∈b,k x≤k y):Srt k (a++b):=abB.2 ⟨ha,hb,h⟩
theorem Srt.left {α:Type} {k:α→Int} {a b:List α} (h:Srt k (a++b)):Srt k a:=(abB.1 h).1
theorem Srt.right {α:Type} {k:α→Int} {a b:List α} (h:Srt k (a++b)):Srt k b:=(abB.1 h).2.1
theorem Srt.LM {α:Type} {k:α→Int} {a b:List α} (h:Srt k (a++b)):∀ x∈a,∀ y∈b,k x≤k y:=(abB.1 h).2.2
theorem Tg {α:Type} (A B:List α) (x y:α):((A++y::x::B).set (A.length+1) y).set A.length x=A++x::y::B:=by
 induction A with
 | nil=>rfl
 | cons a A ih=>simp only[aaF,abe,abG,ih]
theorem Xb {α:Type} (A B:List α) (x y:α):((A++x::y::B).set A.length y).set (A.length+1) x=A++y::x::B:=by
 induction A with
 | nil=>rfl
 | cons a A ih=>simp only[aaF,abe,abG,ih]
theorem get_at {α:Type} (A B:List α) (y:α):(A++y::B)[A.length]? =some y:=by simp
theorem LS {α:Type} (A B:List α) (x y:α):(A++y::x::B)[A.length+1]? =some x:=by simp
theorem rV {α:Type} {l:List α} {n:Nat} (h:n≤l.length):∃ A B,l=A++B∧A.length=n:=⟨l.take n,l.drop n,by simp,by simp;omega⟩
section
variable {k:Option Nat→Int} {ar:List aq} {ok:Option Nat→Prop}
def yK (k:Option Nat→Int) (ar:List aq) (ok:Option Nat→Prop):Prop:=∀ a b,ok a→ok b→∃ c,lI a b ar=some (c,())∧(c<0↔k a<k b)
theorem Wj (hc:yK k ar ok) (a:Nat) (bI:Int) (iI:Int) (X:List (Option Nat)) (hX:X.length=a):∀ (n:Nat) (P1:List (Option Nat)) (x:Option Nat) (B:List (Option Nat)),P1.length<n→(X++P1++x::B).length<1000000000→ok x→(∀ y∈P1,ok y)→
 ∃ P2 P3,P1=P2++P3∧(∀ y∈P3,k x<k y)∧(∀ y,P2.getLast? =some y→k y≤k x)∧
 iter (X:=dF) (β:=dB) n ((a:Int),bI,(),iI,((a+P1.length:Nat):Int),X++P1++x::B,ar,()) dz=some (Sum.inr ((a:Int),bI,(),iI,X++P2++x::(P3++B),ar,())):=by
 intro n
 induction n with
 | zero=>intro P1 x B h;omega
 | succ n ih=>
  intro P1 x B hn hlen hx hP
  rw[bQ]
  generalize hag:(fun y=>iter n y dz)=again
  unfold dz
  dsimp only
  rcases List.eq_nil_or_concat P1 with rfl | ⟨P,y,rfl⟩
  ·rw[aB (by simp)]
   exact⟨[],[],rfl,by simp,by simp,by simp⟩
  ·rw[List.concat_eq_append] at*
   simp only[abd,abe,abg] at hlen hn ⊢
   have e1:w64 (((a+(P.length+1):Nat):Int) - 1)=(((X++P).length:Nat):Int):=by rw[au (by omega) (by omega)];simp[hX];omega
   have e2:(((a+(P.length+1):Nat):Int))=(((X++P).length+1:Nat):Int):=by simp[hX];omega
   have el:X++(P++[y])++x::B=(X++P)++y::x::B:=by simp
   obtain⟨c,hcc,hlt⟩:=hc x y hx (hP y (by simp))
   rw[aC (by omega),e1,e2,el]
   simp only[aay,get_at,LS,acn,hcc]
   rw[bq (by simp only[Z2,acG,abd,abe,abi,abg];omega),bq (by simp only[Z2,acG,abd,abe,abi,abg];omega)]
   by_cases hk:k x<k y
   ·rw[aC (hlt.2 hk),bq (by simp only[Z2,acG,abd,abe,abi,abg];omega),bq (by simp only[Z2,acG,abd,abe,abi,abg];omega),bq (by simp only[Z2,acG,abd,abe,abi,abg];omega),
     bq (by simp only[Z2,acG,abd,abe,abi,abg];omega)]
    have hg:(((X++P)++y::x::B).set ((X++P).length+1) y)[(X++P).length]? =some y:=by rw[aa7 (by omega),get_at]
    rw[hg,acn,Tg, ← hag]
    obtain⟨P2,P3,h1,h2,h3,h4⟩:=ih P x (y::B) (by omega) (by simp;omega) hx (fun z hz=>hP z (by simp[hz]))
    refine⟨P2,P3++[y],by rw[h1];simp, ?_,h3, ?_⟩
    ·intro z hz
     rcases abo.1 hz with hz | hz
     ·exact h2 z hz
     ·rw[abz.1 hz];exact hk
    ·have e3:(((X++P).length:Nat):Int)=((a+P.length:Nat):Int):=by simp[hX]
     rw[e3]
     show iter n _ _=_
     rw[h4];simp
   ·rw[aB (fun h=>hk (hlt.1 h))]
    refine⟨P++[y],[],by simp,by simp,fun z hz=> ?_,by simp⟩
    simp at hz
    subst hz;omega
theorem XP {α:Type} {k:α→Int} {P:List α} (h:Srt k P) {v:Int} (hl:∀ y,P.getLast? =some y→k y≤v):∀ y∈P,k y≤v:=by
 rcases List.eq_nil_or_concat P with rfl | ⟨Q,z,rfl⟩
 ·simp
 ·rw[List.concat_eq_append] at*
  have hz:=hl z (by simp)
  intro y hy
  rcases abo.1 hy with hy | hy
  ·have:=h.LM y hy z (by simp);omega
  ·rw[abz.1 hy];exact hz
theorem Xr {α:Type} {k:α→Int} {P2 P3:List α} {x:α} (hs:Srt k (P2++P3)) (h3:∀ y∈P3,k x<k y) (h2:∀ y,P2.getLast? =some y→k y≤k x):Srt k (P2++x::P3)∧cw k (P2++P3++[x]) (P2++x::P3):=by
 constructor
 ·refine hs.left.append (abC.2 ⟨fun y hy=>by have:=h3 y hy;omega,hs.right⟩) ?_
  intro y hy z hz
  have hy':=XP hs.left h2 y hy
  rcases abp.1 hz with rfl | hz
  ·exact hy'
  ·exact hs.LM y hy z hz
 ·rw[aaD]
  refine (cw.refl k P2).append ?_
  have:=cw.swap (k:=k) (u:=P3) (v:=[x]) (fun y hy z hz=>by rw[abz.1 hz];have:=h3 y hy;omega)
  simpa using this
theorem KT (hc:yK k ar ok) (X S Y:List (Option Nat)) (hlen:(X++S++Y).length<1000000000) (hok:∀ y∈S,ok y):
 ∃ S',cR (X++S++Y) (X.length:Int) ((X.length+S.length:Nat):Int) () ar=some (X++S'++Y,())∧Srt k S'∧cw k S S':=by
 simp only[abd] at hlen
 have loop:∀ (n:Nat) (Q P:List (Option Nat)) (l:List (Option Nat)),Q.length<n→l=X++P++Q++Y→P.length+Q.length=S.length→Srt k P→(∀ y∈P,ok y)→(∀ y∈Q,ok y)→
  ∃ S',iter (X:=dD) (β:=dA) n ((X.length:Int),((X.length+S.length:Nat):Int),(),((X.length+P.length:Nat):Int),l,ar,()) cC=some (Sum.inr (X++S'++Y,ar,()))∧Srt k S'∧cw k (P++Q) S':=by
  intro n
  induction n with
  | zero=>intro Q P l h;omega
  | succ n ih=>
   intro Q P l hn hl hPQ hs hokP hokQ
   rw[bQ]
   generalize hag:(fun y=>iter n y cC)=again
   unfold cC
   dsimp only
   cases Q with
   | nil=>
    rw[aB (by simp at hPQ;omega)]
    exact⟨P,by rw[hl];simp,hs,by simpa using cw.refl k P⟩
   | cons x Q=>
    simp only[abe] at hn hPQ
    rw[aC (by omega)]
    have hl':l=X++P++x::(Q++Y):=by rw[hl];simp
    obtain⟨P2,P3,h1,h2,h3,h4⟩:=Wj hc X.length ((X.length+S.length:Nat):Int) ((X.length+P.length:Nat):Int) X rfl
     (Int.natAbs (X.length:Int)+(Int.natAbs ((X.length+S.length:Nat):Int)+(Int.natAbs ((X.length+P.length:Nat):Int)+(Int.natAbs ((X.length+P.length:Nat):Int)+(List.length l+2))))) P x (Q++Y) (by omega) (by simp;omega) (hokQ x (by simp)) hokP
    rw[← hl'] at h4
    rw[h4,bg]
    dsimp only
    have e1:w64 (((X.length+P.length:Nat):Int)+1)=((X.length+(P2++x::P3).length:Nat):Int):=by
     rw[au (by omega) (by omega),h1];simp;omega
    rw[e1, ← hag]
    rw[h1] at hs hokP
    obtain⟨hs',hsam⟩:=Xr hs h2 h3
    obtain⟨S',g1,g2,g3⟩:=ih Q (P2++x::P3) (X++P2++x::(P3++(Q++Y))) (by omega) (by simp) (by rw[h1] at hPQ;simp at hPQ ⊢;omega) hs' (fun y hy=>by
     rcases hsam.mem.1 hy |> abo.1 with h | h
     ·exact hokP y h
     ·rw[abz.1 h];exact hokQ x (by simp)) (fun y hy=>hokQ y (by simp[hy]))
    refine⟨S',g1,g2, ?_⟩
    have:cw k (P++x::Q) (P2++x::P3++Q):=by
     rw[h1]
     have:=hsam.append (cw.refl k Q)
     simpa using this
    exact this.trans g3
 unfold cR
 cases S with
 | nil=>
  have e1:w64 ((X.length:Int)+1)=((X.length+1:Nat):Int):=by rw[au (by omega) (by omega)];omega
  rw[e1]
  obtain⟨n,hn⟩:∃ n,(Int.natAbs (X.length:Int)+(Int.natAbs ((X.length+([]:List (Option Nat)).length:Nat):Int)+(Int.natAbs ((X.length+1:Nat):Int)+(List.length (X++[]++Y)+2))))=n+1:=⟨_,rfl⟩
  rw[hn,bQ]
  unfold cC
  dsimp only
  rw[aB (by simp;omega)]
  exact⟨[],rfl,List.Pairwise.nil,cw.refl _ _⟩
 | cons x S=>
  have e1:w64 ((X.length:Int)+1)=((X.length+[x].length:Nat):Int):=by rw[au (by omega) (by omega)];simp
  rw[e1]
  obtain⟨S',g1,g2,g3⟩:=loop (Int.natAbs (X.length:Int)+(Int.natAbs ((X.length+(x::S).length:Nat):Int)+(Int.natAbs ((X.length+[x].length:Nat):Int)+(List.length (X++(x::S)++Y)+2)))) S [x] (X++(x::S)++Y) (by simp;omega) (by simp) (by simp;omega) (List.pairwise_singleton _ _) (fun y hy=>hok y (by simp at hy;simp[hy])) (fun y hy=>hok y (by simp[hy]))
  rw[g1,bg]
  exact⟨S',rfl,g2,by simpa using g3⟩
end
end Go.Md
namespace Go.Md
open Go.Dn
theorem UA {α:Type} (A B:List α) (x y:α):(A++x::B).set A.length y=A++y::B:=by
 induction A with
 | nil=>rfl
 | cons a A ih=>simp only[aaF,abe,abG,ih]
section
variable {k:Option Nat→Int} {ar:List aq} {ok:Option Nat→Prop}
theorem Fy (X M Y:List (Option Nat)):∀ (P Q:List (Option Nat)),P.length=Q.length→(X++P++M++Q++Y).length<1000000000→
 cH (X++P++M++Q++Y) (X.length:Int) ((X.length+P.length+M.length:Nat):Int) (P.length:Int) () ar=some (X++Q++M++P++Y,()):=by
 intro P Q hPQ hlen
 simp only[abd] at hlen
 have loop:∀ (n:Nat) (P1 P2 Q1 Q2:List (Option Nat)) (l:List (Option Nat)),P2.length<n→P1.length+P2.length=P.length→P1.length=Q1.length→P2.length=Q2.length→l=X++P1++P2++M++Q1++Q2++Y→
  iter (X:=eP) (β:=eN) n ((X.length:Int),((X.length+P.length+M.length:Nat):Int),(P.length:Int),(P1.length:Int),l,ar,()) eM=some (Sum.inr (X++P1++Q2++M++Q1++P2++Y,ar,())):=by
  intro n
  induction n with
  | zero=>intro P1 P2 Q1 Q2 l h;omega
  | succ n ih=>
   intro P1 P2 Q1 Q2 l hn h1 h2 h3 hl
   rw[bQ]
   generalize hag:(fun y=>iter n y eM)=again
   unfold eM
   dsimp only
   cases P2 with
   | nil=>
    have:Q2=[]:=aaO (by simpa using h3.symm)
    subst this
    rw[aB (by simp at h1;omega),hl]
   | cons p P2=>
    cases Q2 with
    | nil=>simp at h3
    | cons q Q2=>
     simp only[abe] at hn h1 h3
     have ll:l.length=X.length+P.length+M.length+Q.length+Y.length:=by rw[hl];simp;omega
     have e1:w64 (((X.length+P.length+M.length:Nat):Int)+(P1.length:Int))=(((X++P1++p::P2++M++Q1).length:Nat):Int):=by rw[au (by omega) (by omega)];simp;omega
     have e2:w64 ((X.length:Int)+(P1.length:Int))=(((X++P1).length:Nat):Int):=by rw[au (by omega) (by omega)];simp
     have l1:l=(X++P1++p::P2++M++Q1)++q::(Q2++Y):=by rw[hl];simp
     have l2:l=(X++P1)++p::(P2++M++Q1++q::(Q2++Y)):=by rw[hl];simp
     have g1:l[(X++P1++p::P2++M++Q1).length]? =some q:=by rw[l1];exact get_at _ _ _
     have g2:l[(X++P1).length]? =some p:=by rw[l2];exact get_at _ _ _
     have g3:l.set (X++P1).length q=(X++P1++q::P2++M++Q1)++q::(Q2++Y):=by
      rw[l2,UA];simp
     have hlq:(X++P1++p::P2++M++Q1).length=(X++P1++q::P2++M++Q1).length:=by simp
     have g4:(l.set (X++P1).length q)[(X++P1++p::P2++M++Q1).length]? =some q:=by rw[g3,hlq];exact get_at _ _ _
     have g5:(l.set (X++P1).length q).set (X++P1++p::P2++M++Q1).length p=X++(P1++[q])++P2++M++(Q1++[p])++Q2++Y:=by rw[g3,hlq,UA];simp
     rw[aC (by omega),e1,e2]
     simp only[aay,g1,g2,g4,g5,acn,abi,ll]
     have lq:(X++P1++p::P2++M++Q1).length<X.length+P.length+M.length+Q.length+Y.length:=by simp;omega
     have lp:(X++P1).length<X.length+P.length+M.length+Q.length+Y.length:=by simp;omega
     rw[bq (by simp only[Z2,acG];omega),bq (by simp only[Z2,acG];omega),bq (by simp only[Z2,acG];omega),bq (by simp only[Z2,acG];omega)]
     have e3:w64 ((P1.length:Int)+1)=(((P1++[q]).length:Nat):Int):=by rw[au (by omega) (by omega)];simp
     rw[e3, ← hag]
     show iter n _ _=_
     rw[ih (P1++[q]) P2 (Q1++[p]) Q2 _ (by omega) (by simp;omega) (by simp;omega) (by omega) rfl]
     simp
 unfold cH
 rw[show (0:Int)=((([]:List (Option Nat)).length:Nat):Int) from rfl,loop _ [] P [] Q (X++P++M++Q++Y) (by simp;omega) (by simp) rfl hPQ (by simp),bg]
 simp
theorem TT (m:Nat):∀ (n:Nat) (X U V Y:List (Option Nat)),U.length+V.length<n→0<U.length→0<V.length→X.length+U.length=m→(X++U++V++Y).length<1000000000→
 ∃ (X' U' V' Y':List (Option Nat)),iter (X:=fV) (β:=fU) n ((m:Int),(),(U.length:Int),(V.length:Int),X++U++V++Y,ar,()) fT=some (Sum.inr ((m:Int),(),(U'.length:Int),X'++U'++V'++Y',ar,()))∧U'.length=V'.length∧X'.length+U'.length=m∧X'++V'++U'++Y'=X++V++U++Y∧(X'++U'++V'++Y').length<1000000000:=by
 intro n
 induction n with
 | zero=>intro X U V Y h;omega
 | succ n ih=>
  intro X U V Y hn hU hV hm hlen
  rw[bQ]
  generalize hag:(fun y=>iter n y fT)=again
  unfold fT
  dsimp only
  by_cases he:U.length=V.length
  ·have hb:((U.length:Int) != (V.length:Int))=false:=by simp[he]
   rw[hb,acB]
   exact⟨X,U,V,Y,rfl,he,hm,rfl,hlen⟩
  ·have hb:((U.length:Int) != (V.length:Int))=true:=by simp;omega
   rw[hb,acC]
   simp only[abd] at hlen
   have e1:w64 ((m:Int) - (U.length:Int))=(X.length:Int):=by rw[au (by omega) (by omega)];omega
   rw[e1]
   by_cases hgt:V.length<U.length
   ·rw[aC (by omega)]
    obtain⟨U1,U2,rfl,hU1⟩:=rV (l:=U) (n:=V.length) (by omega)
    simp only[abd] at*
    have hsw:=Fy (ar:=ar) X U2 Y U1 V hU1 (by simp;omega)
    rw[show ((X.length+U1.length+U2.length:Nat):Int)=(m:Int) by omega,hU1] at hsw
    rw[show X++(U1++U2)++V++Y=X++U1++U2++V++Y by simp,hsw,acn]
    have e2:w64 (((U1.length+U2.length:Nat):Int) - (V.length:Int))=(U2.length:Int):=by rw[au (by omega) (by omega)];omega
    rw[e2, ← hag]
    obtain⟨X',U',V',Y',h1,h2,h3,h4,h5⟩:=ih (X++V) U2 U1 Y (by omega) (by omega) (by omega) (by simp;omega) (by simp;omega)
    refine⟨X',U',V',Y', ?_,h2,h3,by rw[h4];simp,h5⟩
    rw[← hU1]
    exact h1
   ·rw[aB (by omega)]
    obtain⟨V1,V2,rfl,hV1⟩:=rV (l:=V) (n:=V.length - U.length) (by omega)
    simp only[abd] at*
    have e3:w64 (w64 ((m:Int)+((V1.length+V2.length:Nat):Int)) - (U.length:Int))=((X.length+U.length+V1.length:Nat):Int):=by
     rw[au (n:=(m:Int)+((V1.length+V2.length:Nat):Int)) (by omega) (by omega),au (by omega) (by omega)];omega
    have hsw:=Fy (ar:=ar) X V1 Y U V2 (by omega) (by simp;omega)
    rw[e3,show X++U++(V1++V2)++Y=X++U++V1++V2++Y by simp,hsw,acn]
    have e2:w64 (((V1.length+V2.length:Nat):Int) - (U.length:Int))=(V1.length:Int):=by rw[au (by omega) (by omega)];omega
    rw[e2, ← hag]
    obtain⟨X',U',V',Y',h1,h2,h3,h4,h5⟩:=ih X V2 V1 (U++Y) (by omega) (by omega) (by omega) (by omega) (by simp;omega)
    refine⟨X',U',V',Y', ?_,h2,h3,by rw[h4];simp,h5⟩
    rw[show ((U.length:Nat):Int)=(V2.length:Int) by omega,show X++V2++V1++U++Y=X++V2++V1++(U++Y) by simp]
    exact h1
theorem WW (X U V Y:List (Option Nat)) (hU:0<U.length) (hV:0<V.length) (hlen:(X++U++V++Y).length<1000000000):
 gT (X++U++V++Y) (X.length:Int) ((X.length+U.length:Nat):Int) ((X.length+U.length+V.length:Nat):Int) () ar=some (X++V++U++Y,()):=by
 unfold gT
 simp only[abd] at hlen
 have e1:w64 (((X.length+U.length:Nat):Int) - (X.length:Int))=(U.length:Int):=by rw[au (by omega) (by omega)];omega
 have e2:w64 (((X.length+U.length+V.length:Nat):Int) - ((X.length+U.length:Nat):Int))=(V.length:Int):=by rw[au (by omega) (by omega)];omega
 rw[e1,e2]
 obtain⟨X',U',V',Y',h1,h2,h3,h4,h5⟩:=TT (ar:=ar) (X.length+U.length) (Int.natAbs ((X.length+U.length:Nat):Int)+(Int.natAbs (U.length:Int)+(Int.natAbs (V.length:Int)+(List.length (X++U++V++Y)+2)))) X U V Y (by omega) hU hV rfl (by simp;omega)
 rw[h1,bg]
 dsimp only
 simp only[abd] at h5
 have e3:w64 (((X.length+U.length:Nat):Int) - (U'.length:Int))=(X'.length:Int):=by rw[au (by omega) (by omega)];omega
 have hsw:=Fy (ar:=ar) X' [] Y' U' V' h2 (by simp;omega)
 simp only[aaE,abg,abQ] at hsw
 rw[e3,show ((X.length+U.length:Nat):Int)=((X'.length+U'.length:Nat):Int) by omega,hsw,acn,h4]
end
end Go.Md
namespace Go.Md
open Go.Dn
theorem bsearch {X β:Type} {f:X→(X→Option β)→Option β} (mk:Nat→Nat→X) (fin:Nat→Option β) (P:Nat→Prop) [DecidablePred P] (lo hi:Nat)
 (hstep:∀ i j again,lo≤i→i<j→j≤hi→f (mk i j) again=if P ((i+j) / 2) then again (mk ((i+j) / 2+1) j) else again (mk i ((i+j) / 2)))
 (hend:∀ i again,lo≤i→i≤hi→f (mk i i) again=fin i) (mono:∀ s t,lo≤s→s≤t→t<hi→P t→P s):
 ∀ n i j,j - i<n→lo≤i→i≤j→j≤hi→(∀ t,lo≤t→t<i→P t)→(∀ t,j≤t→t<hi→¬P t)→∃ r,iter n (mk i j) f=fin r∧lo≤r∧r≤hi∧(∀ t,lo≤t→t<r→P t)∧(∀ t,r≤t→t<hi→¬P t)
 | 0,i,j,hn,_,_,_,_,_=>by omega
 | n+1,i,j,hn,h1,h2,h3,h4,h5=>by
  rw[bQ]
  by_cases hij:i=j
  ·subst hij
   exact⟨i,hend i _ h1 h3,h1,h3,h4,h5⟩
  ·rw[hstep i j _ h1 (by omega) h3]
   by_cases hP:P ((i+j) / 2)
   ·rw[acN hP]
    exact bsearch mk fin P lo hi hstep hend mono n _ _ (by omega) (by omega) (by omega) h3 (fun t ht1 ht2=>mono t _ ht1 (show t≤(i+j) / 2 by omega) (by omega) hP) h5
   ·rw[acM hP]
    exact bsearch mk fin P lo hi hstep hend mono n _ _ (by omega) h1 (by omega) (by omega) h4 (fun t ht1 ht2 hPt=>hP (mono _ t (by omega) ht1 ht2 hPt))
theorem LV (i j:Nat) (h:i+j<4000000000000000000):w64 (Int.fdiv (bT (w64 ((i:Int)+(j:Int)))) (2 ^ 1))=(((i+j) / 2:Nat):Int):=by
 rw[au (n:=(i:Int)+(j:Int)) (by omega) (by omega),dW (by omega) (by omega),aaj _ (by omega),au (by omega) (by omega)]
 omega
theorem XX {α:Type} (X L R Y:List α) {i:Nat} (h:i<L.length):(X++L++R++Y)[X.length+i]? =some L[i]:=by
 rw[aaD,aaD,aaW (by omega),aaV (by omega),show X.length+i - X.length=i by omega,aa0 h]
theorem U5 {α:Type} (X L R Y:List α) {i:Nat} (h:i<R.length):(X++L++R++Y)[X.length+L.length+i]? =some R[i]:=by
 rw[aaD,aaD,aaW (by omega),aaW (by omega),aaV (by omega),show X.length+L.length+i - X.length - L.length=i by omega,aa0 h]
theorem Srt.get {α:Type} {k:α→Int} {l:List α} (h:Srt k l) {i j:Nat} (hij:i≤j) (hj:j<l.length):k (l[i]'(by omega))≤k l[j]:=by
 rcases Nat.lt_or_eq_of_le hij with h1 | h1
 ·exact abD.1 h i j (by omega) hj h1
 ·subst h1;exact aak _
section
variable {k:Option Nat→Int} {ar:List aq} {ok:Option Nat→Prop}
theorem YB (i:Nat):∀ (n:Nat) (A V Y:List (Option Nat)) (x:Option Nat),V.length<n→A.length+1+V.length=i→(A++x::V++Y).length<1000000000→
 iter (X:=fH) (β:=fF) n ((i:Int),(A.length:Int),A++x::V++Y,ar,()) fD=some (Sum.inr (A++V++x::Y,ar,())):=by
 intro n
 induction n with
 | zero=>intro A V Y x h;omega
 | succ n ih=>
  intro A V Y x hn hi hlen
  rw[bQ]
  generalize hag:(fun y=>iter n y fD)=again
  unfold fD
  dsimp only
  simp only[abd,abe] at hlen
  have e0:w64 ((i:Int) - 1)=(i:Int) - 1:=au (by omega) (by omega)
  rw[e0]
  cases V with
  | nil=>rw[aB (by simp at hi;omega)];simp
  | cons v V=>
   simp only[abe] at hn hi hlen
   have e1:w64 ((A.length:Int)+1)=((A.length+1:Nat):Int):=by rw[au (by omega) (by omega)];omega
   have el:A++x::(v::V)++Y=A++x::v::(V++Y):=by simp
   have hg:((A++x::v::(V++Y)).set A.length v)[A.length+1]? =some v:=by rw[aa7 (by omega),LS]
   rw[aC (by omega),e1,el]
   simp only[aay,get_at,LS,acn,hg,Xb,abi]
   rw[bq (by simp only[Z2,acG,abd,abe];omega),bq (by simp only[Z2,acG,abd,abe];omega),bq (by simp only[Z2,acG,abd,abe];omega),bq (by simp only[Z2,acG,abd,abe];omega), ← hag]
   have:=ih (A++[v]) V Y x (by omega) (by simp;omega) (by simp;omega)
   simp only[abd,abe,abg,aci] at this
   show iter n _ _=_
   rw[show A++v::x::(V++Y)=A++[v]++x::V++Y by simp,this]
   simp
theorem Wx (A:List (Option Nat)):∀ (n:Nat) (U Y:List (Option Nat)) (y:Option Nat),U.length<n→(A++U++y::Y).length<1000000000→
 iter (X:=eY) (β:=eV) n ((A.length:Int),((A.length+U.length:Nat):Int),A++U++y::Y,ar,()) eS=some (Sum.inr (A++y::U++Y,ar,())):=by
 intro n
 induction n with
 | zero=>intro U Y y h;omega
 | succ n ih=>
  intro U Y y hn hlen
  rw[bQ]
  generalize hag:(fun y=>iter n y eS)=again
  unfold eS
  dsimp only
  simp only[abd,abe] at hlen
  rcases List.eq_nil_or_concat U with rfl | ⟨V,u,rfl⟩
  ·rw[aB (by simp)];simp
  ·rw[List.concat_eq_append] at*
   simp only[abd,abe,abg] at hn hlen ⊢
   have e1:w64 (((A.length+(V.length+(0+1)):Nat):Int) - 1)=(((A++V).length:Nat):Int):=by rw[au (by omega) (by omega)];simp;omega
   have e2:((A.length+(V.length+(0+1)):Nat):Int)=(((A++V).length+1:Nat):Int):=by simp;omega
   have el:A++(V++[u])++y::Y=(A++V)++u::y::Y:=by simp
   have hg:(((A++V)++u::y::Y).set ((A++V).length+1) u)[(A++V).length]? =some u:=by rw[aa7 (by omega),get_at]
   rw[aC (by omega),e1,e2,el]
   simp only[aay,get_at,LS,acn,hg,Tg,abi]
   rw[bq (by simp only[Z2,acG,abd,abe];omega),bq (by simp only[Z2,acG,abd,abe];omega),bq (by simp only[Z2,acG,abd,abe];omega),bq (by simp only[Z2,acG,abd,abe];omega), ← hag]
   have:=ih V (u::Y) y (by omega) (by simp;omega)
   show iter n _ _=_
   rw[show (((A++V).length:Nat):Int)=((A.length+V.length:Nat):Int) by simp,this]
   simp
theorem P9 (hc:yK k ar ok) (X R Y:List (Option Nat)) (x:Option Nat) (hlen:(X++[x]++R++Y).length<1000000000) (hR:Srt k R) (hx:ok x) (hok:∀ y∈R,ok y) (n:Nat) (hn:R.length<n):
 ∃ R1 R2,R=R1++R2∧(∀ y∈R1,k y<k x)∧(∀ y∈R2,k x≤k y)∧iter (X:=fG) (β:=fE) n ((X.length:Int),(),((X.length+1:Nat):Int),((X.length+1+R.length:Nat):Int),X++[x]++R++Y,ar,()) di=some (Sum.inr ((X.length:Int),((X.length+1+R1.length:Nat):Int),X++[x]++R++Y,ar,())):=by
 simp only[abd,abe,abg] at hlen
 have hx0:(X++[x]++R++Y)[X.length]? =some x:=by simp
 have hRt:∀ i (h:i<R.length),(X++[x]++R++Y)[X.length+1+i]? =some R[i]:=fun i h=>U5 X [x] R Y h
 obtain⟨r,h1,h2,h3,h4,h5⟩:=bsearch (f:=di) (fun i j=>((X.length:Int),(),(i:Int),(j:Int),X++[x]++R++Y,ar,())) (fun i=>some (Sum.inr ((X.length:Int),(i:Int),X++[x]++R++Y,ar,())))
  (fun t=>k ((R[t - (X.length+1)]?).getD none)<k x) (X.length+1) (X.length+1+R.length) (by
    intro i j again hi hij hj
    unfold di
    dsimp only
    have hh:(i+j) / 2 - (X.length+1)<R.length:=by omega
    have hg:=hRt _ hh
    rw[show X.length+1+((i+j) / 2 - (X.length+1))=(i+j) / 2 by omega] at hg
    rw[aC (by omega),LV i j (by omega)]
    simp only[aay,hg,hx0,acn]
    obtain⟨c,hcc,hlt⟩:=hc R[(i+j) / 2 - (X.length+1)] x (hok _ (abc _)) hx
    rw[hcc,bq (by simp only[Z2,acG,abd,abe];omega),bq (by simp only[Z2,acG,abd,abe];omega),acn,aa0 hh]
    dsimp only[Option.getD]
    by_cases hk:k R[(i+j) / 2 - (X.length+1)]<k x
    ·rw[aC (hlt.2 hk),acN hk,au (by omega) (by omega)];rfl
    ·rw[aB (fun h=>hk (hlt.1 h)),acM hk])
  (by
    intro i again _ _
    unfold di
    dsimp only
    rw[aB (by omega)])
  (by
    intro s t hs hst ht hP
    rw[aa0 (by omega)] at hP ⊢
    have:=hR.get (i:=s - (X.length+1)) (j:=t - (X.length+1)) (by omega) (by omega)
    simp only[aco] at hP ⊢
    omega)
  n (X.length+1) (X.length+1+R.length) (by omega) (abX _) (by omega) (abX _) (fun t h1 h2=>by omega) (fun t h1 h2=>by omega)
 obtain⟨R1,R2,rfl,hR1⟩:=rV (l:=R) (n:=r - (X.length+1)) (by omega)
 refine⟨R1,R2,rfl, ?_, ?_, ?_⟩
 ·intro y hy
  obtain⟨i,hi,rfl⟩:=abt.1 hy
  have:=h4 (X.length+1+i) (by omega) (by omega)
  rw[show X.length+1+i - (X.length+1)=i by omega,aaV hi,aa0 hi] at this
  exact this
 ·intro y hy
  obtain⟨i,hi,rfl⟩:=abt.1 hy
  have:=h5 (X.length+1+(R1.length+i)) (by omega) (by simp;omega)
  rw[show X.length+1+(R1.length+i) - (X.length+1)=R1.length+i by omega,aaW (by omega),show R1.length+i - R1.length=i by omega,aa0 hi] at this
  simp only[aco] at this
  omega
 ·rw[h1,show X.length+1+R1.length=r by omega]
theorem OQ (hc:yK k ar ok) (X L Y:List (Option Nat)) (y:Option Nat) (hlen:(X++L++[y]++Y).length<1000000000) (hL:Srt k L) (hy:ok y) (hok:∀ z∈L,ok z) (n:Nat) (hn:L.length<n):
 ∃ L1 L2,L=L1++L2∧(∀ z∈L1,k z≤k y)∧(∀ z∈L2,k y<k z)∧iter (X:=eX) (β:=eU) n (((X.length+L.length:Nat):Int),(),(X.length:Int),((X.length+L.length:Nat):Int),X++L++[y]++Y,ar,()) cV=some (Sum.inr (((X.length+L.length:Nat):Int),((X.length+L1.length:Nat):Int),X++L++[y]++Y,ar,())):=by
 simp only[abd,abe,abg] at hlen
 have hy0:(X++L++[y]++Y)[X.length+L.length]? =some y:=by
  have:=U5 X L [y] Y (i:=0) (by simp)
  simpa using this
 have hLt:∀ i (h:i<L.length),(X++L++[y]++Y)[X.length+i]? =some L[i]:=fun i h=>XX X L [y] Y h
 obtain⟨r,h1,h2,h3,h4,h5⟩:=bsearch (f:=cV) (fun i j=>(((X.length+L.length:Nat):Int),(),(i:Int),(j:Int),X++L++[y]++Y,ar,())) (fun i=>some (Sum.inr (((X.length+L.length:Nat):Int),(i:Int),X++L++[y]++Y,ar,())))
  (fun t=>¬ k y<k ((L[t - X.length]?).getD none)) X.length (X.length+L.length) (by
    intro i j again hi hij hj
    unfold cV
    dsimp only
    have hh:(i+j) / 2 - X.length<L.length:=by omega
    have hg:=hLt _ hh
    rw[show X.length+((i+j) / 2 - X.length)=(i+j) / 2 by omega] at hg
    rw[aC (by omega),LV i j (by omega)]
    simp only[aay,hg,hy0,acn]
    obtain⟨c,hcc,hlt⟩:=hc y L[(i+j) / 2 - X.length] hy (hok _ (abc _))
    rw[hcc,bq (by simp only[Z2,acG,abd,abe];omega),bq (by simp only[Z2,acG,abd,abe];omega),acn,aa0 hh]
    dsimp only[Option.getD]
    by_cases hk:k y<k L[(i+j) / 2 - X.length]
    ·rw[acF (hlt.2 hk),aad,acB,acM (fun h=>h hk)]
    ·rw[acE (fun h=>hk (hlt.1 h)),aac,acC,acN hk,au (by omega) (by omega)];rfl)
  (by
    intro i again _ _
    unfold cV
    dsimp only
    rw[aB (by omega)])
  (by
    intro s t hs hst ht hP
    rw[aa0 (by omega)] at hP ⊢
    have:=hL.get (i:=s - X.length) (j:=t - X.length) (by omega) (by omega)
    simp only[aco] at hP ⊢
    omega)
  n X.length (X.length+L.length) (by omega) (abX _) (by omega) (abX _) (fun t h1 h2=>by omega) (fun t h1 h2=>by omega)
 obtain⟨L1,L2,rfl,hL1⟩:=rV (l:=L) (n:=r - X.length) (by omega)
 refine⟨L1,L2,rfl, ?_, ?_, ?_⟩
 ·intro z hz
  obtain⟨i,hi,rfl⟩:=abt.1 hz
  have:=h4 (X.length+i) (by omega) (by omega)
  rw[show X.length+i - X.length=i by omega,aaV hi,aa0 hi] at this
  simp only[aco] at this
  omega
 ·intro z hz
  obtain⟨i,hi,rfl⟩:=abt.1 hz
  have:=h5 (X.length+(L1.length+i)) (by omega) (by simp;omega)
  rw[show X.length+(L1.length+i) - X.length=L1.length+i by omega,aaW (by omega),show L1.length+i - L1.length=i by omega,aa0 hi] at this
  simp only[aco] at this
  omega
 ·rw[h1,show X.length+L1.length=r by omega]
end
end Go.Md
namespace Go.Md
open Go.Dn
section
variable {k:Option Nat→Int} {ar:List aq} {ok:Option Nat→Prop}
theorem SJ (hc:yK k ar ok) (X L R Y:List (Option Nat)) (hlen:(X++L++R++Y).length<1000000000) (hL:Srt k L) (hR:Srt k R) (hokL:∀ z∈L,ok z) (hokR:∀ z∈R,ok z) (mid lo hi:Nat) (hmid:mid=(X.length+(X.length+L.length+R.length)) / 2)
 (hcase:(mid<X.length+L.length∧lo+R.length=mid∧hi=mid∧X.length≤lo)∨(X.length+L.length≤mid∧lo=X.length∧hi=X.length+L.length)) (n:Nat) (hn:hi<n):
 ∃ s:Nat,iter (X:=eZ) (β:=eW) n ((X.length:Int),((X.length+L.length:Nat):Int),((X.length+L.length+R.length:Nat):Int),(),(mid:Int),((mid+(X.length+L.length):Nat):Int),(lo:Int),(hi:Int),((mid+(X.length+L.length):Nat):Int) - 1,X++L++R++Y,ar,()) cW=some (Sum.inr ((X.length:Int),((X.length+L.length:Nat):Int),((X.length+L.length+R.length:Nat):Int),(),(mid:Int),((mid+(X.length+L.length):Nat):Int),(s:Int),X++L++R++Y,ar,()))∧
  lo≤s∧s≤hi∧(∀ i j (_:i<L.length) (_:j<R.length),X.length+i+1=s→j+s=mid→k L[i]≤k R[j])∧(∀ i j (_:i<L.length) (_:j<R.length),X.length+i=s→j+1+s=mid→k R[j]<k L[i]):=by
 simp only[abd] at hlen
 have hLt:∀ i (h:i<L.length),(X++L++R++Y)[X.length+i]? =some L[i]:=fun i h=>XX X L R Y h
 have hRt:∀ i (h:i<R.length),(X++L++R++Y)[X.length+L.length+i]? =some R[i]:=fun i h=>U5 X L R Y h
 obtain⟨r,h1,h2,h3,h4,h5⟩:=bsearch (f:=cW) (fun i j=>((X.length:Int),((X.length+L.length:Nat):Int),((X.length+L.length+R.length:Nat):Int),(),(mid:Int),((mid+(X.length+L.length):Nat):Int),(i:Int),(j:Int),((mid+(X.length+L.length):Nat):Int) - 1,X++L++R++Y,ar,()))
  (fun s=>some (Sum.inr ((X.length:Int),((X.length+L.length:Nat):Int),((X.length+L.length+R.length:Nat):Int),(),(mid:Int),((mid+(X.length+L.length):Nat):Int),(s:Int),X++L++R++Y,ar,())))
  (fun t=>¬ k ((R[mid - 1 - t]?).getD none)<k ((L[t - X.length]?).getD none)) lo hi (by
    intro i j again hi1 hij hj
    unfold cW
    dsimp only
    generalize hh0:(i+j) / 2=h
    have hhL:h - X.length<L.length:=by omega
    have hhR:mid - 1 - h<R.length:=by omega
    have hg:=hLt _ hhL
    rw[show X.length+(h - X.length)=h by omega] at hg
    have hg2:=hRt _ hhR
    rw[aC (by omega),LV i j (by omega),hh0]
    have e1:w64 (((mid+(X.length+L.length):Nat):Int) - 1 - (h:Int))=((X.length+L.length+(mid - 1 - h):Nat):Int):=by rw[au (by omega) (by omega)];omega
    rw[e1]
    simp only[aay,hg,hg2,acn]
    obtain⟨c,hcc,hlt⟩:=hc R[mid - 1 - h] L[h - X.length] (hokR _ (abc _)) (hokL _ (abc _))
    rw[hcc,bq (by simp only[Z2,acG,abd];omega),bq (by simp only[Z2,acG,abd];omega),acn,aa0 hhL,aa0 hhR]
    dsimp only[Option.getD]
    by_cases hk:k R[mid - 1 - h]<k L[h - X.length]
    ·rw[acF (hlt.2 hk),aad,acB,acM (fun h=>h hk)]
    ·rw[acE (fun h=>hk (hlt.1 h)),aac,acC,acN hk,au (by omega) (by omega)];rfl)
  (by
    intro i again _ _
    unfold cW
    dsimp only
    rw[aB (by omega)])
  (by
    intro s t hs hst ht hP
    rw[aa0 (show t - X.length<L.length by omega),aa0 (show mid - 1 - t<R.length by omega)] at hP
    rw[aa0 (show s - X.length<L.length by omega),aa0 (show mid - 1 - s<R.length by omega)]
    have a1:=hL.get (i:=s - X.length) (j:=t - X.length) (by omega) (by omega)
    have a2:=hR.get (i:=mid - 1 - t) (j:=mid - 1 - s) (by omega) (by omega)
    simp only[aco] at hP ⊢
    omega)
  n lo hi (by omega) (abX _) (by omega) (abX _) (fun t h1 h2=>by omega) (fun t h1 h2=>by omega)
 refine⟨r,h1,h2,h3, ?_, ?_⟩
 ·intro i j hi' hj' e1 e2
  have:=h4 (X.length+i) (by omega) (by omega)
  rw[show X.length+i - X.length=i by omega,show mid - 1 - (X.length+i)=j by omega,aa0 hi',aa0 hj'] at this
  simp only[aco] at this
  omega
 ·intro i j hi' hj' e1 e2
  have:=h5 (X.length+i) (by omega) (by omega)
  rw[show X.length+i - X.length=i by omega,show mid - 1 - (X.length+i)=j by omega,aa0 hi',aa0 hj'] at this
  simp only[aco] at this
  omega
def Th (self:((List (Option Nat))×Int×Int×Int×Unit×(List aq)×Unit)→Option ((List (Option Nat))×Unit)) (x:(List (Option Nat))×Int×Int×Int×Unit×(List aq)×Unit):=bU self x.1 x.2.1 x.2.2.1 x.2.2.2.1 x.2.2.2.2.1 x.2.2.2.2.2.1
set_option maxHeartbeats 4000000 in
theorem Ti (hc:yK k ar ok):∀ (n:Nat) (X L R Y:List (Option Nat)),L.length+R.length<n+2→0<L.length→0<R.length→(X++L++R++Y).length<1000000000→Srt k L→Srt k R→(∀ z∈L,ok z)→(∀ z∈R,ok z)→
 ∃ S,Fm Th n (X++L++R++Y,(X.length:Int),((X.length+L.length:Nat):Int),((X.length+L.length+R.length:Nat):Int),(),ar,())=some (X++S++Y,())∧Srt k S∧cw k (L++R) S:=by
 intro n
 induction n with
 | zero=>intro X L R Y h h1 h2;omega
 | succ n ih=>
  intro X L R Y hn hL0 hR0 hlen hL hR hokL hokR
  have hlen':=hlen
  simp only[abd] at hlen
  show ∃ S,Th (Fm Th n) _=_∧_
  generalize hself:Fm Th n=self at ih
  unfold Th bU
  dsimp only
  have e1:w64 (((X.length+L.length:Nat):Int) - (X.length:Int))=(L.length:Int):=by rw[au (by omega) (by omega)];omega
  have e2:w64 (((X.length+L.length+R.length:Nat):Int) - ((X.length+L.length:Nat):Int))=(R.length:Int):=by rw[au (by omega) (by omega)];omega
  rw[e1,e2]
  by_cases hL1:L.length=1
  ·obtain⟨x,rfl⟩:∃ x,L=[x]:=List.length_eq_one_iff.1 hL1
   rw[show ((([x].length:Nat):Int)==1)=true by simp,acC]
   obtain⟨R1,R2,rfl,h1,h2,h3⟩:=P9 hc X R Y x hlen' hR (hokL x (by simp)) hokR (Int.natAbs (X.length:Int)+(Int.natAbs ((X.length+[x].length:Nat):Int)+(Int.natAbs ((X.length+[x].length+R.length:Nat):Int)+(List.length (X++[x]++R++Y)+2)))) (by simp;omega)
   simp only[abe,abg,aci] at h3 ⊢
   rw[h3,bg]
   dsimp only
   have hmv:=YB (ar:=ar) (X.length+1+R1.length) (Int.natAbs ((X.length+1+R1.length:Nat):Int)+(Int.natAbs (X.length:Int)+(List.length (X++[x]++(R1++R2)++Y)+2))) X R1 (R2++Y) x (by simp;omega) rfl (by simp at hlen ⊢;omega)
   rw[show X++x::R1++(R2++Y)=X++[x]++(R1++R2)++Y by simp] at hmv
   rw[hmv,bg]
   refine⟨R1++x::R2,by simp, ?_, ?_⟩
   ·exact hR.left.append (abC.2 ⟨h2,hR.right⟩) (fun y hy z hz=>by
     rcases abp.1 hz with rfl | hz
     ·have:=h1 y hy;omega
     ·exact hR.LM y hy z hz)
   ·have:=(cw.swap (k:=k) (u:=[x]) (v:=R1) (fun y hy z hz=>by rw[abz.1 hy];have:=h1 z hz;omega)).append (cw.refl k R2)
    simpa using this
  ·rw[show (((L.length:Nat):Int)==1)=false by simp;omega,acB]
   by_cases hR1:R.length=1
   ·obtain⟨y,rfl⟩:∃ x,R=[x]:=List.length_eq_one_iff.1 hR1
    rw[show ((([y].length:Nat):Int)==1)=true by simp,acC]
    obtain⟨L1,L2,rfl,h1,h2,h3⟩:=OQ hc X L Y y hlen' hL (hokR y (by simp)) hokL (Int.natAbs ((X.length+L.length:Nat):Int)+(Int.natAbs (X.length:Int)+(Int.natAbs ((X.length+L.length:Nat):Int)+(List.length (X++L++[y]++Y)+2)))) (by omega)
    rw[h3,bg]
    dsimp only
    have hmv:=Wx (ar:=ar) (X++L1) (Int.natAbs ((X.length+L1.length:Nat):Int)+(Int.natAbs ((X.length+(L1++L2).length:Nat):Int)+(List.length (X++(L1++L2)++[y]++Y)+2))) L2 Y y (by simp;omega) (by simp at hlen ⊢;omega)
    rw[show X++L1++L2++y::Y=X++(L1++L2)++[y]++Y by simp,show (((X++L1).length:Nat):Int)=((X.length+L1.length:Nat):Int) by simp,show (((X++L1).length+L2.length:Nat):Int)=((X.length+(L1++L2).length:Nat):Int) by simp;omega] at hmv
    rw[hmv,bg]
    refine⟨L1++y::L2,by simp, ?_, ?_⟩
    ·exact hL.left.append (abC.2 ⟨fun z hz=>by have:=h2 z hz;omega,hL.right⟩) (fun z hz w hw=>by
      rcases abp.1 hw with rfl | hw
      ·exact h1 z hz
      ·exact hL.LM z hz w hw)
    ·have:=(cw.refl k L1).append (cw.swap (k:=k) (u:=L2) (v:=[y]) (fun z hz w hw=>by rw[abz.1 hw];have:=h2 z hz;omega))
     simpa using this
   ·rw[show (((R.length:Nat):Int)==1)=false by simp;omega,acB]
    have eh:=LV X.length (X.length+L.length+R.length) (by omega)
    rw[eh]
    generalize hmid:(X.length+(X.length+L.length+R.length)) / 2=mid
    have e3:w64 ((mid:Int)+((X.length+L.length:Nat):Int))=((mid+(X.length+L.length):Nat):Int):=by rw[au (by omega) (by omega)];omega
    rw[e3]
    obtain⟨lo,hi,hcase,hv⟩:∃ lo hi:Nat,((mid<X.length+L.length∧lo+R.length=mid∧hi=mid∧X.length≤lo)∨(X.length+L.length≤mid∧lo=X.length∧hi=X.length+L.length))∧
     (bif decide (((X.length+L.length:Nat):Int)>(mid:Int)) then
       (some (Sum.inr ((X.length:Int),((X.length+L.length:Nat):Int),((X.length+L.length+R.length:Nat):Int),(),(mid:Int),((mid+(X.length+L.length):Nat):Int),w64 (((mid+(X.length+L.length):Nat):Int) - ((X.length+L.length+R.length:Nat):Int)),(mid:Int),X++L++R++Y,ar,())):Option (((List (Option Nat))×Unit) ⊕ (Int×Int×Int×Unit×Int×Int×Int×Int×(List (Option Nat))×(List aq)×Unit)))
     else some (Sum.inr ((X.length:Int),((X.length+L.length:Nat):Int),((X.length+L.length+R.length:Nat):Int),(),(mid:Int),((mid+(X.length+L.length):Nat):Int),(X.length:Int),((X.length+L.length:Nat):Int),X++L++R++Y,ar,())))=some (Sum.inr ((X.length:Int),((X.length+L.length:Nat):Int),((X.length+L.length+R.length:Nat):Int),(),(mid:Int),((mid+(X.length+L.length):Nat):Int),(lo:Int),(hi:Int),X++L++R++Y,ar,())):=by
     by_cases hm:mid<X.length+L.length
     ·refine⟨mid - R.length,mid,.inl ⟨hm,by omega,rfl,by omega⟩, ?_⟩
      rw[aC (by omega),au (by omega) (by omega),show ((mid+(X.length+L.length):Nat):Int) - ((X.length+L.length+R.length:Nat):Int)=((mid - R.length:Nat):Int) by omega]
     ·refine⟨X.length,X.length+L.length,.inr ⟨by omega,rfl,rfl⟩, ?_⟩
      rw[aB (by omega)]
    rw[hv,bg]
    dsimp only
    have e4:w64 (((mid+(X.length+L.length):Nat):Int) - 1)=((mid+(X.length+L.length):Nat):Int) - 1:=au (by omega) (by omega)
    rw[e4]
    obtain⟨s,h1,h2,h3,hF2,hF1⟩:=SJ hc X L R Y hlen' hL hR hokL hokR mid lo hi hmid.symm hcase (Int.natAbs (X.length:Int)+(Int.natAbs ((X.length+L.length:Nat):Int)+(Int.natAbs ((X.length+L.length+R.length:Nat):Int)+(Int.natAbs (mid:Int)+(Int.natAbs ((mid+(X.length+L.length):Nat):Int)+(Int.natAbs (lo:Int)+(Int.natAbs (hi:Int)+(Int.natAbs (((mid+(X.length+L.length):Nat):Int) - 1)+(List.length (X++L++R++Y)+2))))))))) (by omega)
    rw[h1,bg]
    dsimp only
    clear h1 hv
    obtain⟨L1,L2,rfl,hL1l⟩:=rV (l:=L) (n:=s - X.length) (by omega)
    obtain⟨R1,R2,rfl,hR1l⟩:=rV (l:=R) (n:=mid - s) (by simp only[abd] at *;omega)
    simp only[abd] at hn hlen hL1 hR1 hmid hcase e1 e2 e3 e4 eh hL0 hR0
    have F1:∀ y∈R1,∀ z∈L2,k y<k z:=by
     intro y hy z hz
     have hr0:0<R1.length:=abh hy
     have hl0:0<L2.length:=abh hz
     have:=hF1 L1.length (R1.length - 1) (by simp;omega) (by simp;omega) (by omega) (by omega)
     rw[List.getElem_append_left (show R1.length - 1<R1.length by omega),List.getElem_append_right (by omega)] at this
     obtain⟨i,hi',rfl⟩:=abt.1 hy
     obtain⟨j,hj',rfl⟩:=abt.1 hz
     have a1:=hR.left.get (i:=i) (j:=R1.length - 1) (by omega) (by omega)
     have a2:=hL.right.get (i:=L1.length - L1.length) (j:=j) (by omega) hj'
     omega
    have F2:∀ y∈L1,∀ z∈R2,k y≤k z:=by
     intro y hy z hz
     have hr0:0<L1.length:=abh hy
     have hl0:0<R2.length:=abh hz
     have:=hF2 (L1.length - 1) R1.length (by simp;omega) (by simp;omega) (by omega) (by omega)
     rw[List.getElem_append_left (show L1.length - 1<L1.length by omega),List.getElem_append_right (by omega)] at this
     obtain⟨i,hi',rfl⟩:=abt.1 hy
     obtain⟨j,hj',rfl⟩:=abt.1 hz
     have a1:=hL.left.get (i:=i) (j:=L1.length - 1) (by omega) (by omega)
     have a2:=hR.right.get (i:=R1.length - R1.length) (j:=j) (by omega) hj'
     omega
    have e5:w64 (((mid+(X.length+(L1++L2).length):Nat):Int) - (s:Int))=((X.length+(L1++L2).length+R1.length:Nat):Int):=by
     rw[au (by simp;omega) (by simp;omega)];simp only[abd];omega
    rw[e5]
    have hokL1:∀ z∈L1,ok z:=fun z hz=>hokL z (by simp[hz])
    have hokL2:∀ z∈L2,ok z:=fun z hz=>hokL z (by simp[hz])
    have hokR1:∀ z∈R1,ok z:=fun z hz=>hokR z (by simp[hz])
    have hokR2:∀ z∈R2,ok z:=fun z hz=>hokR z (by simp[hz])
    have ph1:∃ S1,(X.length<s→s<mid→self (X++L1++R1++(L2++R2++Y),(X.length:Int),(s:Int),(mid:Int),(),ar,())=some (X++S1++(L2++R2++Y),()))∧(¬(X.length<s∧s<mid)→S1=L1++R1)∧Srt k S1∧cw k (L1++R1) S1:=by
     by_cases hb:X.length<s∧s<mid
     ·obtain⟨S1,g1,g2,g3⟩:=ih X L1 R1 (L2++R2++Y) (by omega) (by omega) (by omega) (by simp;omega) hL.left hR.left hokL1 hokR1
      rw[show ((X.length+L1.length:Nat):Int)=(s:Int) by omega,show ((X.length+L1.length+R1.length:Nat):Int)=(mid:Int) by omega] at g1
      exact⟨S1,fun _ _=>g1,fun h=>absurd hb h,g2,g3⟩
     ·refine⟨L1++R1,fun h1 h2=>absurd ⟨h1,h2⟩ hb,fun _=>rfl, ?_,cw.refl _ _⟩
      rcases (show L1.length=0∨R1.length=0 by omega) with h | h
      ·rw[aaO h];exact hR.left
      ·rw[aaO h,aaE];exact hL.left
    obtain⟨S1,hS1a,hS1b,hS1s,hS1e⟩:=ph1
    have hS1l:S1.length=L1.length+R1.length:=by rw[hS1e.length];simp
    have ph2:∃ S2,(bif decide ((mid:Int)<((X.length+(L1++L2).length+R1.length:Nat):Int)) then
     bif decide (((X.length+(L1++L2).length+R1.length:Nat):Int)<((X.length+(L1++L2).length+(R1++R2).length:Nat):Int)) then
      Option.bind (self (X++S1++(L2++R2++Y),(mid:Int),((X.length+(L1++L2).length+R1.length:Nat):Int),((X.length+(L1++L2).length+(R1++R2).length:Nat):Int),(),ar,())) fun r38=>some (r38.1,())
     else some (X++S1++(L2++R2++Y),())
     else some (X++S1++(L2++R2++Y),()))=some (X++(S1++S2)++Y,())∧Srt k S2∧cw k (L2++R2) S2:=by
     simp only[abd]
     by_cases hb1:0<L2.length
     ·rw[aC (by omega)]
      by_cases hb2:0<R2.length
      ·rw[aC (by omega)]
       obtain⟨S2,g1,g2,g3⟩:=ih (X++S1) L2 R2 Y (by omega) hb1 hb2 (by simp;omega) hL.right hR.right hokL2 hokR2
       rw[show (((X++S1).length:Nat):Int)=(mid:Int) by simp;omega,show (((X++S1).length+L2.length:Nat):Int)=((X.length+(L1.length+L2.length)+R1.length:Nat):Int) by simp;omega,show (((X++S1).length+L2.length+R2.length:Nat):Int)=((X.length+(L1.length+L2.length)+(R1.length+R2.length):Nat):Int) by simp;omega] at g1
       rw[show X++S1++(L2++R2++Y)=X++S1++L2++R2++Y by simp,g1]
       exact⟨S2,by simp,g2,g3⟩
      ·have:R2=[]:=aaO (by omega)
       subst this
       rw[aB (by simp)]
       exact⟨L2,by simp,hL.right,by simpa using cw.refl k L2⟩
     ·have:L2=[]:=aaO (by omega)
      subst this
      rw[aB (by simp;omega)]
      exact⟨R2,by simp,hR.right,cw.refl _ _⟩
    obtain⟨S2,hE2,hS2s,hS2e⟩:=ph2
    have fin:Srt k (S1++S2)∧cw k (L1++L2++(R1++R2)) (S1++S2):=by
     constructor
     ·refine hS1s.append hS2s fun y hy z hz=> ?_
      rcases abo.1 (hS1e.mem.1 hy) with h | h<;>rcases abo.1 (hS2e.mem.1 hz) with h' | h'
      ·exact hL.LM y h z h'
      ·exact F2 y h z h'
      ·have:=F1 y h z h';omega
      ·exact hR.LM y h z h'
     ·have h1:cw k (L1++(L2++R1)++R2) (L1++(R1++L2)++R2):=((cw.refl k L1).append (cw.swap fun y hy z hz=>by have:=F1 z hz y hy;omega)).append (cw.refl k R2)
      have h2:=hS1e.append hS2e
      have h3:cw k (L1++L2++(R1++R2)) (L1++R1++(L2++R2)):=by simpa using h1
      exact h3.trans h2
    refine⟨S1++S2, ?_,fin.1,fin.2⟩
    have hsL:((X.length+(L1++L2).length:Nat):Int)=((X.length+L1.length+L2.length:Nat):Int):=by simp;omega
    have tail:∀ (D:List (Option Nat)),D=X++L1++R1++(L2++R2++Y)→
     (bif decide ((X.length:Int)<(s:Int)) then
       aM (β:=((List (Option Nat))×Unit)) (γ:=(Int×Unit×Int×Int×(List (Option Nat))×(List aq)×Unit)) (
        bif decide ((s:Int)<(mid:Int)) then
         Option.bind (self (D,(X.length:Int),(s:Int),(mid:Int),(),ar,())) fun r35=>
         some (Sum.inr (((X.length+(L1++L2).length+(R1++R2).length:Nat):Int),(),(mid:Int),((X.length+(L1++L2).length+R1.length:Nat):Int),r35.1,ar,()))
        else
         some (Sum.inr (((X.length+(L1++L2).length+(R1++R2).length:Nat):Int),(),(mid:Int),((X.length+(L1++L2).length+R1.length:Nat):Int),D,ar,()))) fun v36=>
       bif decide (v36.2.2.1<v36.2.2.2.1) then
        bif decide (v36.2.2.2.1<v36.1) then
         Option.bind (self (v36.2.2.2.2.1,v36.2.2.1,v36.2.2.2.1,v36.1,v36.2.1,v36.2.2.2.2.2.1,())) fun r37=>
         some (r37.1,())
        else
         some (v36.2.2.2.2.1,())
       else
        some (v36.2.2.2.2.1,())
     else
      bif decide ((mid:Int)<((X.length+(L1++L2).length+R1.length:Nat):Int)) then
       bif decide (((X.length+(L1++L2).length+R1.length:Nat):Int)<((X.length+(L1++L2).length+(R1++R2).length:Nat):Int)) then
        Option.bind (self (D,(mid:Int),((X.length+(L1++L2).length+R1.length:Nat):Int),((X.length+(L1++L2).length+(R1++R2).length:Nat):Int),(),ar,())) fun r38=>
        some (r38.1,())
       else
        some (D,())
      else
       some (D,()))=some (X++(S1++S2)++Y,()):=by
     intro D hD
     by_cases hb1:X.length<s
     ·rw[aC (by omega)]
      by_cases hb2:s<mid
      ·rw[aC (by omega),hD,hS1a hb1 hb2,acn,bg]
       exact hE2
      ·rw[aB (by omega),bg,hD]
       have:X++L1++R1++(L2++R2++Y)=X++S1++(L2++R2++Y):=by rw[hS1b (fun h=>hb2 h.2)];simp
       rw[this]
       exact hE2
     ·rw[aB (by omega),hD]
      have:X++L1++R1++(L2++R2++Y)=X++S1++(L2++R2++Y):=by rw[hS1b (fun h=>hb1 h.1)];simp
      rw[this]
      exact hE2
    by_cases hsm:s<X.length+(L1++L2).length
    ·rw[aC (by omega)]
     by_cases hme:0<R1.length
     ·have hrot:=WW (ar:=ar) (X++L1) L2 R1 (R2++Y) (by simp at hsm;omega) hme (by simp;omega)
      rw[show (((X++L1).length:Nat):Int)=(s:Int) by simp;omega,show (((X++L1).length+L2.length:Nat):Int)=((X.length+(L1++L2).length:Nat):Int) by simp;omega,show (((X++L1).length+L2.length+R1.length:Nat):Int)=((X.length+(L1++L2).length+R1.length:Nat):Int) by simp;omega,
       show X++L1++L2++R1++(R2++Y)=X++(L1++L2)++(R1++R2)++Y by simp] at hrot
      rw[aC (by omega),hrot,acn,bg]
      exact tail _ (by simp)
     ·have:R1=[]:=aaO (by omega)
      subst this
      rw[aB (by simp),bg]
      exact tail _ (by simp)
    ·rw[aB (by omega)]
     have:L2=[]:=aaO (by simp at hsm;omega)
     subst this
     exact tail _ (by simp)
end
end Go.Md
namespace Go.Md
open Go.Dn
def ChS {α:Type} (k:α→Int) (bs:Nat) (l:List α):Prop:=∀ j:Nat,Srt k ((l.drop (j*bs)).take bs)
theorem ChS.nil {α:Type} (k:α→Int) (bs:Nat):ChS k bs []:=fun _=>by simp[Srt]
theorem ChS.snoc {α:Type} {k:α→Int} {bs:Nat} {A S:List α} {j:Nat} (h:ChS k bs A) (hA:A.length=j*bs) (hS:Srt k S) (hl:S.length≤bs):ChS k bs (A++S):=by
 intro i
 rcases ab5 i j with hij | hij | hij
 ·have h1:(i+1)*bs≤j*bs:=ab9 _ hij
  rw[abP,ace] at h1
  rw[List.drop_append_of_le_length (by omega),List.take_append_of_le_length (by rw[List.length_drop];omega)]
  exact h i
 ·subst hij
  rw[← hA,aaK,abM hl]
  exact hS
 ·have h1:(j+1)*bs≤i*bs:=ab9 _ hij
  rw[abP,ace] at h1
  rw[aaL (by rw[abd];omega)]
  simp[Srt]
theorem ChS.drop {α:Type} {k:α→Int} {bs:Nat} {l:List α} (h:ChS k bs l) (i:Nat):ChS k bs (l.drop (i*bs)):=by
 intro j
 rw[aaI, ← abP]
 exact h (i+j)
theorem Srt.take {α:Type} {k:α→Int} {l:List α} (h:Srt k l) (n:Nat):Srt k (l.take n):=by
 rw[← abK n l] at h;exact h.left
section
variable {k:Option Nat→Int} {ar:List aq} {ok:Option Nat→Prop}
theorem M6 (hc:yK k ar ok) (X L R Y:List (Option Nat)) (h1:0<L.length) (h2:0<R.length) (hlen:(X++L++R++Y).length<1000000000) (hL:Srt k L) (hR:Srt k R) (hokL:∀ z∈L,ok z) (hokR:∀ z∈R,ok z):
 ∃ S,dS (X++L++R++Y) (X.length:Int) ((X.length+L.length:Nat):Int) ((X.length+L.length+R.length:Nat):Int) () ar=some (X++S++Y,())∧Srt k S∧cw k (L++R) S:=by
 unfold dS
 exact Ti hc _ X L R Y (by unfold ij;simp only[abd];omega) h1 h2 hlen hL hR hokL hokR
theorem Td (hc:yK k ar ok) (N:Nat) (hN:N<100000000):∀ (n:Nat) (A Z:List (Option Nat)) (j:Nat),A.length=j*20→A.length+Z.length=N→Z.length<n→ChS k 20 A→(∀ z∈A,ok z)→(∀ z∈Z,ok z)→
 ∃ A' Z' j',iter (X:=gl) (β:=gf) n ((N:Int),(),20,(A.length:Int),((A.length+20:Nat):Int),A++Z,ar,()) fW=some (Sum.inr ((N:Int),(),20,(A'.length:Int),A'++Z',ar,()))∧A'.length=j'*20∧Z'.length<20∧ChS k 20 A'∧cw k (A++Z) (A'++Z'):=by
 intro n
 induction n with
 | zero=>intro A Z j _ _ h;omega
 | succ n ih=>
  intro A Z j hA hAZ hn hch hokA hokZ
  rw[bQ]
  generalize hag:(fun y=>iter n y fW)=again
  unfold fW
  dsimp only
  by_cases hb:20≤Z.length
  ·rw[aC (by omega)]
   obtain⟨S,Y,rfl,hS⟩:=rV (l:=Z) (n:=20) hb
   simp only[abd] at hAZ hn
   obtain⟨S',g1,g2,g3⟩:=KT hc A S Y (by simp;omega) (fun z hz=>hokZ z (by simp[hz]))
   rw[hS] at g1
   rw[show A++(S++Y)=A++S++Y by simp,g1,acn]
   dsimp only
   have hS':S'.length=20:=by rw[g3.length,hS]
   have e1:w64 (((A.length+20:Nat):Int)+20)=(((A++S').length+20:Nat):Int):=by rw[au (by omega) (by omega)];simp;omega
   rw[e1,show ((A.length+20:Nat):Int)=(((A++S').length:Nat):Int) by simp;omega, ← hag]
   obtain⟨A',Z',j',h1,h2,h3,h4,h5⟩:=ih (A++S') Y (j+1) (by simp;omega) (by simp;omega) (by omega) (hch.snoc hA g2 (by omega)) (fun z hz=>by
    rcases abo.1 hz with h | h
    ·exact hokA z h
    ·exact hokZ z (by simp[g3.mem.1 h])) (fun z hz=>hokZ z (by simp[hz]))
   refine⟨A',Z',j',h1,h2,h3,h4, ?_⟩
   have:cw k (A++S++Y) (A++S'++Y):=((cw.refl k A).append g3).append (cw.refl k Y)
   exact this.trans h5
  ·rw[aB (by omega)]
   exact⟨A,Z,j,rfl,hA,by omega,hch,cw.refl _ _⟩
theorem TX (hc:yK k ar ok) (N bs:Nat) (hN:N<100000000) (hbs:0<bs) (hbN:bs<N):∀ (n:Nat) (A Z:List (Option Nat)) (j:Nat),A.length=j*(2*bs)→A.length+Z.length=N→Z.length<n→ChS k (2*bs) A→ChS k bs Z→(∀ z∈A,ok z)→(∀ z∈Z,ok z)→
 ∃ A' Z' j',iter (X:=gp) (β:=gj) n ((N:Int),(),(bs:Int),(A.length:Int),((A.length+2*bs:Nat):Int),A++Z,ar,()) gd=some (Sum.inr ((N:Int),(),(bs:Int),(A'.length:Int),A'++Z',ar,()))∧A'.length=j'*(2*bs)∧Z'.length<2*bs∧ChS k (2*bs) A'∧ChS k bs Z'∧cw k (A++Z) (A'++Z'):=by
 intro n
 induction n with
 | zero=>intro A Z j _ _ h;omega
 | succ n ih=>
  intro A Z j hA hAZ hn hch hcz hokA hokZ
  rw[bQ]
  generalize hag:(fun y=>iter n y gd)=again
  unfold gd
  dsimp only
  by_cases hb:2*bs≤Z.length
  ·rw[aC (by omega)]
   obtain⟨L,Z1,rfl,hL⟩:=rV (l:=Z) (n:=bs) (by omega)
   obtain⟨R,Y,rfl,hR⟩:=rV (l:=Z1) (n:=bs) (by simp at hb;omega)
   simp only[abd] at hAZ hn hb
   have sL:Srt k L:=by
    have:=hcz 0
    rw[acm,aaM, ← hL,abL] at this
    exact this
   have sR:Srt k R:=by
    have:=hcz 1
    rw[ace] at this
    conv at this=>arg 2;rw[show bs=L.length by omega,aaK,show L.length=R.length by omega,abL]
    exact this
   have cY:ChS k bs Y:=by
    have:=hcz.drop 2
    rw[show L++(R++Y)=(L++R)++Y by simp,show 2*bs=(L++R).length by simp;omega,aaK] at this
    exact this
   obtain⟨S,g1,g2,g3⟩:=M6 hc A L R Y (by omega) (by omega) (by simp;omega) sL sR (fun z hz=>hokZ z (by simp[hz])) (fun z hz=>hokZ z (by simp[hz]))
   have e0:w64 ((A.length:Int)+(bs:Int))=((A.length+L.length:Nat):Int):=by rw[au (by omega) (by omega)];omega
   rw[e0,show ((A.length+2*bs:Nat):Int)=((A.length+L.length+R.length:Nat):Int) by omega,show A++(L++(R++Y))=A++L++R++Y by simp,g1,acn]
   dsimp only
   have hSl:S.length=2*bs:=by rw[g3.length];simp;omega
   have e1:w64 (((A.length+L.length+R.length:Nat):Int)+w64 (2*(bs:Int)))=(((A++S).length+2*bs:Nat):Int):=by
    rw[au (n:=2*(bs:Int)) (by omega) (by omega),au (by omega) (by omega)];simp;omega
   rw[e1,show ((A.length+L.length+R.length:Nat):Int)=(((A++S).length:Nat):Int) by simp;omega, ← hag]
   obtain⟨A',Z',j',h1,h2,h3,h4,h5,h6⟩:=ih (A++S) Y (j+1) (by rw[abd,hA,hSl,abP,ace]) (by simp;omega) (by omega) (hch.snoc hA g2 (by omega)) cY (fun z hz=>by
    rcases abo.1 hz with h | h
    ·exact hokA z h
    ·rcases abo.1 (g3.mem.1 h) with h | h<;>exact hokZ z (by simp[h])) (fun z hz=>hokZ z (by simp[hz]))
   refine⟨A',Z',j',h1,h2,h3,h4,h5, ?_⟩
   have:cw k (A++(L++R)++Y) (A++S++Y):=((cw.refl k A).append g3).append (cw.refl k Y)
   have h7:=this.trans h6
   simpa using h7
  ·rw[aB (by omega)]
   exact⟨A,Z,j,rfl,hA,by omega,hch,hcz,cw.refl _ _⟩
theorem TW (hc:yK k ar ok) (N:Nat) (hN:N<100000000):∀ (n bs:Nat) (l:List (Option Nat)),l.length=N→0<bs→N<bs+n∧0<n→bs<400000000→ChS k bs l→(∀ z∈l,ok z)→
 ∃ l',iter (X:=gm) (β:=gh) n ((N:Int),(),(bs:Int),l,ar,()) fZ=some (Sum.inr (l',ar,()))∧Srt k l'∧cw k l l':=by
 intro n
 induction n with
 | zero=>
  intro bs l hl hbs hn hb2 hch hok
  exact absurd hn (by omega)
 | succ n ih=>
  intro bs l hl hbs hn hb2 hch hok
  rw[bQ]
  generalize hag:(fun y=>iter n y fZ)=again
  unfold fZ
  dsimp only
  by_cases hb:bs<N
  ·rw[aC (by omega)]
   have e0:w64 (2*(bs:Int))=(((([]:List (Option Nat)).length)+2*bs:Nat):Int):=by rw[au (by omega) (by omega)];simp
   rw[e0,show (0:Int)=((([]:List (Option Nat)).length:Nat):Int) from rfl]
   obtain⟨A,Z,j,h1,h2,h3,h4,h5,h6⟩:=TX hc N bs hN hbs hb (Int.natAbs (N:Int)+(Int.natAbs (bs:Int)+(Int.natAbs ((([]:List (Option Nat)).length:Nat):Int)+(Int.natAbs (((([]:List (Option Nat)).length)+2*bs:Nat):Int)+(List.length l+2))))) [] l 0 (by simp) (by simpa using hl) (by omega) (ChS.nil _ _) hch (by simp) hok
   rw[abA] at h1 h6
   rw[h1,bg]
   dsimp only
   have hAZ:A.length+Z.length=N:=by have:=h6.length;simp at this;omega
   have hokAZ:∀ z∈A++Z,ok z:=fun z hz=>hok z (h6.mem.1 hz)
   have e1:w64 ((A.length:Int)+(bs:Int))=((A.length+bs:Nat):Int):=by rw[au (by omega) (by omega)];omega
   have e2:w64 ((bs:Int)*2)=((2*bs:Nat):Int):=by rw[au (by omega) (by omega)];omega
   rw[e1,e2]
   by_cases hlast:A.length+bs<N
   ·rw[aC (by omega)]
    obtain⟨L,R,rfl,hL⟩:=rV (l:=Z) (n:=bs) (by omega)
    simp only[abd] at hAZ h3
    have sL:Srt k L:=by
     have:=h5 0
     rw[acm,aaM, ← hL,abL] at this
     exact this
    have sR:Srt k R:=by
     have:=h5 1
     rw[ace] at this
     conv at this=>arg 2;rw[show List.drop bs (L++R)=R by rw[← hL];exact aaK,abM (by omega)]
     exact this
    obtain⟨S,g1,g2,g3⟩:=M6 hc A L R [] (by omega) (by omega) (by simp;omega) sL sR (fun z hz=>hokAZ z (by simp[hz])) (fun z hz=>hokAZ z (by simp[hz]))
    simp only[aaE] at g1
    rw[show ((A.length+bs:Nat):Int)=((A.length+L.length:Nat):Int) by omega,show ((N:Nat):Int)=((A.length+L.length+R.length:Nat):Int) by omega,show A++(L++R)=A++L++R by simp,g1,acn, ← hag]
    have hsam:cw k l (A++S):=h6.trans (by simpa using (cw.refl k A).append g3)
    obtain⟨l',q1,q2,q3⟩:=ih (2*bs) (A++S) (by rw[hsam.length];exact hl) (by omega) ⟨by omega,by omega⟩ (by omega) (h4.snoc h2 g2 (by rw[g3.length];simp;omega)) (fun z hz=>hok z (hsam.mem.1 hz))
    rw[show ((A.length+L.length+R.length:Nat):Int)=((N:Nat):Int) by omega]
    exact⟨l',q1,q2,hsam.trans q3⟩
   ·rw[aB (by omega), ← hag]
    have sZ:Srt k Z:=by
     have:=h5 0
     rw[acm,aaM,abM (by omega)] at this
     exact this
    obtain⟨l',q1,q2,q3⟩:=ih (2*bs) (A++Z) (by simp;omega) (by omega) ⟨by omega,by omega⟩ (by omega) (h4.snoc h2 sZ (by omega)) hokAZ
    exact⟨l',q1,q2,h6.trans q3⟩
  ·rw[aB (by omega)]
   refine⟨l,rfl, ?_,cw.refl _ _⟩
   have:=hch 0
   rw[acm,aaM,abM (by omega)] at this
   exact this
theorem RH (hc:yK k ar ok) (l:List (Option Nat)) (hl:l.length<100000000) (hok:∀ z∈l,ok z):∃ l',gK l () ar=some (l',())∧Srt k l'∧cw k l l':=by
 unfold gK lB
 obtain⟨A,Z,j,h1,h2,h3,h4,h5⟩:=Td hc l.length hl (Int.natAbs (l.length:Int)+(Int.natAbs (20:Int)+(Int.natAbs (0:Int)+(Int.natAbs (20:Int)+(List.length l+2))))) [] l 0 (by simp) (by simp) (by omega) (ChS.nil _ _) (by simp) hok
 simp only[abg,abA] at h1 h5
 rw[show ((0+20:Nat):Int)=20 from rfl,show ((0:Nat):Int)=0 from rfl] at h1
 rw[h1,bg]
 dsimp only
 have hAZ:A.length+Z.length=l.length:=by have:=h5.length;simp at this;omega
 obtain⟨Z',g1,g2,g3⟩:=KT hc A Z [] (by simp;omega) (fun z hz=>hok z (h5.mem.1 (by simp[hz])))
 simp only[aaE] at g1
 rw[show ((A.length+Z.length:Nat):Int)=(l.length:Int) by omega] at g1
 rw[g1,acn]
 dsimp only
 have hsam:cw k l (A++Z'):=h5.trans ((cw.refl k A).append g3)
 obtain⟨l',q1,q2,q3⟩:=TW hc l.length hl (Int.natAbs (l.length:Int)+(Int.natAbs (20:Int)+(List.length (A++Z')+2))) 20 (A++Z') hsam.length (by omega) ⟨by omega,by omega⟩ (by omega) (h4.snoc h2 g2 (by rw[g3.length];omega)) (fun z hz=>hok z (hsam.mem.1 hz))
 rw[show ((20:Nat):Int)=20 from rfl] at q1
 rw[q1,bg]
 exact⟨l',rfl,q2,hsam.trans q3⟩
end
end Go.Md
namespace Go.Md
open Go.Dn
def eo {α:Type} (g:Nat→α→Int):Nat→List α→Int
 | _,[]=>0
 | i,y::r=>if g i y=0 then eo g (i+1) r else g i y
theorem A6 {α:Type} {g:Nat→α→Int}:∀ {l:List α} {i:Nat},eo g i l=0→∀ j y,l[j]? =some y→g (i+j) y=0
 | [],_,_,_,_,h=>by simp at h
 | y::r,i,h,j,z,hz=>by
  simp only[eo] at h
  by_cases hg:g i y=0
  ·rw[acN hg] at h
   cases j with
   | zero=>simp at hz;subst hz;exact hg
   | succ j=>have:=A6 h j z (by simpa using hz);rw[show i+(j+1)=i+1+j by omega];exact this
  ·rw[acM hg] at h;exact absurd h hg
theorem Gl {X α:Type} {γ:Type} {f:X→(X→Option ((Int×Unit) ⊕ γ))→Option ((Int×Unit) ⊕ γ)} (mk:Nat→X) (l:List α) (g:Nat→α→Int) (u:γ)
 (hstep:∀ i y again,l[i]? =some y→f (mk i) again=if g i y=0 then again (mk (i+1)) else some (Sum.inl (g i y,()))) (hend:∀ again,f (mk l.length) again=some (Sum.inr u)):
 ∀ (r:List α) (i n:Nat),l.drop i=r→i≤l.length→r.length<n→iter n (mk i) f=if eo g i r=0 then some (Sum.inr u) else some (Sum.inl (eo g i r,()))
 | _,_,0,_,_,hn=>absurd hn (acd _)
 | [],i,n+1,hd,hi,_=>by
  have:i=l.length:=by
   have:=congrArg List.length hd
   simp at this;omega
  subst this
  rw[bQ,hend];rfl
 | y::r,i,n+1,hd,hi,hn=>by
  have hy:l[i]? =some y:=by
   have:=congrArg (·[0]?) hd
   simpa [aaZ] using this
  have hr:l.drop (i+1)=r:=by
   have:=congrArg List.tail hd
   simpa [abI] using this
  have hi':i<l.length:=(aa2.1 hy).1
  rw[bQ,hstep i y _ hy]
  by_cases hg:g i y=0
  ·have e:eo g i (y::r)=eo g (i+1) r:=by simp[eo,hg]
   rw[acN hg,e]
   exact Gl mk l g u hstep hend r (i+1) n hr hi' (by simp at hn;omega)
  ·have e:eo g i (y::r)=g i y:=by simp[eo,hg]
   rw[acM hg,e,acM hg]
theorem cT (a b c:Int):bB a b c=some (decide (a<b∨c<a),()):=by
 unfold bB
 by_cases h:a<b
 ·rw[aC h];simp[h]
 ·rw[aB h];simp[h]
theorem nC (n:Int):mg n=some (decide (1≤n∧n≤3652059),()):=by
 unfold mg
 rw[cT,acn]
 congr 2
 simp only[← decide_not]
 congr 1
 simp only[eq_iff_iff];omega
def cz (s:Bys):Bool:=((cO s).map (·.1)).getD false
theorem mh (s:Bys):cO s=some (cz s,()):=by
 have:∃ b,cO s=some (b,()):=by
  unfold cO
  by_cases h1:(s.length:Int)<1
  ·rw[aC h1];exact⟨_,rfl⟩
  ·rw[aB h1]
   by_cases h2:(s.length:Int)>40
   ·rw[aC h2];exact⟨_,rfl⟩
   ·rw[aB h2]
    have hs:Qq s 0=some (s[0]'(by omega)):=by simp[Qq]
    rw[hs]
    simp only[acn]
    have ht:tu s [97,98,99,100,101,102,103,104,105,106,107,108,109,110,111,112,113,114,115,116,117,118,119,120,121,122,48,49,50,51,52,53,54,55,56,57,45]=some (Lib.trimS s [97,98,99,100,101,102,103,104,105,106,107,108,109,110,111,112,113,114,115,116,117,118,119,120,121,122,48,49,50,51,52,53,54,55,56,57,45],()):=by
     unfold tu
     rw[show (decide (s.length≤9223372036854775807))=true by simp;omega]
     rfl
    rw[ht]
    simp only[acn]
    generalize (decide ((((s[0]'(by omega)).toNat:Int))<97))=b1
    generalize (decide ((((s[0]'(by omega)).toNat:Int))>122))=b2
    cases b1<;>cases b2<;>exact⟨_,rfl⟩
 obtain⟨b,hb⟩:=this
 unfold cz
 rw[hb];rfl
theorem yc (d:ah):bY d=some (if -1000000000000000≤d.1∧d.1≤1000000000000000∧0≤d.2∧d.2≤9 then 0 else 1,()):=by
 unfold bY
 rw[cT,acn,cT]
 simp only[acn]
 by_cases h1:d.1< -1000000000000000∨1000000000000000<d.1
 ·rw[aC h1,acM (by omega)]
 ·rw[aB h1]
  by_cases h2:d.2<0∨9<d.2
  ·rw[aC h2,acM (by omega)]
  ·rw[aB h2,acN (by omega)]
theorem XE {n:Nat} (h:n≤18):(10:Int) ^ n≤1000000000000000000:=by
 have:=acg (n:=10) (by omega) h
 have h2:=aat.2 this
 simpa using h2
theorem tM (n:Nat):(0:Int)<10 ^ n:=S5 (by omega) n
theorem yS (n:Int) (h0:0≤n) (h1:n≤18):xh n=some (10 ^ n.toNat,()):=by
 obtain⟨m,rfl⟩:∃ m:Nat,n=m:=⟨n.toNat,by omega⟩
 unfold xh
 have:iter (X:=yU) (β:=yT) (Int.natAbs (1:Int)+(Int.natAbs (m:Int)+(Int.natAbs (0:Int)+2))) (1,(m:Int),0,()) yR=some (Sum.inr (10 ^ m,())):=by
  refine dR (Inv:=fun i x=>x=(10 ^ i,(m:Int),(i:Int),())) m (fun r=>r=some (Sum.inr (10 ^ m,()))) ?_ ?_ _ 0 _ (by simp) (by omega) (by omega)
  ·rintro i _ again hi rfl ih
   unfold yR
   dsimp only
   have h10:=XE (n:=i+1) (by omega)
   have hp:=tM (i+1)
   rw[aau] at h10 hp
   rw[aC (by omega),au (by omega) (by omega),au (by omega) (by omega)]
   exact ih _ (by rw[aau];rfl)
  ·rintro _ again rfl
   unfold yR
   dsimp only
   rw[aB (by omega)]
 rw[this,bg]
 simp
theorem F3 (d:ah) (most:Int) (h0:0≤d.2) (h1:d.2≤9) (hm0:0≤most) (hm1:most≤1000000000):fA d most=some (decide (-(most*10 ^ d.2.toNat)≤d.1∧d.1≤most*10 ^ d.2.toNat),()):=by
 unfold fA
 rw[yS _ h0 (by omega),acn]
 dsimp only
 have hp:=tM d.2.toNat
 have hq:(10:Int) ^ d.2.toNat≤1000000000:=by
  have:=acg (n:=10) (by omega) (show d.2.toNat≤9 by omega)
  have h2:=aat.2 this
  simpa using h2
 have h3:most*10 ^ d.2.toNat≤1000000000*1000000000:=by
  have a1:most*10 ^ d.2.toNat≤1000000000*10 ^ d.2.toNat:=aao hm1 (by omega)
  omega
 have h4:0≤most*10 ^ d.2.toNat:=aap hm0 (by omega)
 rw[au (n:=most*10 ^ d.2.toNat) (by omega) (by omega),au (by omega) (by omega),cT,acn]
 congr 2
 simp only[← decide_not]
 congr 1
 simp only[eq_iff_iff];omega
def lE (d:ah):Prop:=0<d.1∧0≤d.2∧d.2≤4∧d.1≤1000000000*10 ^ d.2.toNat
instance (d:ah):Decidable (lE d):=by unfold lE;exact inferInstance
def Vk (d:ah):Int:=if lE d then 0 else 1
theorem Cw (d:ah):iy d=some (Vk d,()):=by
 unfold iy Vk
 rw[yc,acn]
 dsimp only
 by_cases h: -1000000000000000≤d.1∧d.1≤1000000000000000∧0≤d.2∧d.2≤9
 ·rw[acN h,zne,acB]
  by_cases h1:d.1≤0
  ·rw[aC h1,acM (by unfold lE;omega)]
  ·rw[aB h1]
   by_cases h2:d.2>4
   ·rw[aC h2,acM (by unfold lE;omega)]
   ·rw[aB h2,F3 d 1000000000 (by omega) (by omega) (by omega) (by omega),acn]
    dsimp only
    have hp:=tM d.2.toNat
    by_cases h3: -(1000000000*10 ^ d.2.toNat)≤d.1∧d.1≤1000000000*10 ^ d.2.toNat
    ·rw[acF h3,aad,acB,acN (by unfold lE;omega)]
    ·rw[acE h3,aac,acC,acM (by unfold lE;omega)]
 ·rw[acM h,show ((1:Int) != 0)=true from rfl,acC,acM]
  unfold lE
  intro ⟨g1,g2,g3,g4⟩
  have hq:(10:Int) ^ d.2.toNat≤10000:=by
   have:=acg (n:=10) (by omega) (show d.2.toNat≤4 by omega)
   have h2:=aat.2 this
   simpa using h2
  omega
theorem BW (l:List aR) (y:aR) (hl:l.length<1000000000):jh l y=some (l.any (fun o=>o.1==y.1),()):=by
 unfold jh pq
 have loop:iter (X:=gB) (β:=gA) (List.length l+(Int.natAbs ((List.length l:Int))+(Int.natAbs (0:Int)+2))) (l,y,(List.length l:Int),0,()) gz=some (Sum.inr ())∧l.any (fun o=>o.1==y.1)=false∨
  ∃ i:Nat,iter (X:=gB) (β:=gA) (List.length l+(Int.natAbs ((List.length l:Int))+(Int.natAbs (0:Int)+2))) (l,y,(List.length l:Int),0,()) gz=some (Sum.inl ((i:Int),()))∧l.any (fun o=>o.1==y.1)=true:=by
  refine dR (Inv:=fun i x=>x=(l,y,(List.length l:Int),(i:Int),())∧(l.take i).any (fun o=>o.1==y.1)=false) l.length (fun r=>r=some (Sum.inr ())∧l.any (fun o=>o.1==y.1)=false∨∃ i:Nat,r=some (Sum.inl ((i:Int),()))∧l.any (fun o=>o.1==y.1)=true) ?_ ?_ _ 0 _ ⟨rfl,by simp⟩ (by omega) (by omega)
  ·rintro i _ again hi ⟨rfl,hn⟩ ih
   unfold gz
   dsimp only
   have hy:l[i]? =some l[i]:=bu hi
   rw[aC (by omega),bS,hy,acn]
   unfold xS
   rw[acn]
   dsimp only
   cases hb:(l[i].1==y.1) with
   | true=>
    right
    exact⟨i,rfl,aaC.2 ⟨l[i],abc _,hb⟩⟩
   | false=>
    rw[acB,au (by omega) (by omega)]
    refine ih _ ⟨rfl, ?_⟩
    rw[abJ,hy,List.any_append,hn]
    simp[hb]
  ·rintro _ again ⟨rfl,hn⟩
   unfold gz
   dsimp only
   rw[aB (by omega)]
   rw[abM (abX _)] at hn
   exact .inl ⟨rfl,hn⟩
 rcases loop with ⟨h1,h2⟩ | ⟨i,h1,h2⟩
 ·rw[h1,bg,acn,h2];rfl
 ·rw[h1,pJ,acn,h2];simp
def Ia {α:Type} (day:α→Int) (l:List α) (i:Nat) (d:α):Bool:=match i with
 | 0=>false
 | j+1=>match l[j]? with
  | some q=>decide (day d<day q)
  | none=>false
def DW (l:List aR) (i:Nat) (d:aR):Int:=
 if cz d.1=false then 5 else if (l.take i).any (fun o=>o.1==d.1)=true then 7 else if ¬(1≤d.2.1∧d.2.1≤3652059) then 1
 else if Ia (·.2.1) l i d=true then 8 else if ¬lE d.2.2.1 then 1
 else if d.2.2.2.1<0∨10000<d.2.2.2.1 then 1 else if d.2.2.2.2.1<0∨d.2.2.2.1<d.2.2.2.2.1 then 1 else if d.2.2.2.2.2<0∨1000<d.2.2.2.2.2 then 1 else 0
theorem J9 (l:List aR):vA l=some (if 200<l.length then 2 else eo (DW l) 0 l,()):=by
 unfold vA
 by_cases hl:200<l.length
 ·rw[aC (by omega),acN hl]
 ·rw[aB (by omega),acM hl]
  have loop:=Gl (f:=qM) (fun i=>(l,l,(l.length:Int),(i:Int),())) l (DW l) () (by
   intro i y again hy
   have hi:=(aa2.1 hy).1
   unfold qM
   dsimp only
   rw[aC (by omega),bS,hy,acn,mh,acn]
   dsimp only
   unfold DW
   cases hn:cz y.1 with
   | false=>simp
   | true=>
    rw[aad,acB,acM (show ¬(true=false) by simp),bq (by simp only[Z2,acG];omega),aaM,aay,BW _ _ (by rw[abj];omega),acn]
    dsimp only
    cases ha:(l.take i).any (fun o=>o.1==y.1) with
    | true=>simp
    | false=>
     rw[acB,acM (show ¬(false=true) by simp),nC,acn]
     dsimp only
     by_cases hday:1≤y.2.1∧y.2.1≤3652059
     ·rw[acF hday,aad,acB,acM (acS hday)]
      have rest:(Option.bind (iy y.2.2.1) fun r7=>
       bif r7.1 != 0 then some (Sum.inl (r7.1,())) else
        Option.bind (bB y.2.2.2.1 0 10000) fun r8=>
        bif r8.1 then some (Sum.inl (1,())) else
         Option.bind (bB y.2.2.2.2.1 0 y.2.2.2.1) fun r9=>
         bif r9.1 then some (Sum.inl (1,())) else
          Option.bind (bB y.2.2.2.2.2 0 1000) fun r10=>
          bif r10.1 then some (Sum.inl (1,())) else again (l,l,(l.length:Int),w64 ((i:Int)+1),()))=
       if (if ¬lE y.2.2.1 then (1:Int) else if y.2.2.2.1<0∨10000<y.2.2.2.1 then 1 else if y.2.2.2.2.1<0∨y.2.2.2.1<y.2.2.2.2.1 then 1 else if y.2.2.2.2.2<0∨1000<y.2.2.2.2.2 then 1 else 0)=0 then again (l,l,(l.length:Int),((i+1:Nat):Int),())
       else some (Sum.inl ((if ¬lE y.2.2.1 then (1:Int) else if y.2.2.2.1<0∨10000<y.2.2.2.1 then 1 else if y.2.2.2.2.1<0∨y.2.2.2.1<y.2.2.2.2.1 then 1 else if y.2.2.2.2.2<0∨1000<y.2.2.2.2.2 then 1 else 0),())):=by
       rw[Cw,acn,cT,acn,cT,acn,cT,acn,au (by omega) (by omega)]
       unfold Vk
       dsimp only
       by_cases hm:lE y.2.2.1
       ·rw[acN hm,acM (acS hm),zne,acB]
        by_cases h1:y.2.2.2.1<0∨10000<y.2.2.2.1
        ·rw[aC h1,acN h1];rfl
        ·rw[aB h1,acM h1]
         by_cases h2:y.2.2.2.2.1<0∨y.2.2.2.1<y.2.2.2.2.1
         ·rw[aC h2,acN h2];rfl
         ·rw[aB h2,acM h2]
          by_cases h3:y.2.2.2.2.2<0∨1000<y.2.2.2.2.2
          ·rw[aC h3,acN h3];rfl
          ·rw[aB h3,acM h3];rfl
       ·rw[acM hm,acN hm];rfl
      cases i with
      | zero=>
       rw[aB (by simp),rest]
       rfl
      | succ j=>
       have hj:l[j]? =some l[j]:=bu (by omega)
       have e1:w64 (((j+1:Nat):Int) - 1)=(j:Int):=by rw[au (by omega) (by omega)];omega
       have hp:Ia (·.2.1) l (j+1) y=decide (y.2.1<l[j].2.1):=by simp only[Ia,hj]
       rw[aC (by omega),e1,bS,hj,acn,hp]
       by_cases h4:y.2.1<l[j].2.1
       ·rw[aC h4,acN (acF h4)];rfl
       ·rw[aB h4,acE h4,rest]
        rfl
     ·rw[acE hday,aac,acC,acN hday];rfl)
   (by
     intro again
     unfold qM
     dsimp only
     rw[aB (by omega)])
   l 0 (List.length l+(List.length l+(Int.natAbs ((List.length l:Int))+(Int.natAbs (0:Int)+2)))) rfl (by omega) (by omega)
  rw[show ((0:Nat):Int)=0 from rfl] at loop
  rw[loop]
  by_cases h0:eo (DW l) 0 l=0
  ·rw[acN h0,bg,h0]
  ·rw[acM h0,pJ]
theorem Eh (l:List Bys) (y:Bys) (hl:l.length<1000000000):nq l y=some (l.any (fun o=>o==y),()):=by
 unfold nq vp
 have loop:iter (X:=jS) (β:=jR) (List.length l+(List.length y+(Int.natAbs ((List.length l:Int))+(Int.natAbs (0:Int)+2)))) (l,y,(List.length l:Int),0,()) jQ=some (Sum.inr ())∧l.any (fun o=>o==y)=false∨
  ∃ i:Nat,iter (X:=jS) (β:=jR) (List.length l+(List.length y+(Int.natAbs ((List.length l:Int))+(Int.natAbs (0:Int)+2)))) (l,y,(List.length l:Int),0,()) jQ=some (Sum.inl ((i:Int),()))∧l.any (fun o=>o==y)=true:=by
  refine dR (Inv:=fun i x=>x=(l,y,(List.length l:Int),(i:Int),())∧(l.take i).any (fun o=>o==y)=false) l.length (fun r=>r=some (Sum.inr ())∧l.any (fun o=>o==y)=false∨∃ i:Nat,r=some (Sum.inl ((i:Int),()))∧l.any (fun o=>o==y)=true) ?_ ?_ _ 0 _ ⟨rfl,by simp⟩ (by omega) (by omega)
  ·rintro i _ again hi ⟨rfl,hn⟩ ih
   unfold jQ
   dsimp only
   have hy:l[i]? =some l[i]:=bu hi
   rw[aC (by omega),bS,hy,acn]
   cases hb:(y==l[i]) with
   | true=>
    right
    exact⟨i,rfl,aaC.2 ⟨l[i],abc _,by rw[eq_of_beq hb];simp⟩⟩
   | false=>
    rw[acB,au (by omega) (by omega)]
    refine ih _ ⟨rfl, ?_⟩
    rw[abJ,hy,List.any_append,hn]
    have:(l[i]==y)=false:=by
     cases h:(l[i]==y) with
     | false=>rfl
     | true=>rw[eq_of_beq h] at hb;simp at hb
    simp[this]
  ·rintro _ again ⟨rfl,hn⟩
   unfold jQ
   dsimp only
   rw[aB (by omega)]
   rw[abM (abX _)] at hn
   exact .inl ⟨rfl,hn⟩
 rcases loop with ⟨h1,h2⟩ | ⟨i,h1,h2⟩
 ·rw[h1,bg,acn,h2];rfl
 ·rw[h1,pJ,acn,h2];simp
def q8 (l:List Bys) (i:Nat) (s:Bys):Int:=if cz s=false then 5 else if (l.take i).any (fun o=>o==s)=true then 7 else 0
def NQ (l:List aO) (i:Nat) (p:aO):Int:=
 if ¬(1≤p.1∧p.1≤3652059) then 1 else if Ia (·.1) l i p=true then 8 else if ¬lE p.2.1 then 1 else if 100<p.2.2.length then 2 else eo (q8 p.2.2) 0 p.2.2
theorem WM (g1 g2:List aO) (g3 g4:Int) (l:List Bys) (hl:l.length≤100) (h1 h2 h3:Int) (n:Nat) (hn:l.length<n):
 iter (X:=fL) (β:=fK) n (g1,g2,g3,g4,l,(l.length:Int),0,h1,h2,h3,l,()) dP=if eo (q8 l) 0 l=0 then some (Sum.inr (g1,g2,g3,g4,())) else some (Sum.inl (Sum.inl (eo (q8 l) 0 l,()))):=by
 have key:∀ (r:List Bys) (i n:Nat),l.drop i=r→i≤l.length→r.length<n→iter (X:=fL) (β:=fK) n (g1,g2,g3,g4,l,(l.length:Int),(i:Int),h1,h2,h3,l,()) dP=if eo (q8 l) i r=0 then some (Sum.inr (g1,g2,g3,g4,())) else some (Sum.inl (Sum.inl (eo (q8 l) i r,()))):=by
  intro r
  induction r with
  | nil=>
   intro i n hd hi hn
   obtain⟨n,rfl⟩:∃ m,n=m+1:=⟨n - 1,by simp at hn;omega⟩
   have:i=l.length:=by
    have:=congrArg List.length hd
    simp at this;omega
   subst this
   rw[bQ]
   unfold dP
   dsimp only
   rw[aB (by omega)];rfl
  | cons y r ih=>
   intro i n hd hi hn
   obtain⟨n,rfl⟩:∃ m,n=m+1:=⟨n - 1,by simp at hn;omega⟩
   have hy:l[i]? =some y:=by
    have:=congrArg (·[0]?) hd
    simpa [aaZ] using this
   have hr:l.drop (i+1)=r:=by
    have:=congrArg List.tail hd
    simpa [abI] using this
   have hi':i<l.length:=(aa2.1 hy).1
   rw[bQ]
   generalize hag:(fun y=>iter n y dP)=again
   unfold dP
   dsimp only
   rw[aC (by omega),bS,hy,acn,mh,acn]
   dsimp only
   cases hnm:cz y with
   | false=>
    have e:eo (q8 l) i (y::r)=5:=by simp[eo,q8,hnm]
    rw[e];rfl
   | true=>
    rw[aad,acB,bq (by simp only[Z2,acG];omega),aaM,aay,Eh _ _ (by rw[abj];omega),acn]
    dsimp only
    cases ha:(l.take i).any (fun o=>o==y) with
    | true=>
     have e:eo (q8 l) i (y::r)=7:=by
      have:q8 l i y=7:=by simp only[q8,hnm,ha];rfl
      simp[eo,this]
     rw[e];rfl
    | false=>
     have e:eo (q8 l) i (y::r)=eo (q8 l) (i+1) r:=by
      have:q8 l i y=0:=by simp only[q8,hnm,ha];rfl
      simp[eo,this]
     rw[acB,au (by omega) (by omega), ← hag,e]
     exact ih (i+1) n hr hi' (by simp at hn;omega)
 exact key l 0 n rfl (by omega) hn
theorem Hq (l:List aO):qN l=some (if 500<l.length then 2 else eo (NQ l) 0 l,()):=by
 unfold qN
 by_cases hl:500<l.length
 ·rw[aC (by omega),acN hl]
 ·rw[aB (by omega),acM hl]
  have loop:=Gl (f:=nV) (fun i=>(l,l,(l.length:Int),(i:Int),())) l (NQ l) () (by
   intro i y again hy
   have hi:=(aa2.1 hy).1
   unfold nV
   dsimp only
   rw[aC (by omega),bS,hy,acn,nC,acn]
   dsimp only
   unfold NQ
   by_cases hday:1≤y.1∧y.1≤3652059
   ·rw[acF hday,aad,acB,acM (acS hday)]
    have rest:(Option.bind (iy y.2.1) fun r5=>
     bif r5.1 != 0 then some (Sum.inl (r5.1,())) else
      bif decide (((y.2.2.length:Int))>100) then some (Sum.inl (2,())) else
       aM (β:=((Int×Unit) ⊕ Unit)) (γ:=((List aO)×(List aO)×Int×Int×Unit)) (
        iter (X:=fL) (β:=fK) (List.length l+(List.length l+(Int.natAbs (l.length:Int)+(Int.natAbs (i:Int)+(y.2.2.length+(Int.natAbs ((y.2.2.length:Int))+(Int.natAbs (0:Int)+(y.1.natAbs+(y.2.1.1.natAbs+(y.2.1.2.natAbs+(y.2.2.length+2))))))))))) (l,l,(l.length:Int),(i:Int),y.2.2,(y.2.2.length:Int),0,y.1,y.2.1.1,y.2.1.2,y.2.2,()) (dP)) fun v6=>
       again (v6.1,v6.2.1,v6.2.2.1,w64 (v6.2.2.2.1+1),()))=
     if (if ¬lE y.2.1 then (1:Int) else if 100<y.2.2.length then 2 else eo (q8 y.2.2) 0 y.2.2)=0 then again (l,l,(l.length:Int),((i+1:Nat):Int),())
     else some (Sum.inl ((if ¬lE y.2.1 then (1:Int) else if 100<y.2.2.length then 2 else eo (q8 y.2.2) 0 y.2.2),())):=by
     rw[Cw,acn]
     unfold Vk
     dsimp only
     by_cases hm:lE y.2.1
     ·rw[acN hm,acM (acS hm),zne,acB]
      by_cases h1:100<y.2.2.length
      ·rw[aC (by omega),acN h1];rfl
      ·rw[aB (by omega),acM h1,WM l l _ _ y.2.2 (by omega) _ _ _ _ (by omega)]
       by_cases h0:eo (q8 y.2.2) 0 y.2.2=0
       ·rw[acN h0,acN h0,bg]
        dsimp only
        rw[au (by omega) (by omega)];rfl
       ·rw[acM h0,acM h0,pJ]
     ·rw[acM hm,acN hm];rfl
    cases i with
    | zero=>
     rw[aB (by simp)]
     exact rest
    | succ j=>
     have hj:l[j]? =some l[j]:=bu (by omega)
     have e1:w64 (((j+1:Nat):Int) - 1)=(j:Int):=by rw[au (by omega) (by omega)];omega
     have hp:Ia (·.1) l (j+1) y=decide (y.1<l[j].1):=by simp only[Ia,hj]
     rw[aC (by omega),e1,bS,hj,acn,hp]
     by_cases h4:y.1<l[j].1
     ·rw[aC h4,acN (acF h4)];rfl
     ·rw[aB h4,acE h4]
      exact rest
   ·rw[acE hday,aac,acC,acN hday];rfl)
   (by
     intro again
     unfold nV
     dsimp only
     rw[aB (by omega)])
   l 0 (List.length l+(List.length l+(Int.natAbs ((List.length l:Int))+(Int.natAbs (0:Int)+2)))) rfl (by omega) (by omega)
  rw[show ((0:Nat):Int)=0 from rfl] at loop
  rw[loop]
  by_cases h0:eo (NQ l) 0 l=0
  ·rw[acN h0,bg,h0]
  ·rw[acM h0,pJ]
def kK (l:List aR):Int:=if 200<l.length then 2 else eo (DW l) 0 l
def Ef (l:List aO):Int:=if 500<l.length then 2 else eo (NQ l) 0 l
theorem Mf (d:List aR) (p:List aO):xd d p=some (if kK d≠0 then kK d else Ef p,()):=by
 unfold xd
 rw[J9,acn]
 dsimp only
 change (bif kK d != 0 then some (kK d,()) else _)=_
 by_cases h:kK d=0
 ·rw[show (kK d != 0)=false by simp[h],acB,Hq,acn,acM (acS h)];rfl
 ·rw[show (kK d != 0)=true by simp[h],acC,acN h]
structure He (d:aR):Prop where
 day0:1≤d.2.1
 day1:d.2.1≤3652059
 mon:lE d.2.2.1
 days0:0≤d.2.2.2.1
 days1:d.2.2.2.1≤10000
 with0:0≤d.2.2.2.2.1
 with1:d.2.2.2.2.1≤d.2.2.2.1
 disc0:0≤d.2.2.2.2.2
 disc1:d.2.2.2.2.2≤1000
theorem UU {l:List aR} {i:Nat} {d:aR} (h:DW l i d=0):He d∧(l.take i).any (fun o=>o.1==d.1)=false:=by
 unfold DW at h
 split at h
 ·cases h
 ·split at h
  ·cases h
  ·rename_i hany
   split at h
   ·cases h
   ·rename_i h3
    split at h
    ·cases h
    ·split at h
     ·cases h
     ·rename_i h5
      split at h
      ·cases h
      ·rename_i h6
       split at h
       ·cases h
       ·rename_i h7
        split at h
        ·cases h
        ·rename_i h8
         exact⟨⟨by omega,by omega,aai h5,by omega,by omega,by omega,by omega,by omega,by omega⟩,(aaa _).mp hany⟩
structure Im (p:aO):Prop where
 day0:1≤p.1
 day1:p.1≤3652059
 mon:lE p.2.1
 names:p.2.2.length≤100
theorem WL {l:List aO} {i:Nat} {p:aO} (h:NQ l i p=0):Im p:=by
 unfold NQ at h
 split at h
 ·cases h
 ·rename_i h3
  split at h
  ·cases h
  ·split at h
   ·cases h
   ·rename_i h5
    split at h
    ·cases h
    ·exact⟨by omega,by omega,aai h5,by omega⟩
theorem Tv {l:List aR} (h:kK l=0):l.length≤200∧∀ d∈l,He d:=by
 unfold kK at h
 split at h
 ·cases h
 ·refine⟨by omega,fun d hd=> ?_⟩
  obtain⟨i,hi⟩:=abu.1 hd
  have:=A6 h i d hi
  rw[aci] at this
  exact (UU this).1
theorem Vs {l:List aO} (h:Ef l=0):l.length≤500∧∀ d∈l,Im d:=by
 unfold Ef at h
 split at h
 ·cases h
 ·refine⟨by omega,fun d hd=> ?_⟩
  obtain⟨i,hi⟩:=abu.1 hd
  have:=A6 h i d hi
  rw[aci] at this
  exact WL this
end Go.Md
namespace Go.Md
open Go.Dn
def iM (d:ah):Int:=d.1*10 ^ (4 - d.2).toNat
theorem lE.iM {d:ah} (h:lE d):0<iM d∧iM d≤10000000000000:=by
 obtain⟨h1,h2,h3,h4⟩:=h
 unfold Md.iM
 have hp:=tM (4 - d.2).toNat
 refine⟨Int.mul_pos h1 hp, ?_⟩
 have a1:d.1*10 ^ (4 - d.2).toNat≤1000000000*10 ^ d.2.toNat*10 ^ (4 - d.2).toNat:=aao h4 (by omega)
 rw[aam, ← Int.pow_add,show d.2.toNat+(4 - d.2).toNat=4 by omega] at a1
 omega
theorem Jp {d:ah} (h:lE d):AG d=some (iM d,()):=by
 have hc:=h.iM
 obtain⟨h1,h2,h3,h4⟩:=h
 unfold AG
 rw[au (by omega) (by omega),yS _ (by omega) (by omega),acn]
 unfold Md.iM at hc
 dsimp only
 rw[au (by omega) (by omega)];rfl
abbrev Bd:=aq
def nG (x:Bd):Int:=x.2.1
def pn (x:Bd):Int:=x.2.2.1
def taken (x:Bd):Int:=x.2.2.2.1
def done (x:Bd):Int:=x.2.2.2.2
def yJ (day:Int) (x:Bd):Bool:=decide (x.1.2.1≤day)&&(done x==0)
def yW (x:Bd):Int:=min (x.1.2.2.1.1*x.1.2.2.2.2.2 / 1000*10 ^ (4 - x.1.2.2.1.2).toNat) (nG x)
def x9 (left day:Int) (x:Bd):Int×Bd:=(left - min left (nG x),(x.1,nG x - min left (nG x),pn x+min left (nG x),taken x,if nG x - min left (nG x)=0 then day else done x))
def pU (left day:Int) (x:Bd):Int×Bd:=
 if left<nG x - yW x∨x.1.2.1+x.1.2.2.2.2.1<day then x9 left day x else (left - (nG x - yW x),(x.1,0,pn x+(nG x - yW x),yW x,day))
structure vS (x:Bd):Prop where
 d:He x.1
 owes0:0≤nG x
 paid0:0≤pn x
 taken0:0≤taken x
 sum:nG x+pn x+taken x=iM x.1.2.2.1
 none:done x=0→taken x=0
 done0:done x=0∨x.1.2.1≤done x
 iff:nG x=0↔done x≠0
theorem vS.le {x:Bd} (h:vS x):nG x≤10000000000000∧pn x≤10000000000000∧taken x≤10000000000000:=by
 have:=h.d.mon.iM;have:=h.sum;have:=h.owes0;have:=h.paid0;have:=h.taken0;omega
theorem D2 {x:Bd} (h:vS x):0≤yW x∧yW x≤nG x∧0≤x.1.2.2.1.1*x.1.2.2.2.2.2∧x.1.2.2.1.1*x.1.2.2.2.2.2≤10000000000000000∧0≤x.1.2.2.1.1*x.1.2.2.2.2.2 / 1000*10 ^ (4 - x.1.2.2.1.2).toNat∧x.1.2.2.1.1*x.1.2.2.2.2.2 / 1000*10 ^ (4 - x.1.2.2.1.2).toNat≤10000000000000:=by
 obtain⟨hd,ho,_⟩:=h
 have hc:=hd.mon.iM
 obtain⟨h1,h2,h3,h4⟩:=hd.mon
 have hp:=tM (4 - x.1.2.2.1.2).toNat
 have hq:(10:Int) ^ x.1.2.2.1.2.toNat≤10000:=by
  have:=acg (n:=10) (by omega) (show x.1.2.2.1.2.toNat≤4 by omega)
  have h2:=aat.2 this
  simpa using h2
 have hu:x.1.2.2.1.1≤10000000000000:=by omega
 have a1:0≤x.1.2.2.1.1*x.1.2.2.2.2.2:=aap (by omega) hd.disc0
 have a2:x.1.2.2.1.1*x.1.2.2.2.2.2≤x.1.2.2.1.1*1000:=aan hd.disc1 (by omega)
 have a3:x.1.2.2.1.1*x.1.2.2.2.2.2 / 1000≤x.1.2.2.1.1:=by omega
 have a4:0≤x.1.2.2.1.1*x.1.2.2.2.2.2 / 1000:=by omega
 have a5:x.1.2.2.1.1*x.1.2.2.2.2.2 / 1000*10 ^ (4 - x.1.2.2.1.2).toNat≤x.1.2.2.1.1*10 ^ (4 - x.1.2.2.1.2).toNat:=aao a3 (by omega)
 have a6:0≤x.1.2.2.1.1*x.1.2.2.2.2.2 / 1000*10 ^ (4 - x.1.2.2.1.2).toNat:=aap a4 (by omega)
 unfold iM at hc
 refine⟨?_, ?_,a1,by omega,a6,by omega⟩
 ·unfold yW;omega
 ·unfold yW;omega
section
variable {ar:List Bd} {h:Nat} {x:Bd}
theorem Jq (day:Int) (hx:ar[h]? =some x):nW (some h) day ar=some (yJ day x,()):=by
 unfold nW yJ done
 simp only[acn,hx]
 by_cases hd:x.1.2.1≤day
 ·rw[aC hd,acF hd];rfl
 ·rw[aB hd,acE hd];rfl
theorem R3 (hx:ar[h]? =some x) (ok:vS x):qO (some h) ar=some (yW x,()):=by
 obtain⟨b1,b2,b3,b4,b5,b6⟩:=D2 ok
 obtain⟨h1,h2,h3,h4⟩:=ok.d.mon
 unfold qO
 simp only[acn,hx]
 rw[au (n:=4 - x.1.2.2.1.2) (by omega) (by omega),yS _ (by omega) (by omega),acn]
 dsimp only
 have e:w64 (w64 (Int.tdiv (w64 (x.1.2.2.1.1*x.1.2.2.2.2.2)) 1000)*10 ^ (4 - x.1.2.2.1.2).toNat)=x.1.2.2.1.1*x.1.2.2.2.2.2 / 1000*10 ^ (4 - x.1.2.2.1.2).toNat:=by
  rw[au (n:=x.1.2.2.1.1*x.1.2.2.2.2.2) (by omega) (by omega),aax b3,au (n:=x.1.2.2.1.1*x.1.2.2.2.2.2 / 1000) (by omega) (by omega),au (by omega) (by omega)]
 rw[e]
 unfold yW nG
 congr 2
 by_cases hlt:x.2.1<x.1.2.2.1.1*x.1.2.2.2.2.2 / 1000*10 ^ (4 - x.1.2.2.1.2).toNat
 ·rw[acN hlt];omega
 ·rw[acM hlt];omega
theorem Ig {α:Type} {l:List α} {i:Nat} {x y:α} (h:l[i]? =some x):(l.set i y)[i]? =some y:=aa8 (aa2.1 h).1
theorem MG (left day:Int) (hx:ar[h]? =some x) (ok:vS x) (hl:0≤left) (hl2:left≤10000000000000):qD (some h) left day ar=some ((x9 left day x).1,ar.set h (x9 left day x).2,()):=by
 have hb:=ok.le
 have h0:=ok.owes0
 have h1:=ok.paid0
 unfold nG pn at*
 unfold qD x9 nG pn taken done
 have e:(if x.2.1<left then x.2.1 else left)=min left x.2.1:=by split<;>omega
 simp only[acn,hx,Ig hx,e]
 have e1:w64 (x.2.2.1+min left x.2.1)=x.2.2.1+min left x.2.1:=au (by omega) (by omega)
 have e2:w64 (x.2.1 - min left x.2.1)=x.2.1 - min left x.2.1:=au (by omega) (by omega)
 have e3:w64 (left - min left x.2.1)=left - min left x.2.1:=au (by omega) (by omega)
 simp only[e1,e2,e3,abH,Ig hx,acn]
 by_cases hz:x.2.1 - min left x.2.1=0
 ·rw[hz];rfl
 ·rw[show (x.2.1 - min left x.2.1==0)=false by simpa using hz,acB,acM hz]
theorem Rg (left day:Int) (hx:ar[h]? =some x) (ok:vS x) (hl:0≤left) (hl2:left≤10000000000000):qP (some h) left day ar=some ((pU left day x).1,ar.set h (pU left day x).2,()):=by
 have hb:=ok.le
 have h0:=ok.owes0
 have h1:=ok.paid0
 obtain⟨b1,b2,_⟩:=D2 ok
 have d1:=ok.d.day0;have d2:=ok.d.day1;have d3:=ok.d.with0;have d4:=ok.d.with1;have d5:=ok.d.days1
 unfold qP pU
 rw[R3 hx ok,MG left day hx ok hl hl2]
 unfold nG pn at*
 simp only[acn,hx,Ig hx]
 generalize yW x=dc at*
 have e1:w64 (x.2.1 - dc)=x.2.1 - dc:=au (by omega) (by omega)
 have e2:w64 (x.1.2.1+x.1.2.2.2.2.1)=x.1.2.1+x.1.2.2.2.2.1:=au (by omega) (by omega)
 rw[e1,e2]
 by_cases c1:left<x.2.1 - dc
 ·rw[aC (by omega),acN (.inl c1)]
 ·rw[aB (by omega)]
  by_cases c2:x.1.2.1+x.1.2.2.2.2.1<day
  ·rw[aC (by omega),acN (.inr c2)]
  ·rw[aB (by omega),acM (by omega)]
   have e3:w64 (x.2.2.1+(x.2.1 - dc))=x.2.2.1+(x.2.1 - dc):=au (by omega) (by omega)
   have e4:w64 (left - (x.2.1 - dc))=left - (x.2.1 - dc):=au (by omega) (by omega)
   simp only[e3,e4,abH,Ig hx,acn]
theorem Ux {left day:Int} (ok:vS x) (ht:yJ day x=true) (hday:0<day) (hl:0≤left):vS (x9 left day x).2∧0≤(x9 left day x).1∧(x9 left day x).1+pn (x9 left day x).2=left+pn x∧(x9 left day x).2.1=x.1:=by
 simp only[yJ,Z2,acG,acz] at ht
 obtain⟨hd,h0,h1,h2,h3,h4,h5,h6⟩:=ok
 unfold x9
 unfold nG pn taken done at*
 refine⟨⟨hd, ?_, ?_, ?_, ?_, ?_, ?_, ?_⟩, ?_, ?_,rfl⟩<;>simp only[nG,pn,taken,done]
 ·omega
 ·omega
 ·exact h2
 ·omega
 ·intro h;split at h
  ·omega
  ·exact h4 h
 ·split
  ·right;exact ht.1
  ·exact h5
 ·split
  ·constructor
   ·intro _;omega
   ·intro _;assumption
  ·constructor
   ·intro h;omega
   ·intro h;exact absurd ht.2 h
 ·omega
 ·omega
theorem WB {left day:Int} (ok:vS x) (ht:yJ day x=true) (hday:0<day) (hl:0≤left):vS (pU left day x).2∧0≤(pU left day x).1∧(pU left day x).1+pn (pU left day x).2=left+pn x∧(pU left day x).2.1=x.1:=by
 unfold pU
 split
 ·exact Ux ok ht hday hl
 ·rename_i hc
  obtain⟨b1,b2,_⟩:=D2 ok
  simp only[yJ,Z2,acG,acz] at ht
  obtain⟨hd,h0,h1,h2,h3,h4,h5,h6⟩:=ok
  have htk:=h4 ht.2
  generalize yW x=dc at*
  unfold nG pn taken done at*
  refine⟨⟨hd, ?_, ?_, ?_, ?_, ?_, ?_, ?_⟩, ?_, ?_,rfl⟩<;>simp only[nG,pn,taken,done]
  ·omega
  ·omega
  ·omega
  ·omega
  ·intro h;omega
  ·right;exact ht.1
  ·constructor
   ·intro _;omega
   ·intro _;trivial
  ·omega
  ·omega
end
end Go.Md
namespace Go.Md
open Go.Dn
theorem Uw {x:Bd} {left day:Int} (ok:vS x) (hl:0≤left):(x9 left day x).1≤left:=by
 have:=ok.owes0;unfold x9;simp only;omega
theorem WA {x:Bd} {left day:Int} (ok:vS x) (hl:0≤left):(pU left day x).1≤left:=by
 unfold pU
 split
 ·exact Uw ok hl
 ·obtain⟨b1,b2,_⟩:=D2 ok;simp only;omega
def rF (day:Int) (find:Bys→Option Nat) (s:Int×List Bd) (n:Bys):Int×List Bd:=match find n with
 | some h=>(match s.2[h]? with
  | some x=>if yJ day x=true then ((pU s.1 day x).1,s.2.set h (pU s.1 day x).2) else s
  | none=>s)
 | none=>s
def sD (day:Int) (s:Int×List Bd) (o:Option Nat):Int×List Bd:=match o with
 | some h=>(match s.2[h]? with
  | some x=>if 0<s.1∧yJ day x=true then ((x9 s.1 day x).1,s.2.set h (x9 s.1 day x).2) else s
  | none=>s)
 | none=>s
def OX (find:Bys→Option Nat) (order:List (Option Nat)) (p:aO) (ar:List Bd):Int×List Bd:=order.foldl (sD p.1) (p.2.2.foldl (rF p.1 find) (iM p.2.1,ar))
def iV (find:Bys→Option Nat) (order:List (Option Nat)) (day:Int):List aO→List Int→List Bd→List Int×List Bd
 | [],rest,ar=>(rest,ar)
 | p::r,rest,ar=>if day<p.1 then (rest,ar) else iV find order day r (rest++[(OX find order p ar).1]) (OX find order p ar).2
structure jH (ds:List aR) (ar:List Bd):Prop where
 ds:ar.map (·.1)=ds
 ok:∀ x∈ar,vS x
theorem jH.len {ds:List aR} {ar:List Bd} (h:jH ds ar):ar.length=ds.length:=by rw[← h.ds];simp
theorem jH.set {ds:List aR} {ar:List Bd} (h:jH ds ar) {i:Nat} {x y:Bd} (hx:ar[i]? =some x) (hy:vS y) (he:y.1=x.1):jH ds (ar.set i y):=by
 refine⟨?_,fun z hz=> ?_⟩
 ·rw[List.map_set,he, ← h.ds]
  apply aaP
  intro j
  by_cases hj:i=j
  ·subst hj
   rw[aa8 (by simp;exact (aa2.1 hx).1),aa3,hx];rfl
  ·rw[aa7 hj]
 ·rcases abx hz with hz | rfl
  ·exact h.ok z hz
  ·exact hy
theorem jH.get {ds:List aR} {ar:List Bd} (h:jH ds ar) {i:Nat} {x:Bd} (hx:ar[i]? =some x):vS x:=h.ok x (abw hx)
def xI (ar:List Bd):Int:=(ar.map pn).sum
theorem YP {l:List Int} {i:Nat} {x y:Int} (h:l[i]? =some x):(l.set i y).sum=l.sum+(y - x):=by
 induction l generalizing i with
 | nil=>simp at h
 | cons a l ih=>
  cases i with
  | zero=>simp at h;subst h;simp;omega
  | succ i=>simp only[abG,List.sum_cons,ih (by simpa using h)];omega
theorem M5 {ar:List Bd} {i:Nat} {x y:Bd} (h:ar[i]? =some x):xI (ar.set i y)=xI ar+(pn y - pn x):=by
 unfold xI
 rw[List.map_set,YP (x:=pn x) (by rw[aa3,h];rfl)]
structure zl (ds:List aR) (L T:Int) (s:Int×List Bd):Prop where
 ar:jH ds s.2
 l0:0≤s.1
 l1:s.1≤L
 tot:s.1+xI s.2=T
theorem Te {ds:List aR} {L T day:Int} {find:Bys→Option Nat} {s:Int×List Bd} {n:Bys} (h:zl ds L T s) (hday:0<day):zl ds L T (rF day find s n):=by
 unfold rF
 split
 ·split
  ·rename_i hh x hx
   split
   ·rename_i ht
    have hk:=h.ar.get hx
    obtain⟨a1,a2,a3,a4⟩:=WB hk ht hday h.l0
    have a5:=WA (day:=day) hk h.l0
    refine⟨h.ar.set hx a1 a4,a2,by have:=h.l1;simp only;omega, ?_⟩
    simp only
    rw[M5 hx]
    have:=h.tot;omega
   ·exact h
  ·exact h
 ·exact h
theorem Tf {ds:List aR} {L T day:Int} {s:Int×List Bd} {o:Option Nat} (h:zl ds L T s) (hday:0<day):zl ds L T (sD day s o):=by
 unfold sD
 split
 ·split
  ·rename_i hh x hx
   split
   ·rename_i ht
    have hk:=h.ar.get hx
    obtain⟨a1,a2,a3,a4⟩:=Ux hk ht.2 hday h.l0
    have a5:=Uw (day:=day) hk h.l0
    refine⟨h.ar.set hx a1 a4,a2,by have:=h.l1;simp only;omega, ?_⟩
    simp only
    rw[M5 hx]
    have:=h.tot;omega
   ·exact h
  ·exact h
 ·exact h
theorem Np {ds:List aR} {L T day:Int} {find:Bys→Option Nat} (hday:0<day):∀ {l:List Bys} {s:Int×List Bd},zl ds L T s→zl ds L T (l.foldl (rF day find) s)
 | [],_,h=>h
 | a::l,s,h=>by
  rw[aaS]
  exact Np (l:=l) hday (Te h hday)
theorem Sl {ds:List aR} {L T day:Int} (hday:0<day):∀ {l:List (Option Nat)} {s:Int×List Bd},zl ds L T s→zl ds L T (l.foldl (sD day) s)
 | [],_,h=>h
 | a::l,s,h=>by
  rw[aaS]
  exact Sl (l:=l) hday (Tf h hday)
theorem Lm {ds:List aR} {find:Bys→Option Nat} {order:List (Option Nat)} {p:aO} {ar:List Bd} (h:jH ds ar) (hp:Im p):zl ds (iM p.2.1) (iM p.2.1+xI ar) (OX find order p ar):=by
 have hday:0<p.1:=by have:=hp.day0;omega
 exact Sl hday (Np hday ⟨h,by have:=hp.mon.iM;simp only;omega,aak _,rfl⟩)
abbrev J5:=List (Bys×(Option Nat))
def gQ (m:J5) (n:Bys):Option Nat:=Option.getD (bR (k:= .str) (v:= .hnd) m n) none
theorem Vn {ds:List aR} {L T:Int} (hL:L≤10000000000000) (day0:Int) (al:List (Option Nat)) (rest:List Int) (ps:List aO) (g1 g2:Int) (names:List Bys) (hnl:names.length≤100) (day:Int) (hday:0<day) (g3 g4:Int) (g5:List Bys) (order:List (Option Nat)) (m:J5) (hm:∀ n h,gQ m n=some h→h<ds.length) (left:Int) (ar:List Bd) (hok:zl ds L T (left,ar)) (fuel:Nat) (hf:names.length<fuel):
 iter (X:=sw) (β:=sk) fuel (day0,al,rest,left,ps,g1,g2,names,(names.length:Int),0,day,g3,g4,g5,order,m,ar,()) sg=
  some (Sum.inr (day0,al,rest,(names.foldl (rF day (gQ m)) (left,ar)).1,ps,g1,g2,day,g3,g4,g5,order,m,(names.foldl (rF day (gQ m)) (left,ar)).2,())):=by
 refine dR (Inv:=fun i x=>∃ s:Int×List Bd,x=(day0,al,rest,s.1,ps,g1,g2,names,(names.length:Int),(i:Int),day,g3,g4,g5,order,m,s.2,())∧zl ds L T s∧(names.drop i).foldl (rF day (gQ m)) s=names.foldl (rF day (gQ m)) (left,ar)) names.length
  (fun r=>r=some (Sum.inr (day0,al,rest,(names.foldl (rF day (gQ m)) (left,ar)).1,ps,g1,g2,day,g3,g4,g5,order,m,(names.foldl (rF day (gQ m)) (left,ar)).2,()))) ?_ ?_ fuel 0 _ ⟨(left,ar),rfl,hok,rfl⟩ (by omega) (by omega)
 ·rintro i _ again hi ⟨s,rfl,hs,he⟩ ih
  unfold sg
  dsimp only
  have hy:names[i]? =some names[i]:=bu hi
  rw[aaJ hi,aaS] at he
  have next:∀ s',s'=rF day (gQ m) s names[i]→again (day0,al,rest,s'.1,ps,g1,g2,names,(names.length:Int),w64 ((i:Int)+1),day,g3,g4,g5,order,m,s'.2,())=some (Sum.inr (day0,al,rest,(names.foldl (rF day (gQ m)) (left,ar)).1,ps,g1,g2,day,g3,g4,g5,order,m,(names.foldl (rF day (gQ m)) (left,ar)).2,())):=by
   intro s' hs'
   rw[au (by omega) (by omega)]
   exact ih _ ⟨s',rfl,by rw[hs'];exact Te hs hday,by rw[hs'];exact he⟩
  rw[aC (by omega),bS,hy,acn]
  change (bif !(Option.isNone (gQ m names[i])) then (Option.bind (nW (gQ m names[i]) day s.2) fun r3=>bif r3.1 then (Option.bind (qP (gQ m names[i]) s.1 day s.2) fun r4=>again (day0,al,rest,r4.1,ps,g1,g2,names,(names.length:Int),w64 ((i:Int)+1),day,g3,g4,g5,order,m,r4.2.1,())) else again (day0,al,rest,s.1,ps,g1,g2,names,(names.length:Int),w64 ((i:Int)+1),day,g3,g4,g5,order,m,s.2,())) else again (day0,al,rest,s.1,ps,g1,g2,names,(names.length:Int),w64 ((i:Int)+1),day,g3,g4,g5,order,m,s.2,()))=_
  cases hfd:gQ m names[i] with
  | none=>exact next s (by simp only[rF,hfd])
  | some h=>
   have hlt:=hm _ _ hfd
   have hx:s.2[h]? =some (s.2[h]'(by rw[hs.ar.len];exact hlt)):=bu _
   generalize s.2[h]'(by rw[hs.ar.len];exact hlt)=x at hx
   have hk:=hs.ar.get hx
   simp only[acq,aac,acC]
   rw[Jq day hx,acn]
   dsimp only
   cases ht:yJ day x with
   | false=>exact next s (by simp only[rF,hfd,hx,ht];rfl)
   | true=>
    have:=hs.l1;have:=hs.l0
    rw[acC,Rg s.1 day hx hk (by omega) (by omega),acn]
    exact next ((pU s.1 day x).1,s.2.set h (pU s.1 day x).2) (by simp only[rF,hfd,hx,ht];rfl)
 ·rintro _ again ⟨s,rfl,hs,he⟩
  unfold sg
  dsimp only
  rw[aB (by omega)]
  rw[aaL (abX _),List.foldl_nil] at he
  rw[he]
theorem Vp {ds:List aR} {L T:Int} (hL:L≤10000000000000) (day0:Int) (al:List (Option Nat)) (rest:List Int) (ps:List aO) (g1 g2:Int) (day:Int) (hday:0<day) (g3 g4:Int) (g5:List Bys) (order:List (Option Nat)) (hol:order.length<1000000) (hord:∀ o∈order,∃ h,o=some h∧h<ds.length) (m:J5) (left:Int) (ar:List Bd) (hok:zl ds L T (left,ar)) (fuel:Nat) (hf:order.length<fuel):
 iter (X:=sA) (β:=sr) fuel (day0,al,rest,left,ps,g1,g2,(order.length:Int),0,day,g3,g4,g5,order,m,ar,()) si=
  some (Sum.inr (day0,al,rest,(order.foldl (sD day) (left,ar)).1,ps,g1,g2,order,m,(order.foldl (sD day) (left,ar)).2,())):=by
 refine dR (Inv:=fun i x=>∃ s:Int×List Bd,x=(day0,al,rest,s.1,ps,g1,g2,(order.length:Int),(i:Int),day,g3,g4,g5,order,m,s.2,())∧zl ds L T s∧(order.drop i).foldl (sD day) s=order.foldl (sD day) (left,ar)) order.length
  (fun r=>r=some (Sum.inr (day0,al,rest,(order.foldl (sD day) (left,ar)).1,ps,g1,g2,order,m,(order.foldl (sD day) (left,ar)).2,()))) ?_ ?_ fuel 0 _ ⟨(left,ar),rfl,hok,rfl⟩ (by omega) (by omega)
 ·rintro i _ again hi ⟨s,rfl,hs,he⟩ ih
  unfold si
  dsimp only
  have hy:order[i]? =some order[i]:=bu hi
  obtain⟨h,ho,hlt⟩:=hord order[i] (abc _)
  rw[aaJ hi,aaS] at he
  have next:∀ s',s'=sD day s order[i]→again (day0,al,rest,s'.1,ps,g1,g2,(order.length:Int),w64 ((i:Int)+1),day,g3,g4,g5,order,m,s'.2,())=some (Sum.inr (day0,al,rest,(order.foldl (sD day) (left,ar)).1,ps,g1,g2,order,m,(order.foldl (sD day) (left,ar)).2,())):=by
   intro s' hs'
   rw[au (by omega) (by omega)]
   exact ih _ ⟨s',rfl,by rw[hs'];exact Tf hs hday,by rw[hs'];exact he⟩
  rw[aC (by omega),bq (by simp only[Z2,acG];omega),aay,hy,acn]
  have hx:s.2[h]? =some (s.2[h]'(by rw[hs.ar.len];exact hlt)):=bu _
  generalize s.2[h]'(by rw[hs.ar.len];exact hlt)=x at hx
  have hk:=hs.ar.get hx
  rw[ho] at next ⊢
  by_cases h0:s.1>0
  ·rw[aC h0,Jq day hx,acn]
   dsimp only
   cases ht:yJ day x with
   | false=>exact next s (by simp only[sD,hx,ht];simp)
   | true=>
    have:=hs.l1;have:=hs.l0
    rw[acC,MG s.1 day hx hk (by omega) (by omega),acn]
    exact next ((x9 s.1 day x).1,s.2.set h (x9 s.1 day x).2) (by simp only[sD,hx,ht];rw[acN ⟨h0,trivial⟩])
  ·rw[aB h0]
   exact next s (by simp only[sD,hx];rw[acM (fun h=>h0 h.1)])
 ·rintro _ again ⟨s,rfl,hs,he⟩
  unfold si
  dsimp only
  rw[aB (by omega)]
  rw[aaL (abX _),List.foldl_nil] at he
  rw[he]
theorem WN {ds:List aR} (day0:Int) (al:List (Option Nat)) (ps:List aO) (hps:∀ p∈ps,Im p) (hpl:ps.length≤500) (order:List (Option Nat)) (hol:order.length<1000000) (hord:∀ o∈order,∃ h,o=some h∧h<ds.length) (m:J5) (hm:∀ n h,gQ m n=some h→h<ds.length) (ar:List Bd) (hok:jH ds ar) (fuel:Nat) (hf:ps.length<fuel):
 iter (X:=su) (β:=sj) fuel (day0,al,[],ps,(ps.length:Int),0,order,m,ar,()) se=
  some (Sum.inr (al,(iV (gQ m) order day0 ps [] ar).1,(iV (gQ m) order day0 ps [] ar).2,())):=by
 refine dR (Inv:=fun i x=>∃ (rest:List Int) (ar':List Bd),x=(day0,al,rest,ps,(ps.length:Int),(i:Int),order,m,ar',())∧rest.length=i∧jH ds ar'∧iV (gQ m) order day0 (ps.drop i) rest ar'=iV (gQ m) order day0 ps [] ar) ps.length
  (fun r=>r=some (Sum.inr (al,(iV (gQ m) order day0 ps [] ar).1,(iV (gQ m) order day0 ps [] ar).2,()))) ?_ ?_ fuel 0 _ ⟨[],ar,rfl,rfl,hok,rfl⟩ (by omega) (by omega)
 ·rintro i _ again hi ⟨rest,ar',rfl,hr,ha,he⟩ ih
  unfold se
  dsimp only
  have hy:ps[i]? =some ps[i]:=bu hi
  have hpo:=hps ps[i] (abc _)
  rw[aaJ hi] at he
  rw[aC (by omega),bS,hy,acn]
  generalize ps[i]=p at*
  by_cases hd:p.1>day0
  ·rw[aC hd]
   simp only[iV] at he
   rw[acN (by omega)] at he
   rw[← he]
  ·rw[aB hd,Jp hpo.mon,acn]
   dsimp only
   have hday:0<p.1:=by have:=hpo.day0;omega
   have hc:=hpo.mon.iM
   simp only[iV] at he
   rw[acM (by omega)] at he
   have st0:zl ds (iM p.2.1) (iM p.2.1+xI ar') (iM p.2.1,ar'):=⟨ha,by simp only;omega,aak _,rfl⟩
   rw[Vn (ds:=ds) hc.2 day0 al rest ps (ps.length:Int) (i:Int) p.2.2 hpo.names p.1 hday p.2.1.1 p.2.1.2 p.2.2 order m hm (iM p.2.1) ar' st0 _ (by omega),bg]
   dsimp only
   have st1:zl ds (iM p.2.1) (iM p.2.1+xI ar') (p.2.2.foldl (rF p.1 (gQ m)) (iM p.2.1,ar')):=Np hday st0
   rw[Vp (ds:=ds) hc.2 day0 al rest ps (ps.length:Int) (i:Int) p.1 hday p.2.1.1 p.2.1.2 p.2.2 order hol hord m _ _ st1 _ (by omega),bg]
   dsimp only
   rw[bq (uW (by omega) (by omega)),au (by omega) (by omega)]
   have st2:=Lm (find:=gQ m) (order:=order) ha hpo
   exact ih _ ⟨_,_,rfl,by simp[hr],st2.ar,he⟩
 ·rintro _ again ⟨rest,ar',rfl,hr,ha,he⟩
  unfold se
  dsimp only
  rw[aB (by omega)]
  rw[aaL (abX _)] at he
  simp only[iV] at he
  rw[← he]
def iw (ds:List aR):List Bd:=ds.map fun d=>(d,iM d.2.2.1,0,0,0)
theorem J8 {ds:List aR} (h:∀ d∈ds,He d):jH ds (iw ds):=by
 refine⟨by unfold iw;rw[abn];exact (abl (fun _ _=>rfl)).trans (List.map_id ds),fun x hx=> ?_⟩
 obtain⟨d,hd,rfl⟩:=abv.1 hx
 have hc:=(h d hd).mon.iM
 exact⟨h d hd,by simp only[nG];omega,by simp[pn],by simp[taken],by simp[nG,pn,taken],by simp[taken],.inl (by simp[done]),by simp only[nG,done];omega⟩
def sB (n:Bys):List aR→Nat→Option Nat→Option Nat
 | [],_,acc=>acc
 | d::r,i,acc=>sB n r (i+1) (if d.1==n then some i else acc)
theorem SC {n:Bys} {N:Nat}:∀ {l:List aR} {i:Nat} {acc:Option Nat},i+l.length=N→(∀ h,acc=some h→h<N)→∀ h,sB n l i acc=some h→h<N
 | [],_,_,_,ha,h,hh=>ha h hh
 | d::r,i,acc,hl,ha,h,hh=>by
  simp only[sB] at hh
  refine SC (l:=r) (by simp at hl;omega) (fun h' h2=> ?_) h hh
  split at h2
  ·cases h2;simp at hl;omega
  ·exact ha h' h2
theorem zY {k v:Ty} (p:k.den×v.den) (m:List (k.den×v.den)) (n:k.den):bR (p::m) n=bif k.beq n p.1 then some p.2 else bR m n:=by
 unfold bR
 rw[List.find?_cons]
 cases k.beq n p.1<;>rfl
theorem Wy {k v:Ty} (p:k.den×v.den) (m:List (k.den×v.den)) (x:k.den) (y:v.den):lP (p::m) x y=bif k.beq x p.1 then (x,y)::m else p::lP m x y:=rfl
theorem K5 {k v:Ty} (hb:∀ a b:k.den,k.beq a b=true↔a=b) (m:List (k.den×v.den)) (x:k.den) (y:v.den) (n:k.den):bR (lP m x y) n=bif k.beq x n then some y else bR m n:=by
 have hcomm:∀ a b:k.den,k.beq a b=k.beq b a:=fun a b=>by
  rw[Bool.eq_iff_iff,hb,hb];exact eq_comm
 induction m with
 | nil=>
  change bR [(x,y)] n=_
  rw[zY,hcomm n x]
 | cons p m ih=>
  rw[Wy]
  cases hp:k.beq x p.1 with
  | true=>
   rw[acC,zY,zY,hcomm n p.1, ← (hb _ _).1 hp,hcomm n x]
   cases k.beq x n<;>rfl
  | false=>
   rw[acB,zY,zY,ih]
   cases hn:k.beq n p.1 with
   | true=>
    have:k.beq x n=false:=by
     cases h:k.beq x n with
     | false=>rfl
     | true=>rw[(hb _ _).1 h,hn] at hp;cases hp
    rw[this];rfl
   | false=>rfl
theorem YO (a b:(Ty.str).den):Ty.beq .str a b=true↔a=b:=by
 show ((show Bys from a)==(show Bys from b))=true↔_
 exact acz
theorem U3 (m:J5) (x:Bys) (y:Option Nat) (n:Bys):gQ (lP (k:= .str) (v:= .hnd) m x y) n=if x==n then y else gQ m n:=by
 have:=K5 (k:= .str) (v:= .hnd) YO m x y n
 unfold gQ
 cases hx:(x==n) with
 | true=>
  have h2:Ty.beq .str x n=true:=hx
  rw[h2] at this
  have h3:=congrArg (fun o:Option (Option Nat)=>o.getD none) this
  exact h3
 | false=>
  have h2:Ty.beq .str x n=false:=hx
  rw[h2] at this
  have h3:=congrArg (fun o:Option (Option Nat)=>o.getD none) this
  exact h3
theorem U4 (ds:List aR) (hds:∀ d∈ds,He d) (hl:ds.length≤200) (ps:List aO) (day:Int) (fuel:Nat) (hf:ds.length<fuel):
 ∃ m:J5,iter (X:=tX) (β:=tW) fuel (ps,day,[],ds,(ds.length:Int),0,[],[],()) tV=some (Sum.inr (ps,day,(List.range ds.length).map some,m,iw ds,()))∧∀ n,gQ m n=sB n ds 0 none:=by
 refine dR (Inv:=fun i x=>∃ m:J5,x=(ps,day,(List.range i).map some,ds,(ds.length:Int),(i:Int),m,iw (ds.take i),())∧∀ n,sB n (ds.drop i) i (gQ m n)=sB n ds 0 none) ds.length
  (fun r=>∃ m:J5,r=some (Sum.inr (ps,day,(List.range ds.length).map some,m,iw ds,()))∧∀ n,gQ m n=sB n ds 0 none) ?_ ?_ fuel 0 _ ⟨[],rfl,fun n=>rfl⟩ (by omega) (by omega)
 ·rintro i _ again hi ⟨m,rfl,hm⟩ ih
  unfold tV
  dsimp only
  have hy:ds[i]? =some ds[i]:=bu hi
  have hdk:=hds ds[i] (abc _)
  have hal:(iw (ds.take i)).length=i:=by simp[iw];omega
  rw[aC (by omega),bS,hy,acn,Jp hdk.mon,acn]
  dsimp only
  rw[bq (uW (by simp;omega) (by simp;omega)),au (by omega) (by omega),hal]
  refine ih _ ⟨lP (k:= .str) (v:= .hnd) m ds[i].1 (some i), ?_,fun n=> ?_⟩
  ·have e1:(List.range (i+1)).map some=(List.range i).map some++[some i]:=by rw[List.range_succ,abk];rfl
   have e2:iw (ds.take (i+1))=iw (ds.take i)++[(ds[i],iM ds[i].2.2.1,0,0,0)]:=by
    unfold iw;rw[zf hy,abk];rfl
   rw[e1,e2];rfl
  ·have:=hm n
   rw[aaJ hi] at this
   simp only[sB] at this
   rw[← this]
   congr 1
   exact U3 m ds[i].1 (some i) n
 ·rintro _ again ⟨m,rfl,hm⟩
  unfold tV
  dsimp only
  rw[aB (by omega),abM (abX _)]
  refine⟨m,rfl,fun n=> ?_⟩
  have:=hm n
  rw[aaL (abX _)] at this
  exact this
def P6 (ar:List Bd) (o:Option Nat):Int:=match o with
 | some h=>(match ar[h]? with
  | some x=>x.1.2.1+x.1.2.2.2.1
  | none=>0)
 | none=>0
theorem YX (ar:List Bd):yK (P6 ar) ar (fun o=>∃ h x,o=some h∧ar[h]? =some x∧vS x):=by
 rintro a b ⟨h,x,rfl,hx,kx⟩ ⟨h',y,rfl,hy,ky⟩
 have a1:=kx.d.day0;have a2:=kx.d.day1;have a3:=kx.d.days0;have a4:=kx.d.days1
 have b1:=ky.d.day0;have b2:=ky.d.day1;have b3:=ky.d.days0;have b4:=ky.d.days1
 unfold lI xe
 simp only[acn,hx,hy,P6]
 refine⟨_,rfl, ?_⟩
 rw[au (n:=x.1.2.1+x.1.2.2.2.1) (by omega) (by omega),au (n:=y.1.2.1+y.1.2.2.2.1) (by omega) (by omega),au (by omega) (by omega)]
 omega
theorem VM {β:Type} (a:Option β):both a a=a:=VN a
theorem Xh (l:List (Option Nat)) (hl:l.length<1000000):mA l=some (l,()):=by
 unfold mA
 rw[bq (uW (by omega) (by omega))]
 cases l with
 | nil=>exact VM _
 | cons a l=>rfl
theorem Nb (ds:List aR) (hds:∀ d∈ds,He d) (hl:ds.length≤200) (ps:List aO) (hps:∀ p∈ps,Im p) (hpl:ps.length≤500) (day:Int):
 ∃ order,Srt (P6 (iw ds)) order∧cw (P6 (iw ds)) ((List.range ds.length).map some) order∧
  yQ ds ps day []=some ((List.range ds.length).map some,(iV (fun n=>sB n ds 0 none) order day ps [] (iw ds)).1,(iV (fun n=>sB n ds 0 none) order day ps [] (iw ds)).2,()):=by
 have ha:=J8 hds
 obtain⟨m,h1,h2⟩:=U4 ds hds hl ps day (List.length ps+(Int.natAbs day+(List.length ([]:List (Option Nat))+(List.length ds+(Int.natAbs ((List.length ds:Int))+(Int.natAbs (0:Int)+(List.length ([]:List (Bys×(Option Nat)))+(List.length ([]:List aq)+2)))))))) (by omega)
 have hall:∀ o∈(List.range ds.length).map some,∃ h x,o=some h∧(iw ds)[h]? =some x∧vS x:=by
  intro o ho
  obtain⟨h,hh,rfl⟩:=abv.1 ho
  have hlt:h<(iw ds).length:=by rw[ha.len];simpa using hh
  exact⟨h,_,rfl,bu hlt,ha.get (bu hlt)⟩
 obtain⟨order,g1,g2,g3⟩:=RH (YX (iw ds)) ((List.range ds.length).map some) (by simp;omega) hall
 refine⟨order,g2,g3, ?_⟩
 unfold yQ
 rw[h1,bg]
 dsimp only
 rw[Xh _ (by simp;omega),acn]
 dsimp only
 rw[g1,acn]
 dsimp only
 have hfind:gQ m=fun n=>sB n ds 0 none:=funext h2
 have hord:∀ o∈order,∃ h,o=some h∧h<ds.length:=by
  intro o ho
  obtain⟨h,hh,rfl⟩:=abv.1 (g3.mem.1 ho)
  exact⟨h,rfl,by simpa using hh⟩
 have hol:order.length=ds.length:=by rw[g3.length];simp
 rw[WN (ds:=ds) day ((List.range ds.length).map some) ps hps hpl order (by omega) hord m (fun n h hh=>by
  rw[hfind] at hh
  exact SC (by simp) (fun h h2=>by cases h2) h hh) (iw ds) ha _ (by omega),bg,hfind]
end Go.Md
namespace Go.Md
open Go.Dn
def few:Nat→Int→Int×Nat
 | 0,z=>(z,0)
 | p+1,z=>if z % 10=0 then few p (z / 10) else (z,p+1)
theorem HL:∀ (p:Nat) (z:Int),(few p z).2≤p∧(few p z).1*10 ^ (p - (few p z).2)=z∧(few p z).1.natAbs≤z.natAbs
 | 0,z=>by simp[few]
 | p+1,z=>by
  unfold few
  split
  ·rename_i h
   obtain⟨h1,h2,h3⟩:=HL p (z / 10)
   refine⟨by omega, ?_,by omega⟩
   rw[show p+1 - (few p (z / 10)).2=(p - (few p (z / 10)).2)+1 by omega,aau, ← aam,h2]
   omega
  ·simp
theorem Pz (z:Int) (p:Int):yd (W z) p=some (if z.natAbs≤1000000000000000 then ((z,p),0,()) else ((0,0),1,())):=by
 unfold yd
 rw[NV z 1000000000000000 (by omega) (by omega),acn]
 by_cases h:(z.natAbs:Int)≤1000000000000000
 ·rw[acN h,acN (by omega)];rfl
 ·rw[acM h,acM (by omega)];rfl
theorem Ev (z:Int) (hz:z.natAbs<4294967296 ^ 99) (p:Nat) (hp:p≤1000):uy (W z) (p:Int)=some (if (few p z).1.natAbs≤1000000000000000 then (((few p z).1,((few p z).2:Int)),0,()) else ((0,0),1,())):=by
 unfold uy
 rw[nr 10 (by omega) (by omega),acn]
 dsimp only
 have loop:∀ (n:Nat) (z:Int) (p:Nat),z.natAbs<4294967296 ^ 99→p≤1000→p<n→iter (X:=tQ) (β:=tP) n ((p:Int),(W z).1,(W z).2,0,0,(W 10).1,(W 10).2,()) tO=some (Sum.inr (((few p z).2:Int),(W (few p z).1).1,(W (few p z).1).2,0,0,())):=by
  intro n
  induction n with
  | zero=>intro z p _ _ h;omega
  | succ n ih=>
   intro z p hz hp hn
   rw[bQ]
   generalize hag:(fun y=>iter n y tO)=again
   unfold tO
   dsimp only
   cases p with
   | zero=>rw[aB (by omega)];rfl
   | succ p=>
    have e10:(10:Int).natAbs=10:=rfl
    rw[aC (by omega)]
    change (Option.bind (wY (W z) (W 10)) _)=_
    rw[Pu z 10 hz (by rw[e10];exact ab2 (by omega) (acg (n:=4294967296) (by omega) (show 1≤99 by omega))) (by omega),acn]
    dsimp only
    rw[sE,acn]
    dsimp only
    rw[e10]
    by_cases hm:z % 10=0
    ·have hm2:z.natAbs % 10=0:=by omega
     rw[hm2,show ((((0:Nat):Int).sign) != 0)=false from rfl,acB]
     change (Option.bind (kZ (W z)) _)=_
     rw[sE,acn]
     dsimp only
     have hf:few (p+1) z=few p (z / 10):=by simp[few,hm]
     rw[hf]
     have hz':(z / 10).natAbs<4294967296 ^ 99:=ab1 (by omega) hz
     by_cases hneg:z<0
     ·rw[aC (by rw[aav hneg];omega),Df _ (by simp only[aar];exact ab1 (Nat.div_le_self _ _) hz),acn]
      dsimp only
      rw[show -((z.natAbs / 10:Nat):Int)=z / 10 by omega,au (by omega) (by omega),show ((p+1:Nat):Int) - 1=(p:Int) by omega, ← hag]
      exact ih (z / 10) p hz' (by omega) (by omega)
     ·rw[aB (by
       rcases (show z=0∨0<z by omega) with h | h
       ·subst h;decide
       ·rw[aaw h];omega),show ((z.natAbs / 10:Nat):Int)=z / 10 by omega,au (by omega) (by omega),show ((p+1:Nat):Int) - 1=(p:Int) by omega, ← hag]
      exact ih (z / 10) p hz' (by omega) (by omega)
    ·have hm2:0<z.natAbs % 10:=by omega
     have:(((z.natAbs % 10:Nat):Int).sign != 0)=true:=by
      rw[aaw (by omega)];rfl
     rw[this,acC]
     have hf:few (p+1) z=(z,p+1):=by simp[few,hm]
     rw[hf]
 have:=loop (Int.natAbs (p:Int)+(List.length (W z).2+(Int.natAbs (0:Int)+(Int.natAbs (0:Int)+(List.length (W 10).2+2))))) z p hz hp (by omega)
 rw[this,bg]
 dsimp only
 change (Option.bind (yd (W (few p z).1) ((few p z).2:Int)) _)=_
 rw[Pz,acn]
def told (n:Int):ah:=((few 4 n).1,((few 4 n).2:Int))
theorem WQ:(18446744073709551616:Nat)≤4294967296 ^ 99:=by
 have:=acg (n:=4294967296) (by omega) (show 2≤99 by omega)
 omega
theorem Rf (n:Int) (h:n.natAbs≤1000000000000000):DU n=some (told n,0,()):=by
 unfold DU
 rw[nr n (by omega) (by omega),acn]
 dsimp only
 have:=Ev n (ab2 (by omega) WQ) 4 (by omega)
 rw[show ((4:Nat):Int)=4 from rfl] at this
 have h2:=(HL 4 n).2.2
 rw[this,acN (by omega),acn];rfl
theorem xT (n:Int) (h:n.natAbs≤1000000000000000):kH n=some (told n,()):=by
 unfold kH
 rw[Rf n h];rfl
def nx (d:ah):Int:=d.1*10 ^ (9 - d.2).toNat
def fq (d:ah):Prop:=d.1.natAbs≤1000000000000000∧0≤d.2∧d.2≤9
theorem lE.dec {d:ah} (h:lE d):fq d:=by
 obtain⟨h1,h2,h3,h4⟩:=h
 have hq:(10:Int) ^ d.2.toNat≤10000:=by
  have:=acg (n:=10) (by omega) (show d.2.toNat≤4 by omega)
  have h2:=aat.2 this
  simpa using h2
 exact⟨by omega,h2,by omega⟩
end Go.Md
namespace Go.Md
open Go.Dn
def O8 (x:Bd):nc:=(x.1.1,told (pn x),told (taken x),done x)
theorem Q3 {ds:List aR} {find:Bys→Option Nat} {order:List (Option Nat)} {day:Int}:∀ {ps:List aO} {rest:List Int} {ar:List Bd},(∀ p∈ps,Im p)→jH ds ar→(∀ n∈rest,0≤n∧n≤10000000000000)→
 jH ds (iV find order day ps rest ar).2∧(∀ n∈(iV find order day ps rest ar).1,0≤n∧n≤10000000000000)
 | [],_,_,_,ha,hr=>⟨ha,hr⟩
 | p::ps,rest,ar,hp,ha,hr=>by
  unfold iV
  split
  ·exact⟨ha,hr⟩
  ·have hpo:=hp p (by simp)
   have hs:=Lm (find:=find) (order:=order) ha hpo
   refine Q3 (fun q hq=>hp q (by simp[hq])) hs.ar (fun n hn=> ?_)
   rcases abo.1 hn with h | h
   ·exact hr n h
   ·rw[abz.1 h]
    have:=hpo.mon.iM;have:=hs.l0;have:=hs.l1;omega
theorem O9 {ds:List aR} {find:Bys→Option Nat} {order:List (Option Nat)} {day:Int}:∀ {ps:List aO} {rest:List Int} {ar:List Bd},(∀ p∈ps,Im p)→(∀ p∈ps,p.1≤day)→jH ds ar→
 (iV find order day ps rest ar).1.sum+xI (iV find order day ps rest ar).2=rest.sum+xI ar+(ps.map fun p=>iM p.2.1).sum∧(iV find order day ps rest ar).1.length=rest.length+ps.length
 | [],_,_,_,_,_=>by simp[iV]
 | p::ps,rest,ar,hp,hd,ha=>by
  unfold iV
  rw[acM (by have:=hd p (by simp);omega)]
  have hpo:=hp p (by simp)
  have hs:=Lm (find:=find) (order:=order) ha hpo
  obtain⟨h1,h2⟩:=O9 (ps:=ps) (find:=find) (order:=order) (day:=day) (rest:=rest++[(OX find order p ar).1]) (fun q hq=>hp q (by simp[hq])) (fun q hq=>hd q (by simp[hq])) hs.ar
  refine⟨?_,by rw[h2];simp;omega⟩
  rw[h1]
  have:=hs.tot
  simp only[List.sum_append,List.sum_cons,List.sum_nil,abm]
  omega
theorem WU {ar:List Bd} {n i:Nat} (hn:ar.length=n) (hi:i<n):((List.range n).map some)[i]? =some (some i):=by simp[hi]
theorem Tt (ds:List aR) (ps:List aO):
 (∃ f,f≠0∧EF ds ps=some ([],[],f,())∧f=(if kK ds≠0 then kK ds else Ef ps))∨
 (kK ds=0∧Ef ps=0∧∃ order,Srt (P6 (iw ds)) order∧cw (P6 (iw ds)) ((List.range ds.length).map some) order∧
   EF ds ps=some ((iV (fun n=>sB n ds 0 none) order 3652059 ps [] (iw ds)).2.map O8,(iV (fun n=>sB n ds 0 none) order 3652059 ps [] (iw ds)).1.map told,0,())):=by
 unfold EF
 rw[Mf,acn]
 dsimp only
 by_cases hf:(if kK ds≠0 then kK ds else Ef ps)=0
 ·right
  have h1:kK ds=0:=by
   by_cases h:kK ds=0
   ·exact h
   ·rw[acN h] at hf;exact hf
  have h2:Ef ps=0:=by rw[acM (acS h1)] at hf;exact hf
  obtain⟨hl,hds⟩:=Tv h1
  obtain⟨hpl,hps⟩:=Vs h2
  obtain⟨order,g1,g2,g3⟩:=Nb ds hds hl ps hps hpl 3652059
  refine⟨h1,h2,order,g1,g2, ?_⟩
  rw[hf,zne,acB,g3,acn]
  dsimp only
  have ha:=Q3 (find:=fun n=>sB n ds 0 none) (order:=order) (day:=3652059) (rest:=[]) hps (J8 hds) (by simp)
  generalize hres:iV (fun n=>sB n ds 0 none) order 3652059 ps [] (iw ds)=res at ha
  obtain⟨rest,ar⟩:=res
  dsimp only at ha ⊢
  have hal:ar.length=ds.length:=ha.1.len
  have loop1:∀ (hnd:List (Option Nat)),hnd=(List.range ds.length).map some→∀ fuel,hnd.length<fuel→iter (X:=Cc) (β:=Cb) fuel (rest,[],hnd,(hnd.length:Int),0,ar,()) Ca=some (Sum.inr (rest,ar.map O8,ar,())):=by
   intro hnd hh fuel hfu
   have hlen:hnd.length=ds.length:=by rw[hh];simp
   refine dR (Inv:=fun i x=>x=(rest,(ar.take i).map O8,hnd,(hnd.length:Int),(i:Int),ar,())) hnd.length (fun r=>r=some (Sum.inr (rest,ar.map O8,ar,()))) ?_ ?_ fuel 0 _ (by simp) (by omega) (by omega)
   ·rintro i _ again hi rfl ih
    unfold Ca
    dsimp only
    have hx:ar[i]? =some (ar[i]'(by omega)):=bu _
    generalize ar[i]'(by omega)=x at hx
    have hk:=ha.1.get hx
    have hb:=hk.le
    have p0:=hk.paid0
    have t0:=hk.taken0
    have hg:hnd[i]? =some (some i):=by rw[hh];exact WU hal (by omega)
    rw[aC (by omega),bS,hg]
    simp only[acn,hx]
    change (Option.bind (kH (pn x)) fun r7=>Option.bind (kH (taken x)) fun r10=>_)=_
    rw[xT _ (by omega),acn,xT _ (by omega),acn]
    dsimp only
    rw[bq (uW (by simp;omega) (by simp;omega)),au (by omega) (by omega)]
    refine ih _ ?_
    rw[zf hx,abk];rfl
   ·rintro _ again rfl
    unfold Ca
    dsimp only
    rw[aB (by omega),abM (by omega)]
  have hrl:rest.length≤ps.length:=by
   have:=(O9 (ds:=ds) (find:=fun n=>sB n ds 0 none) (order:=order) (day:=3652059) (rest:=[]) (ar:=iw ds) hps (fun p hp=>(hps p hp).day1) (J8 hds)).2
   rw[hres] at this;simp at this;omega
  have loop2:∀ (xs:List nc) fuel,rest.length<fuel→iter (X:=AF) (β:=AE) fuel (xs,[],rest,(rest.length:Int),0,ar,()) AD=some (Sum.inr (xs,rest.map told,ar,())):=by
   intro xs fuel hfu
   refine dR (Inv:=fun i x=>x=(xs,(rest.take i).map told,rest,(rest.length:Int),(i:Int),ar,())) rest.length (fun r=>r=some (Sum.inr (xs,rest.map told,ar,()))) ?_ ?_ fuel 0 _ (by simp) (by omega) (by omega)
   ·rintro i _ again hi rfl ih
    unfold AD
    dsimp only
    have hx:rest[i]? =some (rest[i]'(by omega)):=bu _
    have hb:=ha.2 (rest[i]'(by omega)) (abc _)
    generalize rest[i]'(by omega)=x at hx hb
    rw[aC (by omega),bS,hx,acn,xT _ (by omega),acn]
    dsimp only
    rw[bq (uW (by simp;omega) (by simp;omega)),au (by omega) (by omega)]
    refine ih _ ?_
    rw[zf hx,abk];rfl
   ·rintro _ again rfl
    unfold AD
    dsimp only
    rw[aB (by omega),abM (by omega)]
  rw[loop1 _ rfl _ (by omega),bg]
  dsimp only
  rw[loop2 _ _ (by omega),bg]
 ·left
  refine⟨_,hf, ?_,rfl⟩
  rw[show ((if kK ds≠0 then kK ds else Ef ps) != 0)=true by simpa using hf,acC]
theorem Y1:cz [97]=true:=by rfl
theorem KY:CW=some (true,()):=by
 unfold CW
 have hd:kK [([97],5,(7,0),0,0,0)]=0:=by
  unfold kK
  have:DW [([97],5,(7,0),0,0,0)] 0 ([97],5,(7,0),0,0,0)=0:=by
   unfold DW;rw[Y1];decide
  simp only[eo,this];decide
 have hp:Ef [(6,(9,0),[])]=0:=by decide
 rcases Tt [([97],5,(7,0),0,0,0)] [(6,(9,0),[])] with ⟨f,h1,_,h3⟩ | ⟨_,_,order,_,h2,h3⟩
 ·rw[hd,hp] at h3;simp at h3;exact absurd h3 h1
 ·have ho:order=[some 0]:=by
   have:=h2.perm
   exact List.perm_singleton.1 this.symm
  rw[h3,acn]
  subst ho
  rfl
end Go.Md
namespace Go.Md
open Go.Dn
end Go.Md
namespace Go.Md
open Go.Dn
end Go.Md
namespace Go.Md
open Go.Dn
def RX (D:Int) (S:Nat→Prop) (ar:List Bd):Prop:=∀ i x,S i→ar[i]? =some x→done x=0∨D<done x
theorem RX.set {D:Int} {S:Nat→Prop} {ar:List Bd} {h:Nat} {x y:Bd} (hq:RX D S ar) (hx:ar[h]? =some x) (hy:(done x=0∨D<done x)→(done y=0∨D<done y)):RX D S (ar.set h y):=by
 intro i z hi hz
 by_cases e:h=i
 ·subst e
  rw[Ig hx] at hz
  cases hz
  exact hy (hq h x hi hx)
 ·rw[aa7 e] at hz
  exact hq i z hi hz
end Go.Md
namespace Go.Md
open Go.Dn
instance (d:ah):Decidable (fq d):=by unfold fq;infer_instance
end Go.Md
