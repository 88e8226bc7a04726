/-
  Plain facts, a part. No condition.
-/
import Derived.Test.YtakjkcibbeeekaaGreatDoorYh
import Derived.Test.YtakjkcibbeeekaaGreatDoorYf
set_option linter.all false
namespace Go.Md
open Go.Dn
def Ju {α σ β:Type} (g:σ->Nat->α->(σ->Option β)->Option β) (fin:σ->Option β):List α->Nat->σ->Option β
 | [],_,s=>fin s
 | y::r,i,s=>g s i y fun s'=>Ju g fin r (i+1) s'
theorem VU {X α σ β:Type} {f:X->(X->Option β)->Option β} (mk:σ->Nat->X) (l:List α) (g:σ->Nat->α->(σ->Option β)->Option β) (fin:σ->Option β) (hstep:∀ s i y again,l[i]? =some y->f (mk s i) again=g s i y fun s'=>again (mk s' (i+1))) (hend:∀ s again,f (mk s l.length) again=fin s): ∀ (r:List α) (i:Nat) (s:σ) (n:Nat),l.drop i=r->i<=l.length->r.length<n->iter n (mk s i) f=Ju g fin r i s
 | _,_,_,0,_,_,hn=>absurd hn (ajs _)
 | [],i,s,n+1,hd,hi,_=>by
  have:i=l.length:=by
   have:=congrArg List.length hd
   simp at this;omega
  subst this
  exact hend s _
 | y::r,i,s,n+1,hd,hi,hn=>by
  have hy:l[i]? =some y:=by
   have:=congrArg (·[0]?) hd
   simpa [ah7] using this
  have hr:l.drop (i+1)=r:=by
   have:=congrArg List.tail hd
   simpa [aiU] using this
  have hi':i<l.length:=(aia.1 hy).1
  show f (mk s i) _=_
  rw[hstep s i y _ hy]
  show g s i y _=g s i y _
  congr 1
  funext s'
  exact VU mk l g fin hstep hend r (i+1) s' n hr hi' (by simp at hn;omega)
theorem RA {X α σ β:Type} {f:X->(X->Option β)->Option β} (mk:σ->Nat->X) (l:List α) (g:σ->Nat->α->(σ->Option β)->Option β) (fin:σ->Option β) (hstep:∀ s i y again,l[i]? =some y->f (mk s i) again=g s i y fun s'=>again (mk s' (i+1))) (hend:∀ s again,f (mk s l.length) again=fin s) (s:σ) (n:Nat) (hn:l.length<n):iter n (mk s 0) f=Ju g fin l 0 s:=
 VU mk l g fin hstep hend l 0 s n rfl (ajy _) hn
theorem bX {X β:Type} {f:X->(X->Option β)->Option β} (Inv:Nat->X->Prop) (N:Nat) (Q:Option β->Prop) (step:∀ i x again,i<N->Inv i x->(∀ y,Inv (i+1) y->Q (again y))->Q (f x again)) (fin:∀ x again,Inv N x->Q (f x again)):∀ n i x,Inv i x->i<=N->N - i<n->Q (iter n x f)
 | 0,_,_,_,_,hn=>absurd hn (ajs _)
 | n+1,i,x,hx,hi,hn=>by
  show Q (f x _)
  by_cases h:i=N
  ·subst h;exact fin x _ hx
  ·exact step i x _ (by omega) hx fun y hy=>bX Inv N Q step fin n (i+1) y hy (by omega) (by omega)
theorem ze {X β:Type} {f:X->(X->Option β)->Option β} (Inv:X->Prop) (μ:X->Nat) (Q:X->Option β->Prop) (step:∀ x again,Inv x->(∀ y,Inv y->μ y<μ x->Q y (again y))->Q x (f x again)):∀ n x,Inv x->μ x<n->Q x (iter n x f)
 | 0,_,_,hn=>absurd hn (ajs _)
 | n+1,x,hx,hn=>step x _ hx fun y hy h=>ze Inv μ Q step n y hy (by omega)
theorem acy:maxLen=9223372036854775807:=rfl
theorem bg {β:Type} {b:Bool} (h:b=true) (x:Option β):chk b x=x:=by rw[h];rfl
theorem u7 {n k:Nat} (h:n*k<=140737488355328) (h2:n<=9223372036854775807):(decide (n*k<=140737488355328)&&decide (n<=maxLen))=true:=by
 simp only[ag1,ajS];rw[acy];omega
theorem aB {α:Type} {p:Prop} [Decidable p] (h:p) (x y:α):(bif decide p then x else y)=x:=by rw[ajR h];rfl
theorem az {α:Type} {p:Prop} [Decidable p] (h:¬p) (x y:α):(bif decide p then x else y)=y:=by rw[ajQ h];rfl
theorem lI {β γ:Type} (r:β) (f:γ->Option β):aG (some (Sum.inl r)) f=some r:=rfl
theorem aS {β γ:Type} (v:γ) (f:γ->Option β):aG (β:=β) (some (Sum.inr v)) f=f v:=rfl
theorem aJ {α:Type} {l:List α} {i:Nat} (h:i<l.length):l[i]? =some (l[i]'h):=ah8 h
theorem YZ {k:IntKind} {n:Int} (h1:k.min<=n) (h2:n<=k.max):k.wrap n=n:=by
 cases k<;>simp[IntKind.wrap,IntKind.min,IntKind.max,IntKind.bits,IntKind.signed] at* <;>(try split)<;>omega
theorem ax {n:Int} (h1: -9223372036854775808<=n) (h2:n<=9223372036854775807):w64 n=n:=YZ h1 h2
theorem dW {n:Int} (h1:0<=n) (h2:n<=18446744073709551615):cg n=n:=YZ h1 h2
theorem EA {n:Int} (h1:0<=n) (h2:n<=4294967295):pz n=n:=YZ h1 h2
theorem Ib (n:Int):cg n=n % 18446744073709551616:=by simp[cg,IntKind.wrap,IntKind.bits,IntKind.signed]
theorem EB (n:Int):pz n=n % 4294967296:=by simp[pz,IntKind.wrap,IntKind.bits,IntKind.signed]
theorem bq {α:Type} (l:List α) (i:Nat):idx l (i:Int)=l[i]? :=by simp[idx]
end Go.Md
namespace Go.Md
open Go.Dn
theorem YS {α:Type} (A B:List α) (x y:α):((A++y::x::B).set (A.length+1) y).set A.length x=A++x::y::B:=by
 induction A with
 | nil=>rfl
 | cons a A ih=>simp only[ahN,ain,aiR,ih]
theorem adh {α:Type} (A B:List α) (x y:α):((A++x::y::B).set A.length y).set (A.length+1) x=A++y::x::B:=by
 induction A with
 | nil=>rfl
 | cons a A ih=>simp only[ahN,ain,aiR,ih]
theorem get_at {α:Type} (A B:List α) (y:α):(A++y::B)[A.length]? =some y:=by simp
theorem Pp {α:Type} (A B:List α) (x y:α):(A++y::x::B)[A.length+1]? =some x:=by simp
theorem uF {α:Type} {l:List α} {n:Nat} (h:n<=l.length):∃ A B,l=A++B/\A.length=n:=⟨l.take n,l.drop n,by simp,by simp;omega⟩
section
variable {k:Option Nat->Int} {ar:List IZ} {ok:Option Nat->Prop}
end
end Go.Md
namespace Go.Md
open Go.Dn
theorem Vn {α:Type} (A B:List α) (x y:α):(A++x::B).set A.length y=A++y::B:=by
 induction A with
 | nil=>rfl
 | cons a A ih=>simp only[ahN,ain,aiR,ih]
section
variable {k:Option Nat->Int} {ar:List IZ} {ok:Option Nat->Prop}
end
end Go.Md
namespace Go.Md
open Go.Dn
theorem Pt (i j:Nat) (h:i+j<4000000000000000000):w64 (Int.fdiv (cg (w64 ((i:Int)+(j:Int)))) (2 ^ 1))=(((i+j) / 2:Nat):Int):=by
 rw[ax (n:=(i:Int)+(j:Int)) (by omega) (by omega),dW (by omega) (by omega),ahl _ (by omega),ax (by omega) (by omega)]
 omega
theorem aeu {α:Type} (X L R Y:List α) {i:Nat} (h:i<L.length):(X++L++R++Y)[X.length+i]? =some L[i]:=by
 rw[ahL,ahL,ah4 (by omega),ah3 (by omega),show X.length+i - X.length=i by omega,ah8 h]
theorem aaO {α:Type} (X L R Y:List α) {i:Nat} (h:i<R.length):(X++L++R++Y)[X.length+L.length+i]? =some R[i]:=by
 rw[ahL,ahL,ah4 (by omega),ah4 (by omega),ah3 (by omega),show X.length+L.length+i - X.length - L.length=i by omega,ah8 h]
section
variable {k:Option Nat->Int} {ar:List IZ} {ok:Option Nat->Prop}
end
end Go.Md
set_option linter.all false
namespace Go.Md.SP
open Go.Dn Go.Md
structure dn (k:Int->Int) (l l':List Int):Prop where
 perm:l.Perm l'
section
variable {k:Int->Int} {ar:List aj} {ok:Int->Prop}
theorem dn.refl (k:Int->Int) (l:List Int):dn k l l:=⟨List.Perm.refl _⟩
theorem dn.trans {a b c:List Int} (h:dn k a b) (g:dn k b c):dn k a c:=⟨h.perm.trans g.perm⟩
theorem dn.append {a b c d:List Int} (h:dn k a b) (g:dn k c d):dn k (a++c) (b++d):=⟨h.perm.append g.perm⟩
theorem dn.mem {a b:List Int} (h:dn k a b) {x:Int}:x∈b↔x∈a:=h.perm.mem_iff.symm
theorem dn.length {a b:List Int} (h:dn k a b):b.length=a.length:=h.perm.length_eq.symm
theorem dn.swap {u v:List Int}:dn k (u++v) (v++u):=⟨List.perm_append_comm⟩
def Srt (_:Int->Int) (_:List Int):Prop:=True
theorem Srt.left {a b:List Int} (_:Srt k (a++b)):Srt k a:=trivial
theorem Srt.right {a b:List Int} (_:Srt k (a++b)):Srt k b:=trivial
def ChS (_:Int->Int) (_:Nat) (_:List Int):Prop:=True
theorem ChS.nil (k:Int->Int) (n:Nat):ChS k n []:=trivial
theorem adJ {P2 P3:List Int} {x:Int}:Srt k (P2++x::P3)/\dn k (P2++P3++[x]) (P2++x::P3):=by
 refine⟨trivial, ?_⟩
 rw[ahL]
 exact (dn.refl k P2).append (by simpa using dn.swap (k:=k) (u:=P3) (v:=[x]))
theorem GR {X β:Type} {f:X->(X->Option β)->Option β} (mk:Nat->Nat->X) (fin:Nat->Option β) (lo hi:Nat) (hstep:∀ i j again,lo<=i->i<j->j<=hi->f (mk i j) again=again (mk ((i+j) / 2+1) j)\/f (mk i j) again=again (mk i ((i+j) / 2))) (hend:∀ i again,lo<=i->i<=hi->f (mk i i) again=fin i): ∀ n i j,j - i<n->lo<=i->i<=j->j<=hi->∃ r,iter n (mk i j) f=fin r/\lo<=r/\r<=hi
 | 0,i,j,hn,_,_,_=>by omega
 | n+1,i,j,hn,h1,h2,h3=>by
  rw[bR]
  by_cases hij:i=j
  ·subst hij
   exact⟨i,hend i _ h1 h3,h1,h3⟩
  ·rcases hstep i j (fun y=>iter n y f) h1 (by omega) h3 with h | h<;>rw[h]
   ·exact GR mk fin lo hi hstep hend n _ _ (by omega) (by omega) (by omega) h3
   ·exact GR mk fin lo hi hstep hend n _ _ (by omega) h1 (by omega) (by omega)
def Bl (_k:Int->Int) (ar:List aj) (ok:Int->Prop):Prop:=∀ a b,ok a->ok b->∃ c,pq a b ar=some (c,())
theorem acd (hc:Bl k ar ok) (a:Nat) (bI:Int) (iI:Int) (X:List Int) (hX:X.length=a):∀ (n:Nat) (P1:List Int) (x:Int) (B:List Int),P1.length<n->(X++P1++x::B).length<1000000000->ok x->(∀ y∈P1,ok y)-> ∃ P2 P3,P1=P2++P3/\ iter (X:=gG) (β:=gD) n ((a:Int),bI,ar,iI,((a+P1.length:Nat):Int),X++P1++x::B,()) gB=some (Sum.inr ((a:Int),bI,ar,iI,X++P2++x::(P3++B),())):=by
 intro n
 induction n with
 | zero=>intro P1 x B h;omega
 | succ n ih=>
  intro P1 x B hn hlen hx hP
  rw[bR]
  generalize hag:(fun y=>iter n y gB)=again
  unfold gB
  dsimp only
  rcases List.eq_nil_or_concat P1 with rfl | ⟨P,y,rfl⟩
  ·rw[az (by simp)]
   exact⟨[],[],rfl,by simp⟩
  ·rw[List.concat_eq_append] at*
   simp only[aim,ain,aip] at hlen hn ⊢
   have e1:w64 (((a+(P.length+1):Nat):Int) - 1)=(((X++P).length:Nat):Int):=by rw[ax (by omega) (by omega)];simp[hX];omega
   have e2:(((a+(P.length+1):Nat):Int))=(((X++P).length+1:Nat):Int):=by simp[hX];omega
   have el:X++(P++[y])++x::B=(X++P)++y::x::B:=by simp
   obtain⟨c,hcc⟩:=hc x y hx (hP y (by simp))
   rw[aB (by omega),e1,e2,el]
   simp only[ahC,get_at,Pp,ajA,hcc]
   rw[bg (by simp only[ag1,ajS,aim,ain,aiq,aip];omega),bg (by simp only[ag1,ajS,aim,ain,aiq,aip];omega)]
   by_cases hk:c<0
   ·rw[aB hk,bg (by simp only[ag1,ajS,aim,ain,aiq,aip];omega),bg (by simp only[ag1,ajS,aim,ain,aiq,aip];omega),bg (by simp only[ag1,ajS,aim,ain,aiq,aip];omega),
     bg (by simp only[ag1,ajS,aim,ain,aiq,aip];omega)]
    have hg:(((X++P)++y::x::B).set ((X++P).length+1) y)[(X++P).length]? =some y:=by rw[aif (by omega),get_at]
    rw[hg,ajA,YS, <- hag]
    obtain⟨P2,P3,h1,h4⟩:=ih P x (y::B) (by omega) (by simp;omega) hx (fun z hz=>hP z (by simp[hz]))
    refine⟨P2,P3++[y],by rw[h1];simp, ?_⟩
    ·have e3:(((X++P).length:Nat):Int)=((a+P.length:Nat):Int):=by simp[hX]
     rw[e3]
     show iter n _ _=_
     rw[h4];simp
   ·rw[az hk]
    exact⟨P++[y],[],by simp,by simp⟩
theorem Om (hc:Bl k ar ok) (X S Y:List Int) (hlen:(X++S++Y).length<1000000000) (hok:∀ y∈S,ok y): ∃ S',fI (X++S++Y) (X.length:Int) ((X.length+S.length:Nat):Int) ar=some (X++S'++Y,())/\Srt k S'/\dn k S S':=by
 simp only[aim] at hlen
 have loop:∀ (n:Nat) (Q P:List Int) (l:List Int),Q.length<n->l=X++P++Q++Y->P.length+Q.length=S.length->Srt k P->(∀ y∈P,ok y)->(∀ y∈Q,ok y)->
  ∃ S',iter (X:=gE) (β:=gC) n ((X.length:Int),((X.length+S.length:Nat):Int),ar,((X.length+P.length:Nat):Int),l,()) eA=some (Sum.inr (X++S'++Y,()))/\Srt k S'/\dn k (P++Q) S':=by
  intro n
  induction n with
  | zero=>intro Q P l h;omega
  | succ n ih=>
   intro Q P l hn hl hPQ hs hokP hokQ
   rw[bR]
   generalize hag:(fun y=>iter n y eA)=again
   unfold eA
   dsimp only
   cases Q with
   | nil=>
    rw[az (by simp at hPQ;omega)]
    exact⟨P,by rw[hl];simp,hs,by simpa using dn.refl k P⟩
   | cons x Q=>
    simp only[ain] at hn hPQ
    rw[aB (by omega)]
    have hl':l=X++P++x::(Q++Y):=by rw[hl];simp
    obtain⟨P2,P3,h1,h4⟩:=acd hc X.length ((X.length+S.length:Nat):Int) ((X.length+P.length:Nat):Int) X rfl
     (Int.natAbs (X.length:Int)+(Int.natAbs ((X.length+S.length:Nat):Int)+(Int.natAbs ((X.length+P.length:Nat):Int)+(Int.natAbs ((X.length+P.length:Nat):Int)+(List.length l+2))))) P x (Q++Y) (by omega) (by simp;omega) (hokQ x (by simp)) hokP
    rw[<- hl'] at h4
    rw[h4,aS]
    dsimp only
    have e1:w64 (((X.length+P.length:Nat):Int)+1)=((X.length+(P2++x::P3).length:Nat):Int):=by
     rw[ax (by omega) (by omega),h1];simp;omega
    rw[e1, <- hag]
    rw[h1] at hs hokP
    obtain⟨hs',hsam⟩:=adJ (k:=k) (P2:=P2) (P3:=P3) (x:=x)
    obtain⟨S',g1,g2,g3⟩:=ih Q (P2++x::P3) (X++P2++x::(P3++(Q++Y))) (by omega) (by simp) (by rw[h1] at hPQ;simp at hPQ ⊢;omega) hs' (fun y hy=>by
     rcases hsam.mem.1 hy |> aiy.1 with h | h
     ·exact hokP y h
     ·rw[aiJ.1 h];exact hokQ x (by simp)) (fun y hy=>hokQ y (by simp[hy]))
    refine⟨S',g1,g2, ?_⟩
    have:dn k (P++x::Q) (P2++x::P3++Q):=by
     rw[h1]
     have:=hsam.append (dn.refl k Q)
     simpa using this
    exact this.trans g3
 unfold fI
 cases S with
 | nil=>
  have e1:w64 ((X.length:Int)+1)=((X.length+1:Nat):Int):=by rw[ax (by omega) (by omega)];omega
  rw[e1]
  obtain⟨n,hn⟩:∃ n,(Int.natAbs (X.length:Int)+(Int.natAbs ((X.length+([]:List Int).length:Nat):Int)+(Int.natAbs ((X.length+1:Nat):Int)+(List.length (X++[]++Y)+2))))=n+1:=⟨_,rfl⟩
  rw[hn,bR]
  unfold eA
  dsimp only
  rw[az (by simp;omega)]
  exact⟨[],rfl,trivial,dn.refl _ _⟩
 | cons x S=>
  have e1:w64 ((X.length:Int)+1)=((X.length+[x].length:Nat):Int):=by rw[ax (by omega) (by omega)];simp
  rw[e1]
  obtain⟨S',g1,g2,g3⟩:=loop (Int.natAbs (X.length:Int)+(Int.natAbs ((X.length+(x::S).length:Nat):Int)+(Int.natAbs ((X.length+[x].length:Nat):Int)+(List.length (X++(x::S)++Y)+2)))) S [x] (X++(x::S)++Y) (by simp;omega) (by simp) (by simp;omega) trivial (fun y hy=>hok y (by simp at hy;simp[hy])) (fun y hy=>hok y (by simp[hy]))
  rw[g1,aS]
  exact⟨S',rfl,g2,by simpa using g3⟩
theorem HY (X M Y:List Int):∀ (P Q:List Int),P.length=Q.length->(X++P++M++Q++Y).length<1000000000-> fq (X++P++M++Q++Y) (X.length:Int) ((X.length+P.length+M.length:Nat):Int) (P.length:Int) ar=some (X++Q++M++P++Y,()):=by
 intro P Q hPQ hlen
 simp only[aim] at hlen
 have loop:∀ (n:Nat) (P1 P2 Q1 Q2:List Int) (l:List Int),P2.length<n->P1.length+P2.length=P.length->P1.length=Q1.length->P2.length=Q2.length->l=X++P1++P2++M++Q1++Q2++Y->
  iter (X:=iQ) (β:=iP) n ((X.length:Int),((X.length+P.length+M.length:Nat):Int),(P.length:Int),(P1.length:Int),l,()) iO=some (Sum.inr (X++P1++Q2++M++Q1++P2++Y,())):=by
  intro n
  induction n with
  | zero=>intro P1 P2 Q1 Q2 l h;omega
  | succ n ih=>
   intro P1 P2 Q1 Q2 l hn h1 h2 h3 hl
   rw[bR]
   generalize hag:(fun y=>iter n y iO)=again
   unfold iO
   dsimp only
   cases P2 with
   | nil=>
    have:Q2=[]:=ahV (by simpa using h3.symm)
    subst this
    rw[az (by simp at h1;omega),hl]
   | cons p P2=>
    cases Q2 with
    | nil=>simp at h3
    | cons q Q2=>
     simp only[ain] at hn h1 h3
     have ll:l.length=X.length+P.length+M.length+Q.length+Y.length:=by rw[hl];simp;omega
     have e1:w64 (((X.length+P.length+M.length:Nat):Int)+(P1.length:Int))=(((X++P1++p::P2++M++Q1).length:Nat):Int):=by rw[ax (by omega) (by omega)];simp;omega
     have e2:w64 ((X.length:Int)+(P1.length:Int))=(((X++P1).length:Nat):Int):=by rw[ax (by omega) (by omega)];simp
     have l1:l=(X++P1++p::P2++M++Q1)++q::(Q2++Y):=by rw[hl];simp
     have l2:l=(X++P1)++p::(P2++M++Q1++q::(Q2++Y)):=by rw[hl];simp
     have g1:l[(X++P1++p::P2++M++Q1).length]? =some q:=by rw[l1];exact get_at _ _ _
     have g2:l[(X++P1).length]? =some p:=by rw[l2];exact get_at _ _ _
     have g3:l.set (X++P1).length q=(X++P1++q::P2++M++Q1)++q::(Q2++Y):=by
      rw[l2,Vn];simp
     have hlq:(X++P1++p::P2++M++Q1).length=(X++P1++q::P2++M++Q1).length:=by simp
     have g4:(l.set (X++P1).length q)[(X++P1++p::P2++M++Q1).length]? =some q:=by rw[g3,hlq];exact get_at _ _ _
     have g5:(l.set (X++P1).length q).set (X++P1++p::P2++M++Q1).length p=X++(P1++[q])++P2++M++(Q1++[p])++Q2++Y:=by rw[g3,hlq,Vn];simp
     rw[aB (by omega),e1,e2]
     simp only[ahC,g1,g2,g4,g5,ajA,aiq,ll]
     have lq:(X++P1++p::P2++M++Q1).length<X.length+P.length+M.length+Q.length+Y.length:=by simp;omega
     have lp:(X++P1).length<X.length+P.length+M.length+Q.length+Y.length:=by simp;omega
     rw[bg (by simp only[ag1,ajS];omega),bg (by simp only[ag1,ajS];omega),bg (by simp only[ag1,ajS];omega),bg (by simp only[ag1,ajS];omega)]
     have e3:w64 ((P1.length:Int)+1)=(((P1++[q]).length:Nat):Int):=by rw[ax (by omega) (by omega)];simp
     rw[e3, <- hag]
     show iter n _ _=_
     rw[ih (P1++[q]) P2 (Q1++[p]) Q2 _ (by omega) (by simp;omega) (by simp;omega) (by omega) rfl]
     simp
 unfold fq
 rw[show (0:Int)=((([]:List Int).length:Nat):Int) from rfl,loop _ [] P [] Q (X++P++M++Q++Y) (by simp;omega) (by simp) rfl hPQ (by simp),aS]
 simp
theorem ZA (m:Nat):∀ (n:Nat) (X U V Y:List Int),U.length+V.length<n->0<U.length->0<V.length->X.length+U.length=m->(X++U++V++Y).length<1000000000-> ∃ (X' U' V' Y':List Int),iter (X:=jX) (β:=jW) n ((m:Int),ar,(U.length:Int),(V.length:Int),X++U++V++Y,()) jV=some (Sum.inr ((m:Int),ar,(U'.length:Int),X'++U'++V'++Y',()))/\U'.length=V'.length/\X'.length+U'.length=m/\X'++V'++U'++Y'=X++V++U++Y/\(X'++U'++V'++Y').length<1000000000:=by
 intro n
 induction n with
 | zero=>intro X U V Y h;omega
 | succ n ih=>
  intro X U V Y hn hU hV hm hlen
  rw[bR]
  generalize hag:(fun y=>iter n y jV)=again
  unfold jV
  dsimp only
  by_cases he:U.length=V.length
  ·have hb:((U.length:Int) != (V.length:Int))=false:=by simp[he]
   rw[hb,ajN]
   exact⟨X,U,V,Y,rfl,he,hm,rfl,hlen⟩
  ·have hb:((U.length:Int) != (V.length:Int))=true:=by simp;omega
   rw[hb,ajO]
   simp only[aim] at hlen
   have e1:w64 ((m:Int) - (U.length:Int))=(X.length:Int):=by rw[ax (by omega) (by omega)];omega
   rw[e1]
   by_cases hgt:V.length<U.length
   ·rw[aB (by omega)]
    obtain⟨U1,U2,rfl,hU1⟩:=uF (l:=U) (n:=V.length) (by omega)
    simp only[aim] at*
    have hsw:=HY (ar:=ar) X U2 Y U1 V hU1 (by simp;omega)
    rw[show ((X.length+U1.length+U2.length:Nat):Int)=(m:Int) by omega,hU1] at hsw
    rw[show X++(U1++U2)++V++Y=X++U1++U2++V++Y by simp,hsw,ajA]
    have e2:w64 (((U1.length+U2.length:Nat):Int) - (V.length:Int))=(U2.length:Int):=by rw[ax (by omega) (by omega)];omega
    rw[e2, <- hag]
    obtain⟨X',U',V',Y',h1,h2,h3,h4,h5⟩:=ih (X++V) U2 U1 Y (by omega) (by omega) (by omega) (by simp;omega) (by simp;omega)
    refine⟨X',U',V',Y', ?_,h2,h3,by rw[h4];simp,h5⟩
    rw[<- hU1]
    exact h1
   ·rw[az (by omega)]
    obtain⟨V1,V2,rfl,hV1⟩:=uF (l:=V) (n:=V.length - U.length) (by omega)
    simp only[aim] at*
    have e3:w64 (w64 ((m:Int)+((V1.length+V2.length:Nat):Int)) - (U.length:Int))=((X.length+U.length+V1.length:Nat):Int):=by
     rw[ax (n:=(m:Int)+((V1.length+V2.length:Nat):Int)) (by omega) (by omega),ax (by omega) (by omega)];omega
    have hsw:=HY (ar:=ar) X V1 Y U V2 (by omega) (by simp;omega)
    rw[e3,show X++U++(V1++V2)++Y=X++U++V1++V2++Y by simp,hsw,ajA]
    have e2:w64 (((V1.length+V2.length:Nat):Int) - (U.length:Int))=(V1.length:Int):=by rw[ax (by omega) (by omega)];omega
    rw[e2, <- hag]
    obtain⟨X',U',V',Y',h1,h2,h3,h4,h5⟩:=ih X V2 V1 (U++Y) (by omega) (by omega) (by omega) (by omega) (by simp;omega)
    refine⟨X',U',V',Y', ?_,h2,h3,by rw[h4];simp,h5⟩
    rw[show ((U.length:Nat):Int)=(V2.length:Int) by omega,show X++V2++V1++U++Y=X++V2++V1++(U++Y) by simp]
    exact h1
theorem acZ (X U V Y:List Int) (hU:0<U.length) (hV:0<V.length) (hlen:(X++U++V++Y).length<1000000000): mL (X++U++V++Y) (X.length:Int) ((X.length+U.length:Nat):Int) ((X.length+U.length+V.length:Nat):Int) ar=some (X++V++U++Y,()):=by
 unfold mL
 simp only[aim] at hlen
 have e1:w64 (((X.length+U.length:Nat):Int) - (X.length:Int))=(U.length:Int):=by rw[ax (by omega) (by omega)];omega
 have e2:w64 (((X.length+U.length+V.length:Nat):Int) - ((X.length+U.length:Nat):Int))=(V.length:Int):=by rw[ax (by omega) (by omega)];omega
 rw[e1,e2]
 obtain⟨X',U',V',Y',h1,h2,h3,h4,h5⟩:=ZA (ar:=ar) (X.length+U.length) (Int.natAbs ((X.length+U.length:Nat):Int)+(Int.natAbs (U.length:Int)+(Int.natAbs (V.length:Int)+(List.length (X++U++V++Y)+2)))) X U V Y (by omega) hU hV rfl (by simp;omega)
 rw[h1,aS]
 dsimp only
 simp only[aim] at h5
 have e3:w64 (((X.length+U.length:Nat):Int) - (U'.length:Int))=(X'.length:Int):=by rw[ax (by omega) (by omega)];omega
 have hsw:=HY (ar:=ar) X' [] Y' U' V' h2 (by simp;omega)
 simp only[ahM,aip,ai5] at hsw
 rw[e3,show ((X.length+U.length:Nat):Int)=((X'.length+U'.length:Nat):Int) by omega,hsw,ajA,h4]
theorem afc (i:Nat):∀ (n:Nat) (A V Y:List Int) (x:Int),V.length<n->A.length+1+V.length=i->(A++x::V++Y).length<1000000000-> iter (X:=jl) (β:=jj) n ((i:Int),(A.length:Int),A++x::V++Y,()) jh=some (Sum.inr (A++V++x::Y,())):=by
 intro n
 induction n with
 | zero=>intro A V Y x h;omega
 | succ n ih=>
  intro A V Y x hn hi hlen
  rw[bR]
  generalize hag:(fun y=>iter n y jh)=again
  unfold jh
  dsimp only
  simp only[aim,ain] at hlen
  have e0:w64 ((i:Int) - 1)=(i:Int) - 1:=ax (by omega) (by omega)
  rw[e0]
  cases V with
  | nil=>rw[az (by simp at hi;omega)];simp
  | cons v V=>
   simp only[ain] at hn hi hlen
   have e1:w64 ((A.length:Int)+1)=((A.length+1:Nat):Int):=by rw[ax (by omega) (by omega)];omega
   have el:A++x::(v::V)++Y=A++x::v::(V++Y):=by simp
   have hg:((A++x::v::(V++Y)).set A.length v)[A.length+1]? =some v:=by rw[aif (by omega),Pp]
   rw[aB (by omega),e1,el]
   simp only[ahC,get_at,Pp,ajA,hg,adh,aiq]
   rw[bg (by simp only[ag1,ajS,aim,ain];omega),bg (by simp only[ag1,ajS,aim,ain];omega),bg (by simp only[ag1,ajS,aim,ain];omega),bg (by simp only[ag1,ajS,aim,ain];omega), <- hag]
   have:=ih (A++[v]) V Y x (by omega) (by simp;omega) (by simp;omega)
   simp only[aim,ain,aip,ajx] at this
   show iter n _ _=_
   rw[show A++v::x::(V++Y)=A++[v]++x::V++Y by simp,this]
   simp
theorem acF (A:List Int):∀ (n:Nat) (U Y:List Int) (y:Int),U.length<n->(A++U++y::Y).length<1000000000-> iter (X:=iW) (β:=iT) n ((A.length:Int),((A.length+U.length:Nat):Int),A++U++y::Y,()) iR=some (Sum.inr (A++y::U++Y,())):=by
 intro n
 induction n with
 | zero=>intro U Y y h;omega
 | succ n ih=>
  intro U Y y hn hlen
  rw[bR]
  generalize hag:(fun y=>iter n y iR)=again
  unfold iR
  dsimp only
  simp only[aim,ain] at hlen
  rcases List.eq_nil_or_concat U with rfl | ⟨V,u,rfl⟩
  ·rw[az (by simp)];simp
  ·rw[List.concat_eq_append] at*
   simp only[aim,ain,aip] at hn hlen ⊢
   have e1:w64 (((A.length+(V.length+(0+1)):Nat):Int) - 1)=(((A++V).length:Nat):Int):=by rw[ax (by omega) (by omega)];simp;omega
   have e2:((A.length+(V.length+(0+1)):Nat):Int)=(((A++V).length+1:Nat):Int):=by simp;omega
   have el:A++(V++[u])++y::Y=(A++V)++u::y::Y:=by simp
   have hg:(((A++V)++u::y::Y).set ((A++V).length+1) u)[(A++V).length]? =some u:=by rw[aif (by omega),get_at]
   rw[aB (by omega),e1,e2,el]
   simp only[ahC,get_at,Pp,ajA,hg,YS,aiq]
   rw[bg (by simp only[ag1,ajS,aim,ain];omega),bg (by simp only[ag1,ajS,aim,ain];omega),bg (by simp only[ag1,ajS,aim,ain];omega),bg (by simp only[ag1,ajS,aim,ain];omega), <- hag]
   have:=ih V (u::Y) y (by omega) (by simp;omega)
   show iter n _ _=_
   rw[show (((A++V).length:Nat):Int)=((A.length+V.length:Nat):Int) by simp,this]
   simp
theorem U9 (hc:Bl k ar ok) (X R Y:List Int) (x:Int) (hlen:(X++[x]++R++Y).length<1000000000) (hR:Srt k R) (hx:ok x) (hok:∀ y∈R,ok y) (n:Nat) (hn:R.length<n): ∃ R1 R2,R=R1++R2/\iter (X:=jk) (β:=ji) n ((X.length:Int),ar,((X.length+1:Nat):Int),((X.length+1+R.length:Nat):Int),X++[x]++R++Y,()) gx=some (Sum.inr ((X.length:Int),((X.length+1+R1.length:Nat):Int),X++[x]++R++Y,())):=by
 simp only[aim,ain,aip] at hlen
 have hx0:(X++[x]++R++Y)[X.length]? =some x:=by simp
 have hRt:∀ i (h:i<R.length),(X++[x]++R++Y)[X.length+1+i]? =some R[i]:=fun i h=>aaO X [x] R Y h
 obtain⟨r,h1,h2,h3⟩:=GR (f:=gx) (fun i j=>((X.length:Int),ar,(i:Int),(j:Int),X++[x]++R++Y,())) (fun i=>some (Sum.inr ((X.length:Int),(i:Int),X++[x]++R++Y,())))
  (X.length+1) (X.length+1+R.length) (by
    intro i j again hi hij hj
    unfold gx
    dsimp only
    have hh:(i+j) / 2 - (X.length+1)<R.length:=by omega
    have hg:=hRt _ hh
    rw[show X.length+1+((i+j) / 2 - (X.length+1))=(i+j) / 2 by omega] at hg
    rw[aB (by omega),Pt i j (by omega)]
    simp only[ahC,hg,hx0,ajA]
    obtain⟨c,hcc⟩:=hc R[(i+j) / 2 - (X.length+1)] x (hok _ (ail _)) hx
    rw[hcc,bg (by simp only[ag1,ajS,aim,ain];omega),bg (by simp only[ag1,ajS,aim,ain];omega),ajA]
    dsimp only
    by_cases hk:c<0
    ·left;rw[aB hk,ax (by omega) (by omega)];rfl
    ·right;rw[az hk])
  (by
    intro i again _ _
    unfold gx
    dsimp only
    rw[az (by omega)])
  n (X.length+1) (X.length+1+R.length) (by omega) (ajc _) (by omega) (ajc _)
 obtain⟨R1,R2,rfl,hR1⟩:=uF (l:=R) (n:=r - (X.length+1)) (by omega)
 refine⟨R1,R2,rfl, ?_⟩
 rw[h1,show X.length+1+R1.length=r by omega]
theorem Tr (hc:Bl k ar ok) (X L Y:List Int) (y:Int) (hlen:(X++L++[y]++Y).length<1000000000) (hL:Srt k L) (hy:ok y) (hok:∀ z∈L,ok z) (n:Nat) (hn:L.length<n): ∃ L1 L2,L=L1++L2/\iter (X:=iV) (β:=iS) n (((X.length+L.length:Nat):Int),ar,(X.length:Int),((X.length+L.length:Nat):Int),X++L++[y]++Y,()) fS=some (Sum.inr (((X.length+L.length:Nat):Int),((X.length+L1.length:Nat):Int),X++L++[y]++Y,())):=by
 simp only[aim,ain,aip] at hlen
 have hy0:(X++L++[y]++Y)[X.length+L.length]? =some y:=by
  have:=aaO X L [y] Y (i:=0) (by simp)
  simpa using this
 have hLt:∀ i (h:i<L.length),(X++L++[y]++Y)[X.length+i]? =some L[i]:=fun i h=>aeu X L [y] Y h
 obtain⟨r,h1,h2,h3⟩:=GR (f:=fS) (fun i j=>(((X.length+L.length:Nat):Int),ar,(i:Int),(j:Int),X++L++[y]++Y,())) (fun i=>some (Sum.inr (((X.length+L.length:Nat):Int),(i:Int),X++L++[y]++Y,())))
  X.length (X.length+L.length) (by
   intro i j again hi hij hj
   unfold fS
   dsimp only
   have hh:(i+j) / 2 - X.length<L.length:=by omega
   have hg:=hLt _ hh
   rw[show X.length+((i+j) / 2 - X.length)=(i+j) / 2 by omega] at hg
   rw[aB (by omega),Pt i j (by omega)]
   simp only[ahC,hg,hy0,ajA]
   obtain⟨c,hcc⟩:=hc y L[(i+j) / 2 - X.length] hy (hok _ (ail _))
   rw[hcc,bg (by simp only[ag1,ajS,aim,ain];omega),bg (by simp only[ag1,ajS,aim,ain];omega),ajA]
   dsimp only
   by_cases hk:c<0
   ·right;rw[ajR hk,ahd,ajN]
   ·left;rw[ajQ hk,ahc,ajO,ax (by omega) (by omega)];rfl)
  (by
    intro i again _ _
    unfold fS
    dsimp only
    rw[az (by omega)])
  n X.length (X.length+L.length) (by omega) (ajc _) (by omega) (ajc _)
 obtain⟨L1,L2,rfl,hL1⟩:=uF (l:=L) (n:=r - X.length) (by omega)
 refine⟨L1,L2,rfl, ?_⟩
 rw[h1,show X.length+L1.length=r by omega]
theorem Yu (hc:Bl k ar ok) (X L R Y:List Int) (hlen:(X++L++R++Y).length<1000000000) (hL:Srt k L) (hR:Srt k R) (hokL:∀ z∈L,ok z) (hokR:∀ z∈R,ok z) (mid lo hi:Nat) (hmid:mid=(X.length+(X.length+L.length+R.length)) / 2) (hcase:(mid<X.length+L.length/\lo+R.length=mid/\hi=mid/\X.length<=lo)\/(X.length+L.length<=mid/\lo=X.length/\hi=X.length+L.length)) (n:Nat) (hn:hi<n): ∃ s:Nat,iter (X:=iX) (β:=iU) n ((X.length:Int),((X.length+L.length:Nat):Int),((X.length+L.length+R.length:Nat):Int),ar,(mid:Int),((mid+(X.length+L.length):Nat):Int),(lo:Int),(hi:Int),((mid+(X.length+L.length):Nat):Int) - 1,X++L++R++Y,()) fT=some (Sum.inr ((X.length:Int),((X.length+L.length:Nat):Int),((X.length+L.length+R.length:Nat):Int),ar,(mid:Int),((mid+(X.length+L.length):Nat):Int),(s:Int),X++L++R++Y,()))/\ lo<=s/\s<=hi:=by
 simp only[aim] at hlen
 have hLt:∀ i (h:i<L.length),(X++L++R++Y)[X.length+i]? =some L[i]:=fun i h=>aeu X L R Y h
 have hRt:∀ i (h:i<R.length),(X++L++R++Y)[X.length+L.length+i]? =some R[i]:=fun i h=>aaO X L R Y h
 obtain⟨r,h1,h2,h3⟩:=GR (f:=fT) (fun i j=>((X.length:Int),((X.length+L.length:Nat):Int),((X.length+L.length+R.length:Nat):Int),ar,(mid:Int),((mid+(X.length+L.length):Nat):Int),(i:Int),(j:Int),((mid+(X.length+L.length):Nat):Int) - 1,X++L++R++Y,()))
  (fun s=>some (Sum.inr ((X.length:Int),((X.length+L.length:Nat):Int),((X.length+L.length+R.length:Nat):Int),ar,(mid:Int),((mid+(X.length+L.length):Nat):Int),(s:Int),X++L++R++Y,())))
  lo hi (by
   intro i j again hi1 hij hj
   unfold fT
   dsimp only
   generalize hh0:(i+j) / 2=h
   have hhL:h - X.length<L.length:=by omega
   have hhR:mid - 1 - h<R.length:=by omega
   have hg:=hLt _ hhL
   rw[show X.length+(h - X.length)=h by omega] at hg
   have hg2:=hRt _ hhR
   rw[aB (by omega),Pt i j (by omega),hh0]
   have e1:w64 (((mid+(X.length+L.length):Nat):Int) - 1 - (h:Int))=((X.length+L.length+(mid - 1 - h):Nat):Int):=by rw[ax (by omega) (by omega)];omega
   rw[e1]
   simp only[ahC,hg,hg2,ajA]
   obtain⟨c,hcc⟩:=hc R[mid - 1 - h] L[h - X.length] (hokR _ (ail _)) (hokL _ (ail _))
   rw[hcc,bg (by simp only[ag1,ajS,aim];omega),bg (by simp only[ag1,ajS,aim];omega),ajA]
   dsimp only
   by_cases hk:c<0
   ·right;rw[ajR hk,ahd,ajN]
   ·left;rw[ajQ hk,ahc,ajO,ax (by omega) (by omega)];rfl)
  (by
    intro i again _ _
    unfold fT
    dsimp only
    rw[az (by omega)])
  n lo hi (by omega) (ajc _) (by omega) (ajc _)
 exact⟨r,h1,h2,h3⟩
def YT (self:((List Int)×Int×Int×Int×(List aj)×Unit)->Option ((List Int)×Unit)) (x:(List Int)×Int×Int×Int×(List aj)×Unit):=dF self x.1 x.2.1 x.2.2.1 x.2.2.2.1 x.2.2.2.2.1
set_option maxHeartbeats 4000000 in
theorem YU (hc:Bl k ar ok):∀ (n:Nat) (X L R Y:List Int),L.length+R.length<n+2->0<L.length->0<R.length->(X++L++R++Y).length<1000000000->Srt k L->Srt k R->(∀ z∈L,ok z)->(∀ z∈R,ok z)-> ∃ S,zx YT n (X++L++R++Y,(X.length:Int),((X.length+L.length:Nat):Int),((X.length+L.length+R.length:Nat):Int),ar,())=some (X++S++Y,())/\Srt k S/\dn k (L++R) S:=by
 intro n
 induction n with
 | zero=>intro X L R Y h h1 h2;omega
 | succ n ih=>
  intro X L R Y hn hL0 hR0 hlen hL hR hokL hokR
  have hlen':=hlen
  simp only[aim] at hlen
  show ∃ S,YT (zx YT n) _=_/\_
  generalize hself:zx YT n=self at ih
  unfold YT dF
  dsimp only
  have e1:w64 (((X.length+L.length:Nat):Int) - (X.length:Int))=(L.length:Int):=by rw[ax (by omega) (by omega)];omega
  have e2:w64 (((X.length+L.length+R.length:Nat):Int) - ((X.length+L.length:Nat):Int))=(R.length:Int):=by rw[ax (by omega) (by omega)];omega
  rw[e1,e2]
  by_cases hL1:L.length=1
  ·obtain⟨x,rfl⟩:∃ x,L=[x]:=List.length_eq_one_iff.1 hL1
   rw[show ((([x].length:Nat):Int)==1)=true by simp,ajO]
   obtain⟨R1,R2,rfl,h3⟩:=U9 hc X R Y x hlen' hR (hokL x (by simp)) hokR (Int.natAbs (X.length:Int)+(Int.natAbs ((X.length+[x].length:Nat):Int)+(Int.natAbs ((X.length+[x].length+R.length:Nat):Int)+(List.length (X++[x]++R++Y)+2)))) (by simp;omega)
   simp only[ain,aip,ajx] at h3 ⊢
   rw[h3,aS]
   dsimp only
   have hmv:=afc (X.length+1+R1.length) (Int.natAbs ((X.length+1+R1.length:Nat):Int)+(Int.natAbs (X.length:Int)+(List.length (X++[x]++(R1++R2)++Y)+2))) X R1 (R2++Y) x (by simp;omega) rfl (by simp at hlen ⊢;omega)
   rw[show X++x::R1++(R2++Y)=X++[x]++(R1++R2)++Y by simp] at hmv
   rw[hmv,aS]
   refine⟨R1++x::R2,by simp, ?_, ?_⟩
   ·trivial
   ·have:=(dn.swap (k:=k) (u:=[x]) (v:=R1)).append (dn.refl k R2)
    simpa using this
  ·rw[show (((L.length:Nat):Int)==1)=false by simp;omega,ajN]
   by_cases hR1:R.length=1
   ·obtain⟨y,rfl⟩:∃ x,R=[x]:=List.length_eq_one_iff.1 hR1
    rw[show ((([y].length:Nat):Int)==1)=true by simp,ajO]
    obtain⟨L1,L2,rfl,h3⟩:=Tr hc X L Y y hlen' hL (hokR y (by simp)) hokL (Int.natAbs ((X.length+L.length:Nat):Int)+(Int.natAbs (X.length:Int)+(Int.natAbs ((X.length+L.length:Nat):Int)+(List.length (X++L++[y]++Y)+2)))) (by omega)
    rw[h3,aS]
    dsimp only
    have hmv:=acF (X++L1) (Int.natAbs ((X.length+L1.length:Nat):Int)+(Int.natAbs ((X.length+(L1++L2).length:Nat):Int)+(List.length (X++(L1++L2)++[y]++Y)+2))) L2 Y y (by simp;omega) (by simp at hlen ⊢;omega)
    rw[show X++L1++L2++y::Y=X++(L1++L2)++[y]++Y by simp,show (((X++L1).length:Nat):Int)=((X.length+L1.length:Nat):Int) by simp,show (((X++L1).length+L2.length:Nat):Int)=((X.length+(L1++L2).length:Nat):Int) by simp;omega] at hmv
    rw[hmv,aS]
    refine⟨L1++y::L2,by simp, ?_, ?_⟩
    ·trivial
    ·have:=(dn.refl k L1).append (dn.swap (k:=k) (u:=L2) (v:=[y]))
     simpa using this
   ·rw[show (((R.length:Nat):Int)==1)=false by simp;omega,ajN]
    have eh:=Pt X.length (X.length+L.length+R.length) (by omega)
    rw[eh]
    generalize hmid:(X.length+(X.length+L.length+R.length)) / 2=mid
    have e3:w64 ((mid:Int)+((X.length+L.length:Nat):Int))=((mid+(X.length+L.length):Nat):Int):=by rw[ax (by omega) (by omega)];omega
    rw[e3]
    obtain⟨lo,hi,hcase,hv⟩:∃ lo hi:Nat,((mid<X.length+L.length/\lo+R.length=mid/\hi=mid/\X.length<=lo)\/(X.length+L.length<=mid/\lo=X.length/\hi=X.length+L.length))/\
     (bif decide (((X.length+L.length:Nat):Int)>(mid:Int)) then
       (some (Sum.inr ((X.length:Int),((X.length+L.length:Nat):Int),((X.length+L.length+R.length:Nat):Int),ar,(mid:Int),((mid+(X.length+L.length):Nat):Int),w64 (((mid+(X.length+L.length):Nat):Int) - ((X.length+L.length+R.length:Nat):Int)),(mid:Int),X++L++R++Y,())):Option (((List Int)×Unit) ⊕ (Int×Int×Int×(List aj)×Int×Int×Int×Int×(List Int)×Unit)))
     else some (Sum.inr ((X.length:Int),((X.length+L.length:Nat):Int),((X.length+L.length+R.length:Nat):Int),ar,(mid:Int),((mid+(X.length+L.length):Nat):Int),(X.length:Int),((X.length+L.length:Nat):Int),X++L++R++Y,())))=some (Sum.inr ((X.length:Int),((X.length+L.length:Nat):Int),((X.length+L.length+R.length:Nat):Int),ar,(mid:Int),((mid+(X.length+L.length):Nat):Int),(lo:Int),(hi:Int),X++L++R++Y,())):=by
     by_cases hm:mid<X.length+L.length
     ·refine⟨mid - R.length,mid,.inl ⟨hm,by omega,rfl,by omega⟩, ?_⟩
      rw[aB (by omega),ax (by omega) (by omega),show ((mid+(X.length+L.length):Nat):Int) - ((X.length+L.length+R.length:Nat):Int)=((mid - R.length:Nat):Int) by omega]
     ·refine⟨X.length,X.length+L.length,.inr ⟨by omega,rfl,rfl⟩, ?_⟩
      rw[az (by omega)]
    rw[hv,aS]
    dsimp only
    have e4:w64 (((mid+(X.length+L.length):Nat):Int) - 1)=((mid+(X.length+L.length):Nat):Int) - 1:=ax (by omega) (by omega)
    rw[e4]
    obtain⟨s,h1,h2,h3⟩:=Yu hc X L R Y hlen' hL hR hokL hokR mid lo hi hmid.symm hcase (Int.natAbs (X.length:Int)+(Int.natAbs ((X.length+L.length:Nat):Int)+(Int.natAbs ((X.length+L.length+R.length:Nat):Int)+(Int.natAbs (mid:Int)+(Int.natAbs ((mid+(X.length+L.length):Nat):Int)+(Int.natAbs (lo:Int)+(Int.natAbs (hi:Int)+(Int.natAbs (((mid+(X.length+L.length):Nat):Int) - 1)+(List.length (X++L++R++Y)+2))))))))) (by omega)
    rw[h1,aS]
    dsimp only
    clear h1 hv
    obtain⟨L1,L2,rfl,hL1l⟩:=uF (l:=L) (n:=s - X.length) (by omega)
    obtain⟨R1,R2,rfl,hR1l⟩:=uF (l:=R) (n:=mid - s) (by simp only[aim] at *;omega)
    simp only[aim] at hn hlen hL1 hR1 hmid hcase e1 e2 e3 e4 eh hL0 hR0
    have e5:w64 (((mid+(X.length+(L1++L2).length):Nat):Int) - (s:Int))=((X.length+(L1++L2).length+R1.length:Nat):Int):=by
     rw[ax (by simp;omega) (by simp;omega)];simp only[aim];omega
    rw[e5]
    have hokL1:∀ z∈L1,ok z:=fun z hz=>hokL z (by simp[hz])
    have hokL2:∀ z∈L2,ok z:=fun z hz=>hokL z (by simp[hz])
    have hokR1:∀ z∈R1,ok z:=fun z hz=>hokR z (by simp[hz])
    have hokR2:∀ z∈R2,ok z:=fun z hz=>hokR z (by simp[hz])
    have ph1:∃ S1,(X.length<s->s<mid->self (X++L1++R1++(L2++R2++Y),(X.length:Int),(s:Int),(mid:Int),ar,())=some (X++S1++(L2++R2++Y),()))/\(¬(X.length<s/\s<mid)->S1=L1++R1)/\Srt k S1/\dn k (L1++R1) S1:=by
     by_cases hb:X.length<s/\s<mid
     ·obtain⟨S1,g1,g2,g3⟩:=ih X L1 R1 (L2++R2++Y) (by omega) (by omega) (by omega) (by simp;omega) hL.left hR.left hokL1 hokR1
      rw[show ((X.length+L1.length:Nat):Int)=(s:Int) by omega,show ((X.length+L1.length+R1.length:Nat):Int)=(mid:Int) by omega] at g1
      exact⟨S1,fun _ _=>g1,fun h=>absurd hb h,g2,g3⟩
     ·refine⟨L1++R1,fun h1 h2=>absurd ⟨h1,h2⟩ hb,fun _=>rfl, ?_,dn.refl _ _⟩
      trivial
    obtain⟨S1,hS1a,hS1b,hS1s,hS1e⟩:=ph1
    have hS1l:S1.length=L1.length+R1.length:=by rw[hS1e.length];simp
    have ph2:∃ S2,(bif decide ((mid:Int)<((X.length+(L1++L2).length+R1.length:Nat):Int)) then
     bif decide (((X.length+(L1++L2).length+R1.length:Nat):Int)<((X.length+(L1++L2).length+(R1++R2).length:Nat):Int)) then
      Option.bind (self (X++S1++(L2++R2++Y),(mid:Int),((X.length+(L1++L2).length+R1.length:Nat):Int),((X.length+(L1++L2).length+(R1++R2).length:Nat):Int),ar,())) fun r38=>some (r38.1,())
     else some (X++S1++(L2++R2++Y),())
     else some (X++S1++(L2++R2++Y),()))=some (X++(S1++S2)++Y,())/\Srt k S2/\dn k (L2++R2) S2:=by
     simp only[aim]
     by_cases hb1:0<L2.length
     ·rw[aB (by omega)]
      by_cases hb2:0<R2.length
      ·rw[aB (by omega)]
       obtain⟨S2,g1,g2,g3⟩:=ih (X++S1) L2 R2 Y (by omega) hb1 hb2 (by simp;omega) hL.right hR.right hokL2 hokR2
       rw[show (((X++S1).length:Nat):Int)=(mid:Int) by simp;omega,show (((X++S1).length+L2.length:Nat):Int)=((X.length+(L1.length+L2.length)+R1.length:Nat):Int) by simp;omega,show (((X++S1).length+L2.length+R2.length:Nat):Int)=((X.length+(L1.length+L2.length)+(R1.length+R2.length):Nat):Int) by simp;omega] at g1
       rw[show X++S1++(L2++R2++Y)=X++S1++L2++R2++Y by simp,g1]
       exact⟨S2,by simp,g2,g3⟩
      ·have:R2=[]:=ahV (by omega)
       subst this
       rw[az (by simp)]
       exact⟨L2,by simp,hL.right,by simpa using dn.refl k L2⟩
     ·have:L2=[]:=ahV (by omega)
      subst this
      rw[az (by simp;omega)]
      exact⟨R2,by simp,hR.right,dn.refl _ _⟩
    obtain⟨S2,hE2,hS2s,hS2e⟩:=ph2
    have fin:Srt k (S1++S2)/\dn k (L1++L2++(R1++R2)) (S1++S2):=by
     constructor
     ·trivial
     ·have h1:dn k (L1++(L2++R1)++R2) (L1++(R1++L2)++R2):=((dn.refl k L1).append dn.swap).append (dn.refl k R2)
      have h2:=hS1e.append hS2e
      have h3:dn k (L1++L2++(R1++R2)) (L1++R1++(L2++R2)):=by simpa using h1
      exact h3.trans h2
    refine⟨S1++S2, ?_,fin.1,fin.2⟩
    have hsL:((X.length+(L1++L2).length:Nat):Int)=((X.length+L1.length+L2.length:Nat):Int):=by simp;omega
    have tail:∀ (D:List Int),D=X++L1++R1++(L2++R2++Y)->
     (bif decide ((X.length:Int)<(s:Int)) then
       aG (β:=((List Int)×Unit)) (γ:=(Int×(List aj)×Int×Int×(List Int)×Unit)) (
        bif decide ((s:Int)<(mid:Int)) then
         Option.bind (self (D,(X.length:Int),(s:Int),(mid:Int),ar,())) fun r35=>
         some (Sum.inr (((X.length+(L1++L2).length+(R1++R2).length:Nat):Int),ar,(mid:Int),((X.length+(L1++L2).length+R1.length:Nat):Int),r35.1,()))
        else
         some (Sum.inr (((X.length+(L1++L2).length+(R1++R2).length:Nat):Int),ar,(mid:Int),((X.length+(L1++L2).length+R1.length:Nat):Int),D,()))) fun v36=>
       bif decide (v36.2.2.1<v36.2.2.2.1) then
        bif decide (v36.2.2.2.1<v36.1) then
         Option.bind (self (v36.2.2.2.2.1,v36.2.2.1,v36.2.2.2.1,v36.1,v36.2.1,())) fun r37=>
         some (r37.1,())
        else
         some (v36.2.2.2.2.1,())
       else
        some (v36.2.2.2.2.1,())
     else
      bif decide ((mid:Int)<((X.length+(L1++L2).length+R1.length:Nat):Int)) then
       bif decide (((X.length+(L1++L2).length+R1.length:Nat):Int)<((X.length+(L1++L2).length+(R1++R2).length:Nat):Int)) then
        Option.bind (self (D,(mid:Int),((X.length+(L1++L2).length+R1.length:Nat):Int),((X.length+(L1++L2).length+(R1++R2).length:Nat):Int),ar,())) fun r38=>
        some (r38.1,())
       else
        some (D,())
      else
       some (D,()))=some (X++(S1++S2)++Y,()):=by
     intro D hD
     by_cases hb1:X.length<s
     ·rw[aB (by omega)]
      by_cases hb2:s<mid
      ·rw[aB (by omega),hD,hS1a hb1 hb2,ajA,aS]
       exact hE2
      ·rw[az (by omega),aS,hD]
       have:X++L1++R1++(L2++R2++Y)=X++S1++(L2++R2++Y):=by rw[hS1b (fun h=>hb2 h.2)];simp
       rw[this]
       exact hE2
     ·rw[az (by omega),hD]
      have:X++L1++R1++(L2++R2++Y)=X++S1++(L2++R2++Y):=by rw[hS1b (fun h=>hb1 h.1)];simp
      rw[this]
      exact hE2
    by_cases hsm:s<X.length+(L1++L2).length
    ·rw[aB (by omega)]
     by_cases hme:0<R1.length
     ·have hrot:=acZ (ar:=ar) (X++L1) L2 R1 (R2++Y) (by simp at hsm;omega) hme (by simp;omega)
      rw[show (((X++L1).length:Nat):Int)=(s:Int) by simp;omega,show (((X++L1).length+L2.length:Nat):Int)=((X.length+(L1++L2).length:Nat):Int) by simp;omega,show (((X++L1).length+L2.length+R1.length:Nat):Int)=((X.length+(L1++L2).length+R1.length:Nat):Int) by simp;omega,
       show X++L1++L2++R1++(R2++Y)=X++(L1++L2)++(R1++R2)++Y by simp] at hrot
      rw[aB (by omega),hrot,ajA,aS]
      exact tail _ (by simp)
     ·have:R1=[]:=ahV (by omega)
      subst this
      rw[az (by simp),aS]
      exact tail _ (by simp)
    ·rw[az (by omega)]
     have:L2=[]:=ahV (by simp at hsm;omega)
     subst this
     exact tail _ (by simp)
theorem QS (hc:Bl k ar ok) (X L R Y:List Int) (h1:0<L.length) (h2:0<R.length) (hlen:(X++L++R++Y).length<1000000000) (hL:Srt k L) (hR:Srt k R) (hokL:∀ z∈L,ok z) (hokR:∀ z∈R,ok z): ∃ S,iq (X++L++R++Y) (X.length:Int) ((X.length+L.length:Nat):Int) ((X.length+L.length+R.length:Nat):Int) ar=some (X++S++Y,())/\Srt k S/\dn k (L++R) S:=by
 unfold iq
 exact YU hc _ X L R Y (by unfold l7;simp only[aim];omega) h1 h2 hlen hL hR hokL hokR
theorem YQ (hc:Bl k ar ok) (N:Nat) (hN:N<100000000):∀ (n:Nat) (A Z:List Int) (j:Nat),A.length=j*20->A.length+Z.length=N->Z.length<n->ChS k 20 A->(∀ z∈A,ok z)->(∀ z∈Z,ok z)-> ∃ A' Z' j',iter (X:=kr) (β:=ki) n ((N:Int),ar,20,(A.length:Int),((A.length+20:Nat):Int),A++Z,()) jY=some (Sum.inr ((N:Int),ar,20,(A'.length:Int),A'++Z',()))/\A'.length=j'*20/\Z'.length<20/\ChS k 20 A'/\dn k (A++Z) (A'++Z'):=by
 intro n
 induction n with
 | zero=>intro A Z j _ _ h;omega
 | succ n ih=>
  intro A Z j hA hAZ hn hch hokA hokZ
  rw[bR]
  generalize hag:(fun y=>iter n y jY)=again
  unfold jY
  dsimp only
  by_cases hb:20<=Z.length
  ·rw[aB (by omega)]
   obtain⟨S,Y,rfl,hS⟩:=uF (l:=Z) (n:=20) hb
   simp only[aim] at hAZ hn
   obtain⟨S',g1,g2,g3⟩:=Om hc A S Y (by simp;omega) (fun z hz=>hokZ z (by simp[hz]))
   rw[hS] at g1
   rw[show A++(S++Y)=A++S++Y by simp,g1,ajA]
   dsimp only
   have hS':S'.length=20:=by rw[g3.length,hS]
   have e1:w64 (((A.length+20:Nat):Int)+20)=(((A++S').length+20:Nat):Int):=by rw[ax (by omega) (by omega)];simp;omega
   rw[e1,show ((A.length+20:Nat):Int)=(((A++S').length:Nat):Int) by simp;omega, <- hag]
   obtain⟨A',Z',j',h1,h2,h3,h4,h5⟩:=ih (A++S') Y (j+1) (by simp;omega) (by simp;omega) (by omega) trivial (fun z hz=>by
    rcases aiy.1 hz with h | h
    ·exact hokA z h
    ·exact hokZ z (by simp[g3.mem.1 h])) (fun z hz=>hokZ z (by simp[hz]))
   refine⟨A',Z',j',h1,h2,h3,h4, ?_⟩
   have:dn k (A++S++Y) (A++S'++Y):=((dn.refl k A).append g3).append (dn.refl k Y)
   exact this.trans h5
  ·rw[az (by omega)]
   exact⟨A,Z,j,rfl,hA,by omega,hch,dn.refl _ _⟩
theorem ZF (hc:Bl k ar ok) (N bs:Nat) (hN:N<100000000) (hbs:0<bs) (hbN:bs<N):∀ (n:Nat) (A Z:List Int) (j:Nat),A.length=j*(2*bs)->A.length+Z.length=N->Z.length<n->ChS k (2*bs) A->ChS k bs Z->(∀ z∈A,ok z)->(∀ z∈Z,ok z)-> ∃ A' Z' j',iter (X:=kz) (β:=ko) n ((N:Int),ar,(bs:Int),(A.length:Int),((A.length+2*bs:Nat):Int),A++Z,()) kg=some (Sum.inr ((N:Int),ar,(bs:Int),(A'.length:Int),A'++Z',()))/\A'.length=j'*(2*bs)/\Z'.length<2*bs/\ChS k (2*bs) A'/\ChS k bs Z'/\dn k (A++Z) (A'++Z'):=by
 intro n
 induction n with
 | zero=>intro A Z j _ _ h;omega
 | succ n ih=>
  intro A Z j hA hAZ hn hch hcz hokA hokZ
  rw[bR]
  generalize hag:(fun y=>iter n y kg)=again
  unfold kg
  dsimp only
  by_cases hb:2*bs<=Z.length
  ·rw[aB (by omega)]
   obtain⟨L,Z1,rfl,hL⟩:=uF (l:=Z) (n:=bs) (by omega)
   obtain⟨R,Y,rfl,hR⟩:=uF (l:=Z1) (n:=bs) (by simp at hb;omega)
   simp only[aim] at hAZ hn hb
   have sL:Srt k L:=trivial
   have sR:Srt k R:=trivial
   have cY:ChS k bs Y:=trivial
   obtain⟨S,g1,g2,g3⟩:=QS hc A L R Y (by omega) (by omega) (by simp;omega) sL sR (fun z hz=>hokZ z (by simp[hz])) (fun z hz=>hokZ z (by simp[hz]))
   have e0:w64 ((A.length:Int)+(bs:Int))=((A.length+L.length:Nat):Int):=by rw[ax (by omega) (by omega)];omega
   rw[e0,show ((A.length+2*bs:Nat):Int)=((A.length+L.length+R.length:Nat):Int) by omega,show A++(L++(R++Y))=A++L++R++Y by simp,g1,ajA]
   dsimp only
   have hSl:S.length=2*bs:=by rw[g3.length];simp;omega
   have e1:w64 (((A.length+L.length+R.length:Nat):Int)+w64 (2*(bs:Int)))=(((A++S).length+2*bs:Nat):Int):=by
    rw[ax (n:=2*(bs:Int)) (by omega) (by omega),ax (by omega) (by omega)];simp;omega
   rw[e1,show ((A.length+L.length+R.length:Nat):Int)=(((A++S).length:Nat):Int) by simp;omega, <- hag]
   obtain⟨A',Z',j',h1,h2,h3,h4,h5,h6⟩:=ih (A++S) Y (j+1) (by rw[aim,hA,hSl,ai4,ajt]) (by simp;omega) (by omega) trivial cY (fun z hz=>by
    rcases aiy.1 hz with h | h
    ·exact hokA z h
    ·rcases aiy.1 (g3.mem.1 h) with h | h<;>exact hokZ z (by simp[h])) (fun z hz=>hokZ z (by simp[hz]))
   refine⟨A',Z',j',h1,h2,h3,h4,h5, ?_⟩
   have:dn k (A++(L++R)++Y) (A++S++Y):=((dn.refl k A).append g3).append (dn.refl k Y)
   have h7:=this.trans h6
   simpa using h7
  ·rw[az (by omega)]
   exact⟨A,Z,j,rfl,hA,by omega,hch,hcz,dn.refl _ _⟩
theorem ZE (hc:Bl k ar ok) (N:Nat) (hN:N<100000000):∀ (n bs:Nat) (l:List Int),l.length=N->0<bs->N<bs+n/\0<n->bs<400000000->ChS k bs l->(∀ z∈l,ok z)-> ∃ l',iter (X:=ku) (β:=kj) n ((N:Int),ar,(bs:Int),l,()) jZ=some (Sum.inr (l',()))/\Srt k l'/\dn k l l':=by
 intro n
 induction n with
 | zero=>
  intro bs l hl hbs hn hb2 hch hok
  exact absurd hn (by omega)
 | succ n ih=>
  intro bs l hl hbs hn hb2 hch hok
  rw[bR]
  generalize hag:(fun y=>iter n y jZ)=again
  unfold jZ
  dsimp only
  by_cases hb:bs<N
  ·rw[aB (by omega)]
   have e0:w64 (2*(bs:Int))=(((([]:List Int).length)+2*bs:Nat):Int):=by rw[ax (by omega) (by omega)];simp
   rw[e0,show (0:Int)=((([]:List Int).length:Nat):Int) from rfl]
   obtain⟨A,Z,j,h1,h2,h3,h4,h5,h6⟩:=ZF hc N bs hN hbs hb (Int.natAbs (N:Int)+(Int.natAbs (bs:Int)+(Int.natAbs ((([]:List Int).length:Nat):Int)+(Int.natAbs (((([]:List Int).length)+2*bs:Nat):Int)+(List.length l+2))))) [] l 0 (by simp) (by simpa using hl) (by omega) (ChS.nil _ _) hch (by simp) hok
   rw[aiL] at h1 h6
   rw[h1,aS]
   dsimp only
   have hAZ:A.length+Z.length=N:=by have:=h6.length;simp at this;omega
   have hokAZ:∀ z∈A++Z,ok z:=fun z hz=>hok z (h6.mem.1 hz)
   have e1:w64 ((A.length:Int)+(bs:Int))=((A.length+bs:Nat):Int):=by rw[ax (by omega) (by omega)];omega
   have e2:w64 ((bs:Int)*2)=((2*bs:Nat):Int):=by rw[ax (by omega) (by omega)];omega
   rw[e1,e2]
   by_cases hlast:A.length+bs<N
   ·rw[aB (by omega)]
    obtain⟨L,R,rfl,hL⟩:=uF (l:=Z) (n:=bs) (by omega)
    simp only[aim] at hAZ h3
    have sL:Srt k L:=trivial
    have sR:Srt k R:=trivial
    obtain⟨S,g1,g2,g3⟩:=QS hc A L R [] (by omega) (by omega) (by simp;omega) sL sR (fun z hz=>hokAZ z (by simp[hz])) (fun z hz=>hokAZ z (by simp[hz]))
    simp only[ahM] at g1
    rw[show ((A.length+bs:Nat):Int)=((A.length+L.length:Nat):Int) by omega,show ((N:Nat):Int)=((A.length+L.length+R.length:Nat):Int) by omega,show A++(L++R)=A++L++R by simp,g1,ajA, <- hag]
    have hsam:dn k l (A++S):=h6.trans (by simpa using (dn.refl k A).append g3)
    obtain⟨l',q1,q2,q3⟩:=ih (2*bs) (A++S) (by rw[hsam.length];exact hl) (by omega) ⟨by omega,by omega⟩ (by omega) trivial (fun z hz=>hok z (hsam.mem.1 hz))
    rw[show ((A.length+L.length+R.length:Nat):Int)=((N:Nat):Int) by omega]
    exact⟨l',q1,q2,hsam.trans q3⟩
   ·rw[az (by omega), <- hag]
    have sZ:Srt k Z:=trivial
    obtain⟨l',q1,q2,q3⟩:=ih (2*bs) (A++Z) (by simp;omega) (by omega) ⟨by omega,by omega⟩ (by omega) trivial hokAZ
    exact⟨l',q1,q2,h6.trans q3⟩
  ·rw[az (by omega)]
   exact⟨l,rfl,trivial,dn.refl _ _⟩
theorem WY (hc:Bl k ar ok) (l:List Int) (hl:l.length<100000000) (hok:∀ z∈l,ok z):∃ l',lX l ar=some (l',())/\Srt k l'/\dn k l l':=by
 unfold lX qY
 obtain⟨A,Z,j,h1,h2,h3,h4,h5⟩:=YQ hc l.length hl (Int.natAbs (l.length:Int)+(Int.natAbs (20:Int)+(Int.natAbs (0:Int)+(Int.natAbs (20:Int)+(List.length l+2))))) [] l 0 (by simp) (by simp) (by omega) (ChS.nil _ _) (by simp) hok
 simp only[aip,aiL] at h1 h5
 rw[show ((0+20:Nat):Int)=20 from rfl,show ((0:Nat):Int)=0 from rfl] at h1
 rw[h1,aS]
 dsimp only
 have hAZ:A.length+Z.length=l.length:=by have:=h5.length;simp at this;omega
 obtain⟨Z',g1,g2,g3⟩:=Om hc A Z [] (by simp;omega) (fun z hz=>hok z (h5.mem.1 (by simp[hz])))
 simp only[ahM] at g1
 rw[show ((A.length+Z.length:Nat):Int)=(l.length:Int) by omega] at g1
 rw[g1,ajA]
 dsimp only
 have hsam:dn k l (A++Z'):=h5.trans ((dn.refl k A).append g3)
 obtain⟨l',q1,q2,q3⟩:=ZE hc l.length hl (Int.natAbs (l.length:Int)+(Int.natAbs (20:Int)+(List.length (A++Z')+2))) 20 (A++Z') hsam.length (by omega) ⟨by omega,by omega⟩ (by omega) trivial (fun z hz=>hok z (hsam.mem.1 hz))
 rw[show ((20:Nat):Int)=20 from rfl] at q1
 rw[q1,aS]
 exact⟨l',rfl,q2,hsam.trans q3⟩
end
end Go.Md.SP
namespace Go.Md
open Go.Dn
theorem IC:∀ (n:Nat) (l:List Nat),l.Nodup->(∀ x∈l,x<n)->l.length<=n
 | 0,l,_,h=>by
  cases l with
  | nil=>simp
  | cons a r=>exact absurd (h a (by simp)) (ajs _)
 | n+1,l,hd,h=>by
  by_cases hm:n∈l
  ·have h1:=IC n (l.erase n) (hd.erase n) (fun x hx=>by
    have:=(hd.mem_erase_iff).1 hx
    have:=h x this.2
    omega)
   rw[List.length_erase_of_mem hm] at h1
   omega
  ·have:=IC n l hd (fun x hx=>by
    have h2:=h x hx
    have:x≠n:=fun e=>hm (e ▸ hx)
    omega)
   omega
def itp (par:Nat->Option Nat):Nat->Nat->Option Nat
 | 0,i=>some i
 | j+1,i=>(par i).bind (itp par j)
theorem UZ {par:Nat->Option Nat}:∀ {a b i k:Nat},itp par a i=some k->itp par (a+b) i=itp par b k
 | 0,b,i,k,h=>by simp only[itp,Option.some.injEq] at h;subst h;rw[ajx]
 | a+1,b,i,k,h=>by
  simp only[itp] at h
  rw[show a+1+b=(a+b)+1 by omega]
  simp only[itp]
  cases hp:par i with
  | none=>rw[hp] at h;cases h
  | some j=>rw[hp] at h;exact UZ (a:=a) (by simpa using h)
def w6 (par:Nat->Option Nat) (i:Nat):Prop:=∃ j,itp par (j+1) i=some i
def DY (par:Nat->Option Nat) (i k d:Nat):Prop:=itp par (d+1) k=some i/\∀ e,e<d->itp par (e+1) k≠some i
theorem DY.uniq {par:Nat->Option Nat} {i k d e:Nat} (h:DY par i k d) (h':DY par i k e):d=e:=by
 rcases ajm d e with h1 | h1 | h1
 ·exact absurd h.1 (h'.2 d h1)
 ·exact h1
 ·exact absurd h'.1 (h.2 e h1)
theorem DY.step {par:Nat->Option Nat} {i k d:Nat} (h:DY par i k d):∃ k',par k=some k'/\((k'=i/\d=0)\/(k'≠i/\∃ e,d=e+1/\DY par i k' e)):=by
 obtain⟨h1,h2⟩:=h
 simp only[itp] at h1
 cases hp:par k with
 | none=>rw[hp] at h1;cases h1
 | some k'=>
  rw[hp] at h1
  refine⟨k',rfl, ?_⟩
  cases d with
  | zero=>simp only[ajA,itp,Option.some.injEq] at h1;exact .inl ⟨h1,rfl⟩
  | succ e=>
   right
   refine⟨fun e1=> ?_,e,rfl,by simpa using h1,fun f hf hx=> ?_⟩
   ·refine h2 0 (by omega) ?_
    simp only[itp,hp,ajA,e1]
   ·refine h2 (f+1) (by omega) ?_
    rw[show f+1+1=(f+1)+1 from rfl]
    show (par k).bind (itp par (f+1))=some i
    rw[hp];exact hx
theorem w6.agF {par:Nat->Option Nat} {i:Nat} (h:w6 par i):∃ d,DY par i i d:=by
 obtain⟨j,hj⟩:=h
 induction j using Nat.strongRecOn with
 | _ j ih=>
  by_cases hx:∃ e,e<j/\itp par (e+1) i=some i
  ·obtain⟨e,h1,h2⟩:=hx;exact ih e h1 h2
  ·exact⟨j,hj,fun e he h2=>hx ⟨e,he,h2⟩⟩
theorem DY.list {par:Nat->Option Nat} {i n:Nat} (hn:∀ k k',par k=some k'->k'<n):∀ {d k:Nat},k<n->DY par i k d->∃ l:List Nat,l.length=d+1/\l.Nodup/\(∀ x∈l,x<n)/\∀ x∈l,∃ e,e<=d/\DY par i x e
 | 0,k,hk,h=>⟨[k],rfl,by simp,by simpa using hk,fun x hx=>by simp at hx;subst hx;exact⟨0,ajc _,h⟩⟩
 | d+1,k,hk,h=>by
  obtain⟨k',h1,h2⟩:=h.step
  rcases h2 with ⟨_,h2⟩ | ⟨_,e,h2,h3⟩
  ·omega
  ·have:e=d:=by omega
   subst this
   obtain⟨l,l1,l2,l3,l4⟩:=DY.list hn (hn _ _ h1) h3
   refine⟨k::l,by simp[l1],aiM.2 ⟨fun hm=> ?_,l2⟩,fun x hx=> ?_,fun x hx=> ?_⟩
   ·obtain⟨f,f1,f2⟩:=l4 k hm
    have:=f2.uniq h
    omega
   ·rcases aiz.1 hx with rfl | hx
    ·exact hk
    ·exact l3 x hx
   ·rcases aiz.1 hx with rfl | hx
    ·exact⟨e+1,ajc _,h⟩
    ·obtain⟨f,f1,f2⟩:=l4 x hx;exact⟨f,by omega,f2⟩
def anc (par:Nat->Option Nat):Nat->Nat->List Nat
 | 0,_=>[]
 | f+1,i=>match par i with
  | none=>[]
  | some k=>k::anc par f k
theorem D6 {par:Nat->Option Nat} {f i k:Nat} (h:par i=some k):anc par (f+1) i=k::anc par f k:=by simp[anc,h]
theorem QV {par:Nat->Option Nat} {i:Nat} (h:par i=none):∀ f,anc par f i=[]
 | 0=>rfl
 | f+1=>by simp[anc,h]
theorem ZM {par:Nat->Option Nat}:∀ {f i x:Nat},x∈anc par f i->∃ j,j<f/\itp par (j+1) i=some x
 | 0,_,_,h=>by simp[anc] at h
 | f+1,i,x,h=>by
  cases hp:par i with
  | none=>simp[anc,hp] at h
  | some k=>
   rw[D6 hp] at h
   rcases aiz.1 h with rfl | h
   ·exact⟨0,by omega,by simp[itp,hp]⟩
   ·obtain⟨j,h1,h2⟩:=ZM h
    exact⟨j+1,by omega,by show (par i).bind (itp par (j+1))=some x;rw[hp];exact h2⟩
theorem Xo {par:Nat->Option Nat} {n:Nat} (hn:∀ k k',par k=some k'->k'<n):∀ {f i x:Nat},x∈anc par f i->x<n
 | 0,_,_,h=>by simp[anc] at h
 | f+1,i,x,h=>by
  cases hp:par i with
  | none=>simp[anc,hp] at h
  | some k=>
   rw[D6 hp] at h
   rcases aiz.1 h with rfl | h
   ·exact hn _ _ hp
   ·exact Xo hn h
theorem Nl {par:Nat->Option Nat} {n:Nat} (hn:∀ k k',par k=some k'->k'<n) (hl:∀ k,k<n->¬ w6 par k):∀ {f i:Nat},i<n->(i::anc par f i).Nodup
 | 0,i,_=>by simp[anc]
 | f+1,i,hi=>by
  rw[aiM]
  refine⟨fun hm=> ?_, ?_⟩
  ·obtain⟨j,_,hj⟩:=ZM hm
   exact hl i hi ⟨j,hj⟩
  ·cases hp:par i with
   | none=>simp[anc,hp]
   | some k=>
    rw[D6 hp]
    exact Nl hn hl (hn _ _ hp)
theorem aeG {par:Nat->Option Nat} {n:Nat} (hn:∀ k k',par k=some k'->k'<n) (hl:∀ k,k<n->¬ w6 par k) {f i:Nat} (hi:i<n):(anc par f i).length<n:=by
 have:=IC n (i::anc par f i) (Nl hn hl hi) (fun x hx=>by
  rcases aiz.1 hx with rfl | hx
  ·exact hi
  ·exact Xo hn hx)
 simp at this;omega
theorem VD {par:Nat->Option Nat}:∀ {f g i:Nat},(anc par f i).length<f->f<=g->anc par g i=anc par f i
 | 0,_,_,h,_=>by simp[anc] at h
 | f+1,g,i,h,hg=>by
  obtain⟨g,rfl⟩:∃ g',g=g'+1:=⟨g - 1,by omega⟩
  cases hp:par i with
  | none=>rw[QV hp,QV hp]
  | some k=>
   rw[D6 hp] at h ⊢
   rw[D6 hp]
   rw[VD (f:=f) (by simpa using h) (by omega)]
end Go.Md
namespace Go.Md
open Go.Dn
def val (B:Int):List Int->Int
 | []=>0
 | d::r=>d+B*val B r
def Dig (B:Int) (l:List Int):Prop:=∀ d,d∈l->0<=d/\d<B
theorem Dig.nil {B:Int}:Dig B []:=fun _ h=>by cases h
theorem Dig.cons {B d:Int} {l:List Int} (h:0<=d/\d<B) (hl:Dig B l):Dig B (d::l):=fun x hx=>by
 rcases aiz.1 hx with rfl | hx
 ·exact h
 ·exact hl x hx
theorem Dig.head {B d:Int} {l:List Int} (h:Dig B (d::l)):0<=d/\d<B:=h d (by simp)
theorem Dig.tail {B d:Int} {l:List Int} (h:Dig B (d::l)):Dig B l:=fun x hx=>h x (by simp[hx])
theorem Dig.append {B:Int} {l m:List Int} (h:Dig B l) (k:Dig B m):Dig B (l++m):=fun x hx=>by
 rcases aiy.1 hx with hx | hx
 ·exact h x hx
 ·exact k x hx
theorem Dig.snoc {B d:Int} {l:List Int} (h:Dig B l) (hd:0<=d/\d<B):Dig B (l++[d]):=h.append (Dig.cons hd Dig.nil)
theorem Dig.take {B:Int} {l:List Int} (h:Dig B l) (n:Nat):Dig B (l.take n):=fun x hx=>h x (aiG hx)
theorem Dig.get {B d:Int} {l:List Int} {i:Nat} (h:Dig B l) (hi:l[i]? =some d):0<=d/\d<B:=h d (aiF hi)
theorem Ms {B:Int} (hB:0<B):∀ {l:List Int},Dig B l->0<=val B l
 | [],_=>ahm _
 | d::r,h=>by
  have h1:=h.head;have h2:=Ms hB h.tail
  have:0<=B*val B r:=ahr (by omega) h2
  simp only[val];omega
theorem adm {B:Int} (hB:0<B):∀ {l:List Int},Dig B l->val B l<B ^ l.length
 | [],_=>by simp[val]
 | d::r,h=>by
  have h1:=h.head;have h2:=adm hB h.tail
  have h3:B*(val B r+1)<=B*B ^ r.length:=ahp h2 (by omega)
  rw[ahn,Int.mul_one] at h3
  simp only[val,ain]
  rw[ahx,Int.mul_comm (B ^ r.length) B]
  omega
theorem Mq {B:Int}:∀ (l m:List Int),val B (l++m)=val B l+B ^ l.length*val B m
 | [],m=>by simp[val]
 | d::r,m=>by
  simp only[ahN,val,Mq r m,ain,ahx]
  rw[ahn,Int.add_assoc]
  congr 2
  rw[Int.mul_comm (B ^ r.length) B,aho]
theorem aen {B:Int} (l:List Int) (d:Int):val B (l++[d])=val B l+B ^ l.length*d:=by
 rw[Mq];simp[val]
theorem YF {B:Int} (hB:0<B):∀ n:Nat,0<B ^ n
 | 0=>by simp
 | n+1=>by rw[ahx];exact Int.mul_pos (YF hB n) hB
def dgF (B:Nat):Nat->Nat->List Int
 | 0,_=>[]
 | f+1,n=>if n=0 then [] else ((n % B:Nat):Int)::dgF B f (n / B)
def dg (B n:Nat):List Int:=dgF B n n
theorem abY {B:Nat} (hB:2<=B):∀ (f g n:Nat),n<=f->n<=g->dgF B f n=dgF B g n
 | 0,0,_,_,_=>rfl
 | 0,g+1,n,h,_=>by have:n=0:=by omega
                   subst this;simp[dgF]
 | f+1,0,n,_,h=>by have:n=0:=by omega
                   subst this;simp[dgF]
 | f+1,g+1,n,hf,hg=>by
  by_cases hn:n=0
  ·subst hn;simp[dgF]
  ·have:n / B<n:=ai7 (by omega) (by omega)
   simp only[dgF,hn,ajX]
   rw[abY hB f g (n / B) (by omega) (by omega)]
theorem GB (B:Nat):dg B 0=[]:=rfl
theorem G9 {B:Nat} (hB:2<=B) {n:Nat} (hn:0<n):dg B n=((n % B:Nat):Int)::dg B (n / B):=by
 have:n / B<n:=ai7 hn (by omega)
 obtain⟨m,rfl⟩:∃ m,n=m+1:=⟨n - 1,by omega⟩
 unfold dg
 rw[dgF,ajY (by omega),abY hB m ((m+1) / B) _ (by omega) (ajc _)]
theorem afG {B:Nat} (hB:2<=B):∀ n,Dig B (dg B n):=by
 intro n
 induction n using Nat.strongRecOn with
 | _ n ih=>
  by_cases hn:n=0
  ·subst hn;exact Dig.nil
  ·rw[G9 hB (by omega)]
   exact Dig.cons ⟨by omega,by have:=Nat.mod_lt n (show 0<B by omega);omega⟩ (ih _ (ai7 (by omega) (by omega)))
theorem agd {B:Nat} (hB:2<=B):∀ n,val B (dg B n)=n:=by
 intro n
 induction n using Nat.strongRecOn with
 | _ n ih=>
  by_cases hn:n=0
  ·subst hn;rfl
  ·rw[G9 hB (by omega),val,ih _ (ai7 (by omega) (by omega))]
   have:=Nat.mod_add_div n B
   omega
theorem N2 {B:Nat} (hB:2<=B) {n:Nat} (hn:0<n):dg B n≠[]:=by rw[G9 hB hn];simp
theorem abZ {B:Nat} (hB:2<=B) {n:Nat}:dg B n=[]↔n=0:=by
 constructor
 ·intro h
  rcases ai9 n with h0 | h0
  ·exact h0
  ·exact absurd h (N2 hB h0)
 ·rintro rfl;rfl
theorem Ln {B:Nat} (hB:2<=B) {d n:Nat} (hd:d<B) (h:0<d+B*n):dg B (d+B*n)=(d:Int)::dg B n:=by
 rw[G9 hB h]
 have h1:(d+B*n) % B=d:=by rw[Nat.add_mul_mod_self_left,ajo hd]
 have h2:(d+B*n) / B=n:=by rw[Nat.add_mul_div_left _ _ (by omega),ai6 hd];omega
 rw[h1,h2]
def trim:List Int->List Int
 | []=>[]
 | d::r=>match trim r with
  | []=>if d=0 then [] else [d]
  | t=>d::t
theorem aap {B:Nat} (hB:2<=B):∀ {l:List Int},Dig B l->trim l=dg B (val B l).toNat
 | [],_=>rfl
 | d::r,h=>by
  have hr:=aap hB h.tail
  have h1:=h.head
  have hB0:(0:Int)<B:=by omega
  have h2:=Ms hB0 h.tail
  obtain⟨k,rfl⟩:∃ k:Nat,d=k:=⟨d.toNat,by omega⟩
  obtain⟨n,hn⟩:∃ n:Nat,val B r=n:=⟨(val B r).toNat,by omega⟩
  have hv:(val B ((k:Int)::r)).toNat=k+B*n:=by
   simp only[val,hn]
   rw[show ((B:Int)*(n:Int))=((B*n:Nat):Int) by simp]
   omega
  rw[hv]
  rw[hn] at hr
  simp only[ahC] at hr
  unfold trim
  rw[hr]
  rcases ai9 n with h0 | h0
  ·subst h0
   simp only[GB,Nat.mul_zero,ai5]
   by_cases hk:k=0
   ·subst hk;simp[GB]
   ·have:=Ln hB (d:=k) (n:=0) (by omega) (by omega)
    simp only[Nat.mul_zero,ai5,GB] at this
    rw[this];simp[hk]
  ·have hpos:0<k+B*n:=by have:=Nat.mul_pos (show 0<B by omega) h0;omega
   rw[Ln hB (by omega) hpos]
   cases hd:dg B n with
   | nil=>exact absurd hd (N2 hB h0)
   | cons a t=>rfl
theorem KU:∀ l:List Int,trim (l++[0])=trim l
 | []=>rfl
 | d::r=>by simp only[ahN,trim,KU r]
theorem O5 {d:Int} (hd:d≠0):∀ l:List Int,trim (l++[d])=l++[d]
 | []=>by simp[trim,hd]
 | e::r=>by
  simp only[ahN,trim,O5 hd r]
  cases h:r++[d] with
  | nil=>simp at h
  | cons a t=>rfl
theorem ab0 {B:Nat} (hB:2<=B):∀ (k n:Nat),n<B ^ k->(dg B n).length<=k
 | 0,n,h=>by have:n=0:=by simpa using h
             subst this;simp[GB]
 | k+1,n,h=>by
  by_cases hn:n=0
  ·subst hn;simp[GB]
  ·rw[G9 hB (by omega),ain]
   have:=ab0 hB k (n / B) (by rw[ajw] at h;exact Nat.div_lt_of_lt_mul (by rw[ajq];exact h))
   omega
theorem ab1 {B:Nat} (hB:2<=B) {m n:Nat} (h:(dg B m).length<(dg B n).length):m<n:=by
 rcases ajj m n with h1 | h1
 ·exact h1
 ·exfalso
  have h2:∀ a b:Nat,b<=a->(dg B b).length<=(dg B a).length:=by
   intro a
   induction a using Nat.strongRecOn with
   | _ a ih=>
    intro b hb
    by_cases h0:b=0
    ·subst h0;simp[GB]
    ·rw[G9 hB (by omega),G9 hB (show 0<a by omega),ain,ain]
     have:=ih (a / B) (ai7 (by omega) (by omega)) (b / B) (Nat.div_le_div_right hb)
     omega
  have:=h2 m n h1
  omega
end Go.Md
namespace Go.Md
open Go.Dn
def v32 (l:List Int):Int:=val 4294967296 l
theorem Ev:v32 []=0:=rfl
theorem H7 (d:Int) (l:List Int):v32 (d::l)=d+4294967296*v32 l:=rfl
theorem Mo (l m:List Int):v32 (l++m)=v32 l+4294967296 ^ l.length*v32 m:=Mq l m
theorem Mp (l:List Int) (d:Int):v32 (l++[d])=v32 l+4294967296 ^ l.length*d:=aen l d
abbrev Dg (l:List Int):Prop:=Dig 4294967296 l
def bH (n:Nat):List Int:=dg 4294967296 n
theorem NZ:bH 0=[]:=rfl
theorem Qt {n:Nat}:bH n=[]↔n=0:=abZ (B:=4294967296) (by omega)
theorem Qu {n:Nat} (h:0<n):bH n≠[]:=N2 (B:=4294967296) (by omega) h
theorem qy {m n:Nat} (h:(bH m).length<(bH n).length):m<n:=ab1 (B:=4294967296) (by omega) h
theorem fM (n:Nat):Dg (bH n):=afG (B:=4294967296) (by omega) n
theorem fJ (n:Nat):v32 (bH n)=n:=agd (B:=4294967296) (by omega) n
theorem YY {l:List Int} (h:Dg l):trim l=bH (v32 l).toNat:=aap (B:=4294967296) (by omega) h
theorem DC {l:List Int} (h:Dg l):0<=v32 l:=Ms (by omega) h
theorem KW {l:List Int} (h:Dg l):v32 l<4294967296 ^ l.length:=adm (by omega) h
theorem wk {k n:Nat} (h:n<4294967296 ^ k):(bH n).length<=k:=ab0 (B:=4294967296) (by omega) k n h
theorem B8 (l:List Int) (hl:l.length<1000000):sD l=some (trim l,()):=by
 have key:∀ n (x:rf),x.1.length<1000000->x.1.length<n->iter n x B7=some (Sum.inr (trim x.1,())):=by
  refine ze (fun x:rf=>x.1.length<1000000) (fun x=>x.1.length) (fun x r=>r=some (Sum.inr (trim x.1,()))) ?_
  rintro⟨x,u⟩ again hx ih
  simp only at hx ih ⊢
  unfold B7
  simp only
  by_cases h0:x.length=0
  ·have:x=[]:=ahV h0
   subst this;simp[trim]
  ·have e1:w64 ((x.length:Int) - 1)=((x.length - 1:Nat):Int):=by rw[ax (by omega) (by omega)];omega
   have hsp:x=x.take (x.length - 1)++[x[x.length - 1]'(by omega)]:=by
    have:=aiW (x.length - 1) x
    rw[ahR (by omega),List.drop_of_length_le (by omega)] at this
    exact this.symm
   rw[aB (by omega),e1,bq,aJ (by omega)]
   simp only[ahC,ahT,ajA]
   by_cases hz:x[x.length - 1]'(by omega)=0
   ·rw[hz] at hsp ⊢
    rw[bg (by simp only[ag1,ajS];omega)]
    simp only[beq_self_eq_true,ajO]
    rw[ih (List.take (x.length - 1) x,()) (by simp only[ais];omega) (by simp only[ais];omega)]
    conv=>rhs;rw[hsp,KU]
   ·have:(x[x.length - 1]'(by omega)==0)=false:=by simp[hz]
    rw[this]
    simp only[ajN]
    conv=>rhs;rw[hsp,O5 hz]
    rw[<- hsp]
 unfold sD
 rw[key _ _ (by simpa using hl) (by simp)]
 rfl
def W (z:Int):au:=(decide (z<0),bH z.natAbs)
theorem nh (b:Bool) (l:List Int) (hd:Dg l) (hl:l.length<1000000):kX b l=some (W (if b then -v32 l else v32 l),()):=by
 unfold kX
 rw[B8 l hl,YY hd]
 have h0:=DC hd
 simp only[ajA]
 cases b with
 | false=>simp only[ajN,W];rw[show (decide ((if false=true then -v32 l else v32 l)<0))=false by simp;omega];congr 4;simp;omega
 | true=>
  simp only[ajO,W]
  congr 3
  ·by_cases hv:v32 l=0
   ·simp[hv,NZ]
   ·have hpos:0<v32 l:=by omega
    have:bH (v32 l).toNat≠[]:=Qu (by omega)
    have hlen:0<(bH (v32 l).toNat).length:=by
     cases h:bH (v32 l).toNat with
     | nil=>exact absurd h this
     | cons a t=>simp
    simp;omega
  ·congr 1;simp;omega
theorem l9 (n:Int) (h1: -9223372036854775808<=n) (h2:n<=9223372036854775807):gX n=some (W n,()):=by
 unfold gX
 have key:∀ u:Int,0<=u->u<=9223372036854775808->kX (decide (n<0)) [pz u,pz (Int.fdiv u (2 ^ 32))]=some (W (if decide (n<0) then -u else u),()):=by
  intro u hu0 hu1
  have e:Int.fdiv u (2 ^ 32)=u / 4294967296:=by rw[ahl _ (by omega)];rfl
  rw[e,EB,EB]
  have hd:Dg [u % 4294967296,u / 4294967296 % 4294967296]:=Dig.cons (by omega) (Dig.cons (by omega) Dig.nil)
  rw[nh _ _ hd (by simp)]
  have hv:v32 [u % 4294967296,u / 4294967296 % 4294967296]=u:=by simp only[H7,Ev];omega
  rw[hv]
 by_cases hn:n<0
 ·have e1:cg (0 - cg n)= -n:=by rw[Ib,Ib];omega
  rw[show decide (n<0)=true by simpa using hn] at key ⊢
  simp only[ajO,aG]
  rw[e1]
  rw[show decide (n<0)=true by simpa using hn]
  rw[key (-n) (by omega) (by omega)]
  simp
 ·have e1:cg n=n:=dW (by omega) (by omega)
  rw[show decide (n<0)=false by simpa using hn] at key ⊢
  simp only[ajN,aG]
  rw[e1]
  rw[show decide (n<0)=false by simpa using hn]
  rw[key n (by omega) (by omega)]
  simp
theorem jT (z:Int):fP (W z)=some (z.sign,()):=by
 unfold fP W
 by_cases h:z<0
 ·simp[h,ahy h]
 ·by_cases h0:z=0
  ·subst h0;simp[NZ]
  ·have hp:0<z:=by omega
   have:bH z.natAbs≠[]:=Qu (by omega)
   have hlen:((bH z.natAbs).length:Int)≠0:=by
    intro h;exact this (ahV (by omega))
   have hb:(((bH z.natAbs).length:Int)==0)=false:=by simpa using hlen
   simp only[h,ajT,ajN,hb,ahz hp]
theorem agi {z:Int} {k:Nat} (h:z.natAbs<4294967296 ^ k):(W z).2.length<=k:=wk h
theorem Fy (z:Int) (h:z.natAbs<4294967296 ^ 99):o8 (W z)=some (W (-z),()):=by
 unfold o8
 have hl:=agi h
 rw[nh _ (W z).2 (fM _) (by omega)]
 simp only[ajA]
 congr 3
 simp only[W,fJ]
 by_cases hz:z<0
 ·simp[hz];omega
 ·simp[hz];omega
theorem ML {α:Type} {l:List α} {i:Nat} {y:α} (h:l[i]? =some y):l.take (i+1)=l.take i++[y]:=by
 rw[aiV,h];rfl
theorem kW {l:List Int} {i:Nat} {y:Int} (h:l[i]? =some y):v32 (l.take (i+1))=v32 (l.take i)+4294967296 ^ i*y:=by
 have hi:=(aia.1 h).1
 rw[ML h,Mp,ais,ajn (by omega)]
theorem MN {l:List Int} {i:Nat} (h:l.length<=i):v32 (l.take (i+1))=v32 (l.take i):=by
 rw[aiZ h,aiZ (by omega)]
theorem X3 {u:Int}:Int.fdiv u (2 ^ 32)=u / 4294967296:=by rw[ahl _ (by omega)];rfl
theorem Vv (a b:List Int) (ha:Dg a) (hb:Dg b) (hla:a.length<100000) (hlb:b.length<=a.length) (n:Nat) (hn:a.length<n): ∃ out c,iter (X:=zX) (β:=zW) n (b,[],0,a,(a.length:Int),0,()) zV=some (Sum.inr (out,c,()))/\Dg out/\0<=c/\c<=1/\out.length=a.length/\v32 out+4294967296 ^ a.length*c=v32 a+v32 b:=by
 refine bX (Inv:=fun i x=>∃ out c,x=(b,out,c,a,(a.length:Int),(i:Int),())/\Dg out/\0<=c/\c<=1/\out.length=i/\v32 out+4294967296 ^ i*c=v32 (a.take i)+v32 (b.take i)) a.length
  (fun r=>∃ out c,r=some (Sum.inr (out,c,()))/\Dg out/\0<=c/\c<=1/\out.length=a.length/\v32 out+4294967296 ^ a.length*c=v32 a+v32 b) ?_ ?_ n 0 _ ⟨[],0,rfl,Dig.nil,by omega,by omega,rfl,by simp[Ev]⟩ (by omega) (by omega)
 ·rintro i _ again hi ⟨out,c,rfl,hd,hc0,hc1,hlen,hv⟩ ih
  unfold zV
  simp only
  have hy:a[i]? =some a[i]:=aJ hi
  have hyd:=ha.get hy
  generalize a[i]=y at hy hyd
  rw[aB (by omega),bq,hy,ajA]
  have step:∀ z:Int,0<=z->z<4294967296->v32 (b.take (i+1))=v32 (b.take i)+4294967296 ^ i*z->
   ∃ out' c',again (b,out++[pz (cg (cg (c+cg y)+cg z))],Int.fdiv (cg (cg (c+cg y)+cg z)) (2 ^ 32),a,(a.length:Int),w64 ((i:Int)+1),())=some (Sum.inr (out',c',()))/\Dg out'/\0<=c'/\c'<=1/\out'.length=a.length/\v32 out'+4294967296 ^ a.length*c'=v32 a+v32 b:=by
   intro z hz0 hz1 hbz
   have e1:cg (cg (c+cg y)+cg z)=c+y+z:=by
    rw[dW (n:=y) (by omega) (by omega),dW (n:=z) (by omega) (by omega),dW (n:=c+y) (by omega) (by omega),dW (by omega) (by omega)]
   rw[e1,EB,X3,ax (by omega) (by omega)]
   refine ih _ ⟨_,_,rfl,hd.snoc (by omega),by omega,by omega,by simp[hlen], ?_⟩
   rw[Mp,hlen,kW hy,hbz,ahx]
   have hm:=Int.mul_ediv_add_emod (c+y+z) 4294967296
   have:(4294967296:Int) ^ i*((c+y+z) % 4294967296)+4294967296 ^ i*4294967296*((c+y+z) / 4294967296)=4294967296 ^ i*(c+y+z):=by
    rw[aho, <- ahn];congr 1;omega
   rw[ahn,ahn] at this
   omega
  by_cases hib:i<b.length
  ·have hz:b[i]? =some b[i]:=aJ hib
   rw[aB (by omega),bq,hz,ajA]
   simp only[aS]
   rw[bg (u7 (by omega) (by omega))]
   exact step b[i] (hb.get hz).1 (hb.get hz).2 (kW hz)
  ·rw[az (by omega)]
   simp only[aS]
   rw[bg (u7 (by omega) (by omega))]
   have:=step 0 (by omega) (by omega) (by rw[MN (by omega)];omega)
   have e0:cg (cg (c+cg y)+cg 0)=cg (c+cg y):=by
    rw[dW (n:=y) (by omega) (by omega),dW (n:=(0:Int)) (by omega) (by omega),dW (n:=c+y) (by omega) (by omega),dW (by omega) (by omega)];omega
   rw[e0] at this
   exact this
 ·rintro _ again ⟨out,c,rfl,hd,hc0,hc1,hlen,hv⟩
  unfold zV
  simp only
  rw[az (by omega)]
  rw[aiZ (ajc _),aiZ hlb] at hv
  exact⟨out,c,rfl,hd,hc0,hc1,hlen,hv⟩
theorem O8 (a b:List Int) (ha:Dg a) (hb:Dg b) (hla:a.length<100000) (hlb:b.length<100000): ∃ s,FA a b=some (s,())/\Dg s/\v32 s=v32 a+v32 b/\s.length=max a.length b.length+1:=by
 have core:∀ (a b:List Int),Dg a->Dg b->a.length<100000->b.length<=a.length->∃ s,(chk (decide (0<=(0:Int))&&decide ((0:Int)<=(w64 (((List.length a:Int))+1)))&&decide ((4:Int)*(w64 (((List.length a:Int))+1))<=281474976710656)&&decide ((w64 (((List.length a:Int))+1))<=9223372036854775807)) <|
 aG (β:=((List Int)×Unit)) (γ:=((List Int)×Int×Unit)) (
  iter (X:=zX) (β:=zW) (List.length b+(List.length ([]:List Int)+(Int.natAbs (0:Int)+(List.length a+(Int.natAbs ((List.length a:Int))+(Int.natAbs (0:Int)+2)))))) (b,[],0,a,(List.length a:Int),0,()) (zV)) fun v7=>
 chk (decide (((v7.1.length)+1)*4<=140737488355328)&&decide ((v7.1.length)+1<=maxLen)) <|
 some (v7.1++[(pz v7.2.1)],()))=some (s,())/\Dg s/\v32 s=v32 a+v32 b/\s.length=a.length+1:=by
  intro a b ha hb hla hlb
  obtain⟨out,c,h1,h2,h3,h4,h5,h6⟩:=Vv a b ha hb hla hlb _ (show a.length<List.length b+(List.length ([]:List Int)+(Int.natAbs (0:Int)+(List.length a+(Int.natAbs ((List.length a:Int))+(Int.natAbs (0:Int)+2))))) by omega)
  rw[h1,aS,ax (by omega) (by omega),bg (by simp only[ag1,ajS];omega)]
  simp only
  rw[bg (u7 (by omega) (by omega))]
  refine⟨_,rfl,h2.snoc ?_, ?_,by simp[h5]⟩
  ·rw[EA (by omega) (by omega)];omega
  ·rw[EA (by omega) (by omega),Mp,h5];exact h6
 unfold FA
 by_cases h:a.length<b.length
 ·rw[aB (by omega),aS]
  obtain⟨s,h1,h2,h3,h4⟩:=core b a hb ha hlb (by omega)
  exact⟨s,h1,h2,by omega,by omega⟩
 ·rw[az (by omega),aS]
  obtain⟨s,h1,h2,h3,h4⟩:=core a b ha hb hla (by omega)
  exact⟨s,h1,h2,by omega,by omega⟩
theorem T8 (a b:List Int) (ha:Dg a) (hb:Dg b) (hla:a.length<100000) (hlb:b.length<=a.length) (n:Nat) (hn:a.length<n): ∃ out c,iter (X:=BG) (β:=BF) n (b,[],0,a,(a.length:Int),0,()) BE=some (Sum.inr (out,()))/\Dg out/\0<=c/\c<=1/\out.length=a.length/\v32 out=v32 a - v32 b+4294967296 ^ a.length*c:=by
 refine bX (Inv:=fun i x=>∃ out c,x=(b,out,c,a,(a.length:Int),(i:Int),())/\Dg out/\0<=c/\c<=1/\out.length=i/\v32 out=v32 (a.take i) - v32 (b.take i)+4294967296 ^ i*c) a.length
  (fun r=>∃ out c,r=some (Sum.inr (out,()))/\Dg out/\0<=c/\c<=1/\out.length=a.length/\v32 out=v32 a - v32 b+4294967296 ^ a.length*c) ?_ ?_ n 0 _ ⟨[],0,rfl,Dig.nil,by omega,by omega,rfl,by simp[Ev]⟩ (by omega) (by omega)
 ·rintro i _ again hi ⟨out,c,rfl,hd,hc0,hc1,hlen,hv⟩ ih
  unfold BE
  simp only
  have hy:a[i]? =some a[i]:=aJ hi
  have hyd:=ha.get hy
  generalize a[i]=y at hy hyd
  rw[aB (by omega),bq,hy,ajA]
  have step:∀ z:Int,0<=z->z<4294967296->v32 (b.take (i+1))=v32 (b.take i)+4294967296 ^ i*z->∀ t:Int,t=(y - c - z) % 18446744073709551616->
   ∃ out' c',again (b,out++[pz t],cg (((BitVec.ofInt (IntKind.bits .u64) (Int.fdiv t (2 ^ 32)) &&& BitVec.ofInt (IntKind.bits .u64) 1).toNat:Int)),a,(a.length:Int),w64 ((i:Int)+1),())=some (Sum.inr (out',()))/\Dg out'/\0<=c'/\c'<=1/\out'.length=a.length/\v32 out'=v32 a - v32 b+4294967296 ^ a.length*c':=by
   intro z hz0 hz1 hbz t ht
   have e2:cg (((BitVec.ofInt (IntKind.bits .u64) (Int.fdiv t (2 ^ 32)) &&& BitVec.ofInt (IntKind.bits .u64) 1).toNat:Int))=(if y - c - z<0 then 1 else 0):=by
    rw[X3]
    have h1:t / 4294967296=(if y - c - z<0 then 4294967295 else 0):=by split<;>omega
    rw[h1]
    split<;>rfl
   rw[e2,EB,ax (by omega) (by omega)]
   refine ih _ ⟨_,_,rfl,hd.snoc (by omega),by split<;>omega,by split<;>omega,by simp[hlen], ?_⟩
   rw[Mp,hlen,kW hy,hbz,ahx,hv]
   have e3:t % 4294967296=y - c - z+4294967296*(if y - c - z<0 then 1 else 0):=by split<;>omega
   rw[e3]
   generalize (if y - c - z<0 then (1:Int) else 0)=q
   generalize (4294967296:Int) ^ i=p
   rw[ahn,Int.mul_sub,Int.mul_sub,aho]
   omega
  by_cases hib:i<b.length
  ·have hz:b[i]? =some b[i]:=aJ hib
   rw[aB (by omega),bq,hz,ajA]
   simp only[aS]
   rw[bg (u7 (by omega) (by omega))]
   have hz':=hb.get hz
   refine step b[i] hz'.1 hz'.2 (kW hz) _ ?_
   rw[dW (n:=y) (by omega) (by omega),dW (n:=b[i]) (by omega) (by omega),Ib,Ib]
   omega
  ·rw[az (by omega)]
   simp only[aS]
   rw[bg (u7 (by omega) (by omega))]
   refine step 0 (by omega) (by omega) (by rw[MN (by omega)];omega) _ ?_
   rw[dW (n:=y) (by omega) (by omega),Ib]
   omega
 ·rintro _ again ⟨out,c,rfl,hd,hc0,hc1,hlen,hv⟩
  unfold BE
  simp only
  rw[az (by omega)]
  rw[aiZ (ajc _),aiZ hlb] at hv
  exact⟨out,c,rfl,hd,hc0,hc1,hlen,hv⟩
theorem FV (a b:List Int) (ha:Dg a) (hb:Dg b) (hla:a.length<100000) (hlb:b.length<=a.length) (hle:v32 b<=v32 a):Au a b=some (bH (v32 a - v32 b).toNat,()):=by
 unfold Au
 obtain⟨out,c,h1,h2,h3,h4,h5,h6⟩:=T8 a b ha hb hla hlb _ (show a.length<List.length b+(List.length ([]:List Int)+(Int.natAbs (0:Int)+(List.length a+(Int.natAbs ((List.length a:Int))+(Int.natAbs (0:Int)+2))))) by omega)
 rw[h1,aS,bg (by simp only[ag1,ajS];omega)]
 simp only
 rw[B8 _ (by omega),YY h2,ajA]
 have h7:=KW h2
 rw[h5] at h7
 have h8:c=0:=by
  rcases (show c=0\/c=1 by omega) with h | h
  ·exact h
  ·subst h;rw[Int.mul_one] at h6;omega
 subst h8
 rw[h6,Int.mul_zero,Int.add_zero]
theorem O7 (a b:List Int) (ha:Dg a) (hb:Dg b) (hab:a.length=b.length) (hla:a.length<100000):∀ (n k:Nat),k<=a.length->k<n-> iter (X:=w5) (β:=wZ) n (a,b,(k:Int) - 1,()) q9=if v32 (a.take k)<v32 (b.take k) then some (Sum.inl ((-1),())) else if v32 (b.take k)<v32 (a.take k) then some (Sum.inl (1,())) else some (Sum.inr ()):=by
 intro n
 induction n with
 | zero=>intro k _ h;omega
 | succ n ih=>
  intro k hk hn
  rw[bR]
  generalize hag:(fun y=>iter n y q9)=again
  unfold q9
  simp only
  cases k with
  | zero=>simp[Ev]
  | succ k=>
   rw[aB (by omega),show ((k+1:Nat):Int) - 1=(k:Int) by omega,bq,bq]
   have hx:a[k]? =some a[k]:=aJ (by omega)
   have hy:b[k]? =some b[k]:=aJ (by omega)
   rw[hx,hy]
   simp only[ajA]
   rw[kW hx,kW hy]
   have h1:=KW (ha.take k)
   have h2:=KW (hb.take k)
   have h3:=DC (ha.take k)
   have h4:=DC (hb.take k)
   rw[ais,ajn (by omega)] at h1 h2
   generalize a[k]=x
   generalize b[k]=y
   by_cases hxy:x=y
   ·subst hxy
    simp only[ajM,ajN]
    rw[ax (by omega) (by omega), <- hag]
    show iter n (a,b,(k:Int) - 1,()) q9=_
    rw[ih k (by omega) (by omega)]
    congr 1
    ·simp
    ·congr 1;simp
   ·have hne:(x != y)=true:=by simp[hxy]
    rw[hne]
    simp only[ajO]
    by_cases hlt:x<y
    ·rw[aB hlt,ajZ]
     have:(4294967296:Int) ^ k*(x+1)<=4294967296 ^ k*y:=ahp (by omega) (by omega)
     rw[ahn,Int.mul_one] at this
     omega
    ·rw[az hlt]
     have:(4294967296:Int) ^ k*(y+1)<=4294967296 ^ k*x:=ahp (by omega) (by omega)
     rw[ahn,Int.mul_one] at this
     rw[ajY (by omega),ajZ (by omega)]
theorem Ia (m n:Nat) (hm:(bH m).length<100000) (hn:(bH n).length<100000):∃ c,xD (bH m) (bH n)=some (c,())/\(c<0↔m<n)/\(0<c↔n<m):=by
 unfold xD
 by_cases h:(bH m).length=(bH n).length
 ·have hb:(((bH m).length:Int) != ((bH n).length:Int))=false:=by simp[h]
  rw[hb]
  simp only[ajN]
  by_cases h0:(bH m).length=0
  ·have hm0:m=0:=Qt.1 (ahV h0)
   have hn0:n=0:=Qt.1 (ahV (by omega))
   subst hm0;subst hn0
   exact⟨0,rfl,by simp,by simp⟩
  ·have e1:w64 (((bH m).length:Int) - 1)=(((bH m).length:Nat):Int) - 1:=ax (by omega) (by omega)
   rw[e1,O7 _ _ (fM m) (fM n) h hm _ _ (ajc _) (by omega),aiZ (ajc _),aiZ (by omega),fJ,fJ]
   by_cases h1:m<n
   ·rw[ajZ (by omega),lI];exact⟨-1,rfl,by omega,by omega⟩
   ·by_cases h2:n<m
    ·rw[ajY (by omega),ajZ (by omega),lI];exact⟨1,rfl,by omega,by omega⟩
    ·rw[ajY (by omega),ajY (by omega),aS];exact⟨0,rfl,by omega,by omega⟩
 ·have hb:(((bH m).length:Int) != ((bH n).length:Int))=true:=by simp;omega
  rw[hb]
  simp only[ajO]
  rw[ax (by omega) (by omega)]
  refine⟨_,rfl, ?_, ?_⟩
  ·constructor
   ·intro h1;exact qy (by omega)
   ·intro h1
    rcases Nat.lt_or_gt_of_ne h with h2 | h2
    ·omega
    ·have:=qy (m:=n) (n:=m) h2;omega
  ·constructor
   ·intro h1;exact qy (by omega)
   ·intro h1
    rcases Nat.lt_or_gt_of_ne h with h2 | h2
    ·have:=qy (m:=m) (n:=n) h2;omega
    ·omega
end Go.Md
namespace Go.Md
open Go.Dn
theorem W8 (w:Nat) {a b:Nat} (ha:a<2 ^ w) (hb:b<2 ^ w):((BitVec.ofInt w (a:Int) ||| BitVec.ofInt w (b:Int)).toNat:Int)=((a ||| b:Nat):Int):=by
 rw[agZ,agZ,BitVec.toNat_or,ag0,ag0,ajo ha,ajo hb]
theorem bv_and (w:Nat) {a b:Nat} (ha:a<2 ^ w) (hb:b<2 ^ w):((BitVec.ofInt w (a:Int) &&& BitVec.ofInt w (b:Int)).toNat:Int)=((a &&& b:Nat):Int):=by
 rw[agZ,agZ,BitVec.toNat_and,ag0,ag0,ajo ha,ajo hb]
theorem Yx {a k b:Nat} (hb:b<2 ^ k):(2 ^ k*a) ||| b=2 ^ k*a+b:=(Nat.two_pow_add_eq_or_of_lt hb a).symm
theorem Vt {l:List Int} (h:Dg l) {i:Nat} {y:Int} (hi:l[i]? =some y):y=v32 l / 4294967296 ^ i % 4294967296:=by
 have hlt:=(aia.1 hi).1
 have e:l=l.take i++(y::l.drop (i+1)):=by
  have:=aiW i l
  rw[ahR hlt,(aia.1 hi).2] at this
  exact this.symm
 have hd:=h.get hi
 have h1:=KW (h.take i)
 have h2:=DC (h.take i)
 rw[ais,ajn (by omega)] at h1
 have hv:v32 l=v32 (l.take i)+4294967296 ^ i*(y+4294967296*v32 (l.drop (i+1))):=by
  conv=>lhs;rw[e]
  rw[Mo,ais,ajn (by omega),H7]
 rw[hv,Int.add_mul_ediv_left _ _ (by omega),Int.ediv_eq_zero_of_lt h2 h1,Int.zero_add,Int.add_mul_emod_self_left,Int.emod_eq_of_lt hd.1 hd.2]
theorem PK {l:List Int} {i:Nat} {y z:Int} (hi:l[i]? =some y):v32 (l.set i z)=v32 l+4294967296 ^ i*(z - y):=by
 have hlt:=(aia.1 hi).1
 have e:l=l.take i++(y::l.drop (i+1)):=by
  have:=aiW i l
  rw[ahR hlt,(aia.1 hi).2] at this
  exact this.symm
 have e2:l.set i z=l.take i++(z::l.drop (i+1)):=by rw[List.set_eq_take_append_cons_drop,ajZ hlt]
 rw[e2]
 conv=>rhs;rw[e]
 rw[Mo,Mo,H7,H7,ais,ajn (by omega)]
 have:(4294967296:Int) ^ i*(z+4294967296*v32 (l.drop (i+1)))=4294967296 ^ i*(y+4294967296*v32 (l.drop (i+1)))+4294967296 ^ i*(z - y):=by rw[<- ahn];congr 1;omega
 omega
theorem Dig.set {B:Int} {l:List Int} (h:Dig B l) {i:Nat} {z:Int} (hz:0<=z/\z<B):Dig B (l.set i z):=fun x hx=>by
 rcases aiH hx with hx | rfl
 ·exact h x hx
 ·exact hz
theorem aeH (y:Nat) (j:Nat) (hy:y<4294967296):pz (((BitVec.ofInt (IntKind.bits .u32) (Int.fdiv (y:Int) (2 ^ (min j (IntKind.bits .u32)))) &&& BitVec.ofInt (IntKind.bits .u32) 1).toNat:Int))=((y / 2 ^ (min j 32) % 2:Nat):Int):=by
 have e1:Int.fdiv (y:Int) (2 ^ (min j (IntKind.bits .u32)))=((y / 2 ^ (min j 32):Nat):Int):=by
  have:((2:Int) ^ (min j 32))=((2 ^ (min j 32):Nat):Int):=by simp
  rw[show IntKind.bits .u32=32 from rfl,this,ahl _ (aht _)]
  simp
 rw[e1]
 have hlt:y / 2 ^ (min j 32)<2 ^ 32:=ajg (Nat.div_le_self _ _) hy
 have:=bv_and (IntKind.bits .u32) (a:=y / 2 ^ (min j 32)) (b:=1) hlt (by decide)
 rw[show ((1:Nat):Int)=1 from rfl] at this
 rw[this,Nat.and_one_is_mod]
 exact EA (by omega) (by omega)
theorem WZ (a b:Nat) (hb:0<b) (na:Bool) (nb:Bool) (ha:(bH a).length<1000) (hlb:(bH b).length<1000) (g1:Bool) (g2:List Int) (g3:Bool) (g4:List Int):∀ (n k:Nat) (q:List Int),k<=32*(bH a).length->k<n->Dg q->q.length=(bH a).length->v32 q=((a / 2 ^ k / b*2 ^ k:Nat):Int)-> ∃ q',iter (X:=yO) (β:=yN) n (bH (a / 2 ^ k % b),(k:Int) - 1,na,bH a,nb,bH b,g1,g2,g3,g4,q,()) yM=some (Sum.inr (bH (a % b),g1,g2,g3,g4,q',()))/\Dg q'/\q'.length=(bH a).length/\v32 q'=((a / b:Nat):Int):=by
 intro n
 induction n with
 | zero=>intro k q _ h;omega
 | succ n ih=>
  intro k q hk hn hq hql hqv
  rw[bR]
  generalize hag:(fun y=>iter n y yM)=again
  unfold yM
  simp only
  cases k with
  | zero=>
   rw[az (by omega)]
   refine⟨q, ?_,hq,hql,by simpa using hqv⟩
   simp
  | succ k=>
   rw[aB (by omega),show ((k+1:Nat):Int) - 1=(k:Int) by omega]
   have hR:a / 2 ^ (k+1) % b<b:=Nat.mod_lt _ hb
   have hRl:(bH (a / 2 ^ (k+1) % b)).length<=(bH b).length:=by
    rcases ajj (bH b).length (bH (a / 2 ^ (k+1) % b)).length with h | h
    ·have:=qy h;omega
    ·exact h
   obtain⟨s,hs1,hs2,hs3,hs4⟩:=O8 _ _ (fM (a / 2 ^ (k+1) % b)) (fM (a / 2 ^ (k+1) % b)) (by omega) (by omega)
   rw[hs1]
   simp only[ajA]
   have hs0:s[0]? =some s[0]:=aJ (by omega)
   have hs0d:=hs2.get hs0
   have hs0v:=Vt hs2 hs0
   rw[fJ] at hs3
   generalize s[0]'(by omega)=y3 at hs0 hs0d hs0v
   rw[bg (by simp only[ag1,ajS];omega),hs0]
   simp only[ajA]
   have hk32:k / 32<(bH a).length:=by omega
   have e5:w64 (Int.tdiv (k:Int) 32)=((k / 32:Nat):Int):=by
    rw[ahA (by omega),ax (by omega) (by omega)];omega
   have e6:Int.tmod (k:Int) 32=((k % 32:Nat):Int):=by rw[ahB (by omega)];omega
   have hy4:(bH a)[k / 32]? =some ((bH a)[k / 32]):=aJ hk32
   have hy4d:=(fM a).get hy4
   have hy4v:=Vt (fM a) hy4
   rw[fJ] at hy4v
   generalize (bH a)[k / 32]=y4 at hy4 hy4d hy4v
   obtain⟨m4,rfl⟩:∃ m:Nat,y4=m:=⟨y4.toNat,by omega⟩
   rw[e5,e6,bq,hy4]
   simp only[ajA]
   rw[bg (by simp only[ajS];omega)]
   simp only[ahC]
   rw[aeH m4 (k % 32) (by omega)]
   have hbit:m4 / 2 ^ (min (k % 32) 32) % 2=a / 2 ^ k % 2:=by
    have h1:m4=a / 4294967296 ^ (k / 32) % 4294967296:=by
     have h2:((a:Int) / 4294967296 ^ (k / 32) % 4294967296)=((a / 4294967296 ^ (k / 32) % 4294967296:Nat):Int):=by simp
     rw[h2] at hy4v;omega
    have h3:(4294967296:Nat) ^ (k / 32)=2 ^ (32*(k / 32)):=by rw[Nat.pow_mul]
    rw[h1,ajn (by omega),h3]
    have h4:(4294967296:Nat)=2 ^ (k % 32)*2 ^ (32 - k % 32):=by rw[<- aju];rw[show k % 32+(32 - k % 32)=32 by omega]
    rw[show a / 2 ^ (32*(k / 32)) % 4294967296=a / 2 ^ (32*(k / 32)) % (2 ^ (k % 32)*2 ^ (32 - k % 32)) by rw[<- h4],Nat.mod_mul_right_div_self,Nat.div_div_eq_div_mul, <- aju,show 32*(k / 32)+k % 32=k by omega]
    have h5:(2:Nat) ∣ 2 ^ (32 - k % 32):=by
     rw[show 32 - k % 32=(31 - k % 32)+1 by omega,ajw];exact Nat.dvd_mul_left _ _
    exact Nat.mod_mod_of_dvd _ h5
   rw[hbit,bg (by simp only[ag1,ajS];omega)]
   obtain⟨m3,rfl⟩:∃ m:Nat,y3=m:=⟨y3.toNat,by omega⟩
   have hev:m3 % 2=0:=by
    have h1:v32 s / 4294967296 ^ 0 % 4294967296=v32 s % 4294967296:=by simp
    rw[h1,hs3] at hs0v
    omega
   have hor:pz (((BitVec.ofInt (IntKind.bits .u32) (m3:Int) ||| BitVec.ofInt (IntKind.bits .u32) ((a / 2 ^ k % 2:Nat):Int)).toNat:Int))=((m3+a / 2 ^ k % 2:Nat):Int):=by
    rw[W8 (IntKind.bits .u32) (by show m3<2 ^ 32;omega) (by show a / 2 ^ k % 2<2 ^ 32;omega)]
    have h1:m3=2 ^ 1*(m3 / 2):=by omega
    have h2:m3 ||| (a / 2 ^ k % 2)=m3+a / 2 ^ k % 2:=by
     conv=>lhs;rw[h1]
     rw[Yx (by omega)];omega
    rw[h2];exact EA (by omega) (by omega)
   rw[hor]
   rw[B8 _ (by simp only[aiq];omega),YY (hs2.set (by omega)),PK hs0,hs3]
   simp only[ajA]
   have hr2:(((a / 2 ^ (k+1) % b:Nat):Int)+((a / 2 ^ (k+1) % b:Nat):Int)+4294967296 ^ 0*(((m3+a / 2 ^ k % 2:Nat):Int) - (m3:Int))).toNat=2*(a / 2 ^ (k+1) % b)+a / 2 ^ k % 2:=by
    rw[Int.pow_zero];omega
   rw[hr2]
   have htop:a / 2 ^ k=2*(a / 2 ^ (k+1))+a / 2 ^ k % 2:=by
    rw[ajw, <- Nat.div_div_eq_div_mul];omega
   generalize hT:a / 2 ^ (k+1)=T at*
   generalize hbt:a / 2 ^ k % 2=bt at*
   have hbt2:bt<2:=by omega
   have hr3l:(bH (2*(T % b)+bt)).length<=(bH b).length+1:=by
    rcases ajj ((bH b).length+1) (bH (2*(T % b)+bt)).length with h | h
    ·exfalso
     have h1:bH (4294967296*b)=0::bH b:=by
      have:=Ln (B:=4294967296) (by omega) (d:=0) (n:=b) (by omega) (by omega)
      simpa [bH] using this
     have h2:(bH (4294967296*b)).length<(bH (2*(T % b)+bt)).length:=by rw[h1];simpa using h
     have:=qy h2
     omega
    ·exact h
   obtain⟨c,hc1,hc2,hc3⟩:=Ia (2*(T % b)+bt) b (by omega) (by omega)
   rw[hc1]
   simp only[ajA]
   have hdm:=Nat.div_add_mod T b
   by_cases hge:b<=2*(T % b)+bt
   ·rw[aB (by omega)]
    have hlen2:(bH b).length<=(bH (2*(T % b)+bt)).length:=by
     rcases ajj (bH (2*(T % b)+bt)).length (bH b).length with h | h
     ·have:=qy h;omega
     ·exact h
    rw[FV _ _ (fM _) (fM _) (by omega) hlen2 (by rw[fJ,fJ];omega),fJ,fJ]
    simp only[ajA]
    rw[bg (by simp only[ag1,ajS];omega)]
    have hy9:q[k / 32]? =some (q[k / 32]'(by omega)):=aJ (by omega)
    have hy9d:=hq.get hy9
    have hy9v:=Vt hq hy9
    rw[hqv] at hy9v
    generalize q[k / 32]'(by omega)=y9 at hy9 hy9d hy9v
    obtain⟨m9,rfl⟩:∃ m:Nat,y9=m:=⟨y9.toNat,by omega⟩
    rw[hy9]
    simp only[ajA]
    rw[bg (by simp only[ajS];omega),bg (by simp only[ag1,ajS];omega)]
    have h9:m9=T / b*2 ^ (k+1) / 4294967296 ^ (k / 32) % 4294967296:=by
     have h2:(((T / b*2 ^ (k+1):Nat):Int) / 4294967296 ^ (k / 32) % 4294967296)=((T / b*2 ^ (k+1) / 4294967296 ^ (k / 32) % 4294967296:Nat):Int):=by simp
     rw[h2] at hy9v;omega
    have h3:(4294967296:Nat) ^ (k / 32)=2 ^ (32*(k / 32)):=by rw[Nat.pow_mul]
    have h9d:2 ^ (k % 32+1) ∣ m9:=by
     rw[h9,h3]
     have e1:T / b*2 ^ (k+1) / 2 ^ (32*(k / 32))=T / b*2 ^ (k % 32+1):=by
      rw[show k+1=(k % 32+1)+32*(k / 32) by omega,aju, <- ajp,Nat.mul_div_cancel _ (Nat.pow_pos (by omega))]
     rw[e1]
     have h4:(4294967296:Nat)=2 ^ (k % 32+1)*2 ^ (31 - k % 32):=by rw[<- aju];rw[show k % 32+1+(31 - k % 32)=32 by omega]
     exact (Nat.dvd_mod_iff (by rw[h4];exact Nat.dvd_mul_right _ _)).2 (Nat.dvd_mul_left _ _)
    have hsh:pz (1*2 ^ (min (k % 32) (IntKind.bits .u32)))=((2 ^ (k % 32):Nat):Int):=by
     rw[show IntKind.bits .u32=32 from rfl,ajn (by omega),Int.one_mul,show ((2:Int) ^ (k % 32))=((2 ^ (k % 32):Nat):Int) by simp]
     have:2 ^ (k % 32)<=2 ^ 31:=ajv (by omega) (by omega)
     exact EA (by omega) (by omega)
    have hp31:2 ^ (k % 32)<=2 ^ 31:=ajv (by omega) (by omega)
    obtain⟨e9,he9⟩:=h9d
    have hor2:pz (((BitVec.ofInt (IntKind.bits .u32) (m9:Int) ||| BitVec.ofInt (IntKind.bits .u32) ((2 ^ (k % 32):Nat):Int)).toNat:Int))=((m9+2 ^ (k % 32):Nat):Int):=by
     rw[W8 (IntKind.bits .u32) (by show m9<2 ^ 32;omega) (by show 2 ^ (k % 32)<2 ^ 32;omega)]
     have h2:m9 ||| 2 ^ (k % 32)=m9+2 ^ (k % 32):=by rw[he9,Yx (Nat.pow_lt_pow_right (by omega) (by omega))]
     rw[h2]
     refine EA (by omega) ?_
     have h5:2 ^ (k % 32+1)*e9+2 ^ (k % 32)<=4294967295:=by
      have h4:(4294967296:Nat)=2 ^ (k % 32+1)*2 ^ (31 - k % 32):=by rw[<- aju];rw[show k % 32+1+(31 - k % 32)=32 by omega]
      have h6:e9<2 ^ (31 - k % 32):=by
       rcases ajj e9 (2 ^ (31 - k % 32)) with h | h
       ·exact h
       ·have:=Nat.mul_le_mul_left (2 ^ (k % 32+1)) h;omega
      have h7:=Nat.mul_le_mul_left (2 ^ (k % 32+1)) (show e9+1<=2 ^ (31 - k % 32) by omega)
      rw[Nat.mul_add,Nat.mul_one, <- h4] at h7
      have h8:2 ^ (k % 32+1)=2*2 ^ (k % 32):=by rw[ajw,ajq]
      omega
     omega
    have hz9:m9+2 ^ (k % 32)<4294967296:=by
     have:=EB (((BitVec.ofInt (IntKind.bits .u32) (m9:Int) ||| BitVec.ofInt (IntKind.bits .u32) ((2 ^ (k % 32):Nat):Int)).toNat:Int))
     rw[hor2] at this;omega
    rw[hsh,hor2,ax (by omega) (by omega), <- hag]
    have hTk:a / 2 ^ k / b=2*(T / b)+1/\a / 2 ^ k % b=2*(T % b)+bt - b:=by
     have h1:a / 2 ^ k=b*(2*(T / b)+1)+(2*(T % b)+bt - b):=by
      rw[htop,Nat.mul_add,Nat.mul_one,show b*(2*(T / b))=2*(b*(T / b)) by rw[Nat.mul_left_comm]];omega
     have h2:2*(T % b)+bt - b<b:=by have:=Nat.mod_lt T hb;omega
     rw[h1]
     exact⟨by rw[Nat.mul_add_div hb,ai6 h2,ai5],by rw[Nat.mul_add_mod,ajo h2]⟩
    have hih:=ih k (q.set (k / 32) ((m9+2 ^ (k % 32):Nat):Int)) (by omega) (by omega) (hq.set ⟨aht _,Int.ofNat_lt.2 hz9⟩) (by rw[aiq];exact hql) (by
     rw[PK hy9,hqv,hTk.1]
     have e1:(((m9+2 ^ (k % 32):Nat):Int) - (m9:Int))=((2 ^ (k % 32):Nat):Int):=by omega
     have e2:((4294967296:Int) ^ (k / 32))=((2 ^ (32*(k / 32)):Nat):Int):=by rw[<- h3];simp
     rw[e1,e2, <- Int.natCast_mul, <- aju,show 32*(k / 32)+k % 32=k by omega, <- Int.natCast_add]
     congr 1
     rw[ajw,ai4,ajt,ajq (2 ^ k) 2, <- ajp,ajq (T / b) 2])
    rw[hTk.2] at hih
    have e7:(((2*(T % b)+bt:Nat):Int) - (b:Int)).toNat=2*(T % b)+bt - b:=by omega
    rw[e7]
    exact hih
   ·rw[az (by omega),ax (by omega) (by omega), <- hag]
    have hTk:a / 2 ^ k / b=2*(T / b)/\a / 2 ^ k % b=2*(T % b)+bt:=by
     have h1:a / 2 ^ k=b*(2*(T / b))+(2*(T % b)+bt):=by
      rw[htop,show b*(2*(T / b))=2*(b*(T / b)) by rw[Nat.mul_left_comm]];omega
     have h2:2*(T % b)+bt<b:=by omega
     rw[h1]
     exact⟨by rw[Nat.mul_add_div hb,ai6 h2,ai5],by rw[Nat.mul_add_mod,ajo h2]⟩
    have hih:=ih k q (by omega) (by omega) hq hql (by
     rw[hqv,hTk.1]
     congr 1
     rw[ajw,ajq (2 ^ k) 2, <- ajp,ajq (T / b) 2])
    rw[hTk.2] at hih
    exact hih
theorem MM (n:Nat):v32 (List.replicate n 0)=0:=by
 induction n with
 | zero=>rfl
 | succ n ih=>rw[aiQ,H7,ih];rfl
theorem ags (k:Nat):(4294967296:Nat) ^ k=2 ^ (32*k):=by rw[Nat.pow_mul]
theorem T7 (x y:Int) (hx:x.natAbs<4294967296 ^ 99) (hy:y.natAbs<4294967296 ^ 99) (h0:y≠0):zS (W x) (W y)=some (W ((x.natAbs / y.natAbs:Nat):Int),W ((x.natAbs % y.natAbs:Nat):Int),()):=by
 have hlx:=wk hx
 have hly:=wk hy
 unfold zS W
 dsimp only
 rw[bg (by simp only[ag1,ajS];omega)]
 have e1:w64 (w64 (((bH x.natAbs).length:Int)*32) - 1)=((32*(bH x.natAbs).length:Nat):Int) - 1:=by
  rw[ax (n:=((bH x.natAbs).length:Int)*32) (by omega) (by omega),ax (by omega) (by omega)];omega
 rw[e1]
 have hlt:x.natAbs<2 ^ (32*(bH x.natAbs).length):=by
  have:=KW (fM x.natAbs)
  rw[fJ] at this
  have h2:((4294967296:Int) ^ (bH x.natAbs).length)=((4294967296 ^ (bH x.natAbs).length:Nat):Int):=by simp
  rw[h2,ags] at this
  omega
 have hz:x.natAbs / 2 ^ (32*(bH x.natAbs).length)=0:=ai6 hlt
 obtain⟨q,h1,h2,h3,h4⟩:=WZ x.natAbs y.natAbs (by omega) (decide (x<0)) (decide (y<0)) (by omega) (by omega) false [] false [] (List.length ([]:List Int)+(Int.natAbs (((32*(bH x.natAbs).length:Nat):Int) - 1)+(List.length (bH x.natAbs)+(List.length (bH y.natAbs)+(List.length ([]:List Int)+(List.length ([]:List Int)+(List.length ((List.replicate (Int.toNat ((List.length (bH x.natAbs):Int))) 0):List Int)+2)))))))
  (32*(bH x.natAbs).length) (List.replicate (Int.toNat ((List.length (bH x.natAbs):Int))) 0) (ajc _) (by omega) (fun d hd=>by rw[List.mem_replicate] at hd;omega) (by simp) (by rw[MM,hz];simp)
 rw[hz,Nat.zero_mod,NZ] at h1
 rw[h1,aS]
 simp only
 rw[nh _ _ h2 (by omega),nh _ _ (fM _) (by
  have:=wk (k:=99) (n:=x.natAbs % y.natAbs) (ajg (Nat.mod_le _ _) hx);omega),h4,fJ]
 rfl
theorem H9 (z:Int) (most:Int) (h0:0<=most) (h1:most<=9223372036854775807):xC (W z) most=some (if z.natAbs<=most then (z,true,()) else (0,false,())):=by
 unfold xC W
 dsimp only
 by_cases hl:(bH z.natAbs).length>2
 ·rw[aB (by omega)]
  have:¬ (z.natAbs:Int)<=most:=by
   intro h
   have:=wk (k:=2) (n:=z.natAbs) (by omega)
   omega
  rw[ajY this]
 ·rw[az (by omega)]
  have hdig:=fM z.natAbs
  have hval:=fJ z.natAbs
  have hlen:(bH z.natAbs).length<=2:=by omega
  generalize hd:bH z.natAbs=d at*
  have loop:∃ n0,iter (X:=wY) (β:=wX) (Int.natAbs most+(Int.natAbs (0:Int)+(List.length d+(Int.natAbs ((List.length d:Int))+(Int.natAbs (0:Int)+(List.length d+2)))))) (most,0,d,(List.length d:Int),0,decide (z<0),d,()) wW=some (Sum.inr (most,n0,decide (z<0),d,()))/\n0=(z.natAbs:Int):=by
   refine bX (Inv:=fun i x=>∃ u:Int,x=(most,u,d,(d.length:Int),(i:Int),decide (z<0),d,())/\u=v32 (d.take i)) d.length (fun r=>∃ n0,r=some (Sum.inr (most,n0,decide (z<0),d,()))/\n0=(z.natAbs:Int)) ?_ ?_ _ 0 _ ⟨0,rfl,by simp[Ev]⟩ (by omega) (by omega)
   ·rintro i _ again hi ⟨u,rfl,hu⟩ ih
    unfold wW
    simp only
    have hy:d[i]? =some d[i]:=aJ hi
    have hyd:=hdig.get hy
    have hts:=kW hy
    have hlt:=KW (hdig.take i)
    have hnn:=DC (hdig.take i)
    rw[ais,ajn (by omega)] at hlt
    generalize d[i]=y at hy hyd hts
    rw[aB (by omega),bq,hy,ajA,ax (n:=32*(i:Int)) (by omega) (by omega),bg (by simp only[ajS];omega),ax (n:=(i:Int)+1) (by omega) (by omega)]
    refine ih _ ⟨_,rfl, ?_⟩
    rw[hts]
    obtain⟨m,rfl⟩:∃ m:Nat,y=m:=⟨y.toNat,by omega⟩
    obtain⟨k,hk⟩:∃ k:Nat,v32 (d.take i)=k:=⟨(v32 (d.take i)).toNat,by omega⟩
    rw[hk] at hlt hu ⊢
    subst hu
    have hi2:i=0\/i=1:=by omega
    rcases hi2 with rfl | rfl
    ·simp only[Int.pow_zero] at hlt ⊢
     have:k=0:=by omega
     subst this
     have e:cg (cg (m:Int)*2 ^ (min (Int.toNat (32*((0:Nat):Int))) (IntKind.bits .u64)))=(m:Int):=by
      rw[dW (n:=(m:Int)) (by omega) (by omega)]
      simp
      exact dW (by omega) (by omega)
     rw[e,W8 (IntKind.bits .u64) (by decide) (by show m<2 ^ 64;omega),Nat.zero_or,dW (by omega) (by omega)]
     omega
    ·simp only[Int.pow_one] at hlt ⊢
     have e:cg (cg (m:Int)*2 ^ (min (Int.toNat (32*((1:Nat):Int))) (IntKind.bits .u64)))=((2 ^ 32*m:Nat):Int):=by
      rw[dW (n:=(m:Int)) (by omega) (by omega),show min (Int.toNat (32*((1:Nat):Int))) (IntKind.bits .u64)=32 from rfl]
      rw[dW (by omega) (by omega)]
      omega
     rw[e,W8 (IntKind.bits .u64) (by show k<2 ^ 64;omega) (by show 2 ^ 32*m<2 ^ 64;omega),Nat.or_comm,Yx (by omega),dW (by omega) (by omega)]
     omega
   ·rintro _ again ⟨u,rfl,hu⟩
    unfold wW
    simp only
    rw[az (by omega)]
    rw[aiZ (ajc _),hval] at hu
    exact⟨u,rfl,hu⟩
  obtain⟨n0,h2,h3⟩:=loop
  rw[h2,aS]
  subst h3
  simp only
  rw[dW (n:=most) (by omega) (by omega)]
  by_cases hm:(z.natAbs:Int)<=most
  ·rw[az (by omega),ajZ hm]
   by_cases hneg:z<0
   ·rw[ajR hneg]
    simp only[ajO]
    rw[ax (n:=(z.natAbs:Int)) (by omega) (by omega),ax (by omega) (by omega)]
    congr 2;omega
   ·rw[ajQ hneg]
    simp only[ajN]
    rw[ax (by omega) (by omega)]
    congr 2;omega
  ·rw[aB (by omega),ajY hm]
end Go.Md
