/-
  Plain facts: stable sorts of contents and differences. No condition.
-/
import Derived.Test.YtfghdjdpccoleabGreatDoorYk
import Derived.Test.YtfghdjdpccoleabGreatDoorYo
import Derived.Test.YtfghdjdpccoleabGreatDoorYq
set_option linter.all false
set_option linter.all false
set_option maxRecDepth 20000
namespace Go.Md
open Go.Dn
section
variable {α:Type}
structure CW (c:α->α->Int):Prop where
 refl:∀ a,c a a=0
 tr:∀ {a b d},c a b<0->c b d<0->c a d<0
 cl:∀ {a b d},c a b=0->(c a d<0↔c b d<0)/\(c d a<0↔c d b<0)/\(c a d=0↔c b d=0)
 tri:∀ a b,c a b<0\/c a b=0\/c b a<0
 irr:∀ {a b},c a b<0->c b a≠0/\¬ c b a<0
def Et (c d:α->α->Int) (a b:α):Int:=if c a b=0 then d a b else c a b
theorem CW.NL {c:α->α->Int} (h:CW c) {a b:α} (h0:c a b=0):c b a=0:=(h.cl h0).2.2.1 (h.refl a)
theorem CW.lex {c d:α->α->Int} (hc:CW c) (hd:CW d):CW (Et c d):=by
 refine⟨fun a=> ?_, ?_, ?_,fun a b=> ?_, ?_⟩
 ·unfold Et;rw[aiB (hc.refl a)];exact hd.refl a
 ·intro a b x h1 h2
  unfold Et at*
  by_cases e1:c a b=0
  ·rw[aiB e1] at h1
   by_cases e2:c b x=0
   ·rw[aiB e2] at h2
    rw[aiB ((hc.cl e1).2.2.2 e2)];exact hd.tr h1 h2
   ·rw[aiA e2] at h2
    rw[aiA (fun e=>e2 ((hc.cl e1).2.2.1 e))]
    exact (hc.cl e1).1.2 h2
  ·rw[aiA e1] at h1
   by_cases e2:c b x=0
   ·have:=(hc.cl e2).2.1.1 h1
    rw[aiA (by omega)];exact this
   ·rw[aiA e2] at h2
    have:=hc.tr h1 h2
    rw[aiA (by omega)];exact this
 ·intro a b x h
  unfold Et at*
  by_cases e1:c a b=0
  ·rw[aiB e1] at h
   obtain⟨g1,g2,g3⟩:=hc.cl (d:=x) e1
   obtain⟨k1,k2,k3⟩:=hd.cl (d:=x) h
   have sw:(c x a=0↔c x b=0):=⟨fun e=>hc.NL (g3.1 (hc.NL e)),fun e=>hc.NL (g3.2 (hc.NL e))⟩
   refine⟨?_, ?_, ?_⟩
   ·by_cases e:c a x=0
    ·rw[aiB e,aiB (g3.1 e)];exact k1
    ·rw[aiA e,aiA (fun e'=>e (g3.2 e'))];exact g1
   ·by_cases e:c x a=0
    ·rw[aiB e,aiB (sw.1 e)];exact k2
    ·rw[aiA e,aiA (fun e'=>e (sw.2 e'))];exact g2
   ·by_cases e:c a x=0
    ·rw[aiB e,aiB (g3.1 e)];exact k3
    ·rw[aiA e,aiA (fun e'=>e (g3.2 e'))];exact g3
  ·rw[aiA e1] at h;exact absurd h e1
 ·unfold Et
  rcases hc.tri a b with h | h | h
  ·left;rw[aiA (by omega)];exact h
  ·rw[aiB h,aiB (hc.NL h)];exact hd.tri a b
  ·right;right;rw[aiA (by omega)];exact h
 ·intro a b h
  unfold Et at*
  by_cases e1:c a b=0
  ·rw[aiB e1] at h
   rw[aiB (hc.NL e1)];exact hd.irr h
  ·rw[aiA e1] at h
   have:=hc.irr h
   rw[aiA this.1];exact this
theorem J3 (f:α->Bys):CW fun a b=>Lib.compareBytes (f a) (f b):=by
 refine⟨fun a=>dM.2 rfl, ?_, ?_,fun a b=> ?_, ?_⟩
 ·intro a b d h1 h2
  exact eU.2 (er (eU.1 h1) (eU.1 h2))
 ·intro a b d h
  have e:=dM.1 h
  rw[e]
  exact⟨Iff.rfl,Iff.rfl,Iff.rfl⟩
 ·rw[eU,dM,eU];exact sN _ _
 ·intro a b h
  have h1:=eU.1 h
  refine⟨fun e=> ?_,fun e=> ?_⟩
  ·rw[dM.1 e,dS] at h1;cases h1
  ·have:=er h1 (eU.1 e)
   rw[dS] at this;cases this
def FJ (x y:Int):Int:=if x<y then -1 else if x>y then 1 else 0
theorem ad2 (f:α->Int):CW fun a b=>FJ (f a) (f b):=by
 refine⟨fun a=> ?_, ?_, ?_,fun a b=> ?_, ?_⟩
 ·unfold FJ;rw[aiA (by omega),aiA (by omega)]
 ·intro a b d h1 h2
  dsimp only[FJ] at*
  split at h1
  ·split at h2
   ·rw[aiB (by omega)];omega
   ·split at h2<;>omega
  ·split at h1<;>omega
 ·intro a b d h
  have e:f a=f b:=by
   dsimp only[FJ] at h
   split at h
   ·omega
   ·split at h<;>omega
  rw[e]
  exact⟨Iff.rfl,Iff.rfl,Iff.rfl⟩
 ·dsimp only[FJ]
  rcases Int.lt_trichotomy (f a) (f b) with h | h | h
  ·left;rw[aiB h];omega
  ·right;left;rw[aiA (by omega),aiA (by omega)]
  ·right;right;rw[aiB h];omega
 ·intro a b h
  dsimp only[FJ] at*
  split at h
  ·rename_i hl;rw[aiA (by omega),aiB hl];omega
  ·split at h<;>omega
theorem Ut {p q:α->Bool}:∀ {l:List α},(∀ z∈l,p z=true->q z=true)->∀ {x:α},x∈l->p x=false->q x=true->l.countP p<l.countP q
 | [],_,_,hx,_,_=>by cases hx
 | a::l,h,x,hx,h1,h2=>by
  have hm:=List.countP_mono_left (l:=l) (p:=p) (q:=q) fun z hz hp=>h z (ag4 _ hz) hp
  rw[af6,af6]
  rcases ag3.1 hx with e | hx
  ·subst e
   rw[h1,h2];simp;omega
  ·have:=Ut (p:=p) (q:=q) (fun z hz=>h z (ag4 _ hz)) hx h1 h2
   have ha:=h a ag5
   cases hp:p a with
   | false=>rw[aiA (by simp)];omega
   | true=>rw[ha hp];simp;omega
def ur (c:α->α->Int) (l:List α) (x:α):Int:=(l.countP fun y=>decide (c y x<0):Nat)
theorem Jm {c:α->α->Int} (h:CW c) {l:List α} {x y:α} (hx:x∈l):c x y<0↔ur c l x<ur c l y:=by
 unfold ur
 constructor
 ·intro hxy
  have:=Ut (p:=fun z=>decide (c z x<0)) (q:=fun z=>decide (c z y<0)) (l:=l) (fun z _ hz=>ais (h.tr (aiG hz) hxy)) hx (aiq (by rw[h.refl];omega)) (ais hxy)
  omega
 ·intro hlt
  apply Decidable.byContradiction
  intro hxy
  have:l.countP (fun z=>decide (c z y<0))<=l.countP (fun z=>decide (c z x<0)):=by
   refine List.countP_mono_left fun z _ hz=>ais ?_
   have hz:=aiG hz
   rcases h.tri x y with g | g | g
   ·exact absurd g hxy
   ·exact (h.cl g).2.1.2 hz
   ·exact h.tr hz g
  omega
theorem ZY {c:α->α->Int} (h:CW c) {L out:List α} {x:α} {A B:List α} (hL:∀ z∈x::out,z∈L) (hs:Srt (ur c L) out) (ho:out=A++B) (hB:∀ y∈B,c x y<0) (hA:∀ y,A.getLast? =some y->¬ c x y<0):Srt (ur c L) (A++x::B)/\bK (ur c L) (out++[x]) (A++x::B):=by
 subst ho
 have hx:=hL x ag5
 exact Qp hs (fun y hy=>(Jm h hx).1 (hB y hy)) fun y hy=>by
  have hyA:y∈A:=List.mem_of_getLast? hy
  have hxy:¬ ur c L x<ur c L y:=fun e=>hA y hy ((Jm h (y:=y) hx).2 e)
  omega
theorem K3 {c:α->α->Int} (h:CW c):∀ (r:List α) (x:α),(x::r).Pairwise (fun a b=>¬ c b a<0)-> (∀ z∈dU (fun a b=>decide (c a b=0)) x r,c x z<0/\z∈r)/\(dU (fun a b=>decide (c a b=0)) x r).Pairwise (fun a b=>c a b<0)/\∀ y∈r,c x y=0\/∃ z∈dU (fun a b=>decide (c a b=0)) x r,c z y=0
 | [],x,_=>⟨nofun,List.Pairwise.nil,nofun⟩
 | y::r,x,hp=>by
  have hp1:=(ahk.1 hp).1
  have hp2:=(ahk.1 hp).2
  obtain⟨i1,i2,i3⟩:=K3 h r y hp2
  unfold dU
  by_cases e:c y x=0
  ·have e':=h.NL e
   rw[aiB (ais e)]
   refine⟨fun z hz=>⟨(h.cl e).1.1 (i1 z hz).1,ag4 _ (i1 z hz).2⟩,i2,fun w hw=> ?_⟩
   rcases ag3.1 hw with rfl | hw
   ·exact .inl e'
   ·rcases i3 w hw with g | g
    ·exact .inl ((h.cl e).2.2.1 g)
    ·exact .inr g
  ·rw[aiA (by simpa using e)]
   have hxy:c x y<0:=by
    rcases h.tri x y with g | g | g
    ·exact g
    ·exact absurd (h.NL g) e
    ·exact absurd g (hp1 y ag5)
   refine⟨fun z hz=> ?_,ahk.2 ⟨fun z hz=>(i1 z hz).1,i2⟩,fun w hw=> ?_⟩
   ·rcases ag3.1 hz with rfl | hz
    ·exact⟨hxy,ag5⟩
    ·exact⟨h.tr hxy (i1 z hz).1,ag4 _ (i1 z hz).2⟩
   ·right
    rcases ag3.1 hw with rfl | hw
    ·exact⟨w,ag5,h.refl w⟩
    ·rcases i3 w hw with g | ⟨z,hz,g⟩
     ·exact⟨y,ag5,g⟩
     ·exact⟨z,ag4 _ hz,g⟩
theorem Vg {c:α->α->Int} (h:CW c) (l:List α) (hl:l.Pairwise (fun a b=>¬ c b a<0)): (∀ z∈fQ (fun a b=>decide (c a b=0)) l,z∈l)/\(fQ (fun a b=>decide (c a b=0)) l).Pairwise (fun a b=>c a b<0)/\∀ y∈l,∃ z∈fQ (fun a b=>decide (c a b=0)) l,c z y=0:=by
 cases l with
 | nil=>exact⟨nofun,List.Pairwise.nil,nofun⟩
 | cons x r=>
  obtain⟨i1,i2,i3⟩:=K3 h r x hl
  unfold fQ
  refine⟨fun z hz=> ?_,ahk.2 ⟨fun z hz=>(i1 z hz).1,i2⟩,fun w hw=> ?_⟩
  ·rcases ag3.1 hz with rfl | hz
   ·exact ag5
   ·exact ag4 _ (i1 z hz).2
  ·rcases ag3.1 hw with rfl | hw
   ·exact⟨w,ag5,h.refl w⟩
   ·rcases i3 w hw with g | ⟨z,hz,g⟩
    ·exact⟨x,ag5,g⟩
    ·exact⟨z,ag4 _ hz,g⟩
end
end Go.Md
set_option linter.all false
namespace Go.Md.SQG
open Go.Dn Go.Md
section
variable {α:Type} [Inhabited α] {cmp:α->α->Option (Int×Unit)} {k:α->Int} {ok:α->Prop}
def xO (cmp:α->α->Option (Int×Unit)) (k:α->Int) (ok:α->Prop):Prop:=∀ a b,ok a->ok b->∃ c,cmp a b=some (c,())/\(c<0↔k a<k b)
theorem aa7 (hc:xO cmp k ok) (a:Nat) (bI:Int) (iI:Int) (X:List α) (hX:X.length=a):∀ (n:Nat) (P1:List α) (x:α) (B:List α),P1.length<n->(X++P1++x::B).length<1000000000->ok x->(∀ y∈P1,ok y)-> ∃ P2 P3,P1=P2++P3/\(∀ y∈P3,k x<k y)/\(∀ y,P2.getLast? =some y->k y<=k x)/\ iter (X:=(fW α)) (β:=(fU α)) n ((a:Int),bI,(),iI,((a+P1.length:Nat):Int),X++P1++x::B,()) (fS cmp)=some (Sum.inr ((a:Int),bI,(),iI,X++P2++x::(P3++B),())):=by
 intro n
 induction n with
 | zero=>intro P1 x B h;omega
 | succ n ih=>
  intro P1 x B hn hlen hx hP
  rw[aY]
  generalize hag:(fun y=>iter n y (fS cmp))=again
  unfold fS
  dsimp only
  rcases List.eq_nil_or_concat P1 with rfl | ⟨P,y,rfl⟩
  ·rw[ay (by simp)]
   exact⟨[],[],rfl,by simp,by simp,by simp⟩
  ·rw[List.concat_eq_append] at*
   simp only[agM,agN,agQ] at hlen hn ⊢
   have e1:w64 (((a+(P.length+1):Nat):Int) - 1)=(((X++P).length:Nat):Int):=by rw[au (by omega) (by omega)];simp[hX];omega
   have e2:(((a+(P.length+1):Nat):Int))=(((X++P).length+1:Nat):Int):=by simp[hX];omega
   have el:X++(P++[y])++x::B=(X++P)++y::x::B:=by simp
   obtain⟨c,hcc,hlt⟩:=hc x y hx (hP y (by simp))
   rw[av (by omega),e1,e2,el]
   simp only[afY,get_at,N5,aib,hcc]
   rw[aH (by simp only[afv,ait,agM,agN,agT,agQ];omega),aH (by simp only[afv,ait,agM,agN,agT,agQ];omega)]
   by_cases hk:k x<k y
   ·rw[av (hlt.2 hk),aH (by simp only[afv,ait,agM,agN,agT,agQ];omega),aH (by simp only[afv,ait,agM,agN,agT,agQ];omega),aH (by simp only[afv,ait,agM,agN,agT,agQ];omega),
     aH (by simp only[afv,ait,agM,agN,agT,agQ];omega)]
    have hg:(((X++P)++y::x::B).set ((X++P).length+1) y)[(X++P).length]? =some y:=by rw[agG (by omega),get_at]
    rw[hg,aib,XP, <- hag]
    obtain⟨P2,P3,h1,h2,h3,h4⟩:=ih P x (y::B) (by omega) (by simp;omega) hx (fun z hz=>hP z (by simp[hz]))
    refine⟨P2,P3++[y],by rw[h1];simp, ?_,h3, ?_⟩
    ·intro z hz
     rcases ag0.1 hz with hz | hz
     ·exact h2 z hz
     ·rw[ahf.1 hz];exact hk
    ·have e3:(((X++P).length:Nat):Int)=((a+P.length:Nat):Int):=by simp[hX]
     rw[e3]
     show iter n _ _=_
     rw[h4];simp
   ·rw[ay (fun h=>hk (hlt.1 h))]
    refine⟨P++[y],[],by simp,by simp,fun z hz=> ?_,by simp⟩
    simp at hz
    subst hz;omega
theorem MT (hc:xO cmp k ok) (X S Y:List α) (hlen:(X++S++Y).length<1000000000) (hok:∀ y∈S,ok y): ∃ S',(dD cmp) (X++S++Y) (X.length:Int) ((X.length+S.length:Nat):Int) ()=some (X++S'++Y,())/\Srt k S'/\bK k S S':=by
 simp only[agM] at hlen
 have loop:∀ (n:Nat) (Q P:List α) (l:List α),Q.length<n->l=X++P++Q++Y->P.length+Q.length=S.length->Srt k P->(∀ y∈P,ok y)->(∀ y∈Q,ok y)->
  ∃ S',iter (X:=(fV α)) (β:=(fT α)) n ((X.length:Int),((X.length+S.length:Nat):Int),(),((X.length+P.length:Nat):Int),l,()) (dW cmp)=some (Sum.inr (X++S'++Y,()))/\Srt k S'/\bK k (P++Q) S':=by
  intro n
  induction n with
  | zero=>intro Q P l h;omega
  | succ n ih=>
   intro Q P l hn hl hPQ hs hokP hokQ
   rw[aY]
   generalize hag:(fun y=>iter n y (dW cmp))=again
   unfold dW
   dsimp only
   cases Q with
   | nil=>
    rw[ay (by simp at hPQ;omega)]
    exact⟨P,by rw[hl];simp,hs,by simpa using bK.refl k P⟩
   | cons x Q=>
    simp only[agN] at hn hPQ
    rw[av (by omega)]
    have hl':l=X++P++x::(Q++Y):=by rw[hl];simp
    obtain⟨P2,P3,h1,h2,h3,h4⟩:=aa7 hc X.length ((X.length+S.length:Nat):Int) ((X.length+P.length:Nat):Int) X rfl
     (Int.natAbs (X.length:Int)+(Int.natAbs ((X.length+S.length:Nat):Int)+(Int.natAbs ((X.length+P.length:Nat):Int)+(Int.natAbs ((X.length+P.length:Nat):Int)+(List.length l+2))))) P x (Q++Y) (by omega) (by simp;omega) (hokQ x (by simp)) hokP
    rw[<- hl'] at h4
    rw[h4,az]
    dsimp only
    have e1:w64 (((X.length+P.length:Nat):Int)+1)=((X.length+(P2++x::P3).length:Nat):Int):=by
     rw[au (by omega) (by omega),h1];simp;omega
    rw[e1, <- hag]
    rw[h1] at hs hokP
    obtain⟨hs',hsam⟩:=Qp hs h2 h3
    obtain⟨S',g1,g2,g3⟩:=ih Q (P2++x::P3) (X++P2++x::(P3++(Q++Y))) (by omega) (by simp) (by rw[h1] at hPQ;simp at hPQ ⊢;omega) hs' (fun y hy=>by
     rcases hsam.mem.1 hy |> ag0.1 with h | h
     ·exact hokP y h
     ·rw[ahf.1 h];exact hokQ x (by simp)) (fun y hy=>hokQ y (by simp[hy]))
    refine⟨S',g1,g2, ?_⟩
    have:bK k (P++x::Q) (P2++x::P3++Q):=by
     rw[h1]
     have:=hsam.append (bK.refl k Q)
     simpa using this
    exact this.trans g3
 unfold dD
 cases S with
 | nil=>
  have e1:w64 ((X.length:Int)+1)=((X.length+1:Nat):Int):=by rw[au (by omega) (by omega)];omega
  rw[e1]
  obtain⟨n,hn⟩:∃ n,(Int.natAbs (X.length:Int)+(Int.natAbs ((X.length+([]:List α).length:Nat):Int)+(Int.natAbs ((X.length+1:Nat):Int)+(List.length (X++[]++Y)+2))))=n+1:=⟨_,rfl⟩
  rw[hn,aY]
  unfold dW
  dsimp only
  rw[ay (by simp;omega)]
  exact⟨[],rfl,List.Pairwise.nil,bK.refl _ _⟩
 | cons x S=>
  have e1:w64 ((X.length:Int)+1)=((X.length+[x].length:Nat):Int):=by rw[au (by omega) (by omega)];simp
  rw[e1]
  obtain⟨S',g1,g2,g3⟩:=loop (Int.natAbs (X.length:Int)+(Int.natAbs ((X.length+(x::S).length:Nat):Int)+(Int.natAbs ((X.length+[x].length:Nat):Int)+(List.length (X++(x::S)++Y)+2)))) S [x] (X++(x::S)++Y) (by simp;omega) (by simp) (by simp;omega) (List.pairwise_singleton _ _) (fun y hy=>hok y (by simp at hy;simp[hy])) (fun y hy=>hok y (by simp[hy]))
  rw[g1,az]
  exact⟨S',rfl,g2,by simpa using g3⟩
theorem GP (X M Y:List α):∀ (P Q:List α),P.length=Q.length->(X++P++M++Q++Y).length<1000000000-> dK (X++P++M++Q++Y) (X.length:Int) ((X.length+P.length+M.length:Nat):Int) (P.length:Int) ()=some (X++Q++M++P++Y,()):=by
 intro P Q hPQ hlen
 simp only[agM] at hlen
 have loop:∀ (n:Nat) (P1 P2 Q1 Q2:List α) (l:List α),P2.length<n->P1.length+P2.length=P.length->P1.length=Q1.length->P2.length=Q2.length->l=X++P1++P2++M++Q1++Q2++Y->
  iter (X:=(iw α)) (β:=(iu α)) n ((X.length:Int),((X.length+P.length+M.length:Nat):Int),(P.length:Int),(P1.length:Int),l,()) ir=some (Sum.inr (X++P1++Q2++M++Q1++P2++Y,())):=by
  intro n
  induction n with
  | zero=>intro P1 P2 Q1 Q2 l h;omega
  | succ n ih=>
   intro P1 P2 Q1 Q2 l hn h1 h2 h3 hl
   rw[aY]
   generalize hag:(fun y=>iter n y ir)=again
   unfold ir
   dsimp only
   cases P2 with
   | nil=>
    have:Q2=[]:=agi (by simpa using h3.symm)
    subst this
    rw[ay (by simp at h1;omega),hl]
   | cons p P2=>
    cases Q2 with
    | nil=>simp at h3
    | cons q Q2=>
     simp only[agN] at hn h1 h3
     have ll:l.length=X.length+P.length+M.length+Q.length+Y.length:=by rw[hl];simp;omega
     have e1:w64 (((X.length+P.length+M.length:Nat):Int)+(P1.length:Int))=(((X++P1++p::P2++M++Q1).length:Nat):Int):=by rw[au (by omega) (by omega)];simp;omega
     have e2:w64 ((X.length:Int)+(P1.length:Int))=(((X++P1).length:Nat):Int):=by rw[au (by omega) (by omega)];simp
     have l1:l=(X++P1++p::P2++M++Q1)++q::(Q2++Y):=by rw[hl];simp
     have l2:l=(X++P1)++p::(P2++M++Q1++q::(Q2++Y)):=by rw[hl];simp
     have g1:l[(X++P1++p::P2++M++Q1).length]? =some q:=by rw[l1];exact get_at _ _ _
     have g2:l[(X++P1).length]? =some p:=by rw[l2];exact get_at _ _ _
     have g3:l.set (X++P1).length q=(X++P1++q::P2++M++Q1)++q::(Q2++Y):=by
      rw[l2,Zu];simp
     have hlq:(X++P1++p::P2++M++Q1).length=(X++P1++q::P2++M++Q1).length:=by simp
     have g4:(l.set (X++P1).length q)[(X++P1++p::P2++M++Q1).length]? =some q:=by rw[g3,hlq];exact get_at _ _ _
     have g5:(l.set (X++P1).length q).set (X++P1++p::P2++M++Q1).length p=X++(P1++[q])++P2++M++(Q1++[p])++Q2++Y:=by rw[g3,hlq,Zu];simp
     rw[av (by omega),e1,e2]
     simp only[afY,g1,g2,g4,g5,aib,agT,ll]
     have lq:(X++P1++p::P2++M++Q1).length<X.length+P.length+M.length+Q.length+Y.length:=by simp;omega
     have lp:(X++P1).length<X.length+P.length+M.length+Q.length+Y.length:=by simp;omega
     rw[aH (by simp only[afv,ait];omega),aH (by simp only[afv,ait];omega),aH (by simp only[afv,ait];omega),aH (by simp only[afv,ait];omega)]
     have e3:w64 ((P1.length:Int)+1)=(((P1++[q]).length:Nat):Int):=by rw[au (by omega) (by omega)];simp
     rw[e3, <- hag]
     show iter n _ _=_
     rw[ih (P1++[q]) P2 (Q1++[p]) Q2 _ (by omega) (by simp;omega) (by simp;omega) (by omega) rfl]
     simp
 unfold dK
 rw[show (0:Int)=((([]:List α).length:Nat):Int) from rfl,loop _ [] P [] Q (X++P++M++Q++Y) (by simp;omega) (by simp) rfl hPQ (by simp),az]
 simp
theorem YL (m:Nat):∀ (n:Nat) (X U V Y:List α),U.length+V.length<n->0<U.length->0<V.length->X.length+U.length=m->(X++U++V++Y).length<1000000000-> ∃ (X' U' V' Y':List α),iter (X:=(jP α)) (β:=(jO α)) n ((m:Int),(),(U.length:Int),(V.length:Int),X++U++V++Y,()) jN=some (Sum.inr ((m:Int),(),(U'.length:Int),X'++U'++V'++Y',()))/\U'.length=V'.length/\X'.length+U'.length=m/\X'++V'++U'++Y'=X++V++U++Y/\(X'++U'++V'++Y').length<1000000000:=by
 intro n
 induction n with
 | zero=>intro X U V Y h;omega
 | succ n ih=>
  intro X U V Y hn hU hV hm hlen
  rw[aY]
  generalize hag:(fun y=>iter n y jN)=again
  unfold jN
  dsimp only
  by_cases he:U.length=V.length
  ·have hb:((U.length:Int) != (V.length:Int))=false:=by simp[he]
   rw[hb,ain]
   exact⟨X,U,V,Y,rfl,he,hm,rfl,hlen⟩
  ·have hb:((U.length:Int) != (V.length:Int))=true:=by simp;omega
   rw[hb,aio]
   simp only[agM] at hlen
   have e1:w64 ((m:Int) - (U.length:Int))=(X.length:Int):=by rw[au (by omega) (by omega)];omega
   rw[e1]
   by_cases hgt:V.length<U.length
   ·rw[av (by omega)]
    obtain⟨U1,U2,rfl,hU1⟩:=ry (l:=U) (n:=V.length) (by omega)
    simp only[agM] at*
    have hsw:=GP X U2 Y U1 V hU1 (by simp;omega)
    rw[show ((X.length+U1.length+U2.length:Nat):Int)=(m:Int) by omega,hU1] at hsw
    rw[show X++(U1++U2)++V++Y=X++U1++U2++V++Y by simp,hsw,aib]
    have e2:w64 (((U1.length+U2.length:Nat):Int) - (V.length:Int))=(U2.length:Int):=by rw[au (by omega) (by omega)];omega
    rw[e2, <- hag]
    obtain⟨X',U',V',Y',h1,h2,h3,h4,h5⟩:=ih (X++V) U2 U1 Y (by omega) (by omega) (by omega) (by simp;omega) (by simp;omega)
    refine⟨X',U',V',Y', ?_,h2,h3,by rw[h4];simp,h5⟩
    rw[<- hU1]
    exact h1
   ·rw[ay (by omega)]
    obtain⟨V1,V2,rfl,hV1⟩:=ry (l:=V) (n:=V.length - U.length) (by omega)
    simp only[agM] at*
    have e3:w64 (w64 ((m:Int)+((V1.length+V2.length:Nat):Int)) - (U.length:Int))=((X.length+U.length+V1.length:Nat):Int):=by
     rw[au (n:=(m:Int)+((V1.length+V2.length:Nat):Int)) (by omega) (by omega),au (by omega) (by omega)];omega
    have hsw:=GP X V1 Y U V2 (by omega) (by simp;omega)
    rw[e3,show X++U++(V1++V2)++Y=X++U++V1++V2++Y by simp,hsw,aib]
    have e2:w64 (((V1.length+V2.length:Nat):Int) - (U.length:Int))=(V1.length:Int):=by rw[au (by omega) (by omega)];omega
    rw[e2, <- hag]
    obtain⟨X',U',V',Y',h1,h2,h3,h4,h5⟩:=ih X V2 V1 (U++Y) (by omega) (by omega) (by omega) (by omega) (by simp;omega)
    refine⟨X',U',V',Y', ?_,h2,h3,by rw[h4];simp,h5⟩
    rw[show ((U.length:Nat):Int)=(V2.length:Int) by omega,show X++V2++V1++U++Y=X++V2++V1++(U++Y) by simp]
    exact h1
theorem abL (X U V Y:List α) (hU:0<U.length) (hV:0<V.length) (hlen:(X++U++V++Y).length<1000000000): ji (X++U++V++Y) (X.length:Int) ((X.length+U.length:Nat):Int) ((X.length+U.length+V.length:Nat):Int) ()=some (X++V++U++Y,()):=by
 unfold ji
 simp only[agM] at hlen
 have e1:w64 (((X.length+U.length:Nat):Int) - (X.length:Int))=(U.length:Int):=by rw[au (by omega) (by omega)];omega
 have e2:w64 (((X.length+U.length+V.length:Nat):Int) - ((X.length+U.length:Nat):Int))=(V.length:Int):=by rw[au (by omega) (by omega)];omega
 rw[e1,e2]
 obtain⟨X',U',V',Y',h1,h2,h3,h4,h5⟩:=YL (X.length+U.length) (Int.natAbs ((X.length+U.length:Nat):Int)+(Int.natAbs (U.length:Int)+(Int.natAbs (V.length:Int)+(List.length (X++U++V++Y)+2)))) X U V Y (by omega) hU hV rfl (by simp;omega)
 rw[h1,az]
 dsimp only
 simp only[agM] at h5
 have e3:w64 (((X.length+U.length:Nat):Int) - (U'.length:Int))=(X'.length:Int):=by rw[au (by omega) (by omega)];omega
 have hsw:=GP X' [] Y' U' V' h2 (by simp;omega)
 simp only[af4,agQ,ahC] at hsw
 rw[e3,show ((X.length+U.length:Nat):Int)=((X'.length+U'.length:Nat):Int) by omega,hsw,aib,h4]
theorem adz (i:Nat):∀ (n:Nat) (A V Y:List α) (x:α),V.length<n->A.length+1+V.length=i->(A++x::V++Y).length<1000000000-> iter (X:=(iU α)) (β:=(iS α)) n ((i:Int),(A.length:Int),A++x::V++Y,()) iQ=some (Sum.inr (A++V++x::Y,())):=by
 intro n
 induction n with
 | zero=>intro A V Y x h;omega
 | succ n ih=>
  intro A V Y x hn hi hlen
  rw[aY]
  generalize hag:(fun y=>iter n y iQ)=again
  unfold iQ
  dsimp only
  simp only[agM,agN] at hlen
  have e0:w64 ((i:Int) - 1)=(i:Int) - 1:=au (by omega) (by omega)
  rw[e0]
  cases V with
  | nil=>rw[ay (by simp at hi;omega)];simp
  | cons v V=>
   simp only[agN] at hn hi hlen
   have e1:w64 ((A.length:Int)+1)=((A.length+1:Nat):Int):=by rw[au (by omega) (by omega)];omega
   have el:A++x::(v::V)++Y=A++x::v::(V++Y):=by simp
   have hg:((A++x::v::(V++Y)).set A.length v)[A.length+1]? =some v:=by rw[agG (by omega),N5]
   rw[av (by omega),e1,el]
   simp only[afY,get_at,N5,aib,hg,abY,agT]
   rw[aH (by simp only[afv,ait,agM,agN];omega),aH (by simp only[afv,ait,agM,agN];omega),aH (by simp only[afv,ait,agM,agN];omega),aH (by simp only[afv,ait,agM,agN];omega), <- hag]
   have:=ih (A++[v]) V Y x (by omega) (by simp;omega) (by simp;omega)
   simp only[agM,agN,agQ,ah7] at this
   show iter n _ _=_
   rw[show A++v::x::(V++Y)=A++[v]++x::V++Y by simp,this]
   simp
theorem abq (A:List α):∀ (n:Nat) (U Y:List α) (y:α),U.length<n->(A++U++y::Y).length<1000000000-> iter (X:=(iE α)) (β:=(iB α)) n ((A.length:Int),((A.length+U.length:Nat):Int),A++U++y::Y,()) iy=some (Sum.inr (A++y::U++Y,())):=by
 intro n
 induction n with
 | zero=>intro U Y y h;omega
 | succ n ih=>
  intro U Y y hn hlen
  rw[aY]
  generalize hag:(fun y=>iter n y iy)=again
  unfold iy
  dsimp only
  simp only[agM,agN] at hlen
  rcases List.eq_nil_or_concat U with rfl | ⟨V,u,rfl⟩
  ·rw[ay (by simp)];simp
  ·rw[List.concat_eq_append] at*
   simp only[agM,agN,agQ] at hn hlen ⊢
   have e1:w64 (((A.length+(V.length+(0+1)):Nat):Int) - 1)=(((A++V).length:Nat):Int):=by rw[au (by omega) (by omega)];simp;omega
   have e2:((A.length+(V.length+(0+1)):Nat):Int)=(((A++V).length+1:Nat):Int):=by simp;omega
   have el:A++(V++[u])++y::Y=(A++V)++u::y::Y:=by simp
   have hg:(((A++V)++u::y::Y).set ((A++V).length+1) u)[(A++V).length]? =some u:=by rw[agG (by omega),get_at]
   rw[av (by omega),e1,e2,el]
   simp only[afY,get_at,N5,aib,hg,XP,agT]
   rw[aH (by simp only[afv,ait,agM,agN];omega),aH (by simp only[afv,ait,agM,agN];omega),aH (by simp only[afv,ait,agM,agN];omega),aH (by simp only[afv,ait,agM,agN];omega), <- hag]
   have:=ih V (u::Y) y (by omega) (by simp;omega)
   show iter n _ _=_
   rw[show (((A++V).length:Nat):Int)=((A.length+V.length:Nat):Int) by simp,this]
   simp
theorem TL (hc:xO cmp k ok) (X R Y:List α) (x:α) (hlen:(X++[x]++R++Y).length<1000000000) (hR:Srt k R) (hx:ok x) (hok:∀ y∈R,ok y) (n:Nat) (hn:R.length<n): ∃ R1 R2,R=R1++R2/\(∀ y∈R1,k y<k x)/\(∀ y∈R2,k x<=k y)/\iter (X:=(iT α)) (β:=(iR α)) n ((X.length:Int),(),((X.length+1:Nat):Int),((X.length+1+R.length:Nat):Int),X++[x]++R++Y,()) (fN cmp)=some (Sum.inr ((X.length:Int),((X.length+1+R1.length:Nat):Int),X++[x]++R++Y,())):=by
 simp only[agM,agN,agQ] at hlen
 have hx0:(X++[x]++R++Y)[X.length]? =some x:=by simp
 have hRt:∀ i (h:i<R.length),(X++[x]++R++Y)[X.length+1+i]? =some R[i]:=fun i h=>ZQ X [x] R Y h
 obtain⟨r,h1,h2,h3,h4,h5⟩:=bsearch (f:=(fN cmp)) (fun i j=>((X.length:Int),(),(i:Int),(j:Int),X++[x]++R++Y,())) (fun i=>some (Sum.inr ((X.length:Int),(i:Int),X++[x]++R++Y,())))
  (fun t=>k ((R[t - (X.length+1)]?).getD default)<k x) (X.length+1) (X.length+1+R.length) (by
    intro i j again hi hij hj
    unfold fN
    dsimp only
    have hh:(i+j) / 2 - (X.length+1)<R.length:=by omega
    have hg:=hRt _ hh
    rw[show X.length+1+((i+j) / 2 - (X.length+1))=(i+j) / 2 by omega] at hg
    rw[av (by omega),N7 i j (by omega)]
    simp only[afY,hg,hx0,aib]
    obtain⟨c,hcc,hlt⟩:=hc R[(i+j) / 2 - (X.length+1)] x (hok _ (agL _)) hx
    rw[hcc,aH (by simp only[afv,ait,agM,agN];omega),aH (by simp only[afv,ait,agM,agN];omega),aib,agz hh]
    dsimp only[Option.getD]
    by_cases hk:k R[(i+j) / 2 - (X.length+1)]<k x
    ·rw[av (hlt.2 hk),aiB hk,au (by omega) (by omega)];rfl
    ·rw[ay (fun h=>hk (hlt.1 h)),aiA hk])
  (by
    intro i again _ _
    unfold fN
    dsimp only
    rw[ay (by omega)])
  (by
    intro s t hs hst ht hP
    rw[agz (by omega)] at hP ⊢
    have:=hR.get (i:=s - (X.length+1)) (j:=t - (X.length+1)) (by omega) (by omega)
    simp only[aic] at hP ⊢
    omega)
  n (X.length+1) (X.length+1+R.length) (by omega) (ahJ _) (by omega) (ahJ _) (fun t h1 h2=>by omega) (fun t h1 h2=>by omega)
 obtain⟨R1,R2,rfl,hR1⟩:=ry (l:=R) (n:=r - (X.length+1)) (by omega)
 refine⟨R1,R2,rfl, ?_, ?_, ?_⟩
 ·intro y hy
  obtain⟨i,hi,rfl⟩:=ag7.1 hy
  have:=h4 (X.length+1+i) (by omega) (by omega)
  rw[show X.length+1+i - (X.length+1)=i by omega,agu hi,agz hi] at this
  exact this
 ·intro y hy
  obtain⟨i,hi,rfl⟩:=ag7.1 hy
  have:=h5 (X.length+1+(R1.length+i)) (by omega) (by simp;omega)
  rw[show X.length+1+(R1.length+i) - (X.length+1)=R1.length+i by omega,agv (by omega),show R1.length+i - R1.length=i by omega,agz hi] at this
  simp only[aic] at this
  omega
 ·rw[h1,show X.length+1+R1.length=r by omega]
theorem RY (hc:xO cmp k ok) (X L Y:List α) (y:α) (hlen:(X++L++[y]++Y).length<1000000000) (hL:Srt k L) (hy:ok y) (hok:∀ z∈L,ok z) (n:Nat) (hn:L.length<n): ∃ L1 L2,L=L1++L2/\(∀ z∈L1,k z<=k y)/\(∀ z∈L2,k y<k z)/\iter (X:=(iD α)) (β:=(iA α)) n (((X.length+L.length:Nat):Int),(),(X.length:Int),((X.length+L.length:Nat):Int),X++L++[y]++Y,()) (fE cmp)=some (Sum.inr (((X.length+L.length:Nat):Int),((X.length+L1.length:Nat):Int),X++L++[y]++Y,())):=by
 simp only[agM,agN,agQ] at hlen
 have hy0:(X++L++[y]++Y)[X.length+L.length]? =some y:=by
  have:=ZQ X L [y] Y (i:=0) (by simp)
  simpa using this
 have hLt:∀ i (h:i<L.length),(X++L++[y]++Y)[X.length+i]? =some L[i]:=fun i h=>ac5 X L [y] Y h
 obtain⟨r,h1,h2,h3,h4,h5⟩:=bsearch (f:=(fE cmp)) (fun i j=>(((X.length+L.length:Nat):Int),(),(i:Int),(j:Int),X++L++[y]++Y,())) (fun i=>some (Sum.inr (((X.length+L.length:Nat):Int),(i:Int),X++L++[y]++Y,())))
  (fun t=>¬ k y<k ((L[t - X.length]?).getD default)) X.length (X.length+L.length) (by
    intro i j again hi hij hj
    unfold fE
    dsimp only
    have hh:(i+j) / 2 - X.length<L.length:=by omega
    have hg:=hLt _ hh
    rw[show X.length+((i+j) / 2 - X.length)=(i+j) / 2 by omega] at hg
    rw[av (by omega),N7 i j (by omega)]
    simp only[afY,hg,hy0,aib]
    obtain⟨c,hcc,hlt⟩:=hc y L[(i+j) / 2 - X.length] hy (hok _ (agL _))
    rw[hcc,aH (by simp only[afv,ait,agM,agN];omega),aH (by simp only[afv,ait,agM,agN];omega),aib,agz hh]
    dsimp only[Option.getD]
    by_cases hk:k y<k L[(i+j) / 2 - X.length]
    ·rw[ais (hlt.2 hk),afG,ain,aiA (fun h=>h hk)]
    ·rw[aiq (fun h=>hk (hlt.1 h)),afF,aio,aiB hk,au (by omega) (by omega)];rfl)
  (by
    intro i again _ _
    unfold fE
    dsimp only
    rw[ay (by omega)])
  (by
    intro s t hs hst ht hP
    rw[agz (by omega)] at hP ⊢
    have:=hL.get (i:=s - X.length) (j:=t - X.length) (by omega) (by omega)
    simp only[aic] at hP ⊢
    omega)
  n X.length (X.length+L.length) (by omega) (ahJ _) (by omega) (ahJ _) (fun t h1 h2=>by omega) (fun t h1 h2=>by omega)
 obtain⟨L1,L2,rfl,hL1⟩:=ry (l:=L) (n:=r - X.length) (by omega)
 refine⟨L1,L2,rfl, ?_, ?_, ?_⟩
 ·intro z hz
  obtain⟨i,hi,rfl⟩:=ag7.1 hz
  have:=h4 (X.length+i) (by omega) (by omega)
  rw[show X.length+i - X.length=i by omega,agu hi,agz hi] at this
  simp only[aic] at this
  omega
 ·intro z hz
  obtain⟨i,hi,rfl⟩:=ag7.1 hz
  have:=h5 (X.length+(L1.length+i)) (by omega) (by simp;omega)
  rw[show X.length+(L1.length+i) - X.length=L1.length+i by omega,agv (by omega),show L1.length+i - L1.length=i by omega,agz hi] at this
  simp only[aic] at this
  omega
 ·rw[h1,show X.length+L1.length=r by omega]
theorem Xl (hc:xO cmp k ok) (X L R Y:List α) (hlen:(X++L++R++Y).length<1000000000) (hL:Srt k L) (hR:Srt k R) (hokL:∀ z∈L,ok z) (hokR:∀ z∈R,ok z) (mid lo hi:Nat) (hmid:mid=(X.length+(X.length+L.length+R.length)) / 2) (hcase:(mid<X.length+L.length/\lo+R.length=mid/\hi=mid/\X.length<=lo)\/(X.length+L.length<=mid/\lo=X.length/\hi=X.length+L.length)) (n:Nat) (hn:hi<n): ∃ s:Nat,iter (X:=(iF α)) (β:=(iC α)) n ((X.length:Int),((X.length+L.length:Nat):Int),((X.length+L.length+R.length:Nat):Int),(),(mid:Int),((mid+(X.length+L.length):Nat):Int),(lo:Int),(hi:Int),((mid+(X.length+L.length):Nat):Int) - 1,X++L++R++Y,()) (fF cmp)=some (Sum.inr ((X.length:Int),((X.length+L.length:Nat):Int),((X.length+L.length+R.length:Nat):Int),(),(mid:Int),((mid+(X.length+L.length):Nat):Int),(s:Int),X++L++R++Y,()))/\ lo<=s/\s<=hi/\(∀ i j (_:i<L.length) (_:j<R.length),X.length+i+1=s->j+s=mid->k L[i]<=k R[j])/\(∀ i j (_:i<L.length) (_:j<R.length),X.length+i=s->j+1+s=mid->k R[j]<k L[i]):=by
 simp only[agM] at hlen
 have hLt:∀ i (h:i<L.length),(X++L++R++Y)[X.length+i]? =some L[i]:=fun i h=>ac5 X L R Y h
 have hRt:∀ i (h:i<R.length),(X++L++R++Y)[X.length+L.length+i]? =some R[i]:=fun i h=>ZQ X L R Y h
 obtain⟨r,h1,h2,h3,h4,h5⟩:=bsearch (f:=(fF cmp)) (fun i j=>((X.length:Int),((X.length+L.length:Nat):Int),((X.length+L.length+R.length:Nat):Int),(),(mid:Int),((mid+(X.length+L.length):Nat):Int),(i:Int),(j:Int),((mid+(X.length+L.length):Nat):Int) - 1,X++L++R++Y,()))
  (fun s=>some (Sum.inr ((X.length:Int),((X.length+L.length:Nat):Int),((X.length+L.length+R.length:Nat):Int),(),(mid:Int),((mid+(X.length+L.length):Nat):Int),(s:Int),X++L++R++Y,())))
  (fun t=>¬ k ((R[mid - 1 - t]?).getD default)<k ((L[t - X.length]?).getD default)) lo hi (by
    intro i j again hi1 hij hj
    unfold fF
    dsimp only
    generalize hh0:(i+j) / 2=h
    have hhL:h - X.length<L.length:=by omega
    have hhR:mid - 1 - h<R.length:=by omega
    have hg:=hLt _ hhL
    rw[show X.length+(h - X.length)=h by omega] at hg
    have hg2:=hRt _ hhR
    rw[av (by omega),N7 i j (by omega),hh0]
    have e1:w64 (((mid+(X.length+L.length):Nat):Int) - 1 - (h:Int))=((X.length+L.length+(mid - 1 - h):Nat):Int):=by rw[au (by omega) (by omega)];omega
    rw[e1]
    simp only[afY,hg,hg2,aib]
    obtain⟨c,hcc,hlt⟩:=hc R[mid - 1 - h] L[h - X.length] (hokR _ (agL _)) (hokL _ (agL _))
    rw[hcc,aH (by simp only[afv,ait,agM];omega),aH (by simp only[afv,ait,agM];omega),aib,agz hhL,agz hhR]
    dsimp only[Option.getD]
    by_cases hk:k R[mid - 1 - h]<k L[h - X.length]
    ·rw[ais (hlt.2 hk),afG,ain,aiA (fun h=>h hk)]
    ·rw[aiq (fun h=>hk (hlt.1 h)),afF,aio,aiB hk,au (by omega) (by omega)];rfl)
  (by
    intro i again _ _
    unfold fF
    dsimp only
    rw[ay (by omega)])
  (by
    intro s t hs hst ht hP
    rw[agz (show t - X.length<L.length by omega),agz (show mid - 1 - t<R.length by omega)] at hP
    rw[agz (show s - X.length<L.length by omega),agz (show mid - 1 - s<R.length by omega)]
    have a1:=hL.get (i:=s - X.length) (j:=t - X.length) (by omega) (by omega)
    have a2:=hR.get (i:=mid - 1 - t) (j:=mid - 1 - s) (by omega) (by omega)
    simp only[aic] at hP ⊢
    omega)
  n lo hi (by omega) (ahJ _) (by omega) (ahJ _) (fun t h1 h2=>by omega) (fun t h1 h2=>by omega)
 refine⟨r,h1,h2,h3, ?_, ?_⟩
 ·intro i j hi' hj' e1 e2
  have:=h4 (X.length+i) (by omega) (by omega)
  rw[show X.length+i - X.length=i by omega,show mid - 1 - (X.length+i)=j by omega,agz hi',agz hj'] at this
  simp only[aic] at this
  omega
 ·intro i j hi' hj' e1 e2
  have:=h5 (X.length+i) (by omega) (by omega)
  rw[show X.length+i - X.length=i by omega,show mid - 1 - (X.length+i)=j by omega,agz hi',agz hj'] at this
  simp only[aic] at this
  omega
def XQ (cmp:α->α->Option (Int×Unit)) (self:((List α)×Int×Int×Int×Unit×Unit)->Option ((List α)×Unit)) (x:(List α)×Int×Int×Int×Unit×Unit):=(gu cmp) self x.1 x.2.1 x.2.2.1 x.2.2.2.1 x.2.2.2.2.1
set_option maxHeartbeats 4000000 in
theorem XR (hc:xO cmp k ok):∀ (n:Nat) (X L R Y:List α),L.length+R.length<n+2->0<L.length->0<R.length->(X++L++R++Y).length<1000000000->Srt k L->Srt k R->(∀ z∈L,ok z)->(∀ z∈R,ok z)-> ∃ S,nL (XQ cmp) n (X++L++R++Y,(X.length:Int),((X.length+L.length:Nat):Int),((X.length+L.length+R.length:Nat):Int),(),())=some (X++S++Y,())/\Srt k S/\bK k (L++R) S:=by
 intro n
 induction n with
 | zero=>intro X L R Y h h1 h2;omega
 | succ n ih=>
  intro X L R Y hn hL0 hR0 hlen hL hR hokL hokR
  have hlen':=hlen
  simp only[agM] at hlen
  show ∃ S,(XQ cmp) (nL (XQ cmp) n) _=_/\_
  generalize hself:nL (XQ cmp) n=self at ih
  unfold XQ gu
  dsimp only
  have e1:w64 (((X.length+L.length:Nat):Int) - (X.length:Int))=(L.length:Int):=by rw[au (by omega) (by omega)];omega
  have e2:w64 (((X.length+L.length+R.length:Nat):Int) - ((X.length+L.length:Nat):Int))=(R.length:Int):=by rw[au (by omega) (by omega)];omega
  rw[e1,e2]
  by_cases hL1:L.length=1
  ·obtain⟨x,rfl⟩:∃ x,L=[x]:=List.length_eq_one_iff.1 hL1
   rw[show ((([x].length:Nat):Int)==1)=true by simp,aio]
   obtain⟨R1,R2,rfl,h1,h2,h3⟩:=TL hc X R Y x hlen' hR (hokL x (by simp)) hokR (Int.natAbs (X.length:Int)+(Int.natAbs ((X.length+[x].length:Nat):Int)+(Int.natAbs ((X.length+[x].length+R.length:Nat):Int)+(List.length (X++[x]++R++Y)+2)))) (by simp;omega)
   simp only[agN,agQ,ah7] at h3 ⊢
   rw[h3,az]
   dsimp only
   have hmv:=adz (X.length+1+R1.length) (Int.natAbs ((X.length+1+R1.length:Nat):Int)+(Int.natAbs (X.length:Int)+(List.length (X++[x]++(R1++R2)++Y)+2))) X R1 (R2++Y) x (by simp;omega) rfl (by simp at hlen ⊢;omega)
   rw[show X++x::R1++(R2++Y)=X++[x]++(R1++R2)++Y by simp] at hmv
   rw[hmv,az]
   refine⟨R1++x::R2,by simp, ?_, ?_⟩
   ·exact hR.left.append (ahk.2 ⟨h2,hR.right⟩) (fun y hy z hz=>by
     rcases ag3.1 hz with rfl | hz
     ·have:=h1 y hy;omega
     ·exact hR.NX y hy z hz)
   ·have:=(bK.swap (k:=k) (u:=[x]) (v:=R1) (fun y hy z hz=>by rw[ahf.1 hy];have:=h1 z hz;omega)).append (bK.refl k R2)
    simpa using this
  ·rw[show (((L.length:Nat):Int)==1)=false by simp;omega,ain]
   by_cases hR1:R.length=1
   ·obtain⟨y,rfl⟩:∃ x,R=[x]:=List.length_eq_one_iff.1 hR1
    rw[show ((([y].length:Nat):Int)==1)=true by simp,aio]
    obtain⟨L1,L2,rfl,h1,h2,h3⟩:=RY hc X L Y y hlen' hL (hokR y (by simp)) hokL (Int.natAbs ((X.length+L.length:Nat):Int)+(Int.natAbs (X.length:Int)+(Int.natAbs ((X.length+L.length:Nat):Int)+(List.length (X++L++[y]++Y)+2)))) (by omega)
    rw[h3,az]
    dsimp only
    have hmv:=abq (X++L1) (Int.natAbs ((X.length+L1.length:Nat):Int)+(Int.natAbs ((X.length+(L1++L2).length:Nat):Int)+(List.length (X++(L1++L2)++[y]++Y)+2))) L2 Y y (by simp;omega) (by simp at hlen ⊢;omega)
    rw[show X++L1++L2++y::Y=X++(L1++L2)++[y]++Y by simp,show (((X++L1).length:Nat):Int)=((X.length+L1.length:Nat):Int) by simp,show (((X++L1).length+L2.length:Nat):Int)=((X.length+(L1++L2).length:Nat):Int) by simp;omega] at hmv
    rw[hmv,az]
    refine⟨L1++y::L2,by simp, ?_, ?_⟩
    ·exact hL.left.append (ahk.2 ⟨fun z hz=>by have:=h2 z hz;omega,hL.right⟩) (fun z hz w hw=>by
      rcases ag3.1 hw with rfl | hw
      ·exact h1 z hz
      ·exact hL.NX z hz w hw)
    ·have:=(bK.refl k L1).append (bK.swap (k:=k) (u:=L2) (v:=[y]) (fun z hz w hw=>by rw[ahf.1 hw];have:=h2 z hz;omega))
     simpa using this
   ·rw[show (((R.length:Nat):Int)==1)=false by simp;omega,ain]
    have eh:=N7 X.length (X.length+L.length+R.length) (by omega)
    rw[eh]
    generalize hmid:(X.length+(X.length+L.length+R.length)) / 2=mid
    have e3:w64 ((mid:Int)+((X.length+L.length:Nat):Int))=((mid+(X.length+L.length):Nat):Int):=by rw[au (by omega) (by omega)];omega
    rw[e3]
    obtain⟨lo,hi,hcase,hv⟩:∃ lo hi:Nat,((mid<X.length+L.length/\lo+R.length=mid/\hi=mid/\X.length<=lo)\/(X.length+L.length<=mid/\lo=X.length/\hi=X.length+L.length))/\
     (bif decide (((X.length+L.length:Nat):Int)>(mid:Int)) then
       (some (Sum.inr ((X.length:Int),((X.length+L.length:Nat):Int),((X.length+L.length+R.length:Nat):Int),(),(mid:Int),((mid+(X.length+L.length):Nat):Int),w64 (((mid+(X.length+L.length):Nat):Int) - ((X.length+L.length+R.length:Nat):Int)),(mid:Int),X++L++R++Y,())):Option (((List α)×Unit) ⊕ (Int×Int×Int×Unit×Int×Int×Int×Int×(List α)×Unit)))
     else some (Sum.inr ((X.length:Int),((X.length+L.length:Nat):Int),((X.length+L.length+R.length:Nat):Int),(),(mid:Int),((mid+(X.length+L.length):Nat):Int),(X.length:Int),((X.length+L.length:Nat):Int),X++L++R++Y,())))=some (Sum.inr ((X.length:Int),((X.length+L.length:Nat):Int),((X.length+L.length+R.length:Nat):Int),(),(mid:Int),((mid+(X.length+L.length):Nat):Int),(lo:Int),(hi:Int),X++L++R++Y,())):=by
     by_cases hm:mid<X.length+L.length
     ·refine⟨mid - R.length,mid,.inl ⟨hm,by omega,rfl,by omega⟩, ?_⟩
      rw[av (by omega),au (by omega) (by omega),show ((mid+(X.length+L.length):Nat):Int) - ((X.length+L.length+R.length:Nat):Int)=((mid - R.length:Nat):Int) by omega]
     ·refine⟨X.length,X.length+L.length,.inr ⟨by omega,rfl,rfl⟩, ?_⟩
      rw[ay (by omega)]
    rw[hv,az]
    dsimp only
    have e4:w64 (((mid+(X.length+L.length):Nat):Int) - 1)=((mid+(X.length+L.length):Nat):Int) - 1:=au (by omega) (by omega)
    rw[e4]
    obtain⟨s,h1,h2,h3,hF2,hF1⟩:=Xl hc X L R Y hlen' hL hR hokL hokR mid lo hi hmid.symm hcase (Int.natAbs (X.length:Int)+(Int.natAbs ((X.length+L.length:Nat):Int)+(Int.natAbs ((X.length+L.length+R.length:Nat):Int)+(Int.natAbs (mid:Int)+(Int.natAbs ((mid+(X.length+L.length):Nat):Int)+(Int.natAbs (lo:Int)+(Int.natAbs (hi:Int)+(Int.natAbs (((mid+(X.length+L.length):Nat):Int) - 1)+(List.length (X++L++R++Y)+2))))))))) (by omega)
    rw[h1,az]
    dsimp only
    clear h1 hv
    obtain⟨L1,L2,rfl,hL1l⟩:=ry (l:=L) (n:=s - X.length) (by omega)
    obtain⟨R1,R2,rfl,hR1l⟩:=ry (l:=R) (n:=mid - s) (by simp only[agM] at *;omega)
    simp only[agM] at hn hlen hL1 hR1 hmid hcase e1 e2 e3 e4 eh hL0 hR0
    have F1:∀ y∈R1,∀ z∈L2,k y<k z:=by
     intro y hy z hz
     have hr0:0<R1.length:=agR hy
     have hl0:0<L2.length:=agR hz
     have:=hF1 L1.length (R1.length - 1) (by simp;omega) (by simp;omega) (by omega) (by omega)
     rw[List.getElem_append_left (show R1.length - 1<R1.length by omega),List.getElem_append_right (by omega)] at this
     obtain⟨i,hi',rfl⟩:=ag7.1 hy
     obtain⟨j,hj',rfl⟩:=ag7.1 hz
     have a1:=hR.left.get (i:=i) (j:=R1.length - 1) (by omega) (by omega)
     have a2:=hL.right.get (i:=L1.length - L1.length) (j:=j) (by omega) hj'
     omega
    have F2:∀ y∈L1,∀ z∈R2,k y<=k z:=by
     intro y hy z hz
     have hr0:0<L1.length:=agR hy
     have hl0:0<R2.length:=agR hz
     have:=hF2 (L1.length - 1) R1.length (by simp;omega) (by simp;omega) (by omega) (by omega)
     rw[List.getElem_append_left (show L1.length - 1<L1.length by omega),List.getElem_append_right (by omega)] at this
     obtain⟨i,hi',rfl⟩:=ag7.1 hy
     obtain⟨j,hj',rfl⟩:=ag7.1 hz
     have a1:=hL.left.get (i:=i) (j:=L1.length - 1) (by omega) (by omega)
     have a2:=hR.right.get (i:=R1.length - R1.length) (j:=j) (by omega) hj'
     omega
    have e5:w64 (((mid+(X.length+(L1++L2).length):Nat):Int) - (s:Int))=((X.length+(L1++L2).length+R1.length:Nat):Int):=by
     rw[au (by simp;omega) (by simp;omega)];simp only[agM];omega
    rw[e5]
    have hokL1:∀ z∈L1,ok z:=fun z hz=>hokL z (by simp[hz])
    have hokL2:∀ z∈L2,ok z:=fun z hz=>hokL z (by simp[hz])
    have hokR1:∀ z∈R1,ok z:=fun z hz=>hokR z (by simp[hz])
    have hokR2:∀ z∈R2,ok z:=fun z hz=>hokR z (by simp[hz])
    have ph1:∃ S1,(X.length<s->s<mid->self (X++L1++R1++(L2++R2++Y),(X.length:Int),(s:Int),(mid:Int),(),())=some (X++S1++(L2++R2++Y),()))/\(¬(X.length<s/\s<mid)->S1=L1++R1)/\Srt k S1/\bK k (L1++R1) S1:=by
     by_cases hb:X.length<s/\s<mid
     ·obtain⟨S1,g1,g2,g3⟩:=ih X L1 R1 (L2++R2++Y) (by omega) (by omega) (by omega) (by simp;omega) hL.left hR.left hokL1 hokR1
      rw[show ((X.length+L1.length:Nat):Int)=(s:Int) by omega,show ((X.length+L1.length+R1.length:Nat):Int)=(mid:Int) by omega] at g1
      exact⟨S1,fun _ _=>g1,fun h=>absurd hb h,g2,g3⟩
     ·refine⟨L1++R1,fun h1 h2=>absurd ⟨h1,h2⟩ hb,fun _=>rfl, ?_,bK.refl _ _⟩
      rcases (show L1.length=0\/R1.length=0 by omega) with h | h
      ·rw[agi h];exact hR.left
      ·rw[agi h,af4];exact hL.left
    obtain⟨S1,hS1a,hS1b,hS1s,hS1e⟩:=ph1
    have hS1l:S1.length=L1.length+R1.length:=by rw[hS1e.length];simp
    have ph2:∃ S2,(bif decide ((mid:Int)<((X.length+(L1++L2).length+R1.length:Nat):Int)) then
     bif decide (((X.length+(L1++L2).length+R1.length:Nat):Int)<((X.length+(L1++L2).length+(R1++R2).length:Nat):Int)) then
      Option.bind (self (X++S1++(L2++R2++Y),(mid:Int),((X.length+(L1++L2).length+R1.length:Nat):Int),((X.length+(L1++L2).length+(R1++R2).length:Nat):Int),(),())) fun r38=>some (r38.1,())
     else some (X++S1++(L2++R2++Y),())
     else some (X++S1++(L2++R2++Y),()))=some (X++(S1++S2)++Y,())/\Srt k S2/\bK k (L2++R2) S2:=by
     simp only[agM]
     by_cases hb1:0<L2.length
     ·rw[av (by omega)]
      by_cases hb2:0<R2.length
      ·rw[av (by omega)]
       obtain⟨S2,g1,g2,g3⟩:=ih (X++S1) L2 R2 Y (by omega) hb1 hb2 (by simp;omega) hL.right hR.right hokL2 hokR2
       rw[show (((X++S1).length:Nat):Int)=(mid:Int) by simp;omega,show (((X++S1).length+L2.length:Nat):Int)=((X.length+(L1.length+L2.length)+R1.length:Nat):Int) by simp;omega,show (((X++S1).length+L2.length+R2.length:Nat):Int)=((X.length+(L1.length+L2.length)+(R1.length+R2.length):Nat):Int) by simp;omega] at g1
       rw[show X++S1++(L2++R2++Y)=X++S1++L2++R2++Y by simp,g1]
       exact⟨S2,by simp,g2,g3⟩
      ·have:R2=[]:=agi (by omega)
       subst this
       rw[ay (by simp)]
       exact⟨L2,by simp,hL.right,by simpa using bK.refl k L2⟩
     ·have:L2=[]:=agi (by omega)
      subst this
      rw[ay (by simp;omega)]
      exact⟨R2,by simp,hR.right,bK.refl _ _⟩
    obtain⟨S2,hE2,hS2s,hS2e⟩:=ph2
    have fin:Srt k (S1++S2)/\bK k (L1++L2++(R1++R2)) (S1++S2):=by
     constructor
     ·refine hS1s.append hS2s fun y hy z hz=> ?_
      rcases ag0.1 (hS1e.mem.1 hy) with h | h<;>rcases ag0.1 (hS2e.mem.1 hz) with h' | h'
      ·exact hL.NX y h z h'
      ·exact F2 y h z h'
      ·have:=F1 y h z h';omega
      ·exact hR.NX y h z h'
     ·have h1:bK k (L1++(L2++R1)++R2) (L1++(R1++L2)++R2):=((bK.refl k L1).append (bK.swap fun y hy z hz=>by have:=F1 z hz y hy;omega)).append (bK.refl k R2)
      have h2:=hS1e.append hS2e
      have h3:bK k (L1++L2++(R1++R2)) (L1++R1++(L2++R2)):=by simpa using h1
      exact h3.trans h2
    refine⟨S1++S2, ?_,fin.1,fin.2⟩
    have hsL:((X.length+(L1++L2).length:Nat):Int)=((X.length+L1.length+L2.length:Nat):Int):=by simp;omega
    have tail:∀ (D:List α),D=X++L1++R1++(L2++R2++Y)->
     (bif decide ((X.length:Int)<(s:Int)) then
       aJ (β:=((List α)×Unit)) (γ:=(Int×Unit×Int×Int×(List α)×Unit)) (
        bif decide ((s:Int)<(mid:Int)) then
         Option.bind (self (D,(X.length:Int),(s:Int),(mid:Int),(),())) fun r35=>
         some (Sum.inr (((X.length+(L1++L2).length+(R1++R2).length:Nat):Int),(),(mid:Int),((X.length+(L1++L2).length+R1.length:Nat):Int),r35.1,()))
        else
         some (Sum.inr (((X.length+(L1++L2).length+(R1++R2).length:Nat):Int),(),(mid:Int),((X.length+(L1++L2).length+R1.length:Nat):Int),D,()))) fun v36=>
       bif decide (v36.2.2.1<v36.2.2.2.1) then
        bif decide (v36.2.2.2.1<v36.1) then
         Option.bind (self (v36.2.2.2.2.1,v36.2.2.1,v36.2.2.2.1,v36.1,v36.2.1,())) fun r37=>
         some (r37.1,())
        else
         some (v36.2.2.2.2.1,())
       else
        some (v36.2.2.2.2.1,())
     else
      bif decide ((mid:Int)<((X.length+(L1++L2).length+R1.length:Nat):Int)) then
       bif decide (((X.length+(L1++L2).length+R1.length:Nat):Int)<((X.length+(L1++L2).length+(R1++R2).length:Nat):Int)) then
        Option.bind (self (D,(mid:Int),((X.length+(L1++L2).length+R1.length:Nat):Int),((X.length+(L1++L2).length+(R1++R2).length:Nat):Int),(),())) fun r38=>
        some (r38.1,())
       else
        some (D,())
      else
       some (D,()))=some (X++(S1++S2)++Y,()):=by
     intro D hD
     by_cases hb1:X.length<s
     ·rw[av (by omega)]
      by_cases hb2:s<mid
      ·rw[av (by omega),hD,hS1a hb1 hb2,aib,az]
       exact hE2
      ·rw[ay (by omega),az,hD]
       have:X++L1++R1++(L2++R2++Y)=X++S1++(L2++R2++Y):=by rw[hS1b (fun h=>hb2 h.2)];simp
       rw[this]
       exact hE2
     ·rw[ay (by omega),hD]
      have:X++L1++R1++(L2++R2++Y)=X++S1++(L2++R2++Y):=by rw[hS1b (fun h=>hb1 h.1)];simp
      rw[this]
      exact hE2
    by_cases hsm:s<X.length+(L1++L2).length
    ·rw[av (by omega)]
     by_cases hme:0<R1.length
     ·have hrot:=abL (X++L1) L2 R1 (R2++Y) (by simp at hsm;omega) hme (by simp;omega)
      rw[show (((X++L1).length:Nat):Int)=(s:Int) by simp;omega,show (((X++L1).length+L2.length:Nat):Int)=((X.length+(L1++L2).length:Nat):Int) by simp;omega,show (((X++L1).length+L2.length+R1.length:Nat):Int)=((X.length+(L1++L2).length+R1.length:Nat):Int) by simp;omega,
       show X++L1++L2++R1++(R2++Y)=X++(L1++L2)++(R1++R2)++Y by simp] at hrot
      rw[av (by omega),hrot,aib,az]
      exact tail _ (by simp)
     ·have:R1=[]:=agi (by omega)
      subst this
      rw[ay (by simp),az]
      exact tail _ (by simp)
    ·rw[ay (by omega)]
     have:L2=[]:=agi (by simp at hsm;omega)
     subst this
     exact tail _ (by simp)
theorem Px (hc:xO cmp k ok) (X L R Y:List α) (h1:0<L.length) (h2:0<R.length) (hlen:(X++L++R++Y).length<1000000000) (hL:Srt k L) (hR:Srt k R) (hokL:∀ z∈L,ok z) (hokR:∀ z∈R,ok z): ∃ S,(fD cmp) (X++L++R++Y) (X.length:Int) ((X.length+L.length:Nat):Int) ((X.length+L.length+R.length:Nat):Int) ()=some (X++S++Y,())/\Srt k S/\bK k (L++R) S:=by
 unfold fD
 exact XR hc _ X L R Y (by unfold gR;simp only[agM];omega) h1 h2 hlen hL hR hokL hokR
theorem XN (hc:xO cmp k ok) (N:Nat) (hN:N<100000000):∀ (n:Nat) (A Z:List α) (j:Nat),A.length=j*20->A.length+Z.length=N->Z.length<n->ChS k 20 A->(∀ z∈A,ok z)->(∀ z∈Z,ok z)-> ∃ A' Z' j',iter (X:=(jW α)) (β:=(jT α)) n ((N:Int),(),20,(A.length:Int),((A.length+20:Nat):Int),A++Z,()) (jQ cmp)=some (Sum.inr ((N:Int),(),20,(A'.length:Int),A'++Z',()))/\A'.length=j'*20/\Z'.length<20/\ChS k 20 A'/\bK k (A++Z) (A'++Z'):=by
 intro n
 induction n with
 | zero=>intro A Z j _ _ h;omega
 | succ n ih=>
  intro A Z j hA hAZ hn hch hokA hokZ
  rw[aY]
  generalize hag:(fun y=>iter n y (jQ cmp))=again
  unfold jQ
  dsimp only
  by_cases hb:20<=Z.length
  ·rw[av (by omega)]
   obtain⟨S,Y,rfl,hS⟩:=ry (l:=Z) (n:=20) hb
   simp only[agM] at hAZ hn
   obtain⟨S',g1,g2,g3⟩:=MT hc A S Y (by simp;omega) (fun z hz=>hokZ z (by simp[hz]))
   rw[hS] at g1
   rw[show A++(S++Y)=A++S++Y by simp,g1,aib]
   dsimp only
   have hS':S'.length=20:=by rw[g3.length,hS]
   have e1:w64 (((A.length+20:Nat):Int)+20)=(((A++S').length+20:Nat):Int):=by rw[au (by omega) (by omega)];simp;omega
   rw[e1,show ((A.length+20:Nat):Int)=(((A++S').length:Nat):Int) by simp;omega, <- hag]
   obtain⟨A',Z',j',h1,h2,h3,h4,h5⟩:=ih (A++S') Y (j+1) (by simp;omega) (by simp;omega) (by omega) (hch.snoc hA g2 (by omega)) (fun z hz=>by
    rcases ag0.1 hz with h | h
    ·exact hokA z h
    ·exact hokZ z (by simp[g3.mem.1 h])) (fun z hz=>hokZ z (by simp[hz]))
   refine⟨A',Z',j',h1,h2,h3,h4, ?_⟩
   have:bK k (A++S++Y) (A++S'++Y):=((bK.refl k A).append g3).append (bK.refl k Y)
   exact this.trans h5
  ·rw[ay (by omega)]
   exact⟨A,Z,j,rfl,hA,by omega,hch,bK.refl _ _⟩
theorem YT (hc:xO cmp k ok) (N bs:Nat) (hN:N<100000000) (hbs:0<bs) (hbN:bs<N):∀ (n:Nat) (A Z:List α) (j:Nat),A.length=j*(2*bs)->A.length+Z.length=N->Z.length<n->ChS k (2*bs) A->ChS k bs Z->(∀ z∈A,ok z)->(∀ z∈Z,ok z)-> ∃ A' Z' j',iter (X:=(jY α)) (β:=(jV α)) n ((N:Int),(),(bs:Int),(A.length:Int),((A.length+2*bs:Nat):Int),A++Z,()) (jS cmp)=some (Sum.inr ((N:Int),(),(bs:Int),(A'.length:Int),A'++Z',()))/\A'.length=j'*(2*bs)/\Z'.length<2*bs/\ChS k (2*bs) A'/\ChS k bs Z'/\bK k (A++Z) (A'++Z'):=by
 intro n
 induction n with
 | zero=>intro A Z j _ _ h;omega
 | succ n ih=>
  intro A Z j hA hAZ hn hch hcz hokA hokZ
  rw[aY]
  generalize hag:(fun y=>iter n y (jS cmp))=again
  unfold jS
  dsimp only
  by_cases hb:2*bs<=Z.length
  ·rw[av (by omega)]
   obtain⟨L,Z1,rfl,hL⟩:=ry (l:=Z) (n:=bs) (by omega)
   obtain⟨R,Y,rfl,hR⟩:=ry (l:=Z1) (n:=bs) (by simp at hb;omega)
   simp only[agM] at hAZ hn hb
   have sL:Srt k L:=by
    have:=hcz 0
    rw[aia,agf, <- hL,ahu] at this
    exact this
   have sR:Srt k R:=by
    have:=hcz 1
    rw[ah1] at this
    conv at this=>arg 2;rw[show bs=L.length by omega,agb,show L.length=R.length by omega,ahu]
    exact this
   have cY:ChS k bs Y:=by
    have:=hcz.drop 2
    rw[show L++(R++Y)=(L++R)++Y by simp,show 2*bs=(L++R).length by simp;omega,agb] at this
    exact this
   obtain⟨S,g1,g2,g3⟩:=Px hc A L R Y (by omega) (by omega) (by simp;omega) sL sR (fun z hz=>hokZ z (by simp[hz])) (fun z hz=>hokZ z (by simp[hz]))
   have e0:w64 ((A.length:Int)+(bs:Int))=((A.length+L.length:Nat):Int):=by rw[au (by omega) (by omega)];omega
   rw[e0,show ((A.length+2*bs:Nat):Int)=((A.length+L.length+R.length:Nat):Int) by omega,show A++(L++(R++Y))=A++L++R++Y by simp,g1,aib]
   dsimp only
   have hSl:S.length=2*bs:=by rw[g3.length];simp;omega
   have e1:w64 (((A.length+L.length+R.length:Nat):Int)+w64 (2*(bs:Int)))=(((A++S).length+2*bs:Nat):Int):=by
    rw[au (n:=2*(bs:Int)) (by omega) (by omega),au (by omega) (by omega)];simp;omega
   rw[e1,show ((A.length+L.length+R.length:Nat):Int)=(((A++S).length:Nat):Int) by simp;omega, <- hag]
   obtain⟨A',Z',j',h1,h2,h3,h4,h5,h6⟩:=ih (A++S) Y (j+1) (by rw[agM,hA,hSl,ahB,ah1]) (by simp;omega) (by omega) (hch.snoc hA g2 (by omega)) cY (fun z hz=>by
    rcases ag0.1 hz with h | h
    ·exact hokA z h
    ·rcases ag0.1 (g3.mem.1 h) with h | h<;>exact hokZ z (by simp[h])) (fun z hz=>hokZ z (by simp[hz]))
   refine⟨A',Z',j',h1,h2,h3,h4,h5, ?_⟩
   have:bK k (A++(L++R)++Y) (A++S++Y):=((bK.refl k A).append g3).append (bK.refl k Y)
   have h7:=this.trans h6
   simpa using h7
  ·rw[ay (by omega)]
   exact⟨A,Z,j,rfl,hA,by omega,hch,hcz,bK.refl _ _⟩
theorem YS (hc:xO cmp k ok) (N:Nat) (hN:N<100000000):∀ (n bs:Nat) (l:List α),l.length=N->0<bs->N<bs+n/\0<n->bs<400000000->ChS k bs l->(∀ z∈l,ok z)-> ∃ l',iter (X:=(jX α)) (β:=(jU α)) n ((N:Int),(),(bs:Int),l,()) (jR cmp)=some (Sum.inr (l',()))/\Srt k l'/\bK k l l':=by
 intro n
 induction n with
 | zero=>
  intro bs l hl hbs hn hb2 hch hok
  exact absurd hn (by omega)
 | succ n ih=>
  intro bs l hl hbs hn hb2 hch hok
  rw[aY]
  generalize hag:(fun y=>iter n y (jR cmp))=again
  unfold jR
  dsimp only
  by_cases hb:bs<N
  ·rw[av (by omega)]
   have e0:w64 (2*(bs:Int))=(((([]:List α).length)+2*bs:Nat):Int):=by rw[au (by omega) (by omega)];simp
   rw[e0,show (0:Int)=((([]:List α).length:Nat):Int) from rfl]
   obtain⟨A,Z,j,h1,h2,h3,h4,h5,h6⟩:=YT hc N bs hN hbs hb (Int.natAbs (N:Int)+(Int.natAbs (bs:Int)+(Int.natAbs ((([]:List α).length:Nat):Int)+(Int.natAbs (((([]:List α).length)+2*bs:Nat):Int)+(List.length l+2))))) [] l 0 (by simp) (by simpa using hl) (by omega) (ChS.nil _ _) hch (by simp) hok
   rw[ahh] at h1 h6
   rw[h1,az]
   dsimp only
   have hAZ:A.length+Z.length=N:=by have:=h6.length;simp at this;omega
   have hokAZ:∀ z∈A++Z,ok z:=fun z hz=>hok z (h6.mem.1 hz)
   have e1:w64 ((A.length:Int)+(bs:Int))=((A.length+bs:Nat):Int):=by rw[au (by omega) (by omega)];omega
   have e2:w64 ((bs:Int)*2)=((2*bs:Nat):Int):=by rw[au (by omega) (by omega)];omega
   rw[e1,e2]
   by_cases hlast:A.length+bs<N
   ·rw[av (by omega)]
    obtain⟨L,R,rfl,hL⟩:=ry (l:=Z) (n:=bs) (by omega)
    simp only[agM] at hAZ h3
    have sL:Srt k L:=by
     have:=h5 0
     rw[aia,agf, <- hL,ahu] at this
     exact this
    have sR:Srt k R:=by
     have:=h5 1
     rw[ah1] at this
     conv at this=>arg 2;rw[show List.drop bs (L++R)=R by rw[<- hL];exact agb,ahw (by omega)]
     exact this
    obtain⟨S,g1,g2,g3⟩:=Px hc A L R [] (by omega) (by omega) (by simp;omega) sL sR (fun z hz=>hokAZ z (by simp[hz])) (fun z hz=>hokAZ z (by simp[hz]))
    simp only[af4] at g1
    rw[show ((A.length+bs:Nat):Int)=((A.length+L.length:Nat):Int) by omega,show ((N:Nat):Int)=((A.length+L.length+R.length:Nat):Int) by omega,show A++(L++R)=A++L++R by simp,g1,aib, <- hag]
    have hsam:bK k l (A++S):=h6.trans (by simpa using (bK.refl k A).append g3)
    obtain⟨l',q1,q2,q3⟩:=ih (2*bs) (A++S) (by rw[hsam.length];exact hl) (by omega) ⟨by omega,by omega⟩ (by omega) (h4.snoc h2 g2 (by rw[g3.length];simp;omega)) (fun z hz=>hok z (hsam.mem.1 hz))
    rw[show ((A.length+L.length+R.length:Nat):Int)=((N:Nat):Int) by omega]
    exact⟨l',q1,q2,hsam.trans q3⟩
   ·rw[ay (by omega), <- hag]
    have sZ:Srt k Z:=by
     have:=h5 0
     rw[aia,agf,ahw (by omega)] at this
     exact this
    obtain⟨l',q1,q2,q3⟩:=ih (2*bs) (A++Z) (by simp;omega) (by omega) ⟨by omega,by omega⟩ (by omega) (h4.snoc h2 sZ (by omega)) hokAZ
    exact⟨l',q1,q2,h6.trans q3⟩
  ·rw[ay (by omega)]
   refine⟨l,rfl, ?_,bK.refl _ _⟩
   have:=hch 0
   rw[aia,agf,ahw (by omega)] at this
   exact this
theorem Lh (hc:xO cmp k ok) (l:List α) (hl:l.length<100000000) (hok:∀ z∈l,ok z):∃ l',(k8 cmp) l ()=some (l',())/\Srt k l'/\bK k l l':=by
 unfold k8 mc
 obtain⟨A,Z,j,h1,h2,h3,h4,h5⟩:=XN hc l.length hl (Int.natAbs (l.length:Int)+(Int.natAbs (20:Int)+(Int.natAbs (0:Int)+(Int.natAbs (20:Int)+(List.length l+2))))) [] l 0 (by simp) (by simp) (by omega) (ChS.nil _ _) (by simp) hok
 simp only[agQ,ahh] at h1 h5
 rw[show ((0+20:Nat):Int)=20 from rfl,show ((0:Nat):Int)=0 from rfl] at h1
 rw[h1,az]
 dsimp only
 have hAZ:A.length+Z.length=l.length:=by have:=h5.length;simp at this;omega
 obtain⟨Z',g1,g2,g3⟩:=MT hc A Z [] (by simp;omega) (fun z hz=>hok z (h5.mem.1 (by simp[hz])))
 simp only[af4] at g1
 rw[show ((A.length+Z.length:Nat):Int)=(l.length:Int) by omega] at g1
 rw[g1,aib]
 dsimp only
 have hsam:bK k l (A++Z'):=h5.trans ((bK.refl k A).append g3)
 obtain⟨l',q1,q2,q3⟩:=YS hc l.length hl (Int.natAbs (l.length:Int)+(Int.natAbs (20:Int)+(List.length (A++Z')+2))) 20 (A++Z') hsam.length (by omega) ⟨by omega,by omega⟩ (by omega) (h4.snoc h2 g2 (by rw[g3.length];omega)) (fun z hz=>hok z (hsam.mem.1 hz))
 rw[show ((20:Nat):Int)=20 from rfl] at q1
 rw[q1,az]
 exact⟨l',rfl,q2,hsam.trans q3⟩
end
end Go.Md.SQG
