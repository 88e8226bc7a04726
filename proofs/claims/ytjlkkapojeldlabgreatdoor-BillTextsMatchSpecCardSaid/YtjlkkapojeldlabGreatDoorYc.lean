/-
  The executor, its third part: calls, regions and orders are sound. No condition.
-/
import Derived.Test.YtjlkkapojeldlabGreatDoorYb
import Derived.LoopN
set_option linter.all false
namespace Go.Dn
variable {β:Type} {X:Cx} {o:Oper} {S:St} {r:β} {P0:Program} {C:Fr P0} {G:Gh} {ρ:Env} {w:World}
theorem aT.beq_eq {a b:aT}:aT.beq a b=true↔a=b:=by
 cases a<;>cases b<;>simp[aT.beq]
theorem FC (l:List (aT×Nat)) (o x:aT) (n:Nat):bG ((o,n)::l) x=if o=x then some n else bG l x:=by
 simp only[bG]
 by_cases h:o=x
 ·subst h;simp[aT.beq_eq.2 rfl]
 ·have:aT.beq o x=false:=by
   cases hb:aT.beq o x with
   | false=>rfl
   | true=>exact absurd (aT.beq_eq.1 hb) h
  simp[this,h]
theorem YQ {l:List (aT×Nat)} {o:aT} {n:Nat} (h:bG l o=some n):(o,n)∈l:=by
 induction l with
 | nil=>simp[bG] at h
 | cons p r ih=>
  obtain⟨o',n'⟩:=p
  rw[FC] at h
  split at h
  ·rename_i e;cases h;subst e;simp
  ·exact aeP _ (ih h)
theorem FD {l:List (aT×Nat)} {o:aT} {n:Nat} (h:(o,n)∈l):(bG l o).isSome=true:=by
 induction l with
 | nil=>simp at h
 | cons p r ih=>
  obtain⟨o',n'⟩:=p
  rw[FC]
  split
  ·rfl
  ·rename_i hne
   rcases aeO.1 h with h | h
   ·cases h;exact absurd rfl hne
   ·exact ih h
theorem wD {l:List (aT×Nat)} {o:aT} {n:Nat} (hd:wm l=false) (h:(o,n)∈l):bG l o=some n:=by
 induction l with
 | nil=>simp at h
 | cons p r ih=>
  obtain⟨o',n'⟩:=p
  simp only[wm,adw] at hd
  rw[FC]
  rcases aeO.1 h with h | h
  ·cases h;simp
  ·split
   ·rename_i e
    subst e
    have:=FD h
    rw[hd.1] at this;cases this
   ·exact ih hd.2 h
theorem Fj {x:Nat} {l:List Nat} (h:dup (x::l)=false):x∉l/\dup l=false:=by
 simp only[dup,adw,adR] at h
 refine⟨fun hm=> ?_,h.2⟩
 have:=h.1 x hm
 simp at this
theorem T7 {l:List (aT×Nat)} {o o':aT} {n:Nat} (hd:dup (l.map (·.2))=false) (h:(o,n)∈l) (h':(o',n)∈l):o=o':=by
 induction l with
 | nil=>simp at h
 | cons p r ih=>
  rw[aeK] at hd
  obtain⟨h1,h2⟩:=Fj hd
  rcases aeO.1 h with g | g<;>rcases aeO.1 h' with g' | g'
  ·rw[<- g] at g';cases g';rfl
  ·rw[<- g] at h1;exact absurd (aeT.2 ⟨(o',n),g',rfl⟩) h1
  ·rw[<- g'] at h1;exact absurd (aeT.2 ⟨(o,n),g,rfl⟩) h1
  ·exact ih h2 g g'
theorem mZ {α:Type} {f:CV->Option α} {cs r:List CV} {x:α} (h:qQ f cs=some (x,r)):r=cs.drop 1:=by
 cases cs with
 | nil=>cases h
 | cons c q=>
  simp only[qQ] at h
  split at h
  ·cases h;rfl
  ·cases h
theorem wM {S:St} {fb:List Nat}:∀ (t:Ty) {cs r:List CV} {x:t.den},fO S fb t cs=some (x,r)->r=cs.drop t.size
 | .int _,_,_,_,h=>mZ h
 | .bool,_,_,_,h=>mZ h
 | .str,_,_,_,h=>mZ h
 | .unit,_,_,_,h=>by simp only[fO] at h;cases h;rfl
 | .pair a b,cs,r,x,h=>by
  simp only[fO] at h
  split at h
  ·rename_i y q h1
   split at h
   ·rename_i z q' h2
    cases h
    rw[wM b h2,wM a h1,ad0];rfl
   ·cases h
  ·cases h
 | .st t,_,_,_,h=>wM t h
 | .slice _,_,_,_,h=>mZ h
 | .ptr _,_,_,_,h=>mZ h
 | .clo _ _,_,_,_,h=>mZ h
 | .hnd,_,_,_,h=>mZ h
def dO (ρ:Env) (ow:List (aT×Nat)) (b:Nat):Option Nat:=(ρ.own b).bind (bG ow)
section
variable {V:St} {G2:Gh} {ow:List (aT×Nat)} (hM:Mem C G ρ V w) (hle:G.le G2) (hh:G2.hnd=G.hnd)
include hM hle
theorem pU {e:TypeId} {t:Ty} {c:CV} {l:List t.den} {v:Value} {n:Nat} (h:iH V e t c=some l) (hv:aQ G ρ c v) (ho:∀ p,p∈mF n c->bG ow p.1=some p.2): l6 G2 w e t l v/\∀ b,v.ownBlock=some b->dO ρ ow b=some n:=by
 cases c<;>simp only[iH] at h<;>try cases h
 case row j=>
  split at h
  ·rename_i q hq
   split at h
   ·cases h
   ·rename_i hc
    simp only[adx,agd,ads,adr] at hc
    obtain⟨et,el⟩:=gN h
    have hrow:=hM.rows j q hq
    obtain⟨qf,qe,qt,ql⟩:=q
    dsimp only at et el hc
    subst et;subst el
    have hee:qe=e:=afm hc.2
    subst hee
    unfold cN at hrow
    rw[af8 (by simp[hc.1])] at hrow
    obtain⟨xs,hown,hl,hb⟩:=hrow
    have hv1:=hv.1
    subst hv1
    refine⟨⟨xs,hown,hl.mono (ax.mono hle _)⟩,fun b hb'=> ?_⟩
    have:=hb b hb'
    simp only[dO,this,afJ]
    exact ho (.inr j,n) (by simp[mF])
  ·cases h
 case nils=>
  have hv':v= .slice none 0 0:=hv
  subst hv'
  exact⟨⟨[],World.ownsRow_nil w 0 e t.size,rfl⟩,fun b hb=>by cases hb⟩
theorem yL {kk vv:Ty} {c:CV} {l:List (kk.den×vv.den)} {v:Value} {n:Nat} (h:nc V kk vv c=some l) (hv:aQ G ρ c v) (ho:∀ p,p∈mF n c->bG ow p.1=some p.2): ∃ b,v= .map (some b)/\dO ρ ow b=some n/\rS G2 w kk vv l b:=by
 cases c<;>simp only[nc] at h<;>try cases h
 case mp j=>
  split at h
  ·rename_i k' v' l' hl
   obtain⟨e1,e2,e3⟩:=E7 h
   subst e1;subst e2;subst e3
   obtain⟨b,es,clock,h1,h2,h3,h4,h5,h6⟩:=hM.objs j _ hl
   refine⟨b,hv.1.trans h1, ?_,es,clock,h3,h4.mono fun x y hxy=>hxy.mono hle,fun i e hi=>(h5 i e hi).2,h6⟩
   simp only[dO,h2,afJ]
   exact ho (.ob j,n) (by simp[mF])
  ·cases h
theorem zF:∀ {l:List OT} {cs:List CV} {x:kz l} {vs:List Value} {n:Nat},jC V l cs=some x->aG (aQ G ρ) cs vs->(∀ p,p∈jZ n l cs->bG ow p.1=some p.2)->yA G2 w (dO ρ ow) n l x vs
 | [],[],x,vs,n,h,hv,_=>hv
 | [],_::_,x,vs,n,h,hv,_=>by simp[jC] at h
 | .val t::r,cs,x,vs,n,h,hv,ho=>by
  simp only[jC] at h
  split at h
  ·rename_i y cs' hy
   split at h
   ·rename_i z hz
    cases h
    obtain⟨a,b,e,h1,h2⟩:=VR hM.frozen t cs y cs' vs hy hv
    have hr:=wM t hy
    refine⟨a,b,e,ax.mono hle t y a h1,zF hz h2 (fun p hp=>ho p ?_)⟩
    simp only[jZ, <- hr];exact hp
   ·cases h
  ·cases h
 | .row e t::r,[],x,vs,n,h,hv,_=>by simp[jC] at h
 | .row e t::r,c::cs,x,vs,n,h,⟨v,us,ev,hc,hcs⟩,ho=>by
  simp only[jC] at h
  split at h
  ·rename_i y hy
   split at h
   ·rename_i z hz
    cases h
    subst ev
    have h1:=pU (n:=n) hM hle hy hc (fun p hp=>ho p (by simp[jZ,hp]))
    exact⟨[v],us,rfl,⟨v,rfl,h1⟩,zF hz hcs (fun p hp=>ho p (by simp[jZ,hp]))⟩
   ·cases h
  ·cases h
 | .map k v'::r,[],x,vs,n,h,hv,_=>by simp[jC] at h
 | .map k v'::r,c::cs,x,vs,n,h,⟨v,us,ev,hc,hcs⟩,ho=>by
  simp only[jC] at h
  split at h
  ·rename_i y hy
   split at h
   ·rename_i z hz
    cases h
    subst ev
    obtain⟨b,h1,h2,h3⟩:=yL (n:=n) hM hle hy hc (fun p hp=>ho p (by simp[jZ,hp]))
    subst h1
    exact⟨[_],us,rfl,⟨b,rfl,h2,h3⟩,zF hz hcs (fun p hp=>ho p (by simp[jZ,hp]))⟩
   ·cases h
  ·cases h
include hh
theorem Nv {fb:List Nat} (hF:ir G2 ρ V) (hL:kQ G2 ρ V fb) {p:PM} (hA:(∃ t,p= .arR t)->∀ fz t l,look V.objs br=some (.ar fz t l)->jR G2 w (fun _=>True) true t l) {s:SV} {x:p.den} {v:Value} {i:Nat} (h:lU V fb p s=some x) (hv:p.arg=true->aZ G ρ s v) (ho:∀ q,q∈gX V i p s->bG ow q.1=some q.2):AK G2 w (dO ρ ow) i p x v:=by
 have cv:∀ {c:CV},qh s=some c->aZ G ρ s v->aQ G ρ c v:=by
  intro c hc hs
  unfold qh at hc
  split at hc
  ·cases hc;exact hs
  ·cases hc
 cases p with
 | val t=>exact kI hF hL h (aZ.congr hle (.refl ρ s) (hv rfl))
 | row e t=>
  simp only[lU] at h
  split at h
  ·rename_i c hc
   exact pU hM hle h (cv hc (hv rfl)) (fun q hq=>ho q (by simp only[gX,hc];exact hq))
  ·cases h
 | mrow e t=>
  simp only[lU] at h
  split at h
  ·rename_i c hc
   exact pU hM hle h (cv hc (hv rfl)) (fun q hq=>ho q (by simp only[gX,hc];exact hq))
  ·cases h
 | map k e=>
  simp only[lU] at h
  split at h
  ·rename_i c hc
   exact yL hM hle h (cv hc (hv rfl)) (fun q hq=>ho q (by simp only[gX,hc];exact hq))
  ·cases h
 | box l=>
  simp only[lU] at h
  split at h
  ·rename_i k hk
   split at h
   ·rename_i cs hcs
    obtain⟨h1,vs,T,h2,h3⟩:=hM.boxes k cs hcs
    have hp:v= .pointer (some ⟨ρ.bx k,0,none⟩):=by
     have hs:=hv rfl
     unfold gW at hk
     split at hk
     ·split at hk
      ·rename_i hb
       cases hk
       have:=afm hb
       subst this
       exact hs
      ·cases hk
     ·cases hk
    refine⟨ρ.bx k,vs,T,hp, ?_,h2,zF hM hle h h3 (fun q hq=>ho q (by simp only[gX,hk,hcs];exact aeP _ hq))⟩
    simp only[dO,h1,afJ]
    exact ho (.inl k,64*i) (by simp[gX,hk])
   ·cases h
  ·cases h
 | ar t=>
  obtain⟨f,hl,hf⟩:=qP (show tZ V false t=some x from h)
  have:=hf rfl
  subst this
  obtain⟨_,h1,h2,h3⟩:=hM.objs br _ hl
  refine⟨fun i b hb=>h1 i b (by rw[<- hh];exact hb),fun i i' b hb hb'=>h2 i i' b (by rw[<- hh];exact hb) (by rw[<- hh];exact hb'),fun n z hz=> ?_⟩
  obtain⟨b,vs,T,g1,g2,g3,g4,g5⟩:=h3 n z hz
  refine⟨b,vs,T,by rw[hh];exact g1,nofun,fun _=> ?_,g4,ax.mono hle t z _ g5⟩
  have:=g3 rfl
  simp only[dO,this,afJ]
  exact ho (.ob br,64*i) (by simp[gX])
 | arR t=>
  obtain⟨f,hl,_⟩:=qP (show tZ V true t=some x from h)
  exact hA ⟨t,rfl⟩ f t x hl
theorem IW {fb:List Nat} (hF:ir G2 ρ V) (hL:kQ G2 ρ V fb):∀ {ps:List PM} {args:List SV} {x:dL ps} {vs:List Value} (i:Nat),((wq ps=true)->∀ fz t l,look V.objs br=some (.ar fz t l)->jR G2 w (fun _=>True) true t l)-> (∀ q,q∈eo V i ps args->bG ow q.1=some q.2)->cV V fb ps args=some x->aG (aZ G ρ) args vs->gf G2 w (dO ρ ow) i ps x vs
 | [],[],x,vs,i,_,_,h,hv=>by cases hv;rfl
 | [],_::_,x,vs,i,_,_,h,hv=>by simp[cV] at h
 | p::r,args,x,vs,i,hA,ho,h,hv=>by
  simp only[cV] at h
  simp only[eo] at ho
  have hA':wq r=true->∀ fz t l,look V.objs br=some (.ar fz t l)->jR G2 w (fun _=>True) true t l:=fun hr=>hA (by cases p<;>first | rfl | exact hr)
  split at h
  ·rename_i s hs
   rw[hs] at ho
   split at h
   ·rename_i y hy
    split at h
    ·rename_i z hz
     cases h
     have hAp:(∃ t,p= .arR t)->∀ fz t l,look V.objs br=some (.ar fz t l)->jR G2 w (fun _=>True) true t l:=fun ⟨t,e⟩=>hA (by subst e;rfl)
     cases hp:p.arg with
     | true=>
      rw[hp] at hs hz ho
      simp only[afX] at hs hz ho
      match args,hv,hs,hz with
      | s'::q,⟨v,us,e,hsv,hq⟩,hs,hz=>
       simp only[aex,Option.some.injEq] at hs
       subst hs
       exact⟨v,us,fun _=>e,fun e=>(by rw[hp] at e;cases e),Nv hM hle hh hF hL hAp hy (fun _=>hsv) (fun q hq=>ho q (by simp[hq])),IW hF hL (i+1) hA' (fun q hq=>ho q (by simp at hq ⊢;exact .inr hq)) hz hq⟩
     | false=>
      rw[hp] at hs hz ho
      simp only[afW] at hs hz ho
      exact⟨undef,vs,fun e=>(by rw[hp] at e;cases e),fun _=>rfl,Nv hM hle hh hF hL hAp hy (fun e=>(by rw[hp] at e;cases e)) (fun q hq=>ho q (by simp[hq])),IW hF hL (i+1) hA' (fun q hq=>ho q (by simp[hq])) hz hv⟩
    ·cases h
   ·cases h
  ·cases h
end
end Go.Dn
namespace Go.Dn
variable {β:Type} {X:Cx} {o:Oper} {S:St} {r:β} {P0:Program} {C:Fr P0} {G:Gh} {ρ:Env} {w:World}
def Asg (ρ:Env) (w:World):aT->Value->Prop
 | .inl k,v=>v= .pointer (some ⟨ρ.bx k,0,none⟩)
 | .inr j,v=>ρ.rw j=v
 | .ob j,v=>∀ b,v= .map (some b)->ρ.ob j= .map (some b)/\∀ es clock,w.heap[b]? =some (.map es clock)->∀ (i:Nat) (e:MapEntry),es.toList[i]? =some e->(e.born:Int)=ρ.st j i
section
variable {G' G3:Gh} {w':World} {ow':Nat->Option Nat} {ρ3:Env}
theorem bQ.of_flat (hh:∀ h b,G'.hnd h=some b->G3.hnd h=some b) {t:Ty} (hf:t.flat=true):∀ {l:List t.den} {cs:List Value},bQ (ax G' t) l cs->bQ (ax G3 t) l cs
 | [],_,h=>h
 | _::_,_,⟨c,r,e,hx,hl⟩=>⟨c,r,e,ax.of_flat hh hf hx,bQ.of_flat hh hf hl⟩
def Trans (G' G3:Gh) (flat:Bool):Prop:=(∀ h b,G'.hnd h=some b->G3.hnd h=some b)/\(flat=true\/G'.le G3)
theorem Trans.left {a b:Bool} (h:Trans G' G3 (a&&b)):Trans G' G3 a:=⟨h.1,h.2.imp (fun e=>by simp at e;exact e.1) id⟩
theorem Trans.right {a b:Bool} (h:Trans G' G3 (a&&b)):Trans G' G3 b:=⟨h.1,h.2.imp (fun e=>by simp at e;exact e.2) id⟩
theorem Trans.acn {t:Ty} (h:Trans G' G3 t.flat) {x:t.den} {cs:List Value} (hx:ax G' t x cs):ax G3 t x cs:=by
 rcases h.2 with hf | hle
 ·exact hx.of_flat h.1 hf
 ·exact ax.mono hle t x cs hx
theorem Trans.Mf {t:Ty} (h:Trans G' G3 t.flat) {x:t.den} {v:Value} (hx:bT G' t x v):bT G3 t x v:=by
 rcases h.2 with hf | hle
 ·exact hx.of_flat h.1 hf
 ·exact hx.mono hle
theorem Trans.TC {t:Ty} (h:Trans G' G3 t.flat) {l:List t.den} {cs:List Value} (hx:bQ (ax G' t) l cs):bQ (ax G3 t) l cs:=by
 rcases h.2 with hf | hle
 ·exact hx.of_flat h.1 hf
 ·exact hx.mono (ax.mono hle t)
theorem l6.ok {e:TypeId} {t:Ty} {l:List t.den} {v:Value} {j:Nat} (hT:Trans G' G3 t.flat) (h:l6 G' w' e t l v) (hv:ρ3.rw j=v) (ho:∀ b,v.ownBlock=some b->ρ3.own b=some (.inr j)):cN G3 ρ3 w' j ⟨false,e,t,l⟩:=by
 obtain⟨xs,h1,h2⟩:=h
 unfold cN
 rw[af8 (by simp)]
 subst hv
 exact⟨xs,h1,hT.TC h2,ho⟩
theorem l6.isSlice {e:TypeId} {t:Ty} {l:List t.den} {v:Value} (h:l6 G' w' e t l v):∃ a n c,v= .slice a n c:=by
 obtain⟨xs,h1,h2⟩:=h
 rcases h1.2 with ⟨e,_⟩ | ⟨g,cap,cur,e,_⟩
 ·exact⟨_,_,_,e⟩
 ·exact⟨_,_,_,e⟩
theorem rS.ok {k v:Ty} {l:List (k.den×v.den)} {b j:Nat} (hT:Trans G' G3 (k.flat&&v.flat)) (h:rS G' w' k v l b) (ha:Asg ρ3 w' (.ob j) (.map (some b))) (ho:ρ3.own b=some (.ob j)):lZ G3 ρ3 w' j (.map k v l)/\ρ3.ob j= .map (some b):=by
 obtain⟨es,clock,h1,h2,h3,h4⟩:=h
 obtain⟨ha,hs⟩:=ha b rfl
 exact⟨⟨b,es,clock,ha,ho,h1,h2.mono fun x y hxy=>⟨hT.left.Mf hxy.1,hT.right.Mf hxy.2⟩,fun i e hi=>⟨hs es clock h1 i e hi,h3 i e hi⟩,h4⟩,ha⟩
theorem FJ {d i:Nat}:∀ {l:List OT} {c:Nat} {x:kz l} {vs:List Value},Trans G' G3 (mB l)->yA G' w' ow' (64*i+c) l x vs-> ∃ vals:List (aT×Value),vals.map (·.1)=(eg d i c l).map (·.1)/\∀ ρ3:Env,(∀ o v,(o,v)∈vals->Asg ρ3 w' o v)->(∀ o n,(o,n)∈eg d i c l->∀ b,ow' b=some n->ρ3.own b=some o)-> aG (aQ G3 ρ3) (FI d i c l x) vs/\(∀ j q,look (mC d i c l x) j=some q->cN G3 ρ3 w' j q)/\(∀ j q,look (jB d i c l x) j=some q->lZ G3 ρ3 w' j q)
 | [],c,x,vs,_,h=>⟨[],rfl,fun ρ3 _ _=>⟨h,fun j q hj=>by simp[mC,look] at hj,fun j q hj=>by simp[jB,look] at hj⟩⟩
 | .val t::r,c,x,vs,hT,⟨a,b,e,h1,h2⟩=>by
  obtain⟨vals,hv,hr⟩:=FJ (d:=d) (i:=i) (c:=c+1) (l:=r) (Trans.right (a:=t.flat) hT) h2
  refine⟨vals,hv,fun ρ3 hA hO=> ?_⟩
  obtain⟨g1,g2,g3⟩:=hr ρ3 hA hO
  subst e
  exact⟨(fW ρ3 (Trans.acn (Trans.left (b:=mB r) hT) h1)).append g1,g2,g3⟩
 | .row e' t::r,c,x,vs,hT,⟨a,b,e,⟨v,ea,h1,h1'⟩,h2⟩=>by
  obtain⟨vals,hv,hr⟩:=FJ (d:=d) (i:=i) (c:=c+1) (l:=r) (Trans.right (a:=t.flat) hT) h2
  refine⟨(.inr (nid d i c),v)::vals,by simp[eg,hv],fun ρ3 hA hO=> ?_⟩
  obtain⟨g1,g2,g3⟩:=hr ρ3 (fun o v h=>hA o v (by simp[h])) (fun o n h=>hO o n (by simp[eg,h]))
  have hav:ρ3.rw (nid d i c)=v:=hA (.inr (nid d i c)) v (by simp)
  subst e;subst ea
  refine⟨⟨v,b,rfl,⟨hav.symm,h1.isSlice⟩,g1⟩,fun j q hj=> ?_,g3⟩
  simp only[mC,aq] at hj
  split at hj
  ·rename_i ej
   subst ej
   cases hj
   exact h1.ok (Trans.left (b:=mB r) hT) hav (fun b' hb'=>hO _ _ (by simp[eg]) b' (h1' b' hb'))
  ·exact g2 j q hj
 | .map k v'::r,c,x,vs,hT,⟨a,b,e,⟨bb,ea,h1,h1'⟩,h2⟩=>by
  obtain⟨vals,hv,hr⟩:=FJ (d:=d) (i:=i) (c:=c+1) (l:=r) (Trans.right (a:=k.flat&&v'.flat) hT) h2
  refine⟨(.ob (nid d i c),.map (some bb))::vals,by simp[eg,hv],fun ρ3 hA hO=> ?_⟩
  obtain⟨g1,g2,g3⟩:=hr ρ3 (fun o v h=>hA o v (by simp[h])) (fun o n h=>hO o n (by simp[eg,h]))
  have ho:ρ3.own bb=some (.ob (nid d i c)):=hO _ _ (by simp[eg]) bb h1
  obtain⟨m1,m2⟩:=h1'.ok (Trans.left (b:=mB r) hT) (hA (.ob (nid d i c)) (.map (some bb)) (by simp)) ho
  subst e;subst ea
  refine⟨⟨_,b,rfl,⟨m2.symm,bb,rfl⟩,g1⟩,g2,fun j q hj=> ?_⟩
  simp only[jB,aq] at hj
  split at hj
  ·rename_i ej
   subst ej
   cases hj
   exact m1
  ·exact g3 j q hj
theorem uZ {d i:Nat}:∀ {l:List OT} {c:Nat} {x:kz l},(∀ j n,(.inr j,n)∈eg d i c l->(look (mC d i c l x) j).isSome=true)/\(∀ j n,(.ob j,n)∈eg d i c l->(look (jB d i c l x) j).isSome=true)/\ (∀ k n,(.inl k,n)∉eg d i c l)
 | [],c,x=>⟨fun j n h=>by simp[eg] at h,fun j n h=>by simp[eg] at h,fun j n h=>by simp[eg] at h⟩
 | .val t::r,c,x=>by
  obtain⟨h1,h2,h3⟩:=uZ (d:=d) (i:=i) (l:=r) (c:=c+1) (x:=x.2)
  exact⟨h1,h2,h3⟩
 | .row e t::r,c,x=>by
  obtain⟨h1,h2,h3⟩:=uZ (d:=d) (i:=i) (l:=r) (c:=c+1) (x:=x.2)
  refine⟨fun j n h=> ?_,fun j n h=> ?_,fun k n h=> ?_⟩
  ·simp only[eg,aeO,Prod.mk.injEq,aT.inr.injEq] at h
   simp only[mC,aq]
   rcases h with ⟨h,_⟩ | h
   ·simp[h]
   ·split
    ·rfl
    ·exact h1 j n h
  ·simp only[eg,aeO,Prod.mk.injEq,reduceCtorEq,af5,af6] at h
   exact h2 j n h
  ·simp only[eg,aeO,Prod.mk.injEq,reduceCtorEq,af5,af6] at h
   exact h3 k n h
 | .map kk vv::r,c,x=>by
  obtain⟨h1,h2,h3⟩:=uZ (d:=d) (i:=i) (l:=r) (c:=c+1) (x:=x.2)
  refine⟨fun j n h=> ?_,fun j n h=> ?_,fun k n h=> ?_⟩
  ·simp only[eg,aeO,Prod.mk.injEq,reduceCtorEq,af5,af6] at h
   exact h1 j n h
  ·simp only[eg,aeO,Prod.mk.injEq,aT.ob.injEq] at h
   simp only[jB,aq]
   rcases h with ⟨h,_⟩ | h
   ·simp[h]
   ·split
    ·rfl
    ·exact h2 j n h
  ·simp only[eg,aeO,Prod.mk.injEq,reduceCtorEq,af5,af6] at h
   exact h3 k n h
theorem cT {α:Type}:∀ (l m:List (Nat×α)) (k:Nat),look (l++m) k=(look l k).or (look m k)
 | [],m,k=>by simp[look]
 | (j,x)::l,m,k=>by
  rw[adV,aq,aq,cT l m k]
  split<;>simp
theorem or_some {α:Type} {a b:Option α} {x:α} (h:a.or b=some x):a=some x\/(a=none/\b=some x):=by
 cases a with
 | none=>exact .inr ⟨rfl,by simpa using h⟩
 | some y=>exact .inl (by simpa using h)
theorem isSome_or {α:Type} {a b:Option α} (h:a.isSome=true\/b.isSome=true):(a.or b).isSome=true:=by
 cases a with
 | none=>simpa using h
 | some y=>rfl
def Fs (d:Nat) (o:aT) (n:Nat):Prop:=o= .inr (nid d 0 0+n)\/o= .ob (nid d 0 0+n)
theorem BI (d i c:Nat):nid d i c=nid d 0 0+(64*i+c):=by simp only[nid];omega
theorem Bc {d i:Nat}:∀ {l:List OT} {c:Nat} {o:aT} {n:Nat},(o,n)∈eg d i c l->Fs d o n
 | [],c,o,n,h=>by simp[eg] at h
 | .val t::r,c,o,n,h=>Bc (l:=r) h
 | .row e t::r,c,o,n,h=>by
  simp only[eg,aeO,Prod.mk.injEq] at h
  rcases h with ⟨h,h'⟩ | h
  ·subst h;subst h';exact .inl (by rw[BI])
  ·exact Bc (l:=r) h
 | .map e t::r,c,o,n,h=>by
  simp only[eg,aeO,Prod.mk.injEq] at h
  rcases h with ⟨h,h'⟩ | h
  ·subst h;subst h';exact .inr (by rw[BI])
  ·exact Bc (l:=r) h
structure iV (G3:Gh) (ρ3:Env) (w':World) (bx:List (Nat×List CV)) (rw:List (Nat×lJ)) (ob:List (Nat×oz)):Prop where
 bx:∀ k cs,look bx k=some cs->ρ3.own (ρ3.bx k)=some (.inl k)/\∃ vs T,w'.heap[ρ3.bx k]? =some (.cells (List.toArray vs) T (0,0))/\aG (aQ G3 ρ3) cs vs
 rw:∀ j q,look rw j=some q->cN G3 ρ3 w' j q
 ob:∀ j q,look ob j=some q->lZ G3 ρ3 w' j q
theorem iV.app {a b:List (Nat×List CV)} {c e:List (Nat×lJ)} {f g:List (Nat×oz)} (h:iV G3 ρ3 w' a c f) (k:iV G3 ρ3 w' b e g):iV G3 ρ3 w' (a++b) (c++e) (f++g) where
 bx:=fun i cs hi=>by
  rw[cT] at hi
  rcases or_some hi with h1 | ⟨_,h1⟩
  ·exact h.bx i cs h1
  ·exact k.bx i cs h1
 rw:=fun i cs hi=>by
  rw[cT] at hi
  rcases or_some hi with h1 | ⟨_,h1⟩
  ·exact h.rw i cs h1
  ·exact k.rw i cs h1
 ob:=fun i cs hi=>by
  rw[cT] at hi
  rcases or_some hi with h1 | ⟨_,h1⟩
  ·exact h.ob i cs h1
  ·exact k.ob i cs h1
theorem iV.nil:iV G3 ρ3 w' [] [] []:=⟨fun k cs h=>by simp[look] at h,fun k cs h=>by simp[look] at h,fun k cs h=>by simp[look] at h⟩
theorem Lm {d i k:Nat} {l:List OT} {x:kz l} {v:Value} (hT:Trans G' G3 (mB l)) (h:vS G' w' ow' (64*i) l x v): ∃ vals:List (aT×Value),vals.map (·.1)=(eg d i 1 l).map (·.1)/\∀ ρ3:Env,Asg ρ3 w' (.inl k) v->(∀ o v,(o,v)∈vals->Asg ρ3 w' o v)->(∀ o n,(o,n)∈(.inl k,64*i)::eg d i 1 l->∀ b,ow' b=some n->ρ3.own b=some o)-> iV G3 ρ3 w' [(k,FI d i 1 l x)] (mC d i 1 l x) (jB d i 1 l x):=by
 obtain⟨b,vs,T,h1,h2,h3,h4⟩:=h
 obtain⟨vals,hv,hr⟩:=FJ (G3:=G3) (d:=d) (i:=i) (c:=1) hT h4
 refine⟨vals,hv,fun ρ3 hk hA hO=> ?_⟩
 obtain⟨g1,g2,g3⟩:=hr ρ3 hA (fun o n h=>hO o n (by simp[h]))
 refine⟨fun k' cs hk'=> ?_,g2,g3⟩
 rw[aq] at hk'
 split at hk'
 ·rename_i ek
  subst ek
  cases hk'
  have hb:b=ρ3.bx k:=by
   rw[h1] at hk
   have hk2:Value.pointer (some ⟨b,0,none⟩)= .pointer (some ⟨ρ3.bx k,0,none⟩):=hk
   cases hk2;rfl
  subst hb
  exact⟨hO (.inl k) (64*i) (by simp) _ h2,vs,T,h3,g1⟩
 ·cases hk'
theorem BZ {ps:List PM} {args:List Value} {d:Nat}:∀ {rs:List RM} {c:Nat} {y:cD ps rs} {vs:List Value},Trans G' G3 (fk rs)->kr G' w' ow' ps args c rs y vs-> nC G' w' ow' 0 ps (wK ps rs y) args/\∃ vals:List (aT×Value),vals.map (·.1)=(dM d c rs).map (·.1)/\(∀ k v,(.inl k,v)∈vals->∃ b,v= .pointer (some ⟨b,0,none⟩))/\∀ ρ3:Env,(∀ o v,(o,v)∈vals->Asg ρ3 w' o v)->(∀ o n,(o,n)∈dM d c rs->∀ b,ow' b=some n->ρ3.own b=some o)-> aG (fun p=>ku G3 ρ3 p.1 p.2) (tY ps d rs c y) vs/\iV G3 ρ3 w' (mD ps d rs c y) (mE ps d rs c y) (iX ps d rs c y)
 | [],c,y,vs,_,h=>⟨h.2,[],rfl,fun k v h=>(by simp at h),fun ρ3 _ _=>⟨h.1,iV.nil⟩⟩
 | .val t::r,c,y,vs,hT,⟨v,us,e,hv,hu⟩=>by
  obtain⟨h0,vals,hv',hpt,hr⟩:=BZ (d:=d) (rs:=r) (Trans.right (a:=t.flat) hT) hu
  refine⟨h0,vals,hv',hpt,fun ρ3 hA hO=> ?_⟩
  obtain⟨g1,g2⟩:=hr ρ3 hA hO
  subst e
  exact⟨⟨v,us,rfl,yz ρ3 (Trans.Mf (Trans.left (b:=fk r) hT) hv),g1⟩,g2⟩
 | .row e' t::r,c,y,vs,hT,⟨v,us,e,⟨hv,hv2⟩,hu⟩=>by
  obtain⟨h0,vals,hv',hpt,hr⟩:=BZ (d:=d) (rs:=r) (Trans.right (a:=t.flat) hT) hu
  refine⟨h0,(.inr (nid d (24+c) 0),v)::vals,by simp[dM,hv'],fun k v h=>hpt k v (by simpa using h),fun ρ3 hA hO=> ?_⟩
  obtain⟨g1,g2⟩:=hr ρ3 (fun o v h=>hA o v (by simp[h])) (fun o n h=>hO o n (by simp[dM,h]))
  have hav:ρ3.rw (nid d (24+c) 0)=v:=hA (.inr (nid d (24+c) 0)) v (by simp)
  subst e
  refine⟨⟨v,us,rfl,⟨hav.symm,hv.isSlice⟩,g1⟩,g2.bx,fun j q hj=> ?_,g2.ob⟩
  simp only[mE,aq] at hj
  split at hj
  ·rename_i ej
   subst ej
   cases hj
   exact hv.ok (Trans.left (b:=fk r) hT) hav (fun b' hb'=>hO _ _ (by simp[dM]) b' (hv2 b' hb'))
  ·exact g2.rw j q hj
 | .map k' v'::r,c,y,vs,hT,⟨v,us,e,⟨bb,hv,hv1,hv2⟩,hu⟩=>by
  obtain⟨h0,vals,hv',hpt,hr⟩:=BZ (d:=d) (rs:=r) (Trans.right (a:=k'.flat&&v'.flat) hT) hu
  refine⟨h0,(.ob (nid d (24+c) 0),v)::vals,by simp[dM,hv'],fun k v h=>hpt k v (by simpa using h),fun ρ3 hA hO=> ?_⟩
  obtain⟨g1,g2⟩:=hr ρ3 (fun o v h=>hA o v (by simp[h])) (fun o n h=>hO o n (by simp[dM,h]))
  subst e;subst hv
  have ho:ρ3.own bb=some (.ob (nid d (24+c) 0)):=hO _ _ (by simp[dM]) bb hv1
  obtain⟨m1,m2⟩:=hv2.ok (Trans.left (b:=fk r) hT) (hA (.ob (nid d (24+c) 0)) (.map (some bb)) (by simp)) ho
  refine⟨⟨_,us,rfl,⟨m2.symm,bb,rfl⟩,g1⟩,g2.bx,g2.rw,fun j q hj=> ?_⟩
  simp only[iX,aq] at hj
  split at hj
  ·rename_i ej
   subst ej
   cases hj
   exact m1
  ·exact g2.ob j q hj
 | .box l::r,c,y,vs,hT,⟨v,us,e,hv,hu⟩=>by
  obtain⟨h0,vals,hv',hpt,hr⟩:=BZ (d:=d) (rs:=r) (Trans.right (a:=mB l) hT) hu
  obtain⟨vals2,hv2,hr2⟩:=Lm (G3:=G3) (d:=d) (k:=d) (Trans.left (b:=fk r) hT) hv
  refine⟨h0,((.inl d,v)::vals2)++vals,by simp[dM,hv',hv2],fun k v' h=> ?_,fun ρ3 hA hO=> ?_⟩
  ·rcases aeN.1 h with h | h
   ·rcases aeO.1 h with h | h
    ·cases h
     obtain⟨b,_,_,e1,_⟩:=hv
     exact⟨b,e1⟩
    ·have hm:(.inl k:aT)∈vals2.map (·.1):=aeT.2 ⟨_,h,rfl⟩
     rw[hv2] at hm
     obtain⟨p,hp,e1⟩:=aeT.1 hm
     obtain⟨p1,p2⟩:=p
     simp only at e1
     subst e1
     exact absurd hp ((uZ (x:=y.1)).2.2 k p2)
   ·exact hpt k v' h
  obtain⟨g1,g2⟩:=hr ρ3 (fun o v h=>hA o v (by simp[h])) (fun o n h=>hO o n (by simp[dM,h]))
  have g3:=hr2 ρ3 (hA (.inl d) v (by simp)) (fun o v h=>hA o v (by simp[h])) (fun o n h=>hO o n (by
   simp only[aeO] at h
   simp only[dM,adV,aeO,aeN]
   rcases h with h | h
   ·exact .inl h
   ·exact .inr (.inl h)))
  subst e
  exact⟨⟨v,us,rfl,hA (.inl d) v (by simp),g1⟩,g3.app g2⟩
theorem Za {s:SV} {v:Value} {j:Option Nat} (h:IT s=some j) (hv:aZ G ρ s v):match j with | some j=>v=ρ.rw j | none=>v= .slice none 0 0:=by
 unfold IT at h
 split at h
 ·cases h;exact hv.1
 ·cases h;exact hv
 ·cases h
theorem Qk {s:SV} {v:Value} {k:Nat} (h:gW s=some k) (hv:aZ G ρ s v):v= .pointer (some ⟨ρ.bx k,0,none⟩):=by
 unfold gW at h
 split at h
 ·split at h
  ·rename_i hb
   cases h
   have:=afm hb
   subst this
   exact hv
  ·cases h
 ·cases h
theorem Y9 {s:SV} {v:Value} {j:Nat} (h:IS s=some j) (hv:aZ G ρ s v):v=ρ.ob j:=by
 unfold IS at h
 split at h
 ·cases h;exact hv.1
 ·cases h
def Old (ρ:Env):aT->Value->Prop
 | .inl k,v=>v= .pointer (some ⟨ρ.bx k,0,none⟩)
 | .inr j,v=>ρ.rw j=v
 | .ob j,v=>∀ b,v= .map (some b)->ρ.ob j= .map (some b)
theorem HH {s:SV} {q:List SV} {vs:List Value} (h:aG (aZ G ρ) (s::q) vs) {v:Value} (hv:vs.head? =some v):aZ G ρ s v/\aG (aZ G ρ) q vs.tail:=by
 obtain⟨u,us,e,h1,h2⟩:=h
 subst e
 cases hv
 exact⟨h1,h2⟩
theorem PX {s:SV} {q:List SV} {vs:List Value} (h:aG (aZ G ρ) (s::q) vs):aG (aZ G ρ) q vs.tail:=by
 obtain⟨u,us,e,h1,h2⟩:=h
 subst e
 exact h2
theorem vA {d:Nat} (hh3:G3.hnd=G'.hnd):∀ {ps:List PM} {args:List SV} {i:Nat} {y:dK ps} {vs:List Value},Trans G' G3 (fA ps)->nC G' w' ow' i ps y vs->aG (aZ G ρ) args vs-> ∃ vals:List (aT×Value),vals.map (·.1)=(cc d i ps args).map (·.1)/\(∀ o v,(o,v)∈vals->Old ρ o v\/∃ n,(o,n)∈cc d i ps args/\Fs d o n)/\∀ ρ3:Env,(∀ o v,(o,v)∈vals->Asg ρ3 w' o v)->(∀ o n,(o,n)∈cc d i ps args->∀ b,ow' b=some n->ρ3.own b=some o)-> iV G3 ρ3 w' (cO d i ps args y) (eZ d i ps args y) (cX d i ps args y)
 | [],args,i,y,vs,_,h,hv=>⟨[],rfl,fun o v h=>by simp at h,fun ρ3 _ _=>iV.nil⟩
 | .val t::r,[],i,y,vs,_,_,hv=>⟨[],rfl,fun o v h=>by simp at h,fun ρ3 _ _=>iV.nil⟩
 | .row e t::r,[],i,y,vs,_,_,hv=>⟨[],rfl,fun o v h=>by simp at h,fun ρ3 _ _=>iV.nil⟩
 | .mrow e t::r,[],i,y,vs,_,_,hv=>⟨[],rfl,fun o v h=>by simp at h,fun ρ3 _ _=>iV.nil⟩
 | .map e t::r,[],i,y,vs,_,_,hv=>⟨[],rfl,fun o v h=>by simp at h,fun ρ3 _ _=>iV.nil⟩
 | .box l::r,[],i,y,vs,_,_,hv=>⟨[],rfl,fun o v h=>by simp at h,fun ρ3 _ _=>iV.nil⟩
 | .val t::r,s::q,i,y,vs,hT,h,hv=>vA hh3 (ps:=r) (by simpa [fA] using hT) h (PX hv)
 | .row e t::r,s::q,i,y,vs,hT,h,hv=>vA hh3 (ps:=r) (by simpa [fA] using hT) h (PX hv)
 | .arR t::r,q,i,y,vs,hT,h,hv=>by
  have:=vA (d:=d) hh3 (ps:=r) (args:=q) (i:=i+1) (y:=y) (by simpa [fA] using hT) h hv
  cases q<;>exact this
 | .ar t::r,q,i,y,vs,hT,⟨h1,h2⟩,hv=>by
  obtain⟨vals,hv',hold,hr⟩:=vA (d:=d) hh3 (ps:=r) (args:=q) (i:=i+1) (y:=y.2) (Trans.right (a:=t.flat) hT) h2 hv
  have e1:cc d i (.ar t::r) q=(.ob br,64*i)::cc d (i+1) r q:=by cases q<;>rfl
  have e2:cO d i (.ar t::r) q y=cO d (i+1) r q y.2:=by cases q<;>rfl
  have e3:eZ d i (.ar t::r) q y=eZ d (i+1) r q y.2:=by cases q<;>rfl
  have e4:cX d i (.ar t::r) q y=(br,.ar false t y.1)::cX d (i+1) r q y.2:=by cases q<;>rfl
  rw[e1,e2,e3,e4]
  refine⟨(.ob br,undef)::vals,by simp[hv'],fun o v h=> ?_,fun ρ3 hA hO=> ?_⟩
  ·rcases aeO.1 h with h | h
   ·cases h;exact .inl fun b e=>by cases e
   ·exact (hold o v h).imp id fun ⟨n,h1,h2⟩=>⟨n,by simp[h1],h2⟩
  ·have g:=hr ρ3 (fun o v h=>hA o v (by simp[h])) (fun o n h=>hO o n (by simp[h]))
   refine⟨g.bx,g.rw,fun j q' hj=> ?_⟩
   simp only[aq] at hj
   split at hj
   ·rename_i ej
    subst ej
    cases hj
    refine⟨rfl,fun i b hb=>h1.1 i b (by rw[<- hh3];exact hb),fun i i' b hb hb'=>h1.2.1 i i' b (by rw[<- hh3];exact hb) (by rw[<- hh3];exact hb'),fun n z hz=> ?_⟩
    obtain⟨b,ws,T,f1,f2,f3,f4,f5⟩:=h1.2.2 n z hz
    exact⟨b,ws,T,by rw[hh3];exact f1,nofun,fun _=>hO _ _ (by simp) b (f3 rfl),f4,Trans.acn (Trans.left (b:=fA r) hT) f5⟩
   ·exact g.ob j q' hj
 | .mrow e t::r,s::q,i,y,vs,hT,⟨⟨v,h0,h1,h1'⟩,h2⟩,hv=>by
  obtain⟨hs,hq⟩:=HH hv h0
  obtain⟨vals,hv',hold,hr⟩:=vA (d:=d) hh3 (ps:=r) (args:=q) (i:=i+1) (y:=y.2) (Trans.right (a:=t.flat) hT) h2 hq
  simp only[cc,cO,eZ,cX]
  cases ho:IT s with
  | none=>simpa using ⟨vals,hv',hold,hr⟩
  | some jo=>
   cases jo with
   | none=>simpa using ⟨vals,hv',hold,hr⟩
   | some j=>
    have hvj:v=ρ.rw j:=Za ho hs
    refine⟨(.inr j,v)::vals,by simp[hv'],fun o v' h=> ?_,fun ρ3 hA hO=> ?_⟩
    ·rcases aeO.1 h with h | h
     ·cases h;exact .inl hvj.symm
     ·exact (hold o v' h).imp id fun ⟨n,h1,h2⟩=>⟨n,by simp[h1],h2⟩
    ·have g:=hr ρ3 (fun o v h=>hA o v (by simp[h])) (fun o n h=>hO o n (by simp[h]))
     refine⟨g.bx,fun j' q' hj=> ?_,g.ob⟩
     simp only[adV,aeZ,aq] at hj
     split at hj
     ·rename_i ej
      subst ej
      cases hj
      exact h1.ok (Trans.left (b:=fA r) hT) (hA (.inr j) v (by simp)) (fun b' hb'=>hO _ _ (by simp) b' (h1' b' hb'))
     ·exact g.rw j' q' hj
 | .map kk vv::r,s::q,i,y,vs,hT,⟨⟨bb,h0,h1,h1'⟩,h2⟩,hv=>by
  obtain⟨hs,hq⟩:=HH hv h0
  obtain⟨vals,hv',hold,hr⟩:=vA (d:=d) hh3 (ps:=r) (args:=q) (i:=i+1) (y:=y.2) (Trans.right (a:=kk.flat&&vv.flat) hT) h2 hq
  simp only[cc,cO,eZ,cX]
  cases ho:IS s with
  | none=>simpa using ⟨vals,hv',hold,hr⟩
  | some j=>
   have hvj:Value.map (some bb)=ρ.ob j:=Y9 ho hs
   refine⟨(.ob j,.map (some bb))::vals,by simp[hv'],fun o v' h=> ?_,fun ρ3 hA hO=> ?_⟩
   ·rcases aeO.1 h with h | h
    ·cases h;exact .inl fun b e=>by rw[<- hvj,e]
    ·exact (hold o v' h).imp id fun ⟨n,h1,h2⟩=>⟨n,by simp[h1],h2⟩
   ·have g:=hr ρ3 (fun o v h=>hA o v (by simp[h])) (fun o n h=>hO o n (by simp[h]))
    have hob:ρ3.own bb=some (.ob j):=hO _ _ (by simp) bb h1
    obtain⟨m1,m2⟩:=h1'.ok (Trans.left (b:=fA r) hT) (hA (.ob j) (.map (some bb)) (by simp)) hob
    refine⟨g.bx,g.rw,fun j' q' hj=> ?_⟩
    simp only[adV,aeZ,aq] at hj
    split at hj
    ·rename_i ej
     subst ej
     cases hj
     exact m1
    ·exact g.ob j' q' hj
 | .box l::r,s::q,i,y,vs,hT,⟨⟨v,h0,h1⟩,h2⟩,hv=>by
  obtain⟨hs,hq⟩:=HH hv h0
  obtain⟨vals,hv',hold,hr⟩:=vA (d:=d) hh3 (ps:=r) (args:=q) (i:=i+1) (y:=y.2) (Trans.right (a:=mB l) hT) h2 hq
  simp only[cc,cO,eZ,cX]
  cases ho:gW s with
  | none=>
   simpa using ⟨vals,hv',hold,hr⟩
  | some k=>
   have hvk:=Qk ho hs
   obtain⟨vals2,hv2,hr2⟩:=Lm (G3:=G3) (d:=d) (k:=k) (Trans.left (b:=fA r) hT) h1
   refine⟨((.inl k,v)::vals2)++vals,by simp[hv',hv2],fun o v' h=> ?_,fun ρ3 hA hO=> ?_⟩
   ·rcases aeN.1 h with h | h
    ·rcases aeO.1 h with h | h
     ·cases h;exact .inl hvk
     ·right
      have hm:o∈vals2.map (·.1):=aeT.2 ⟨_,h,rfl⟩
      rw[hv2] at hm
      obtain⟨p,hp,e⟩:=aeT.1 hm
      refine⟨p.2, ?_,by rw[<- e];exact Bc (n:=p.2) hp⟩
      rw[<- e]
      simp[hp]
    ·exact (hold o v' h).imp id fun ⟨n,h1,h2⟩=>⟨n,by simp[h1],h2⟩
   ·have g:=hr ρ3 (fun o v h=>hA o v (by simp[h])) (fun o n h=>hO o n (by simp[h]))
    have g3:=hr2 ρ3 (hA (.inl k) v (by simp)) (fun o v h=>hA o v (by simp[h])) (fun o n h=>hO o n (by
     simp only[aeO] at h
     simp only[adV,aeO,aeN]
     rcases h with h | h
     ·exact .inl h
     ·exact .inr (.inl h)))
    exact g3.app g
end
theorem pP {d:Nat}:∀ {ps:List PM} {args:List SV} {i:Nat} {y:dK ps},(∀ j n,(.inr j,n)∈cc d i ps args->(look (eZ d i ps args y) j).isSome=true)/\(∀ j n,(.ob j,n)∈cc d i ps args->(look (cX d i ps args y) j).isSome=true)/\ (∀ k n,(.inl k,n)∈cc d i ps args->(look (cO d i ps args y) k).isSome=true)
 | [],args,i,y=>⟨fun j n h=>by simp[cc] at h,fun j n h=>by simp[cc] at h,fun j n h=>by simp[cc] at h⟩
 | .val t::r,[],i,y=>⟨fun j n h=>by simp[cc] at h,fun j n h=>by simp[cc] at h,fun j n h=>by simp[cc] at h⟩
 | .row e t::r,[],i,y=>⟨fun j n h=>by simp[cc] at h,fun j n h=>by simp[cc] at h,fun j n h=>by simp[cc] at h⟩
 | .mrow e t::r,[],i,y=>⟨fun j n h=>by simp[cc] at h,fun j n h=>by simp[cc] at h,fun j n h=>by simp[cc] at h⟩
 | .map e t::r,[],i,y=>⟨fun j n h=>by simp[cc] at h,fun j n h=>by simp[cc] at h,fun j n h=>by simp[cc] at h⟩
 | .box l::r,[],i,y=>⟨fun j n h=>by simp[cc] at h,fun j n h=>by simp[cc] at h,fun j n h=>by simp[cc] at h⟩
 | .val t::r,s::q,i,y=>pP (ps:=r) (args:=q) (i:=i+1)
 | .row e t::r,s::q,i,y=>pP (ps:=r) (args:=q) (i:=i+1)
 | .arR t::r,q,i,y=>by
  have:=pP (d:=d) (ps:=r) (args:=q) (i:=i+1) (y:=y)
  cases q<;>exact this
 | .ar t::r,q,i,y=>by
  obtain⟨h1,h2,h3⟩:=pP (d:=d) (ps:=r) (args:=q) (i:=i+1) (y:=y.2)
  have e1:cc d i (.ar t::r) q=(.ob br,64*i)::cc d (i+1) r q:=by cases q<;>rfl
  have e2:cO d i (.ar t::r) q y=cO d (i+1) r q y.2:=by cases q<;>rfl
  have e3:eZ d i (.ar t::r) q y=eZ d (i+1) r q y.2:=by cases q<;>rfl
  have e4:cX d i (.ar t::r) q y=(br,.ar false t y.1)::cX d (i+1) r q y.2:=by cases q<;>rfl
  rw[e1,e2,e3,e4]
  refine⟨fun j n h=>h1 j n (by simpa using h),fun j n h=> ?_,fun k n h=>h3 k n (by simpa using h)⟩
  rw[aq]
  split
  ·rfl
  ·rename_i hne
   rcases aeO.1 h with h | h
   ·cases h;exact absurd rfl hne
   ·exact h2 j n h
 | .mrow e t::r,s::q,i,y=>by
  obtain⟨h1,h2,h3⟩:=pP (d:=d) (ps:=r) (args:=q) (i:=i+1) (y:=y.2)
  simp only[cc,cO,eZ,cX]
  refine⟨fun j n h=> ?_,fun j n h=> ?_,fun k n h=> ?_⟩
  ·rw[cT]
   rcases aeN.1 h with h | h
   ·apply isSome_or;left
    split at h
    ·rename_i j' hj
     simp only[aeY,Prod.mk.injEq,aT.inr.injEq] at h
     simp[aq,h.1]
    ·simp at h
   ·exact isSome_or (.inr (h1 j n h))
  ·rcases aeN.1 h with h | h
   ·split at h<;>simp at h
   ·exact h2 j n h
  ·rcases aeN.1 h with h | h
   ·split at h<;>simp at h
   ·exact h3 k n h
 | .map e t::r,s::q,i,y=>by
  obtain⟨h1,h2,h3⟩:=pP (d:=d) (ps:=r) (args:=q) (i:=i+1) (y:=y.2)
  simp only[cc,cO,eZ,cX]
  refine⟨fun j n h=> ?_,fun j n h=> ?_,fun k n h=> ?_⟩
  ·rcases aeN.1 h with h | h
   ·split at h<;>simp at h
   ·exact h1 j n h
  ·rw[cT]
   rcases aeN.1 h with h | h
   ·apply isSome_or;left
    split at h
    ·rename_i j' hj
     simp only[aeY,Prod.mk.injEq,aT.ob.injEq] at h
     simp[aq,h.1]
    ·simp at h
   ·exact isSome_or (.inr (h2 j n h))
  ·rcases aeN.1 h with h | h
   ·split at h<;>simp at h
   ·exact h3 k n h
 | .box l::r,s::q,i,y=>by
  obtain⟨h1,h2,h3⟩:=pP (d:=d) (ps:=r) (args:=q) (i:=i+1) (y:=y.2)
  obtain⟨g1,g2,g3⟩:=uZ (d:=d) (i:=i) (l:=l) (c:=1) (x:=y.1)
  simp only[cc,cO,eZ,cX]
  refine⟨fun j n h=> ?_,fun j n h=> ?_,fun k n h=> ?_⟩
  ·rw[cT]
   rcases aeN.1 h with h | h
   ·apply isSome_or;left
    split at h
    ·simp only[aeO,Prod.mk.injEq,reduceCtorEq,af5,af6] at h
     exact g1 j n h
    ·simp at h
   ·exact isSome_or (.inr (h1 j n h))
  ·rw[cT]
   rcases aeN.1 h with h | h
   ·apply isSome_or;left
    split at h
    ·simp only[aeO,Prod.mk.injEq,reduceCtorEq,af5,af6] at h
     exact g2 j n h
    ·simp at h
   ·exact isSome_or (.inr (h2 j n h))
  ·rw[cT]
   rcases aeN.1 h with h | h
   ·apply isSome_or;left
    split at h
    ·rename_i k' hk'
     rcases aeO.1 h with h | h
     ·cases h;simp[aq]
     ·exact absurd h (g3 k n)
    ·simp at h
   ·exact isSome_or (.inr (h3 k n h))
theorem vL {ps:List PM} {d:Nat}:∀ {rs:List RM} {c:Nat} {y:cD ps rs},(∀ j n,(.inr j,n)∈dM d c rs->(look (mE ps d rs c y) j).isSome=true)/\(∀ j n,(.ob j,n)∈dM d c rs->(look (iX ps d rs c y) j).isSome=true)/\ (∀ k n,(.inl k,n)∈dM d c rs->k=d/\0<xW rs/\(look (mD ps d rs c y) k).isSome=true)
 | [],c,y=>⟨fun j n h=>by simp[dM] at h,fun j n h=>by simp[dM] at h,fun j n h=>by simp[dM] at h⟩
 | .val t::r,c,y=>vL (rs:=r) (c:=c+1) (y:=y.2)
 | .row e t::r,c,y=>by
  obtain⟨h1,h2,h3⟩:=vL (ps:=ps) (d:=d) (rs:=r) (c:=c+1) (y:=y.2)
  simp only[dM,mE,iX,mD,xW,aeO,Prod.mk.injEq,aT.inr.injEq,reduceCtorEq,af5,af6]
  refine⟨fun j n h=> ?_,h2,h3⟩
  rw[aq]
  rcases h with ⟨h,_⟩ | h
  ·simp[h]
  ·split
   ·rfl
   ·exact h1 j n h
 | .map e t::r,c,y=>by
  obtain⟨h1,h2,h3⟩:=vL (ps:=ps) (d:=d) (rs:=r) (c:=c+1) (y:=y.2)
  simp only[dM,mE,iX,mD,xW,aeO,Prod.mk.injEq,aT.ob.injEq,reduceCtorEq,af5,af6]
  refine⟨h1,fun j n h=> ?_,h3⟩
  rw[aq]
  rcases h with ⟨h,_⟩ | h
  ·simp[h]
  ·split
   ·rfl
   ·exact h2 j n h
 | .box l::r,c,y=>by
  obtain⟨h1,h2,h3⟩:=vL (ps:=ps) (d:=d) (rs:=r) (c:=c+1) (y:=y.2)
  obtain⟨g1,g2,g3⟩:=uZ (d:=d) (i:=24+c) (l:=l) (c:=1) (x:=y.1)
  simp only[dM,mE,iX,mD,xW,adV,aeO,aeN,Prod.mk.injEq,aT.inl.injEq,reduceCtorEq,af5,af6]
  refine⟨fun j n h=> ?_,fun j n h=> ?_,fun k n h=> ?_⟩
  ·rw[cT]
   rcases h with h | h
   ·exact isSome_or (.inl (g1 j n h))
   ·exact isSome_or (.inr (h1 j n h))
  ·rw[cT]
   rcases h with h | h
   ·exact isSome_or (.inl (g2 j n h))
   ·exact isSome_or (.inr (h2 j n h))
  ·rcases h with ⟨h,_⟩ | h | h
   ·subst h;exact⟨rfl,by omega,by simp[aq]⟩
   ·exact absurd h (g3 k n)
   ·obtain⟨e,_,hk⟩:=h3 k n h
    refine⟨e,by omega, ?_⟩
    rw[aq]
    split
    ·rfl
    ·exact hk
theorem I6 {d:Nat}:∀ {rs:List RM} {c:Nat} {o:aT} {n:Nat},(o,n)∈dM d c rs->o= .inl d\/Fs d o n
 | [],c,o,n,h=>by simp[dM] at h
 | .val t::r,c,o,n,h=>I6 (rs:=r) h
 | .row e t::r,c,o,n,h=>by
  simp only[dM,aeO,Prod.mk.injEq] at h
  rcases h with ⟨h,h'⟩ | h
  ·subst h;subst h';exact .inr (.inl (by rw[BI];rfl))
  ·exact I6 (rs:=r) h
 | .map e t::r,c,o,n,h=>by
  simp only[dM,aeO,Prod.mk.injEq] at h
  rcases h with ⟨h,h'⟩ | h
  ·subst h;subst h';exact .inr (.inr (by rw[BI];rfl))
  ·exact I6 (rs:=r) h
 | .box l::r,c,o,n,h=>by
  simp only[dM,adV,aeO,aeN,Prod.mk.injEq] at h
  rcases h with ⟨h,_⟩ | h | h
  ·exact .inl h
  ·exact .inr (Bc h)
  ·exact I6 (rs:=r) h
end Go.Dn
namespace Go.Dn
variable {β:Type} {X:Cx} {o:Oper} {S:St} {r:β} {P0:Program} {C:Fr P0} {G:Gh} {ρ:Env} {w:World}
theorem OY {a b j:Nat} (h1:a<=j) (h2:j<b) (c:CV):c.aX j=true\/c.bu j=true\/c.bn j=true->c.fD a b=true:=by
 have hb:∀ i,Nat.beq i j=true->(Nat.ble a i&&Nat.blt i b)=true:=fun i hi=>by
  have:=afm hi
  subst this
  simp only[adj]
  exact⟨Nat.ble_eq_true_of_le h1,by simpa using h2⟩
 intro h
 cases c<;>simp only[CV.aX,CV.bu,CV.bn,CV.fD] at h ⊢ <;>first
  | (rcases h with h | h | h<;>first | exact hb _ h | cases h)
theorem WL {S:St} {a b j:Nat} (h:S.fD a b=false) (h1:a<=j) (h2:j<b):S.aX j=false/\S.bu j=false/\S.bn j=false:=by
 simp only[St.fD,adw,adR] at h
 have sv:∀ s,s∈S.tmps->s.aX j=false/\s.bu j=false/\s.bn j=false:=fun s hs=>by
  have hn:=h.1 s hs
  cases s with
  | v a' cs=>
   simp only[SV.fD,adS,agc,agb] at hn
   have key:∀ c,c∈cs->¬ (c.aX j=true\/c.bu j=true\/c.bn j=true):=fun c hc hx=>hn c hc (OY h1 h2 c hx)
   simp only[SV.aX,SV.bu,SV.bn,adR]
   exact⟨fun c hc e=>key c hc (.inl e),fun c hc e=>key c hc (.inr (.inl e)),fun c hc e=>key c hc (.inr (.inr e))⟩
  | tup l=>
   simp only[SV.fD,adS,agc,agb] at hn
   have key:∀ p,p∈l->∀ c,c∈p.2->¬ (c.aX j=true\/c.bu j=true\/c.bn j=true):=fun p hp c hc hx=>hn p hp c hc (OY h1 h2 c hx)
   simp only[SV.aX,SV.bu,SV.bn,adR,adS,agc,agb]
   exact⟨fun p hp c hc e=>key p hp c hc (.inl e),fun p hp c hc e=>key p hp c hc (.inr (.inl e)),fun p hp c hc e=>key p hp c hc (.inr (.inr e))⟩
 have bv:∀ p,p∈S.boxes->∀ c,c∈p.2->¬ (c.aX j=true\/c.bu j=true\/c.bn j=true):=fun p hp c hc hx=>by
  have hn:=h.2 p hp
  simp only[adS,agc,agb] at hn
  exact hn c hc (OY h1 h2 c hx)
 simp only[St.aX,St.bu,St.bn,adw,adR,adS,agc,agb]
 exact⟨⟨fun s hs=>by simp[(sv s hs).1],fun p hp c hc e=>bv p hp c hc (.inl e)⟩,⟨fun s hs=>by simp[(sv s hs).2.1],fun p hp c hc e=>bv p hp c hc (.inr (.inl e))⟩,⟨fun s hs=>by simp[(sv s hs).2.2],fun p hp c hc e=>bv p hp c hc (.inr (.inr e))⟩⟩
theorem abF {ρ ρ':Env} (hb:∀ k,S.bV k=true->ρ'.bx k=ρ.bx k) (hr:∀ k,S.aX k=true->ρ'.rw k=ρ.rw k) (ho:∀ k,S.bu k=true->ρ'.ob k=ρ.ob k) (hs:∀ k,S.bn k=true->ρ'.st k=ρ.st k):S.eY ρ ρ':=by
 have inT:∀ s,s∈S.tmps->∀ c,(∀ f:CV->Bool,f c=true->(match s with | .v _ cs=>cs.any f | .tup l=>l.any fun p=>p.2.any f)=true)->c.eY ρ ρ':=fun s hs' c hc=>
  ⟨fun k hk=>hb k (by
    simp only[St.bV,adx,adS];left
    refine⟨s,hs', ?_⟩
    have:=hc (CV.bV k) hk
    cases s<;>exact this),
   fun k hk=>hr k (by
    simp only[St.aX,adx,adS];left
    refine⟨s,hs', ?_⟩
    have:=hc (CV.aX k) hk
    cases s<;>exact this),
   fun k hk=>ho k (by
    simp only[St.bu,adx,adS];left
    refine⟨s,hs', ?_⟩
    have:=hc (CV.bu k) hk
    cases s<;>exact this),
   fun k hk=>hs k (by
    simp only[St.bn,adx,adS];left
    refine⟨s,hs', ?_⟩
    have:=hc (CV.bn k) hk
    cases s<;>exact this)⟩
 refine⟨fun s hs'=> ?_,fun p hp c hc=>⟨fun k hk=>hb k ?_,fun k hk=>hr k ?_,fun k hk=>ho k ?_,fun k hk=>hs k ?_⟩⟩
 ·cases s with
  | v a cs=>exact fun c hc=>inT _ hs' c fun f hf=>by simp only[adS];exact⟨c,hc,hf⟩
  | tup l=>exact fun p hp c hc=>inT _ hs' c fun f hf=>by simp only[adS];exact⟨p,hp,c,hc,hf⟩
 ·simp only[St.bV,adx,adS];exact .inr ⟨p,hp,c,hc,hk⟩
 ·simp only[St.aX,adx,adS];exact .inr ⟨p,hp,c,hc,hk⟩
 ·simp only[St.bu,adx,adS];exact .inr ⟨p,hp,c,hc,hk⟩
 ·simp only[St.bn,adx,adS];exact .inr ⟨p,hp,c,hc,hk⟩
def cS:List (aT×Value)->aT->Option Value
 | [],_=>none
 | (o,n)::r,x=>if o=x then some n else cS r x
theorem CO {l:List (aT×Value)} {o:aT} {v:Value} (h:cS l o=some v):(o,v)∈l:=by
 induction l with
 | nil=>simp[cS] at h
 | cons p r ih=>
  obtain⟨o',n'⟩:=p
  simp only[cS] at h
  split at h
  ·rename_i e;cases h;subst e;simp
  ·exact aeP _ (ih h)
theorem IF {l:List (aT×Value)} {its:List (aT×Nat)} (he:l.map (·.1)=its.map (·.1)) (hd:wm its=false) {o:aT} {v:Value} (h:(o,v)∈l):cS l o=some v:=by
 induction l generalizing its with
 | nil=>simp at h
 | cons p r ih=>
  cases its with
  | nil=>simp at he
  | cons q its=>
   obtain⟨o',v'⟩:=p
   obtain⟨o2,n2⟩:=q
   simp only[aeK,List.cons.injEq] at he
   obtain⟨e1,e2⟩:=he
   subst e1
   simp only[wm,adw] at hd
   simp only[cS]
   rcases aeO.1 h with h | h
   ·cases h;simp
   ·split
    ·rename_i e
     subst e
     have hm:o'∈its.map (·.1):=by rw[<- e2];exact aeT.2 ⟨_,h,rfl⟩
     obtain⟨x,hx,ex⟩:=aeT.1 hm
     have:=FD (l:=its) (o:=o') (n:=x.2) (by rw[<- ex];exact hx)
     rw[hd.1] at this;cases this
    ·exact ih e2 hd.2 h
theorem FE {l:List (aT×Value)} {its:List (aT×Nat)} (he:l.map (·.1)=its.map (·.1)) {o:aT} (h:cS l o≠none):∃ n,(o,n)∈its:=by
 cases hv:cS l o with
 | none=>exact absurd hv h
 | some v=>
  have hm:o∈its.map (·.1):=by rw[<- he];exact aeT.2 ⟨_,CO hv,rfl⟩
  obtain⟨x,hx,ex⟩:=aeT.1 hm
  exact⟨x.2,by rw[<- ex];exact hx⟩
def lS:List (aT×Nat)->Nat->Option aT
 | [],_=>none
 | (o,n)::r,x=>if n=x then some o else lS r x
theorem xR {l:List (aT×Nat)} (hd:dup (l.map (·.2))=false) {o:aT} {n:Nat} (h:(o,n)∈l):lS l n=some o:=by
 induction l with
 | nil=>simp at h
 | cons p r ih=>
  obtain⟨o',n'⟩:=p
  rw[aeK] at hd
  obtain⟨h1,h2⟩:=Fj hd
  simp only[lS]
  rcases aeO.1 h with h | h
  ·cases h;simp
  ·split
   ·rename_i e;subst e;exact absurd (aeT.2 ⟨(o,n'),h,rfl⟩) h1
   ·exact ih h2 h
theorem nQ {α:Type} (f:Nat->Bool):∀ (l:List (Nat×α)) (i:Nat),look (l.filter fun p=>f p.1) i=if f i=true then look l i else none
 | [],i=>by simp[look]
 | (j,y)::r,i=>by
  have ih:=nQ f r i
  cases hU:f j with
  | false=>
   have:(List.filter (fun p:Nat×α=>f p.1) ((j,y)::r))=r.filter fun p=>f p.1:=by simp[hU]
   rw[this,ih,aq]
   by_cases e:j=i
   ·subst e;simp[hU]
   ·simp[e]
  | true=>
   have:(List.filter (fun p:Nat×α=>f p.1) ((j,y)::r))=(j,y)::r.filter fun p=>f p.1:=by simp[hU]
   rw[this,aq,aq,ih]
   by_cases e:j=i
   ·subst e;simp[hU]
   ·simp[e]
def CZ (w:World) (v:Value) (i:Nat):Int:=
 match v with
 | .map (some b)=>match w.heap[b]? with
  | some (.map es _)=>((es.toList[i]?).map fun e=>(e.born:Int)).getD 0
  | _=>0
 | _=>0
def Ju:Value->Nat
 | .pointer (some ⟨b,_,_⟩)=>b
 | _=>0
theorem KN (S:St) (js:List Nat):∀ (i:Nat) (ps:List PM) (args:List SV),eo (aF S js) i ps args=eo S i ps args
 | _,[],_=>rfl
 | i,p::r,l=>by
  have h1:∀ s,gX (aF S js) i p s=gX S i p s:=fun s=>by cases p<;>rfl
  simp only[eo,KN S js (i+1) r,h1]
theorem YZ {d n:Nat} (hd:d<2000) (hn:n<2048):nid d 0 0+n<10000000:=by simp only[nid];omega
theorem Qm {S:St}:∀ {ps:List PM} {args:List SV} {i:Nat},iU ps=true->∃ n,(.ob br,n)∈eo S i ps args
 | [],args,i,h=>by simp[iU] at h
 | p::r,args,i,h=>by
  simp only[eo,aeN]
  cases p with
  | ar t=>exact⟨64*i,.inl (by simp[PM.arg,gX])⟩
  | _=>
   obtain⟨n,hn⟩:=Qm (S:=S) (ps:=r) (args:=(bif PM.arg _ then args.tail else args)) (i:=i+1) h
   exact⟨n,.inr hn⟩
theorem Qn {V:St} {fb:List Nat}:∀ {ps:List PM} {args:List SV} {x:dL ps},cV V fb ps args=some x->iU ps=true->∃ t l,look V.objs br=some (.ar false t l)
 | [],args,x,h,ha=>by simp[iU] at ha
 | p::r,args,x,h,ha=>by
  simp only[cV] at h
  split at h
  ·rename_i s hs
   split at h
   ·rename_i y hy
    split at h
    ·rename_i z hz
     cases p with
     | ar t=>
      obtain⟨f,hl,hf⟩:=qP (show tZ V false t=some y from hy)
      have:=hf rfl
      subst this
      exact⟨_,_,hl⟩
     | _=>exact Qn hz ha
    ·cases h
   ·cases h
  ·cases h
theorem sE {d i:Nat}:∀ {l:List OT} {c:Nat} {x:kz l} {j:Nat} {q:oz},look (jB d i c l x) j=some q->∃ k v l,q= .map k v l
 | [],c,x,j,q,h=>by simp[jB,look] at h
 | .val _::r,c,x,j,q,h=>sE (l:=r) h
 | .row _ _::r,c,x,j,q,h=>sE (l:=r) h
 | .map k v::r,c,x,j,q,h=>by
  simp only[jB,aq] at h
  split at h
  ·cases h;exact⟨_,_,_,rfl⟩
  ·exact sE (l:=r) h
theorem wL {ps:List PM} {d:Nat}:∀ {rs:List RM} {c:Nat} {y:cD ps rs} {j:Nat} {q:oz},look (iX ps d rs c y) j=some q->∃ k v l,q= .map k v l
 | [],c,y,j,q,h=>by simp[iX,look] at h
 | .val _::r,c,y,j,q,h=>wL (rs:=r) h
 | .row _ _::r,c,y,j,q,h=>wL (rs:=r) h
 | .map k v::r,c,y,j,q,h=>by
  simp only[iX,aq] at h
  split at h
  ·cases h;exact⟨_,_,_,rfl⟩
  ·exact wL (rs:=r) h
 | .box l::r,c,y,j,q,h=>by
  simp only[iX,cT] at h
  rcases or_some h with h | ⟨_,h⟩
  ·exact sE h
  ·exact wL (rs:=r) h
theorem oB {d:Nat}:∀ {ps:List PM} {args:List SV} {i:Nat} {y:dK ps} {j:Nat} {q:oz},iU ps=false->look (cX d i ps args y) j=some q->∃ k v l,q= .map k v l
 | [],args,i,y,j,q,_,h=>by simp[cX,look] at h
 | .val _::r,[],i,y,j,q,_,h=>by simp[cX,look] at h
 | .row _ _::r,[],i,y,j,q,_,h=>by simp[cX,look] at h
 | .mrow _ _::r,[],i,y,j,q,_,h=>by simp[cX,look] at h
 | .map _ _::r,[],i,y,j,q,_,h=>by simp[cX,look] at h
 | .box _::r,[],i,y,j,q,_,h=>by simp[cX,look] at h
 | .val _::r,s::t,i,y,j,q,ha,h=>oB (ps:=r) (args:=t) ha h
 | .row _ _::r,s::t,i,y,j,q,ha,h=>oB (ps:=r) (args:=t) ha h
 | .mrow _ _::r,s::t,i,y,j,q,ha,h=>oB (ps:=r) (args:=t) ha h
 | .arR _::r,t,i,y,j,q,ha,h=>oB (d:=d) (ps:=r) (args:=t) (i:=i+1) (y:=y) (j:=j) ha (by cases t<;>exact h)
 | .ar _::r,t,i,y,j,q,ha,h=>by simp[iU] at ha
 | .map k v::r,s::t,i,y,j,q,ha,h=>by
  simp only[cX,cT] at h
  rcases or_some h with h | ⟨_,h⟩
  ·split at h
   ·simp only[aq] at h
    split at h
    ·cases h;exact⟨_,_,_,rfl⟩
    ·simp[look] at h
   ·simp[look] at h
  ·exact oB (ps:=r) (args:=t) ha h
 | .box l::r,s::t,i,y,j,q,ha,h=>by
  simp only[cX,cT] at h
  rcases or_some h with h | ⟨_,h⟩
  ·split at h
   ·exact sE h
   ·simp[look] at h
  ·exact oB (ps:=r) (args:=t) ha h
theorem NM {args:List SV} {sp:an} {k:St->Option β} (h:iO sp S args o.dst k=some r):∃ S',k S'=some r/\∀ (C:Fr X.P) (G:Gh) (ρ:Env) (w:World) (a:Act) (Q:Exit->Act->World->Prop),Mod C G ρ S w a-> (∀ G1 ρ1,Mod C G1 ρ1 (aF S (eC S (dQ sp.ps args))) w a->ρ1.bx=ρ.bx->∃ vs f avs,aG (aZ G1 ρ1) args vs/\(execOp a.eval o).run X.P w= .ok (.enter f avs) w/\ ∀ G2 x y,Agr G2 w->(∀ b i,dO ρ1 (eo S 0 sp.ps args) b=some i->G2 b=none/\b<w.heap.size)-> (∀ b,G2 b≠G1 b->(∃ k',ρ1.own b=some (.inl k')/\inL (gP S (dQ sp.ps args)) k'=true)\/ρ1.own b=some (.ob br))-> gf G2 w (dO ρ1 (eo S 0 sp.ps args)) 0 sp.ps x vs->sp.m x=some y->bZ X.P G2-> Calls X.P f avs w fun e w'=>∃ w1 G' ow' us,Jt G2 w (dO ρ1 (eo S 0 sp.ps args)) sp vs y e w1 G' ow' us/\ (∀ G3 ρ3 a',Mod C G3 ρ3 S' w1 a'->(∀ k',S.bV k'=true->ρ3.bx k'=ρ.bx k')->∃ G4 ρ4,Mod C G4 ρ4 S' w' a'))-> o.wp X.P a w (fun a' w'=>∃ G' ρ',Mod C G' ρ' S' w' a') Q:=by
 unfold iO at h
 simp only at h
 split at h
 ·cases h
 ·rename_i hc
  simp only[adx,agd,ads,adr] at hc
  obtain⟨⟨⟨⟨⟨⟨⟨⟨⟨⟨⟨⟨hdO,hdI⟩,hdC⟩,hcode⟩,hfbo⟩,hjso⟩,harx⟩,hfresh⟩,howold⟩,hnostp⟩,hflx⟩,hnbx⟩,hdd⟩:=hc
  generalize hits:cc (o.dst.getD 0) 0 sp.ps args++dM (o.dst.getD 0) 0 sp.rs=its at*
  generalize how:eo S 0 sp.ps args=ow at*
  split at h
  ·rename_i x hx
   obtain⟨y,hy,h⟩:=bind_some h
   refine⟨_,h,fun C G ρ w a Q hM hCall=> ?_⟩
   clear h
   generalize hva:dQ sp.ps args=va at*
   obtain⟨G1,ρ1,G2,hfz,hM1,hle2,hhn2,hagr2,hlent,harok,hG2⟩:=hM.aan (eC S va) (gP S va) (wq sp.ps)
   obtain⟨vs,f,avs,hvs,hrun,hCall⟩:=hCall G1 ρ1 hM1 hfz.bx
   have hF:ir G2 ρ1 (aF S (eC S va)):=fun j q hj hq=>bJ.mono hle2 (hM1.toMem.frozen j q hj hq)
   have hargs:=IW (ow:=ow) hM1.toMem hle2 hhn2 hF hlent 0 (fun e fz t l hl=>harok e fz t l hl) (fun q hq=>by
    rw[KN,how] at hq
    exact wD hdO hq) hx hvs
   have howG:∀ b i,dO ρ1 ow b=some i->G2 b=none/\b<w.heap.size:=fun b i hb=>by
    unfold dO at hb
    cases h1:ρ1.own b with
    | none=>rw[h1] at hb;cases hb
    | some o'=>
     rw[h1] at hb
     simp only[afJ] at hb
     have hbb:=hM1.owned b o' h1
     refine⟨?_,hbb.2.1⟩
     by_cases e:G2 b=G1 b
     ·rw[e];exact hbb.1
     ·rcases hG2 b e with ⟨k',hk1,hk2⟩ | ⟨hk1,hk2⟩
      ·rw[h1] at hk1
       cases hk1
       simp only[adR] at hfbo
       have hm:k'∈gP S va:=by
        simp only[inL,adS] at hk2
        obtain⟨x',hx1,hx2⟩:=hk2
        rw[afm hx2];exact hx1
       have:=hfbo k' hm
       rw[hb] at this;simp at this
      ·rw[h1] at hk2
       cases hk2
       rw[hk1,hb] at harx;simp at harx
   have hcall:=hCall G2 x y hagr2 howG (fun b hb=>(hG2 b hb).imp id (·.2)) hargs hy (C.tab.mono (Gh.le_trans hM1.le0 hle2))
   unfold Oper.wp
   rw[hrun]
   refine hcall.mono ?_
   rintro e w0 ⟨w',G',ow',us,hg,hfin⟩
   rw[hg.ret]
   have base:∃ Gb ρb Sb,Mod C Gb ρb Sb w a/\Sb.tmps=S.tmps/\Sb.boxes=S.boxes/\Sb.objs=S.objs/\Sb.rows=(if (fk sp.rs&&fA sp.ps)=true then S else aF S (eC S va)).rows/\ρb.bx=ρ1.bx/\ρb.rw=ρ1.rw/\ρb.ob=ρ1.ob/\ρb.st=ρ1.st/\Gb.hnd=G2.hnd/\
    (∀ b o',ρ1.own b=some o'->ρb.own b=some o')/\((fk sp.rs&&fA sp.ps)=true\/∀ b,G2 b=Gb b):=by
    by_cases hfl:(fk sp.rs&&fA sp.ps)=true
    ·exact⟨G,ρ,S,hM,rfl,rfl,rfl,by rw[af9 hfl],hfz.bx.symm,hfz.rw.symm,hfz.ob.symm,hfz.st.symm,(hhn2.trans hfz.hnd).symm,hfz.own,.inl hfl⟩
    ·refine⟨G1,ρ1,_,hM1,rfl,rfl,rfl,by rw[af8 hfl],rfl,rfl,rfl,rfl,hhn2.symm,fun _ _ h=>h,.inr fun b=> ?_⟩
     have hfe:(gP S va).isEmpty=true/\wq sp.ps=false:=by
      rcases hflx with h1 | h1
      ·exact absurd h1 hfl
      ·simpa using h1
     cases Classical.em (G2 b=G1 b) with
     | inl e=>exact e
     | inr e=>
      rcases hG2 b e with ⟨k',_,hk2⟩ | ⟨hk1,_⟩
      ·have:gP S va=[]:=by simpa using hfe.1
       rw[this] at hk2;simp[inL] at hk2
      ·rw[hfe.2] at hk1;cases hk1
   obtain⟨Gb,ρb,Sb,hMb,eT,eB,eO,eR,ebx,erw,eob,est,ehn,hown1,hflat⟩:=base
   have howN:∀ b o',ρb.own b=some o'->bG ow o'=none->dO ρ1 ow b=none:=fun b o' hb hn=>by
    unfold dO
    cases h1:ρ1.own b with
    | none=>rfl
    | some o2=>
     have:=hown1 b o2 h1
     rw[hb] at this
     cases this
     simpa using hn
   have hownb:∀ b,dO ρ1 ow b≠none->∃ o',ρb.own b=some o':=fun b hb=>by
    unfold dO at hb
    cases h1:ρ1.own b with
    | none=>rw[h1] at hb;exact absurd rfl hb
    | some o'=>exact⟨o',hown1 b o' h1⟩
   have hgb:∀ b,dO ρ1 ow b≠none->Gb b=none:=fun b hb=>by
    obtain⟨o',h1⟩:=hownb b hb
    exact (hMb.owned b o' h1).1
   let G3:Gh:=⟨fun b=>if b<w.heap.size/\dO ρ1 ow b=none then Gb b else G' b,G'.hnd⟩
   have hle3:Gb.le G3:=⟨fun b o' hb=>by
    have h1:=aB (hMb.agr b o' hb)
    have h2:dO ρ1 ow b=none:=by
     cases h3:dO ρ1 ow b with
     | none=>rfl
     | some i=>have:=hgb b (by rw[h3];simp);rw[hb] at this;cases this
    simp only[G3,h1,h2,and_self,aga];exact hb,fun i b hb=>hg.le.hnd i b (by rw[<- ehn];exact hb)⟩
   have hagr3:Agr G3 w':=fun b o' hb=>by
    simp only[G3] at hb
    split at hb
    ·rename_i hb'
     rw[(hg.old b hb'.1 hb'.2).1];exact hMb.agr b o' hb
    ·exact hg.agr b o' hb
   have hTr:Trans G' G3 (fk sp.rs&&fA sp.ps):=⟨fun _ _ h=>h,by
    rcases hflat with h1 | h1
    ·exact .inl h1
    ·right
     refine⟨fun b o' hb=> ?_,fun _ _ h=>h⟩
     simp only[G3]
     by_cases hb':b<w.heap.size/\dO ρ1 ow b=none
     ·rw[af9 hb', <- h1, <- (hg.old b hb'.1 hb'.2).2];exact hb
     ·rw[af8 hb'];exact hb⟩
   obtain⟨hbk,vals1,hv1,hpt1,hr1⟩:=BZ (d:=o.dst.getD 0) (Trans.left hTr) hg.out
   obtain⟨vals2,hv2,hold2,hr2⟩:=vA (d:=o.dst.getD 0) (G:=G1) (ρ:=ρ1) (show G3.hnd=G'.hnd from rfl) (Trans.right hTr) hbk hvs
   generalize hvals:vals2++vals1=vals
   have hvits:vals.map (·.1)=its.map (·.1):=by rw[<- hvals, <- hits];simp[hv1,hv2]
   have hmem1:∀ p,p∈vals1->p∈vals:=fun p hp=>by rw[<- hvals];simp[hp]
   have hmem2:∀ p,p∈vals2->p∈vals:=fun p hp=>by rw[<- hvals];simp[hp]
   let ρ3:Env:=⟨fun i=>match cS vals (.inl i) with | some v=>Ju v | none=>ρb.bx i,
    fun i=>(cS vals (.inr i)).getD (ρb.rw i),
    fun b=>match ow' b with | some n=>lS its n | none=>if dO ρ1 ow b=none then ρb.own b else none,
    fun i=>match cS vals (.ob i) with | some (.map (some b))=> .map (some b) | _=>ρb.ob i,
    fun i=>match cS vals (.ob i) with | some v=>CZ w' v | none=>ρb.st i⟩
   have hA3:∀ o v,(o,v)∈vals->Asg ρ3 w' o v:=fun o v hm=>by
    have hl:=IF hvits hdI hm
    cases o with
    | inl k'=>
     have hp:∃ b,v= .pointer (some ⟨b,0,none⟩):=by
      rw[<- hvals] at hm
      rcases aeN.1 hm with h1 | h1
      ·rcases hold2 _ _ h1 with h2 | ⟨n,_,h2⟩
       ·exact⟨_,h2⟩
       ·rcases h2 with h2 | h2<;>cases h2
      ·exact hpt1 k' v h1
     obtain⟨b,hb⟩:=hp
     show v= .pointer (some ⟨match cS vals (.inl k') with | some v=>Ju v | none=>ρb.bx k',0,none⟩)
     rw[hl,hb];rfl
    | inr j=>show (cS vals (.inr j)).getD (ρb.rw j)=v;rw[hl];rfl
    | ob j=>
     intro b hb
     subst hb
     refine⟨?_,fun es clock hw i e' hi=> ?_⟩
     ·show (match cS vals (.ob j) with | some (.map (some b))=>Value.map (some b) | _=>ρb.ob j)=_
      rw[hl]
     ·show (e'.born:Int)=(match cS vals (.ob j) with | some v=>CZ w' v | none=>ρb.st j) i
      rw[hl]
      simp[CZ,hw,hi]
   have hO3:∀ o n,(o,n)∈its->∀ b,ow' b=some n->ρ3.own b=some o:=fun o n hm b hb=>by
    show (match ow' b with | some n=>lS its n | none=>_)=_
    rw[hb];exact xR hdC hm
   have hi1:∀ p,p∈dM (o.dst.getD 0) 0 sp.rs->p∈its:=fun p hp=>by rw[<- hits];simp[hp]
   have hi2:∀ p,p∈cc (o.dst.getD 0) 0 sp.ps args->p∈its:=fun p hp=>by rw[<- hits];simp[hp]
   obtain⟨hxv,hP1⟩:=hr1 ρ3 (fun o v h=>hA3 o v (hmem1 _ h)) (fun o n h=>hO3 o n (hi1 _ h))
   have hP2:=hr2 ρ3 (fun o v h=>hA3 o v (hmem2 _ h)) (fun o n h=>hO3 o n (hi2 _ h))
   have hnew:∀ o' n,(o',n)∈its->Fs (o.dst.getD 0) o' n->∀ j,o'= .inr j\/o'= .ob j->S.aX j=false/\S.bu j=false:=fun o' n hm hn j hj=>by
    have hlt:n<2048:=by
     have:=adQ.1 hcode (o',n) hm
     simpa using this
    have hj2:j=nid (o.dst.getD 0) 0 0+n:=by
     rcases hn with hn | hn<;>rcases hj with hj | hj<;>rw[hn] at hj<;>cases hj<;>rfl
    have hf:S.fD (nid (o.dst.getD 0) 0 0) (nid (o.dst.getD 0+1) 0 0)=false:=by simpa [qI] using hfresh
    have:=WL (j:=j) hf (by omega) (by rw[hj2];simp only[nid];omega)
    exact⟨this.1,this.2.1⟩
   have hval:∀ o' v,(o',v)∈vals->(Old ρ1 o' v)\/(o'= .inl (o.dst.getD 0)/\0<xW sp.rs)\/∃ n,(o',n)∈its/\Fs (o.dst.getD 0) o' n:=fun o' v hm=>by
    rw[<- hvals] at hm
    rcases aeN.1 hm with h1 | h1
    ·rcases hold2 _ _ h1 with h2 | ⟨n,h2,h3⟩
     ·exact .inl h2
     ·exact .inr (.inr ⟨n,hi2 _ h2,h3⟩)
    ·have hm2:o'∈(dM (o.dst.getD 0) 0 sp.rs).map (·.1):=by rw[<- hv1];exact aeT.2 ⟨_,h1,rfl⟩
     obtain⟨p,hp,e1⟩:=aeT.1 hm2
     obtain⟨p1,p2⟩:=p
     simp only at e1
     subst e1
     rcases I6 hp with h2 | h2
     ·subst h2
      exact .inr (.inl ⟨rfl,((vL (y:=y)).2.2 _ _ hp).2.1⟩)
     ·exact .inr (.inr ⟨p2,hi1 _ hp,h2⟩)
   have hnb:0<xW sp.rs->S.bV (o.dst.getD 0)=false/\o.dst.getD 0<2000:=fun h0=>by
    have h1:Nat.blt 0 (xW sp.rs)=true:=by simpa using h0
    rw[h1] at hnbx
    simp only[ady,adw] at hnbx
    exact⟨hnbx.1,by simpa using hdd⟩
   have sbx:∀ k',S.bV k'=true\/2000<=k'->ρ3.bx k'=ρb.bx k':=fun k' hk'=>by
    show (match cS vals (.inl k') with | some v=>Ju v | none=>ρb.bx k')=_
    cases hl:cS vals (.inl k') with
    | none=>rfl
    | some v=>
     rcases hval _ _ (CO hl) with h1 | ⟨h1,h2⟩ | ⟨n,_,h1⟩
     ·have h1':v= .pointer (some ⟨ρ1.bx k',0,none⟩):=h1
      rw[h1',ebx];rfl
     ·cases h1
      rcases hk' with hk' | hk'
      ·rw[(hnb h2).1] at hk';cases hk'
      ·exact absurd (hnb h2).2 (Nat.not_lt.2 hk')
     ·rcases h1 with h1 | h1<;>cases h1
   have hsmall:∀ o' n,(o',n)∈its->Fs (o.dst.getD 0) o' n->∀ j,o'= .inr j\/o'= .ob j->j<10000000:=fun o' n hm hn j hj=>by
    have hlt:n<2048:=by
     have:=adQ.1 hcode (o',n) hm
     simpa using this
    have hd2:o.dst.getD 0<2000:=by simpa using hdd
    have hj2:j=nid (o.dst.getD 0) 0 0+n:=by
     rcases hn with hn | hn<;>rcases hj with hj | hj<;>rw[hn] at hj<;>cases hj<;>rfl
    rw[hj2];exact YZ hd2 hlt
   have srw:∀ j,S.aX j=true\/10000000<=j->ρ3.rw j=ρb.rw j:=fun j hj=>by
    show (cS vals (.inr j)).getD (ρb.rw j)=_
    cases hl:cS vals (.inr j) with
    | none=>rfl
    | some v=>
     rcases hval _ _ (CO hl) with h1 | ⟨h1,_⟩ | ⟨n,h0,h1⟩
     ·have h1':ρ1.rw j=v:=h1
      rw[erw,h1'];rfl
     ·cases h1
     ·rcases hj with hj | hj
      ·have:=(hnew _ _ h0 h1 j (.inl rfl)).1
       rw[hj] at this;cases this
      ·have:=hsmall _ _ h0 h1 j (.inl rfl);omega
   have sob:∀ j,S.bu j=true\/10000000<=j->ρ3.ob j=ρb.ob j:=fun j hj=>by
    show (match cS vals (.ob j) with | some (.map (some b))=>Value.map (some b) | _=>ρb.ob j)=_
    split
    ·rename_i b hl
     rcases hval _ _ (CO hl) with h1 | ⟨h1,_⟩ | ⟨n,h0,h1⟩
     ·rw[eob,h1 b rfl]
     ·cases h1
     ·rcases hj with hj | hj
      ·have:=(hnew _ _ h0 h1 j (.inr rfl)).2
       rw[hj] at this;cases this
      ·have:=hsmall _ _ h0 h1 j (.inr rfl);omega
    ·rfl
   have inIts:∀ o' v,cS vals o'=some v->∃ n,(o',n)∈its:=fun o' v hl=>FE hvits (by rw[hl];simp)
   have sst:∀ j,S.bn j=true->ρ3.st j=ρb.st j:=fun j hj=>by
    show (match cS vals (.ob j) with | some v=>CZ w' v | none=>ρb.st j)=_
    cases hl:cS vals (.ob j) with
    | none=>rfl
    | some v=>
     obtain⟨n,hn⟩:=inIts _ _ hl
     have:=adQ.1 hnostp _ hn
     simp only[adt] at this
     rw[hj] at this;cases this
   have hsame:S.eY ρb ρ3:=abF (fun k' hk'=>sbx k' (.inl hk')) (fun j hj=>srw j (.inl hj)) (fun j hj=>sob j (.inl hj)) sst
   have hkeep:∀ b o',ρb.own b=some o'->dO ρ1 ow b=none->ρ3.own b=some o':=fun b o' hb h1=>by
    have h2:ow' b=none:=by
     cases h3:ow' b with
     | none=>rfl
     | some i=>
      rcases (hg.own b i h3).2.2 with h4 | h4
      ·have:=(hMb.owned b o' hb).2.1;omega
      ·exact absurd h1 h4
    show (match ow' b with | some n=>lS its n | none=>if dO ρ1 ow b=none then ρb.own b else none)=_
    rw[h2]
    simp only[h1,aga];exact hb
   refine hfin G3 ρ3 _ ?_ (fun k' hk'=>(sbx k' (.inl hk')).trans (by rw[ebx,hfz.bx]))
   refine { agr:=hagr3,le0:=Gh.le_trans hMb.le0 hle3,old:= ?_,frame:= ?_,size:=afs hMb.size hg.size,os:=hg.os.trans hMb.os,output:=hg.output.trans hMb.output,pin:=fun k' hk'=>(sbx k' (.inr hk')).trans (hMb.pin k' hk'),pinR:=fun k' hk'=>⟨(srw k' (.inr hk')).trans (hMb.pinR k' hk').1,(sob k' (.inr hk')).trans (hMb.pinR k' hk').2⟩,owned:= ?_,boxes:= ?_,rows:= ?_,objs:= ?_,hndI:=fun hn=> ?_,tmps:= ?_,defers:= ?_ }
   ·intro b hb hB
    have h1:b<w.heap.size:=aft hb hMb.size
    have h2:dO ρ1 ow b=none:=by
     cases h3:dO ρ1 ow b with
     | none=>rfl
     | some i=>
      obtain⟨o2,h4⟩:=hownb b (by rw[h3];simp)
      rcases (hMb.owned b o2 h4).2.2 with h5 | h5
      ·omega
      ·exact absurd h5 hB
    simp only[G3,h1,h2,and_self,aga];exact hMb.old b hb hB
   ·intro b hb hB
    have h1:b<w.heap.size:=aft hb hMb.size
    have h2:dO ρ1 ow b=none:=by
     cases h3:dO ρ1 ow b with
     | none=>rfl
     | some i=>
      obtain⟨o2,h4⟩:=hownb b (by rw[h3];simp)
      rcases (hMb.owned b o2 h4).2.2 with h5 | h5
      ·omega
      ·exact absurd h5 hB
    rw[(hg.old b h1 h2).1];exact hMb.frame b hb hB
   ·intro b o' hb
    have hb':(match ow' b with | some n=>lS its n | none=>if dO ρ1 ow b=none then ρb.own b else none)=some o':=hb
    cases h1:ow' b with
    | some i=>
     obtain⟨h2,h3,h4⟩:=hg.own b i h1
     refine⟨?_,h3, ?_⟩
     ·simp only[G3]
      rw[af8]
      ·exact h2
      ·rintro⟨h5,h6⟩
       rcases h4 with h4 | h4
       ·omega
       ·exact h4 h6
     ·rcases h4 with h4 | h4
      ·exact .inl (afs hMb.size h4)
      ·obtain⟨o2,h5⟩:=hownb b h4
       exact (hMb.owned b o2 h5).2.2
    | none=>
     rw[h1] at hb'
     simp only at hb'
     split at hb'
     ·rename_i h2
      have h3:=hMb.owned b o' hb'
      refine⟨?_,aft h3.2.1 hg.size,h3.2.2⟩
      simp only[G3,h3.2.1,h2,and_self,aga];exact h3.1
     ·cases hb'
   ·intro k' cs hk'
    simp only[cT] at hk'
    rcases or_some hk' with h1 | ⟨n1,hk'⟩
    ·exact hP1.bx k' cs h1
    ·rcases or_some hk' with h1 | ⟨n2,hk'⟩
     ·exact hP2.bx k' cs h1
     ·rw[nQ (fun i=>(bG ow (.inl i)).isNone)] at hk'
      split at hk'
      ·rename_i hn
       have hnv:cS vals (.inl k')=none:=by
        cases hl:cS vals (.inl k') with
        | none=>rfl
        | some v=>
         obtain⟨n,hn⟩:=inIts _ _ hl
         rw[<- hits] at hn
         rcases aeN.1 hn with h1 | h1
         ·have:=(pP (y:=wK sp.ps sp.rs y)).2.2 k' n h1
          rw[n2] at this;cases this
         ·have:=((vL (y:=y)).2.2 k' n h1).2.2
          rw[n1] at this;cases this
       have ebk:ρ3.bx k'=ρb.bx k':=by
        show (match cS vals (.inl k') with | some v=>Ju v | none=>ρb.bx k')=_
        rw[hnv]
       obtain⟨h2,ws,T,h3,h4⟩:=hMb.boxes k' cs (by rw[eB];exact hk')
       have h5:=howN _ _ h2 (by simpa using hn)
       rw[ebk]
       refine⟨hkeep _ _ h2 h5,ws,T, ?_,aG.uY (fun c hc v=>aQ.congr hle3 (hsame.boxes (k',cs) (mW hk') c hc)) h4⟩
       rw[(hg.old _ (aB h3) h5).1];exact h3
      ·cases hk'
   ·intro j q hj
    simp only[cT] at hj
    rcases or_some hj with h1 | ⟨n1,hj⟩
    ·exact hP1.rw j q h1
    ·rcases or_some hj with h1 | ⟨n2,hj⟩
     ·exact hP2.rw j q h1
     ·rw[nQ (fun i=>(bG ow (.inr i)).isNone)] at hj
      split at hj
      ·rename_i hn
       have hnv:cS vals (.inr j)=none:=by
        cases hl:cS vals (.inr j) with
        | none=>rfl
        | some v=>
         obtain⟨n,hn⟩:=inIts _ _ hl
         rw[<- hits] at hn
         rcases aeN.1 hn with h1 | h1
         ·have:=(pP (y:=wK sp.ps sp.rs y)).1 j n h1
          rw[n2] at this;cases this
         ·have:=(vL (y:=y)).1 j n h1
          rw[n1] at this;cases this
       have erj:ρ3.rw j=ρb.rw j:=by
        show (cS vals (.inr j)).getD (ρb.rw j)=_
        rw[hnv];rfl
       have hrow:=hMb.rows j q (by rw[eR];exact hj)
       have hk1:cN Gb ρb w' j q:=by
        unfold cN at hrow ⊢
        split
        ·rename_i hf;rw[af9 hf] at hrow;exact hrow
        ·rename_i hf
         rw[af8 hf] at hrow
         obtain⟨xs,⟨hlen,hor⟩,hl,hb⟩:=hrow
         refine⟨xs,⟨hlen, ?_⟩,hl,hb⟩
         rcases hor with h1 | ⟨g,cap,cur,hv,h0,hgg,rest⟩
         ·exact .inl h1
         ·refine .inr ⟨g,cap,cur,hv,h0, ?_,rest⟩
          have h5:=howN g _ (hb g (by rw[hv];rfl)) (by simpa using hn)
          rw[(hg.old g (aB hgg) h5).1];exact hgg
       exact hk1.congr hle3 erj (fun b hb=>hkeep b _ hb (howN b _ hb (by simpa using hn)))
      ·cases hj
   ·intro j q hj
    simp only[cT] at hj
    rcases or_some hj with h1 | ⟨n1,hj⟩
    ·exact hP1.ob j q h1
    ·rcases or_some hj with h1 | ⟨n2,hj⟩
     ·exact hP2.ob j q h1
     ·rw[nQ (fun i=>(bG ow (.ob i)).isNone)] at hj
      split at hj
      ·rename_i hn
       have hn':bG ow (.ob j)=none:=by simpa using hn
       have hnv:cS vals (.ob j)=none:=by
        cases hl:cS vals (.ob j) with
        | none=>rfl
        | some v=>
         obtain⟨n,hn⟩:=inIts _ _ hl
         rw[<- hits] at hn
         rcases aeN.1 hn with h1 | h1
         ·have:=(pP (y:=wK sp.ps sp.rs y)).2.1 j n h1
          rw[n2] at this;cases this
         ·have:=(vL (y:=y)).2.1 j n h1
          rw[n1] at this;cases this
       have eoj:ρ3.ob j=ρb.ob j:=by
        show (match cS vals (.ob j) with | some (.map (some b))=>Value.map (some b) | _=>ρb.ob j)=_
        rw[hnv]
       have esj:ρ3.st j=ρb.st j:=by
        show (match cS vals (.ob j) with | some v=>CZ w' v | none=>ρb.st j)=_
        rw[hnv]
       have hobj:=hMb.objs j q (by rw[eO];exact hj)
       cases q with
       | map kk vv l=>
        obtain⟨b,es,clock,h1,h2,h3,h4,h5,h6⟩:=hobj
        have h7:=howN b _ h2 hn'
        exact⟨b,es,clock,by rw[eoj];exact h1,hkeep b _ h2 h7,by rw[(hg.old b (aB h3) h7).1];exact h3,h4.mono fun x y hxy=>hxy.mono hle3,by rw[esj];exact h5,h6⟩
       | ar fz t l=>
        obtain⟨hja,hA⟩:=hobj
        subst hja
        have hna:iU sp.ps=false:=by
         cases hh:iU sp.ps with
         | false=>rfl
         | true=>
          obtain⟨n,hn2⟩:=Qm (S:=S) (args:=args) (i:=0) hh
          rw[how] at hn2
          have:=FD hn2
          rw[hn'] at this;cases this
        have hhn:G3.hnd=Gb.hnd:=(hg.hnd hna).trans ehn.symm
        refine⟨rfl,fun i b hb=>hA.1 i b (by rw[<- hhn];exact hb),fun i i' b hb hb'=>hA.2.1 i i' b (by rw[<- hhn];exact hb) (by rw[<- hhn];exact hb'),fun i z hz=> ?_⟩
        obtain⟨b,ws,T,f1,f2,f3,f4,f5⟩:=hA.2.2 i z hz
        have hob:dO ρ1 ow b=none:=by
         cases hx2:dO ρ1 ow b with
         | none=>rfl
         | some n=>
          cases fz with
          | true=>have:=hgb b (by rw[hx2];simp);rw[f2 rfl] at this;cases this
          | false=>have:=howN b _ (f3 rfl) hn';rw[hx2] at this;cases this
        exact⟨b,ws,T,by rw[hhn];exact f1,fun e'=>hle3 _ _ (f2 e'),fun e'=>hkeep b _ (f3 e') hob,by rw[(hg.old b (aB f4) hob).1];exact f4,ax.mono hle3 t z _ f5⟩
      ·cases hj
   ·obtain⟨q1,q2⟩:=hMb.hndI hn
    have hna:iU sp.ps=false:=by
     cases hh:iU sp.ps with
     | false=>rfl
     | true=>
      obtain⟨t,l,hl⟩:=Qn hx hh
      exact absurd (show look Sb.objs br=_ by rw[eO];exact hl) (q2 t l)
    refine⟨(hg.hnd hna).trans (ehn.symm.trans q1),fun t l hl=> ?_⟩
    simp only[cT] at hl
    rcases or_some hl with h1 | ⟨_,hl⟩
    ·obtain⟨_,_,_,e⟩:=wL h1;cases e
    ·rcases or_some hl with h1 | ⟨_,hl⟩
     ·obtain⟨_,_,_,e⟩:=oB hna h1;cases e
     ·rw[nQ (fun i=>(bG ow (.ob i)).isNone)] at hl
      split at hl
      ·exact q2 t l (by rw[eO];exact hl)
      ·cases hl
   ·have hT:gj G3 ρ3 S a:=by
     have h1:gj Gb ρb S a:=by
      have:=hMb.tmps
      unfold gj at this ⊢
      rw[eT] at this;exact this
     exact h1.congr hle3 hsame
    have:=hT.put o.dst (s:=yt (tY sp.ps (o.dst.getD 0) sp.rs 0 y)) (v:=rj us) (fun _ _=>N6 hxv)
    cases hd:o.dst with
    | none=>rw[hd] at this;exact this
    | some d=>rw[hd] at this;exact this
   ·cases hd:o.dst<;>exact hMb.defers
  ·cases h
theorem Qx {c:Call} {f:Nat} {args:List SV} {sp:an} {k:St->Option β} (hX:cA X) (ho:o.op= .call c) (hcal:dD S c=some (f,args)) (hsp:(f,sp)∈X.specs) (h:iO sp S args o.dst k=some r):∃ S',k S'=some r/\eX X.P o S S':=by
 obtain⟨hfun,hbody⟩:=hX.fn f sp hsp
 obtain⟨S',hk,hS⟩:=NM h
 refine⟨S',hk,fun C G ρ w a Q hM=>hS C G ρ w a Q hM fun G1 ρ1 hM1 _=> ?_⟩
 obtain⟨vs,hvs,hrun⟩:=gH (S:=S) (w:=w) (G:=G1) (ρ:=ρ1) (a:=a) ho hcal (fun z _=>by
  have:=hM1.tmps.ev z;rw[vE] at this;exact this) hbody
 refine⟨vs,f,_,hvs,hrun,fun G2 x y h1 h2 _ h3 h4 h5=>(hfun G2 w _ vs x y h1 h2 h3 h4 h5).mono ?_⟩
 rintro e w' ⟨G',ow',us,hg⟩
 exact⟨w',G',ow',us,hg,fun G3 ρ3 a' h _=>⟨G3,ρ3,h⟩⟩
theorem Mod.xO {P0:Program} {C:Fr P0} {G:Gh} {ρ:Env} {S:St} {w:World} {a:Act} (h:Mod C G ρ S w a) (d:Option Tmp):Mod C G ρ (xO S d) w a:=by
 unfold Dn.xO
 split
 ·rename_i d
  split
  ·rename_i k _ _
   cases Nat.beq k d with
   | false=>exact h
   | true=>
    refine { h.toMem.JP (S':={ S with tmps:=S.tmps.set d (.v false [.any]) }) rfl rfl rfl with tmps:=⟨by simpa using h.tmps.1,fun i s hi=> ?_⟩,defers:=h.defers }
    have hi':(S.tmps.set d (.v false [.any]))[i]? =some s:=hi
    rw[aeq] at hi'
    split at hi'
    ·split at hi'
     ·cases hi';trivial
     ·cases hi'
    ·exact h.tmps.2 i s hi'
  ·exact h
 ·exact h
theorem T6 {sp:an} {S:St} {args:List SV} {d:Option Tmp} {k:St->Option β} {e:Option β} {r:β} (h:Ln sp S args d k e=some r):iO sp S args d k=some r\/e=some r:=by
 unfold Ln at h
 unfold iO
 simp only at h ⊢
 split at h
 ·cases h
 ·rename_i hc
  rw[af8 hc]
  split at h
  ·rename_i x hx
   cases hm:sp.m x with
   | none=>rw[hm] at h;exact .inr h
   | some y=>rw[hm] at h;exact .inl h
  ·cases h
theorem UL {α:Type} {l:List (Nat×α)} {k:Nat} {x:α} (h:x∈nP l k):(k,x)∈l:=by
 induction l with
 | nil=>simp[nP] at h
 | cons p r ih=>
  obtain⟨j,y⟩:=p
  simp only[nP] at h
  cases hb:Nat.beq j k with
  | true=>
   rw[hb] at h
   simp only[afX,aeO] at h
   have:=afm hb
   subst this
   rcases h with h | h
   ·subst h;simp
   ·exact aeP _ (ih h)
  | false=>rw[hb] at h;simp only[afW] at h;exact aeP _ (ih h)
theorem NL {c:Call} {f:Nat} {args:List SV} {k:St->Option β} (hX:cA X) (ho:o.op= .call c) (hcal:dD S c=some (f,args)):∀ {l:List an},(∀ sp,sp∈l->(f,sp)∈X.specs)-> qE S args o.dst k l=some r->∃ S',k S'=some r/\eX X.P o S S'
 | [],_,h=>by cases h
 | [sp],hl,h=>Qx hX ho hcal (hl sp (by simp)) h
 | sp::sp'::q,hl,h=>by
  rcases T6 h with h | h
  ·exact Qx hX ho hcal (hl sp (by simp)) h
  ·exact NL hX ho hcal (fun s hs=>hl s (by simp[aeO] at hs ⊢;exact .inr hs)) h
theorem aG.Y8 {α β:Type} {R:α->β->Prop}:∀ {l:List α} {r:List β},l.length=r.length->(∀ (k:Nat) x y,l[k]? =some x->r[k]? =some y->R x y)->aG R l r
 | [],[],_,_=>rfl
 | [],_::_,h,_=>by cases h
 | _::_,[],h,_=>by cases h
 | x::l,y::r,h,hr=>⟨y,r,rfl,hr 0 x y rfl rfl,aG.Y8 (by simpa using h) fun k a b ha hb=>hr (k+1) a b (by simpa using ha) (by simpa using hb)⟩
theorem Mod.aa3 {P0:Program} {C:Fr P0} {G:Gh} {ρ:Env} {S:St} {w:World} {a:Act} {k:Nat} {cs:List CV} (h:Mod C G ρ { S with boxes:=(k,cs)::S.boxes } w a) (hl:look S.boxes k=some cs):Mod C G ρ S w a:=
 { agr:=h.agr,le0:=h.le0,old:=h.old,frame:=h.frame,size:=h.size,os:=h.os,output:=h.output,pin:=h.pin,pinR:=h.pinR,owned:=h.owned,
   boxes:=fun i c hi=>h.boxes i c (by
    simp only[aq]
    split
    ·rename_i e
     subst e
     rw[hl] at hi;exact hi
    ·exact hi),rows:=h.rows,objs:=h.objs,hndI:=h.hndI,tmps:=h.tmps,defers:=h.defers }
theorem acp {c:Call} {f:Nat} {args:List SV} {p:Nat} {sp:an} {k:St->Option β} (hX:cA X) (ho:o.op= .call c) (hcal:dD S c=some (f,args)) (hk:look X.keys f=some (.nest p sp)) (h:Jz (.nest p sp) S args o.dst k=some r):∃ S',k S'=some r/\eX X.P o S S':=by
 obtain⟨hkey,hbody0⟩:=hX.key f _ (mW hk)
 have hbody:=hbody0 nofun
 simp only[Jz] at h
 split at h
 ·rename_i km o0 hp
  split at h
  ·cases h
  rename_i hc0
  simp only[adx,agd,ads,adr] at hc0
  obtain⟨ho0,hbk⟩:=hc0
  have e0:=afm ho0
  subst e0
  split at h
  ·rename_i kk o2 hbx
   split at h
   ·cases h
   rename_i hc1
   simp only[adx,agd,ads,adr] at hc1
   obtain⟨⟨ho2,hlent⟩,how⟩:=hc1
   have e2:=afm ho2
   subst e2
   obtain⟨S',hk',hS⟩:=NM h
   split at hk'
   ·rename_i k1 o1 hb'
    split at hk'
    ·rename_i hc2
     simp only[adj] at hc2
     obtain⟨⟨h1,h2⟩,hkk⟩:=hc2
     have e3:=afm h1
     have e4:=afm h2
     subst e3;subst e4
     refine⟨S',hk',fun C G ρ w a Q hM=>hS C G ρ w a Q hM fun G1 ρ1 hM1 eb=> ?_⟩
     obtain⟨vs0,hvs,hrun⟩:=gH (S:=S) (w:=w) (G:=G1) (ρ:=ρ1) (a:=a) ho hcal (fun z _=>by
      have:=hM1.tmps.ev z;rw[vE] at this;exact this) hbody
     obtain⟨u,hu,hud⟩:=hvs.get hp
     have hu':u= .pointer (some ⟨ρ1.bx km,0,none⟩):=hud
     subst hu'
     obtain⟨hob,bvs,T,hbh,hbv⟩:=hM1.boxes km _ hbx
     obtain⟨v,ebv,hv⟩:=hbv.single
     subst ebv
     refine⟨vs0.set p v,f,_,hvs.set (show aZ G1 ρ1 (.v false [.ref k1 0]) v from hv) p,hrun,fun G2 x y q1 q2 q3 q4 q5 q6=> ?_⟩
     have hG2:G2 (ρ1.bx km)=none:=by
      by_cases e:G2 (ρ1.bx km)=G1 (ρ1.bx km)
      ·rw[e];exact (hM1.owned _ _ hob).1
      ·rcases q3 _ e with ⟨k',z1,z2⟩ | z1
       ·rw[hob] at z1;cases z1;rw[hlent] at z2;cases z2
       ·rw[hob] at z1;cases z1
     have how':dO ρ1 (eo S 0 sp.ps (args.set p (.v false [.ref k1 0]))) (ρ1.bx km)=none:=by
      unfold dO
      rw[hob]
      simpa using how
     have hlt:p<vs0.length:=(aen.1 hu).1
     have hc:=hkey G2 w _ (vs0.set p v) x y (ρ1.bx km) v T q1 q2 q4 q5 q6 (by rw[aes hlt]) how' hG2 hbh
     have eset:(vs0.set p v).set p (.pointer (some ⟨ρ1.bx km,0,none⟩))=vs0:=by
      rw[List.set_set]
      refine ad9 fun i=> ?_
      rw[aeq]
      split
      ·rename_i e
       subst e
       first | exact hu.symm | (rw[af9 hlt];exact hu.symm)
      ·rfl
     rw[eset] at hc
     refine hc.mono ?_
     rintro e w' ⟨w1,G',ow',us,T',z1,z2,z3,z4,z5,hg⟩
     refine⟨w1,G',ow',us,hg,fun G3 ρ3 a' hM3 hsame=> ?_⟩
     have eb3:ρ3.bx km=ρ1.bx km:=(hsame km hbk).trans (by rw[eb])
     have hv':v= .pointer (some ⟨ρ1.bx k1,0,none⟩):=hv
     have hM4:=hM3.TG (w':=w') (k:=km) (cs:=[.ref k1 0]) (vs:=[v]) (T:=T') ⟨_,hb'⟩ ⟨z1.symm,z2.symm,by omega,fun b _ hne=>(z4 b (fun e=>hne (by rw[eb3,e]))).symm⟩ (by rw[eb3];exact z5)
      ⟨v,[],rfl,by show v=_;rw[hv',hsame k1 hkk,eb],rfl⟩
     exact⟨G3,ρ3,hM4.aa3 hb'⟩
    ·cases hk'
   ·cases hk'
  ·cases h
 ·cases h
theorem acP {c:Call} {f:Nat} {args:List SV} {kf:Hf} {k:St->Option β} (hX:cA X) (ho:o.op= .call c) (hcal:dD S c=some (f,args)) (hk:look X.keys f=some kf) (h:Jz kf S args o.dst k=some r):∃ S',k S'=some r/\eX X.P o S S':=by
 by_cases hn:∃ p sp,kf= .nest p sp
 ·obtain⟨p,sp,e⟩:=hn
  subst e
  exact acp hX ho hcal hk h
 obtain⟨hkey,hbody0⟩:=hX.key f _ (mW hk)
 unfold Jz at h
 split at h
 ·rename_i lo nb tb te m
  have hbody:=hbody0 nofun
  split at h
  ·rename_i kb o0 j sz i off
   split at h
   ·cases h
   rename_i hc0
   simp only[adx,agd,ads,adr] at hc0
   obtain⟨ho0,hoff⟩:=hc0
   have e0:=afm ho0
   have e1:=afm hoff
   subst e0;subst e1
   split at h
   ·rename_i cs q hcs hq
    split at h
    ·cases h
    rename_i hc1
    simp only[adx,agd,ads,adr] at hc1
    obtain⟨⟨hfz,hsz⟩,hnb⟩:=hc1
    have hsz':=afm hsz
    have hnb':=afm hnb
    subst hsz'
    split at h
    ·rename_i t0 l0 hlo
     split at h
     ·rename_i l ql hl hql
      obtain⟨ql',hm,h2⟩:=bind_some h
      clear h
      obtain⟨et,el⟩:=gN hl
      obtain⟨eqt,eql⟩:=gN hql
      subst et;subst el
      obtain⟨qf,qe,qt,qll⟩:=q
      dsimp only at eqt eql hfz hql
      subst eqt;subst eql;subst hfz
      refine⟨_,h2,fun C G ρ w a Q hM=> ?_⟩
      obtain⟨vs,hvs,hrun⟩:=gH (S:=S) (w:=w) (G:=G) (ρ:=ρ) (a:=a) ho hcal (fun z _=>hM.tmps.ev z) hbody
      obtain⟨v1,us1,ev1,hv1,hr1⟩:=hvs
      subst ev1
      obtain⟨v2,ev2,hv2⟩:=hr1.single
      subst ev2
      have hp1:v1= .pointer (some ⟨ρ.bx kb,0,none⟩):=hv1
      obtain⟨b,len,cap,e1,e2⟩:∃ b len cap,ρ.rw j= .slice (some ⟨b,0,none⟩) len cap/\v2= .pointer (some ⟨b,i*qt.size+0,none⟩):=hv2
      rw[afj] at e2
      subst hp1;subst e2
      obtain⟨hob,bvs,T,hbh,hbv⟩:=hM.boxes kb cs hcs
      have hrow:=hM.rows j _ hq
      unfold cN at hrow
      rw[af8 (by simp)] at hrow
      obtain⟨xs,hor,hlr,hown⟩:=hrow
      have hlen:len=qll.length:=by
       rcases hor.2 with hn | ⟨g,cap',cur,hv,_⟩
       ·rw[e1] at hn;cases hn.1
       ·rw[e1] at hv;cases hv;rfl
      subst hlen
      have hgo:=hown b (by rw[e1];rfl)
      obtain⟨u,hu1,hu2⟩:=hbv.get hlo
      have hBR:ρ.bx kb≠b:=fun e=>by rw[e,hgo] at hob;cases hob
      have hbl:=hbv.len
      rw[e1] at hor
      have hcall:=hkey G w (ρ.bx kb) b i cap qe T bvs l0 qll ql' xs hM.agr (C.tab.mono hM.le0) hBR hbh (by omega) ⟨u,hu1,hu2⟩ (hM.owned _ _ hgo).2.1 hor hlr (hM.owned _ _ hob).1 (hM.owned _ _ hgo).1 hm
      unfold Oper.wp
      rw[hrun]
      refine hcall.mono ?_
      rintro e w' ⟨rfl,G',vs',xs',T',hle,hhnd,hagr',hG',hos,hout,hsize,hold,hB',hvl,hvk,⟨u',hu',hul'⟩,hor',hlr'⟩
      have hbs:=(hM.owned _ _ hob).2.1
      have hgs:=(hM.owned _ _ hgo).2.1
      obtain⟨oR,hoR⟩:∃ oR,w.heap[b]? =some oR:=⟨_,ac6 hgs⟩
      let w2:World:={ w' with heap:=w'.heap.setIfInBounds b oR }
      let w1:World:={ w2 with heap:=w2.heap.setIfInBounds (ρ.bx kb) (.cells bvs.toArray T (0,0)) }
      have s2:w2.heap.size=w'.heap.size:=by simp[w2]
      have s1:w1.heap.size=w'.heap.size:=by simp[w1,w2]
      have h2o:∀ b',b'≠b->w2.heap[b']? =w'.heap[b']? :=fun b' hb'=>by
       show (w'.heap.setIfInBounds b oR)[b']? =_
       rw[adb (Ne.symm hb')]
      have h2b:w2.heap[b]? =some oR:=by
       show (w'.heap.setIfInBounds b oR)[b]? =_
       rw[ade (by omega)]
      have h1o:∀ b',b'≠ρ.bx kb->w1.heap[b']? =w2.heap[b']? :=fun b' hb'=>by
       show (w2.heap.setIfInBounds _ _)[b']? =_
       rw[adb (Ne.symm hb')]
      have h1b:w1.heap[ρ.bx kb]? =some (.cells bvs.toArray T (0,0)):=by
       show (w2.heap.setIfInBounds _ _)[ρ.bx kb]? =_
       rw[ade (by omega)]
      have hsame:∀ b',b'<w.heap.size->w1.heap[b']? =w.heap[b']? :=fun b' hb'=>by
       by_cases c1:b'=ρ.bx kb
       ·subst c1;rw[h1b,hbh]
       ·rw[h1o b' c1]
        by_cases c2:b'=b
        ·subst c2;rw[h2b,hoR]
        ·rw[h2o b' c2];exact hold b' hb' c1 c2
      have hagr1:Agr G' w1:=fun b' o' hb'=>by
       by_cases c1:b'=ρ.bx kb
       ·subst c1;rw[hG' _ hbs,(hM.owned _ _ hob).1] at hb';cases hb'
       ·rw[h1o b' c1]
        by_cases c2:b'=b
        ·subst c2;rw[hG' _ hgs,(hM.owned _ _ hgo).1] at hb';cases hb'
        ·rw[h2o b' c2];exact hagr' b' o' hb'
      have hM1:=hM.after (w':=w1) hle hhnd hagr1 (by omega) hos hout hsame hG'
      have hM2:=hM1.TG (w':=w2) (k:=kb) (cs:=cs) (vs:=vs') (T:=T') ⟨cs,hcs⟩ ⟨rfl,rfl,by omega,fun b' _ hne=>(h1o b' (fun e=>hne (by rw[e]))).symm⟩ (by rw[h2o _ hBR];exact hB')
       (aG.Y8 (by omega) (fun k x y hx hy=>by
         by_cases c1:k=lo
         ·subst c1
          rw[hlo] at hx;cases hx
          rw[hu'] at hy;cases hy
          exact hul'
         ·rw[hvk k c1] at hy
          obtain⟨z,hz,hzd⟩:=hbv.get hx
          rw[hy] at hz;cases hz
          exact aQ.congr hle (.refl ρ x) hzd))
      have hM3:=hM2.setRow (w':=w') (j:=j) (q:=⟨false,qe,qt,qll⟩) (r:=⟨false,qe,qt,ql'⟩) hq rfl rfl (b:=b) (by rw[e1];rfl) ⟨rfl,rfl,by omega,fun b' _ hne=>(h2o b' (fun e=>hne (by rw[e]))).symm⟩ xs' (by rw[e1];exact hor') hlr'
      exact⟨G',ρ,hM3.put o.dst (fun _ _=>trivial)⟩
     ·cases h
    ·cases h
   ·cases h
  ·cases h
 ·rename_i p sp
  exact absurd ⟨p,sp,rfl⟩ hn
 ·cases h
theorem vh {k:St->Option β} (hX:cA X) (h:cF X o S k=some r):∃ S',k S'=some r/\eX X.P o S S':=by
 have dflt:dU X o S S (fun x=>k (S.app o.dst x))=some r->∃ S',k S'=some r/\eX X.P o S S':=fun h=>by
  obtain⟨x,hk,hl,hf⟩:=qM hX h
  exact⟨_,hk,.Xg hl hf⟩
 cases ho:o.op with
 | store t x y=>
  unfold cF at h
  rw[ho] at h
  simp only at h
  split at h
  ·cases h
  rename_i hd0
  have hd:o.dst=none:=by simpa using hd0
  split at h
  ·rename_i b off ag cs hx hy
   exact XF ho hd hx hy h
  ·rename_i j sz i off ag cs hx hy
   obtain⟨S',h1,h2⟩:=XG (S:=aF S (gJ cs)) ho hd (by rw[vE];exact hx) (by rw[vE];exact hy) h
   exact⟨S',h1,h2.freeze _⟩
  ·rename_i i off ag cs hx hy
   obtain⟨S',h1,h2⟩:=ZC (S:=aF S (gJ cs)) ho hd (by rw[vE];exact hx) (by rw[vE];exact hy) h
   exact⟨S',h1,h2.freeze _⟩
  ·cases h
 | mapUpdate t m kx x=>
  unfold cF at h
  rw[ho] at h
  simp only at h
  split at h
  ·cases h
  rename_i hd0
  have hd:o.dst=none:=by simpa using hd0
  split at h
  ·rename_i kt et j ht hm
   split at h
   ·rename_i kk vv l hl
    split at h
    ·rename_i key y hk hy
     split at h
     ·rename_i hc
      simp only[adj,adt] at hc
      exact⟨_,h,((Ve ho hd ht hm hl hk hy hc.1 hc.2).intern _).freeze _⟩
     ·cases h
    ·cases h
   ·cases h
  ·cases h
 | slice t x lo hi mx=>
  unfold cF at h
  rw[ho] at h
  simp only at h
  obtain⟨x,hk,hl,hf⟩:=qM hX h
  exact⟨_,hk,(eX.Xg hl hf).freeze _⟩
 | alloc t=>
  unfold cF at h
  rw[ho] at h
  simp only at h
  obtain⟨x,hk,hl,hf⟩:=qM hX h
  exact⟨_,hk,fun C G ρ w a Q hM=>eX.Xg hl hf C G ρ w a Q (hM.xO _)⟩
 | buildSlice t len parts=>
  unfold cF at h
  rw[ho] at h
  simp only at h
  obtain⟨x,hk,hl,hf⟩:=IB ho h
  exact⟨_,hk,((eX.Xg hl hf).intern _).freeze _⟩
 | call c=>
  obtain⟨callee,args,argTypes⟩:=c
  by_cases hb:callee= .builtin .append
  ·subst hb
   exact aaH ho h
  ·have key:cF X o S k=(match dD S ⟨callee,args,argTypes⟩ with
    | some (f,args)=>(match look X.keys f with
     | some kf=>if kf.aaV then Jz kf S args o.dst k else dU X o S S fun x=>k (S.app o.dst x)
     | none=>qE S args o.dst k (nP X.specs f))
    | none=>dU X o S S fun x=>k (S.app o.dst x)):=by
    unfold cF
    rw[ho]
    cases callee with
    | builtin b=>cases b<;>first | rfl | exact absurd rfl hb
    | value f=>rfl
    | invoke r m=>rfl
   rw[key] at h
   split at h
   ·rename_i f args' hcal
    split at h
    ·rename_i kf hkf
     split at h
     ·exact acP hX ho hcal hkf h
     ·exact dflt h
    ·exact NL hX ho hcal (fun _ h=>UL h) h
   ·exact dflt h
 | _=>
  unfold cF at h
  rw[ho] at h
  exact dflt h
end Go.Dn
namespace Go.Dn
variable {β:Type} {X:Cx} {S:St} {r:β} {C:Fr X.P} {G:Gh} {ρ:Env} {w:World}
theorem aa4 {a:Act} {d:Nat} {b:Bool} (hT:gj G ρ S a) (h:S.ev (.tmp d)= .v false [.bool b]):S.put (some d) (.v false [.bool b])=S/\a.tmps[d]? =some (.bool b):=by
 have hv:=hT.ev (.tmp d)
 rw[h] at hv
 have hv':a.eval (.tmp d)= .bool b:=hv
 simp only[St.ev] at h
 rw[aee] at h
 cases hs:S.tmps[d]? with
 | none=>rw[hs] at h;cases h
 | some s=>
  rw[hs] at h
  simp only[afK] at h
  subst h
  obtain⟨hlt,he⟩:=aen.1 hs
  constructor
  ·simp only[St.put]
   have:S.tmps.set d (.v false [.bool b])=S.tmps:=by rw[<- he];exact List.set_getElem_self hlt
   rw[this]
  ·simp only[Act.eval,ac5] at hv'
   have hlt':d<a.tmps.size:=by rw[hT.1];exact hlt
   rw[ac6 hlt'] at hv' ⊢
   simpa using hv'
theorem gS {ops:List Oper} {o:Oper} {a:Act} {g:Option (Nat×Bool×Bool)} (hT:gj G ρ S a) (h:guardOf ops o S=some g): match g with
 | none=>Region.wanted o (yielded ops.toArray a.tmps)=true
 | some (d,b,want)=>S.put (some d) (.v false [.bool b])=S/\Region.wanted o (yielded ops.toArray a.tmps)=(b==want):=by
 unfold guardOf at h
 cases hg:o.guard with
 | none=>
  rw[hg] at h
  cases h
  simp[Region.wanted,hg]
 | some p=>
  obtain⟨j,want⟩:=p
  rw[hg] at h
  simp only at h
  split at h
  ·rename_i o' ho'
   split at h
   ·rename_i d hd
    split at h
    ·rename_i b hb
     cases h
     obtain⟨h1,h2⟩:=aa4 hT hb
     refine⟨h1, ?_⟩
     have hy:yielded ops.toArray a.tmps j=some b:=by
      simp[yielded,ho',hd,h2]
     simp only[Region.wanted,hg,hy]
     cases b<;>cases want<;>rfl
    ·cases h
   ·cases h
  ·cases h
theorem Oa:aZ G ρ nA undef:=⟨[],rfl,rfl⟩
theorem F7 {ops:List Oper} {o:Oper} {a:Act} (hT:gj G ρ S a) (h:lD ops o S=true):Region.wanted o (yielded ops.toArray a.tmps)=false:=by
 unfold lD at h
 cases hg:o.guard with
 | none=>rw[hg] at h;cases h
 | some p=>
  obtain⟨j,want⟩:=p
  rw[hg] at h
  simp only at h
  split at h
  ·rename_i o' ho'
   split at h
   ·rename_i d hd
    split at h
    ·rename_i hb
     have hv:=hT.ev (.tmp d)
     rw[hb] at hv
     obtain⟨vs,hv,hn⟩:=hv
     have hn':vs=[]:=hn
     subst hn'
     have hy:yielded ops.toArray a.tmps j=none:=by
      have hv':a.tmps.getD d undef= .tuple #[]:=hv
      simp only[yielded]
      have:(ops.toArray[j]?).bind (fun x=>x.dst)=some d:=by simp[ho',hd]
      rw[this]
      simp only[afJ]
      cases hs:a.tmps[d]? with
      | none=>rfl
      | some v=>
       rw[ac5,hs] at hv'
       simp only[afK] at hv'
       subst hv'
       rfl
     simp[Region.wanted,hg,hy]
    ·cases h
   ·cases h
  ·cases h
theorem JE {d:Nat} {b want:Bool} {yes no:St->Option β} (hS:S.put (some d) (.v false [.bool b])=S) (h:fork S d b want yes no=some r):((b==want)=true/\yes S=some r)\/((b==want)=false/\no S=some r):=by
 unfold fork at h
 cases want<;>cases b<;>simp only[afX,afW] at h<;>rw[hS] at h
 ·exact .inl ⟨rfl,h⟩
 ·exact .inr ⟨rfl,h⟩
 ·exact .inr ⟨rfl,h⟩
 ·exact .inl ⟨rfl,h⟩
theorem rq (hX:cA X) (ops:List Oper):∀ (l:List Oper) {S:St} {k:St->Option β} {r:β},kZ X ops l S k=some r->∀ {Q:Exit->Act->World->Prop}, (∀ S' G ρ w a,k S'=some r->Mod C G ρ S' w a->Q .normal a w)->∀ {G ρ w a},Mod C G ρ S w a->wpList X.P ops.toArray Q l a w
 | [],S,k,r,h,Q,hQ,G,ρ,w,a,hM=>hQ S G ρ w a h hM
 | o::rest,S,k,r,h,Q,hQ,G,ρ,w,a,hM=>by
  have step:cF X o S (fun S=>kZ X ops rest S k)=some r->o.wp X.P a w (wpList X.P ops.toArray Q rest) Q:=fun h=>by
   obtain⟨S',h1,h2⟩:=vh hX h
   have:=h2 C G ρ w a Q hM
   exact Oper.wp_mono (fun a' w' ⟨G',ρ',hM'⟩=>rq hX ops rest h1 hQ hM') this
  have skip:kZ X ops rest (S.put o.dst nA) k=some r->wpList X.P ops.toArray Q rest (a.put o.dst undef) w:=fun h=>
   rq hX ops rest h hQ (hM.put o.dst (fun _ _=>Oa))
  simp only[kZ] at h
  split at h
  ·cases hs:lD ops o S with
   | false=>rw[hs] at h;cases h
   | true=>
    rw[hs] at h
    have hw:=F7 hM.tmps hs
    simp only[wpList,hw]
    rw[af8 (by simp)];exact skip h
  ·rename_i hg
   have hw:=gS hM.tmps hg
   simp only at hw
   simp only[wpList,hw,aga]
   exact .inl (step h)
  ·rename_i d b want hg
   obtain⟨hS,hw⟩:=gS hM.tmps hg
   simp only[wpList,hw]
   rcases JE hS h with ⟨hb,h⟩ | ⟨hb,h⟩
   ·rw[af9 hb];exact .inl (step h)
   ·rw[af8 (by simp[hb])];exact skip h
theorem wp_region_list {P:Program} {id:Nat} {ops:Array Oper} {Q:Exit->Act->World->Prop} {a:Act} {w:World} (h:wpList P ops Q ops.toList a w):(Code.region id ops false).wp P Q a w:=by
 apply wp_region
 have e:=wpOps_eq_wpList (P:=P) (ops:=ops) (Q:=Q) ops.toList 0 (fun j=>by simp)
 have e2:List.range ops.size=List.range' 0 ops.toList.length:=by rw[List.range_eq_range'];simp
 rw[e2,e]
 exact h
def bp (base:Nat):List CK->List Value->List (Nat×Value)
 | .val t::r,vs=>bp base r (vs.drop t.size)
 | .own _ _::r,v::q=>(base,v)::bp (base+1) r q
 | .map _ _::r,v::q=>(base,v)::bp (base+1) r q
 | .ref _ _::r,_::q=>bp base r q
 | .fn _ _::r,_::q=>bp base r q
 | .ar _::r,q=>bp base r q
 | .arF _::r,q=>bp base r q
 | .rowR _::r,_::q=>bp base r q
 | .rpR _ _::r,_::q=>bp base r q
 | .mapR _::r,_::q=>bp base r q
 | .rowC _ _ _::r,q=>bp base r q
 | .mapC _ _ _::r,q=>bp base r q
 | _,_=>[]
theorem fP:∀ {cks:List CK} {base:Nat} {vs:List Value} {i:Nat} {v:Value},look (bp base cks vs) i=some v->base<=i/\i<base+cks.length
 | [],base,vs,i,v,h=>by simp[bp,look] at h
 | .val t::r,base,vs,i,v,h=>by
  simp only[bp] at h
  have:=fP (cks:=r) h;simp;omega
 | .ar t::r,base,vs,i,v,h=>by
  have:look (bp base r vs) i=some v:=by cases vs<;>exact h
  have:=fP (cks:=r) this;simp;omega
 | .arF t::r,base,vs,i,v,h=>by
  have:look (bp base r vs) i=some v:=by cases vs<;>exact h
  have:=fP (cks:=r) this;simp;omega
 | .rowC _ _ _::r,base,vs,i,v,h=>by
  have:look (bp base r vs) i=some v:=by cases vs<;>exact h
  have:=fP (cks:=r) this;simp;omega
 | .mapC _ _ _::r,base,vs,i,v,h=>by
  have:look (bp base r vs) i=some v:=by cases vs<;>exact h
  have:=fP (cks:=r) this;simp;omega
 | .own _ _::r,base,[],i,v,h=>by simp[bp,look] at h
 | .map _ _::r,base,[],i,v,h=>by simp[bp,look] at h
 | .ref _ _::r,base,[],i,v,h=>by simp[bp,look] at h
 | .fn _ _::r,base,[],i,v,h=>by simp[bp,look] at h
 | .rowR _::r,base,[],i,v,h=>by simp[bp,look] at h
 | .rpR _ _::r,base,[],i,v,h=>by simp[bp,look] at h
 | .mapR _::r,base,[],i,v,h=>by simp[bp,look] at h
 | .own _ _::r,base,u::q,i,v,h=>by
  simp only[bp,aq] at h
  split at h
  ·simp;omega
  ·have:=fP h;simp;omega
 | .map _ _::r,base,u::q,i,v,h=>by
  simp only[bp,aq] at h
  split at h
  ·simp;omega
  ·have:=fP h;simp;omega
 | .ref _ _::r,base,u::q,i,v,h=>by have:=fP (cks:=r) (vs:=q) h;simp;omega
 | .fn _ _::r,base,u::q,i,v,h=>by have:=fP (cks:=r) (vs:=q) h;simp;omega
 | .rowR _::r,base,u::q,i,v,h=>by have:=fP (cks:=r) (vs:=q) h;simp;omega
 | .rpR _ _::r,base,u::q,i,v,h=>by have:=fP (cks:=r) (vs:=q) h;simp;omega
 | .mapR _::r,base,u::q,i,v,h=>by have:=fP (cks:=r) (vs:=q) h;simp;omega
theorem Pf:∀ (cks:List CK),lO cks<=cks.length
 | []=>afq _
 | c::r=>by
  have:=Pf r
  cases c<;>simp only[lO,aez]<;>omega
theorem fY:∀ {cks:List CK} {base:Nat} {vs:List Value} {i:Nat} {v:Value},look (bp base cks vs) i=some v->i<base+lO cks
 | [],base,vs,i,v,h=>by simp[bp,look] at h
 | .val t::r,base,vs,i,v,h=>by
  simp only[bp] at h
  have:=fY (cks:=r) h;simp only[lO];omega
 | .ar t::r,base,vs,i,v,h=>by
  have:look (bp base r vs) i=some v:=by cases vs<;>exact h
  have:=fY (cks:=r) this;simp only[lO];omega
 | .arF t::r,base,vs,i,v,h=>by
  have:look (bp base r vs) i=some v:=by cases vs<;>exact h
  have:=fY (cks:=r) this;simp only[lO];omega
 | .rowC _ _ _::r,base,vs,i,v,h=>by
  have:look (bp base r vs) i=some v:=by cases vs<;>exact h
  have:=fY (cks:=r) this;simp only[lO];omega
 | .mapC _ _ _::r,base,vs,i,v,h=>by
  have:look (bp base r vs) i=some v:=by cases vs<;>exact h
  have:=fY (cks:=r) this;simp only[lO];omega
 | .own _ _::r,base,[],i,v,h=>by simp[bp,look] at h
 | .map _ _::r,base,[],i,v,h=>by simp[bp,look] at h
 | .ref _ _::r,base,[],i,v,h=>by simp[bp,look] at h
 | .fn _ _::r,base,[],i,v,h=>by simp[bp,look] at h
 | .rowR _::r,base,[],i,v,h=>by simp[bp,look] at h
 | .rpR _ _::r,base,[],i,v,h=>by simp[bp,look] at h
 | .mapR _::r,base,[],i,v,h=>by simp[bp,look] at h
 | .own _ _::r,base,u::q,i,v,h=>by
  simp only[bp,aq] at h
  split at h
  ·simp only[lO];omega
  ·have:=fY h;simp only[lO];omega
 | .map _ _::r,base,u::q,i,v,h=>by
  simp only[bp,aq] at h
  split at h
  ·simp only[lO];omega
  ·have:=fY h;simp only[lO];omega
 | .ref _ _::r,base,u::q,i,v,h=>by have:=fY (cks:=r) (vs:=q) h;simp only[lO];omega
 | .fn _ _::r,base,u::q,i,v,h=>by have:=fY (cks:=r) (vs:=q) h;simp only[lO];omega
 | .rowR _::r,base,u::q,i,v,h=>by have:=fY (cks:=r) (vs:=q) h;simp only[lO];omega
 | .rpR _ _::r,base,u::q,i,v,h=>by have:=fY (cks:=r) (vs:=q) h;simp only[lO];omega
 | .mapR _::r,base,u::q,i,v,h=>by have:=fY (cks:=r) (vs:=q) h;simp only[lO];omega
theorem Xj {t:Ty} {l:List t.den} (h:Pn S t=some l):look S.objs br=some (.ar true t l):=by
 unfold Pn at h
 split at h
 ·rename_i ty l' hl
  unfold nw at h
  split at h
  ·rename_i e
   subst e
   cases h
   exact hl
  ·cases h
 ·cases h
theorem gU {ow:List (aT×Nat)} (hM:Mem C G ρ S w) (ρ':Env) (hbx:ρ'.bx=ρ.bx) (hor:∀ j n,bG ow (.inr j)=some n->∀ b,ρ.own b=some (.inr j)->ρ'.own b=some (.inr n)) (hoo:∀ j n,bG ow (.ob j)=some n->(∀ b,ρ.own b=some (.ob j)->ρ'.own b=some (.ob n))/\ρ'.st n=ρ.st j) {nn:Nat} (hfx:∀ j,(j<dP\/dP+nn<=j)->ρ'.rw j=ρ.rw j/\ρ'.ob j=ρ.ob j):∀ {cks:List CK} {cvs:List CV} {x:cW cks} {vs:List Value} {base:Nat}, cks.all (CK.qd nn)=true->bg S cks cvs=some x->aG (aQ G ρ) cvs vs->(∀ i v,look (bp base cks vs) i=some v->ρ'.rw i=v/\ρ'.ob i=v)->(∀ p,p∈carried base cks cvs->bG ow p.1=some p.2)-> aG (aQ G ρ') (kS base cks x) vs/\(∀ j q,look (fQ base cks x) j=some q->cN G ρ' w j q)/\(∀ j q,look (dn base cks x) j=some q->lZ G ρ' w j q)
 | [],[],x,vs,base,_,h,hv,_,_=>⟨hv,fun j q hj=>by simp[fQ,look] at hj,fun j q hj=>by simp[dn,look] at hj⟩
 | [],_::_,x,vs,base,_,h,hv,_,_=>by simp[bg] at h
 | .own e t::r,[],x,vs,base,_,h,hv,_,_=>by simp[bg] at h
 | .map e t::r,[],x,vs,base,_,h,hv,_,_=>by simp[bg] at h
 | .ref _ _::r,[],x,vs,base,_,h,hv,_,_=>by simp[bg] at h
 | .rowR _::r,[],x,vs,base,_,h,hv,_,_=>by simp[bg] at h
 | .rpR _ _::r,[],x,vs,base,_,h,hv,_,_=>by simp[bg] at h
 | .mapR _::r,[],x,vs,base,_,h,hv,_,_=>by simp[bg] at h
 | .fn _ _::r,[],x,vs,base,_,h,hv,_,_=>by simp[bg] at h
 | .val t::r,cvs,x,vs,base,hfo,h,hv,hval,hcar=>by
  have hfo':r.all (CK.qd nn)=true:=by simp only[adP,adj] at hfo;exact hfo.2
  simp only[bg] at h
  split at h
  ·rename_i y q hy
   split at h
   ·rename_i z hz
    cases h
    obtain⟨a,b,e,h1,h2⟩:=VR hM.frozen t cvs y q vs hy hv
    have hr:=wM t hy
    have hlen:=h1.len
    have hb:vs.drop t.size=b:=by rw[e, <- hlen,ad3]
    obtain⟨g1,g2,g3⟩:=gU hM ρ' hbx hor hoo hfx (base:=base) hfo' hz h2 (fun i v hi=>hval i v (by simp only[bp,hb];exact hi)) (fun p hp=>hcar p (by simp only[carried, <- hr];exact hp))
    refine⟨?_,g2,g3⟩
    rw[e]
    exact (fW ρ' h1).append g1
   ·cases h
  ·cases h
 | .ref k off::r,c::q,x,vs,base,hfo,h,⟨v,us,e,hc,hq⟩,hval,hcar=>by
  have hfo':r.all (CK.qd nn)=true:=by simp only[adP,adj] at hfo;exact hfo.2
  subst e
  simp only[bg] at h
  split at h
  ·rename_i k' off'
   replace h:(if (k.beq k'&&off.beq off')=true then bg S r q else none)=(some x:Option (cW r)):=h
   split at h
   ·rename_i hk
    simp only[adj] at hk
    have e1:=afm hk.1
    have e2:=afm hk.2
    subst e1;subst e2
    obtain⟨g1,g2,g3⟩:=gU (cks:=r) hM ρ' hbx hor hoo hfx (base:=base) hfo' h hq hval hcar
    exact⟨⟨v,us,rfl,by show v=_;rw[hbx];exact hc,g1⟩,g2,g3⟩
   ·cases h
  ·cases h
 | .fn g ks::r,c::q,x,vs,base,hfo,h,⟨v,us,e,hc,hq⟩,hval,hcar=>by
  have hfo':r.all (CK.qd nn)=true:=by simp only[adP,adj] at hfo;exact hfo.2
  subst e
  simp only[bg] at h
  split at h
  ·rename_i g' ks'
   replace h:(if (g.beq g'&&ks==ks')=true then bg S r q else none)=(some x:Option (cW r)):=h
   split at h
   ·rename_i hk
    simp only[adj] at hk
    have e1:=afm hk.1
    have e2:ks=ks':=by simpa using hk.2
    subst e1;subst e2
    obtain⟨g1,g2,g3⟩:=gU (cks:=r) hM ρ' hbx hor hoo hfx (base:=base) hfo' h hq hval hcar
    exact⟨⟨v,us,rfl,by show v=_;rw[hbx];exact hc,g1⟩,g2,g3⟩
   ·cases h
  ·cases h
 | .ar t::r,q,x,vs,base,hfo,h,hv,hval,hcar=>by
  have hfo':r.all (CK.qd nn)=true:=by simp only[adP,adj] at hfo;exact hfo.2
  simp only[bg] at h
  split at h
  ·rename_i l y hl hy
   cases h
   obtain⟨f,hlk,hf⟩:=qP hl
   have:=hf rfl
   subst this
   have ec:carried base (.ar t::r) q=(.ob br,br)::carried base r q:=by cases q<;>rfl
   have ev:bp base (.ar t::r) vs=bp base r vs:=by cases vs<;>rfl
   rw[ec] at hcar
   rw[ev] at hval
   obtain⟨g1,g2,g3⟩:=gU (cks:=r) hM ρ' hbx hor hoo hfx (base:=base) hfo' hy hv hval (fun p hp=>hcar p (by simp[hp]))
   refine⟨g1,g2,fun j q' hj=> ?_⟩
   simp only[dn,aq] at hj
   split at hj
   ·rename_i ej
    subst ej
    cases hj
    obtain⟨_,h1,h2,h3⟩:=hM.objs br _ hlk
    have hown:=(hoo br br (hcar (.ob br,br) (by simp))).1
    refine⟨rfl,h1,h2,fun i z hz=> ?_⟩
    obtain⟨b,ws,T,f1,f2,f3,f4,f5⟩:=h3 i z hz
    exact⟨b,ws,T,f1,nofun,fun _=>hown b (f3 rfl),f4,f5⟩
   ·exact g3 j q' hj
  ·cases h
 | .arF t::r,q,x,vs,base,hfo,h,hv,hval,hcar=>by
  have hfo':r.all (CK.qd nn)=true:=by simp only[adP,adj] at hfo;exact hfo.2
  simp only[bg] at h
  split at h
  ·rename_i l y hl hy
   cases h
   have hlk:=Xj hl
   have ec:carried base (.arF t::r) q=carried base r q:=by cases q<;>rfl
   have ev:bp base (.arF t::r) vs=bp base r vs:=by cases vs<;>rfl
   rw[ec] at hcar
   rw[ev] at hval
   obtain⟨g1,g2,g3⟩:=gU (cks:=r) hM ρ' hbx hor hoo hfx (base:=base) hfo' hy hv hval hcar
   refine⟨g1,g2,fun j q' hj=> ?_⟩
   simp only[dn,aq] at hj
   split at hj
   ·rename_i ej
    subst ej
    cases hj
    obtain⟨_,h1,h2,h3⟩:=hM.objs br _ hlk
    refine⟨rfl,h1,h2,fun i z hz=> ?_⟩
    obtain⟨b,ws,T,f1,f2,f3,f4,f5⟩:=h3 i z hz
    exact⟨b,ws,T,f1,f2,nofun,f4,f5⟩
   ·exact g3 j q' hj
  ·cases h
 | .own e' t::r,c::q,x,vs,base,hfo,h,⟨v,us,e,hc,hq⟩,hval,hcar=>by
  have hfo':r.all (CK.qd nn)=true:=by simp only[adP,adj] at hfo;exact hfo.2
  subst e
  have hv:ρ'.rw base=v:=(hval base v (by simp[bp,aq])).1
  have hval':∀ i u,look (bp (base+1) r us) i=some u->ρ'.rw i=u/\ρ'.ob i=u:=fun i u hi=>hval i u (by
   simp only[bp,aq]
   rw[af8 (by have:=fP hi;omega)]
   exact hi)
  simp only[bg] at h
  split at h
  ·rename_i l y hl hy
   cases h
   obtain⟨g1,g2,g3⟩:=gU hM ρ' hbx hor hoo hfx (base:=base+1) hfo' hy hq hval' (fun p hp=>hcar p (by simp[carried,hp]))
   obtain⟨h1,h2⟩:=pU (ow:=ow) (n:=base) hM (Gh.le_refl G) hl hc (fun p hp=>hcar p (by simp[carried,hp]))
   refine⟨⟨v,us,rfl,⟨hv.symm, ?_⟩,g1⟩,fun j q' hj=> ?_,g3⟩
   ·obtain⟨xs,ho,_⟩:=h1
    rcases ho.2 with ⟨e,_⟩ | ⟨g,cap,cur,e,_⟩
    ·exact⟨_,_,_,e⟩
    ·exact⟨_,_,_,e⟩
   ·simp only[fQ,aq] at hj
    split at hj
    ·rename_i ej
     subst ej
     cases hj
     unfold cN
     rw[af8 (by simp),hv]
     obtain⟨xs,ho,hr⟩:=h1
     refine⟨xs,ho,hr,fun b hb=> ?_⟩
     have hown:=h2 b hb
     unfold dO at hown
     cases h3:ρ.own b with
     | none=>rw[h3] at hown;cases hown
     | some o'=>
      rw[h3] at hown
      simp only[afJ] at hown
      have:∃ j,o'= .inr j:=by
       cases c<;>simp only[iH] at hl<;>try cases hl
       case row j0=>
        split at hl
        ·rename_i q0 hq0
         split at hl
         ·cases hl
         ·rename_i hcnd
          simp only[adx,agd,ads,adr] at hcnd
          have hrow:=hM.rows j0 q0 hq0
          unfold cN at hrow
          rw[af8 (by simp[hcnd.1])] at hrow
          obtain⟨_,_,_,hob⟩:=hrow
          have hc1:=hc.1
          rw[hc1] at hb
          have:=hob b hb
          rw[h3] at this
          exact⟨j0,by simpa using this⟩
        ·cases hl
       case nils=>
        have hvn:v= .slice none 0 0:=hc
        rw[hvn] at hb;cases hb
      obtain⟨j0,rfl⟩:=this
      exact hor j0 base hown b h3
    ·exact g2 j q' hj
  ·cases h
 | .map kk vv::r,c::q,x,vs,base,hfo,h,⟨v,us,e,hc,hq⟩,hval,hcar=>by
  have hfo':r.all (CK.qd nn)=true:=by simp only[adP,adj] at hfo;exact hfo.2
  subst e
  have hv:ρ'.ob base=v:=(hval base v (by simp[bp,aq])).2
  have hval':∀ i u,look (bp (base+1) r us) i=some u->ρ'.rw i=u/\ρ'.ob i=u:=fun i u hi=>hval i u (by
   simp only[bp,aq]
   rw[af8 (by have:=fP hi;omega)]
   exact hi)
  simp only[bg] at h
  split at h
  ·rename_i l y hl hy
   cases h
   obtain⟨g1,g2,g3⟩:=gU hM ρ' hbx hor hoo hfx (base:=base+1) hfo' hy hq hval' (fun p hp=>hcar p (by simp[carried,hp]))
   cases c<;>simp only[nc] at hl<;>try cases hl
   case mp j0=>
    split at hl
    ·rename_i k' v' l' hlk
     obtain⟨e1,e2,e3⟩:=E7 hl
     subst e1;subst e2;subst e3
     obtain⟨b,es,clock,f1,f2,f3,f4,f5,f6⟩:=hM.objs j0 _ hlk
     have hlo:=hcar (.ob j0,base) (by simp[carried,mF])
     obtain⟨ho1,ho2⟩:=hoo j0 base hlo
     have hvb:v= .map (some b):=hc.1.trans f1
     refine⟨⟨v,us,rfl,⟨hv.symm,b,hvb⟩,g1⟩,g2,fun j q' hj=> ?_⟩
     simp only[dn,aq] at hj
     split at hj
     ·rename_i ej
      subst ej
      cases hj
      exact⟨b,es,clock,hv.trans hvb,ho1 b f2,f3,f4,by rw[ho2];exact f5,f6⟩
     ·exact g3 j q' hj
    ·cases hl
  ·cases h
 | .rowR j::r,c::q,x,vs,base,hfo,h,⟨v,us,e,hc,hq⟩,hval,hcar=>by
  simp only[adP,adj] at hfo
  subst e
  simp only[bg] at h
  split at h
  ·rename_i j'
   replace h:(if j.beq j'=true then bg S r q else none)=(some x:Option (cW r)):=h
   split at h
   ·rename_i hk
    have e1:=afm hk
    subst e1
    obtain⟨g1,g2,g3⟩:=gU (cks:=r) hM ρ' hbx hor hoo hfx (base:=base) hfo.2 h hq hval hcar
    have hj:=(hfx j (by have:=hfo.1;simp only[CK.qd,adx] at this;exact this.imp (fun h=>by simpa using h) afo)).1
    exact⟨⟨v,us,rfl,⟨by rw[hj];exact hc.1,hc.2⟩,g1⟩,g2,g3⟩
   ·cases h
  ·cases h
 | .rpR j sz::r,c::q,x,vs,base,hfo,h,⟨v,us,e,hc,hq⟩,hval,hcar=>by
  simp only[adP,adj] at hfo
  subst e
  simp only[bg] at h
  split at h
  ·rename_i j' sz' i off
   replace h:(if (j.beq j'&&(sz.beq sz'&&off.beq 0))=true then (match bg S r q with | some y=>some (i,y) | none=>none) else none)=(some x:Option (Nat×cW r)):=h
   split at h
   ·rename_i hk
    simp only[adj] at hk
    have e1:=afm hk.1
    have e2:=afm hk.2.1
    have e3:=afm hk.2.2
    subst e1;subst e2;subst e3
    split at h
    ·rename_i y hy
     cases h
     obtain⟨g1,g2,g3⟩:=gU (cks:=r) hM ρ' hbx hor hoo hfx (base:=base) hfo.2 hy hq hval hcar
     have hj:=(hfx j (by have:=hfo.1;simp only[CK.qd,adx] at this;exact this.imp (fun h=>by simpa using h) afo)).1
     obtain⟨b,len,cap,c1,c2⟩:=hc
     exact⟨⟨v,us,rfl,⟨b,len,cap,by rw[hj];exact c1,c2⟩,g1⟩,g2,g3⟩
    ·cases h
   ·cases h
  ·cases h
 | .mapR j::r,c::q,x,vs,base,hfo,h,⟨v,us,e,hc,hq⟩,hval,hcar=>by
  simp only[adP,adj] at hfo
  subst e
  simp only[bg] at h
  split at h
  ·rename_i j'
   replace h:(if j.beq j'=true then bg S r q else none)=(some x:Option (cW r)):=h
   split at h
   ·rename_i hk
    have e1:=afm hk
    subst e1
    obtain⟨g1,g2,g3⟩:=gU (cks:=r) hM ρ' hbx hor hoo hfx (base:=base) hfo.2 h hq hval hcar
    have hj:=(hfx j (by have:=hfo.1;simp only[CK.qd,adx] at this;exact this.imp (fun h=>by simpa using h) afo)).2
    exact⟨⟨v,us,rfl,⟨by rw[hj];exact hc.1,hc.2⟩,g1⟩,g2,g3⟩
   ·cases h
  ·cases h
 | .rowC j e' t::r,q,x,vs,base,hfo,h,hv,hval,hcar=>by
  simp only[adP,adj] at hfo
  have hj:=(hfx j (by have:=hfo.1;simp only[CK.qd,adx] at this;exact this.imp (fun h=>by simpa using h) afo)).1
  simp only[bg] at h
  split at h
  ·rename_i l y hl hy
   cases h
   have ec:carried base (.rowC j e' t::r) q=(.inr j,j)::carried base r q:=by cases q<;>rfl
   have ev:bp base (.rowC j e' t::r) vs=bp base r vs:=by cases vs<;>rfl
   rw[ec] at hcar
   rw[ev] at hval
   obtain⟨g1,g2,g3⟩:=gU (cks:=r) hM ρ' hbx hor hoo hfx (base:=base) hfo.2 hy hv hval (fun p hp=>hcar p (by simp[hp]))
   refine⟨g1,fun i q' hi=> ?_,g3⟩
   simp only[fQ,aq] at hi
   split at hi
   ·rename_i ej
    subst ej
    cases hi
    have hlo:=hcar (.inr j,j) (by simp)
    simp only[iH] at hl
    split at hl
    ·rename_i q0 hq0
     split at hl
     ·cases hl
     ·rename_i hc
      simp only[adx,agd,ads,adr] at hc
      obtain⟨et,el⟩:=gN hl
      have hrow:=hM.rows j q0 hq0
      obtain⟨qf,qe,qt,ql⟩:=q0
      dsimp only at et el hc
      subst et;subst el
      have hee:qe=e':=afm hc.2
      subst hee
      unfold cN at hrow ⊢
      rw[af8 (by simp[hc.1])] at hrow
      rw[af8 (by simp),hj]
      obtain⟨xs,h1,h2,h3⟩:=hrow
      exact⟨xs,h1,h2,fun b hb=>hor j j hlo b (h3 b hb)⟩
    ·cases hl
   ·exact g2 i q' hi
  ·cases h
 | .mapC j kk vv::r,q,x,vs,base,hfo,h,hv,hval,hcar=>by
  simp only[adP,adj] at hfo
  have hj:=(hfx j (by have:=hfo.1;simp only[CK.qd,adx] at this;exact this.imp (fun h=>by simpa using h) afo)).2
  simp only[bg] at h
  split at h
  ·rename_i l y hl hy
   cases h
   have ec:carried base (.mapC j kk vv::r) q=(.ob j,j)::carried base r q:=by cases q<;>rfl
   have ev:bp base (.mapC j kk vv::r) vs=bp base r vs:=by cases vs<;>rfl
   rw[ec] at hcar
   rw[ev] at hval
   obtain⟨g1,g2,g3⟩:=gU (cks:=r) hM ρ' hbx hor hoo hfx (base:=base) hfo.2 hy hv hval (fun p hp=>hcar p (by simp[hp]))
   refine⟨g1,g2,fun i q' hi=> ?_⟩
   simp only[dn,aq] at hi
   split at hi
   ·rename_i ej
    subst ej
    cases hi
    obtain⟨ho1,ho2⟩:=hoo j j (hcar (.ob j,j) (by simp))
    simp only[nc] at hl
    split at hl
    ·rename_i k' v' l' hlk
     obtain⟨e1,e2,e3⟩:=E7 hl
     subst e1;subst e2;subst e3
     obtain⟨b,es,clock,f1,f2,f3,f4,f5,f6⟩:=hM.objs j _ hlk
     exact⟨b,es,clock,by rw[hj];exact f1,ho1 b f2,f3,f4,by rw[ho2];exact f5,f6⟩
    ·cases hl
   ·exact g3 i q' hi
  ·cases h
def rJ (a:Act) (p:Nat×CK):List Value:=match p.2.agg with
 | false=>[a.tmps.getD p.1 undef]
 | true=>match a.tmps.getD p.1 undef with
  | .agg vs=>vs.toList
  | _=>[]
def Oi (a:Act) (l:List (Nat×CK)):Prop:=∀ p,p∈l->(rJ a p).length=p.2.size/\(p.2.agg=true->a.tmps.getD p.1 undef= .agg (rJ a p).toArray)
theorem QA {a:Act} (hT:gj G ρ S a):∀ {l:List (Nat×CK)} {cs:List CV},Jk S l=some cs->aG (aQ G ρ) cs (l.flatMap (rJ a))/\Oi a l
 | [],cs,h=>by simp only[Jk] at h;cases h;exact⟨rfl,fun p hp=>by cases hp⟩
 | p::r,cs,h=>by
  simp only[Jk] at h
  split at h
  ·rename_i ag c hc
   split at h
   ·rename_i l hl
    split at h
    ·rename_i hsz
     cases h
     simp only[adj,beq_iff_eq,adx] at hsz
     obtain⟨e1,e2,e3⟩:=hsz
     have hlen:=afm e2
     have:=hT.ev (.tmp p.1)
     simp only[St.ev] at this
     rw[hc] at this
     obtain⟨h1,h2⟩:=QA hT hl
     have key:aG (aQ G ρ) c (rJ a p)/\(p.2.agg=true->a.tmps.getD p.1 undef= .agg (rJ a p).toArray):=by
      unfold rJ
      rw[<- e1]
      cases ag with
      | true=>
       obtain⟨vs,ev,hv⟩:=this
       have ev':a.tmps.getD p.1 undef= .agg vs.toArray:=ev
       rw[ev']
       simpa using hv
      | false=>
       have e3':c.length=1:=by
        rcases e3 with e3 | e3
        ·cases e3
        ·rw[hlen];exact afm e3
       match c,e3' with
       | [c],_=>exact⟨⟨_,_,rfl,this,rfl⟩,nofun⟩
     refine⟨by simpa using key.1.append h1,fun q hq=> ?_⟩
     rcases aeO.1 hq with rfl | hq
     ·exact⟨by rw[key.1.len];exact hlen,key.2⟩
     ·exact h2 q hq
    ·cases h
   ·cases h
  ·cases h
theorem PW (hM:Mem C G ρ S w):∀ {l:List (Nat×List CK)} {cs:List CV},Hz S l=some cs->∃ vss:List (List Value),aG (aQ G ρ) cs vss.flatten/\ aG (fun (p:Nat×List CK) vs=>vs.length=mm p.2/\ρ.own (ρ.bx p.1)=some (.inl p.1)/\∃ T,w.heap[ρ.bx p.1]? =some (.cells (List.toArray vs) T (0,0))) l vss
 | [],cs,h=>by simp only[Hz] at h;cases h;exact⟨[],rfl,rfl⟩
 | p::r,cs,h=>by
  simp only[Hz] at h
  split at h
  ·rename_i c hc
   split at h
   ·rename_i hlen
    split at h
    ·rename_i l hl
     cases h
     obtain⟨vss,h1,h2⟩:=PW hM hl
     obtain⟨ho,vs,T,hw,hv⟩:=hM.boxes p.1 c hc
     refine⟨vs::vss,by simpa using hv.append h1,vs,vss,rfl,⟨?_,ho,T,hw⟩,h2⟩
     rw[hv.len];exact afm hlen
    ·cases h
   ·cases h
  ·cases h
theorem Qr {a:Act}:∀ {l:List (Nat×CK)} {cs:List CV} {t:List SV},Oi a l->aG (aQ G ρ) cs (l.flatMap (rJ a))->gj G ρ ⟨t,[],[],[]⟩ a->gj G ρ ⟨zH l cs t,[],[],[]⟩ a
 | [],cs,t,_,h,ht=>ht
 | p::r,cs,t,hk,h,ht=>by
  obtain⟨h1,h2⟩:=hk p List.mem_cons_self
  simp only[aec] at h
  have g1:=h.take p.2.size
  have g2:=h.drop p.2.size
  rw[<- h1,afb] at g1
  rw[<- h1,ad3] at g2
  rw[h1] at g1 g2
  simp only[zH]
  refine Qr (fun q hq=>hk q (aeP _ hq)) g2 ⟨by simpa using ht.1,fun i s hi=> ?_⟩
  simp only[aeq] at hi
  split at hi
  ·rename_i e
   split at hi
   ·cases hi;subst e
    show ku G ρ p.2.agg (cs.take p.2.size) (a.tmps.getD p.1 undef)
    cases hag:p.2.agg with
    | true=>rw[h2 hag];exact⟨_,rfl,g1⟩
    | false=>
     have e:rJ a p=[a.tmps.getD p.1 undef]:=by unfold rJ;rw[hag]
     rw[e] at g1
     obtain⟨x,y,e2,g3,g4⟩:∃ x y,cs.take p.2.size=x::y/\aQ G ρ x (a.tmps.getD p.1 undef)/\y=[]:=by
      cases hc:cs.take p.2.size with
      | nil=>rw[hc] at g1;cases g1
      | cons x y=>
       rw[hc] at g1
       obtain⟨v,s,e5,e6,e7⟩:=g1
       cases e5
       cases y with
       | nil=>exact⟨x,[],rfl,e6,rfl⟩
       | cons z y=>obtain⟨_,_,e8,_⟩:=e7;cases e8
     rw[e2,g4];exact g3
   ·cases hi
  ·exact ht.2 i s hi
theorem PV {R:CV->Value->Prop} {H:Nat->List Value->Prop}:∀ {l:List (Nat×List CK)} {cs:List CV} {vss:List (List Value)},aG R cs vss.flatten->aG (fun (p:Nat×List CK) vs=>vs.length=mm p.2/\H p.1 vs) l vss-> ∀ k cells,look (Hy l cs) k=some cells->∃ vs,H k vs/\aG R cells vs
 | [],cs,vss,_,_,k,cells,hk=>by simp[Hy,look] at hk
 | p::r,cs,vss,h,⟨vs,us,e,⟨hl,hH⟩,hr⟩,k,cells,hk=>by
  subst e
  simp only[Hy,aq] at hk
  have h1:=h.take (mm p.2)
  have h2:=h.drop (mm p.2)
  simp only[List.flatten_cons] at h1 h2
  rw[<- hl,afb] at h1
  rw[<- hl,ad3] at h2
  split at hk
  ·rename_i ek
   cases hk
   subst ek
   exact⟨vs,hH,by rw[<- hl];exact h1⟩
  ·exact PV (by rw[<- hl];exact h2) hr k cells hk
theorem aG.aav {α γ:Type} {R:α->γ->Prop} {l:List α} {a b:List γ} (h:aG R l (a++b)):aG R (l.take a.length) a/\aG R (l.drop a.length) b:=by
 have h1:=h.take a.length
 have h2:=h.drop a.length
 rw[afb] at h1
 rw[ad3] at h2
 exact⟨h1,h2⟩
theorem Dy:∀ (l:List (Nat×CK)) (cs:List CV) (t:List SV),zH l cs t=zH l (cs.take (mm (l.map (·.2)))) t
 | [],cs,t=>rfl
 | p::r,cs,t=>by
  simp only[zH,aeK,mm]
  rw[Dy r,Dy r ((cs.take _).drop _)]
  congr 1
  ·rw[ad5,aff]
   congr 1
   omega
  ·rw[aff]
   congr 3
   omega
theorem Oi.len {a:Act}:∀ {l:List (Nat×CK)},Oi a l->(l.flatMap (rJ a)).length=mm (l.map (·.2))
 | [],_=>rfl
 | p::r,h=>by
  have ih:=Oi.len (l:=r) fun q hq=>h q (aeP _ hq)
  simp only[aec,aey,aeK,mm,ih,(h p List.mem_cons_self).1]
theorem fX:∀ {cks:List CK} {cvs:List CV} {x:cW cks} {base:Nat} {t:Ty} {l:List t.den},bg S cks cvs=some x->look (dn base cks x) br=some (.ar false t l)->∃ t l,look S.objs br=some (.ar false t l)
 | [],cvs,x,base,t,l,h,hl=>by simp[dn,look] at hl
 | .val _::r,cvs,x,base,t,l,h,hl=>by
  simp only[bg] at h
  split at h
  ·split at h
   ·rename_i z hz
    cases h
    exact fX (cks:=r) hz hl
   ·cases h
  ·cases h
 | .own _ _::r,[],x,base,t,l,h,hl=>by simp[bg] at h
 | .own _ _::r,c::q,x,base,t,l,h,hl=>by
  simp only[bg] at h
  split at h
  ·rename_i y z hz
   cases h
   exact fX (cks:=r) hz hl
  ·cases h
 | .map _ _::r,[],x,base,t,l,h,hl=>by simp[bg] at h
 | .map _ _::r,c::q,x,base,t,l,h,hl=>by
  simp only[bg] at h
  split at h
  ·rename_i y z hz
   cases h
   simp only[dn,aq] at hl
   split at hl
   ·cases hl
   ·exact fX (cks:=r) hz hl
  ·cases h
 | .ref k off::r,[],x,base,t,l,h,hl=>by simp[bg] at h
 | .ref k off::r,c::q,x,base,t,l,h,hl=>by
  simp only[bg] at h
  split at h
  ·rename_i k' off'
   replace h:(if (k.beq k'&&off.beq off')=true then bg S r q else none)=(some x:Option (cW r)):=h
   split at h
   ·exact fX (cks:=r) h hl
   ·cases h
  ·cases h
 | .fn g ks::r,[],x,base,t,l,h,hl=>by simp[bg] at h
 | .fn g ks::r,c::q,x,base,t,l,h,hl=>by
  simp only[bg] at h
  split at h
  ·rename_i g' ks'
   replace h:(if (g.beq g'&&ks==ks')=true then bg S r q else none)=(some x:Option (cW r)):=h
   split at h
   ·exact fX (cks:=r) h hl
   ·cases h
  ·cases h
 | .rowR j::r,[],x,base,t,l,h,hl=>by simp[bg] at h
 | .rowR j::r,c::q,x,base,t,l,h,hl=>by
  simp only[bg] at h
  split at h
  ·rename_i j'
   replace h:(if j.beq j'=true then bg S r q else none)=(some x:Option (cW r)):=h
   split at h
   ·exact fX (cks:=r) h hl
   ·cases h
  ·cases h
 | .rpR j sz::r,[],x,base,t,l,h,hl=>by simp[bg] at h
 | .rpR j sz::r,c::q,x,base,t,l,h,hl=>by
  simp only[bg] at h
  split at h
  ·rename_i j' sz' i off
   replace h:(if (j.beq j'&&(sz.beq sz'&&off.beq 0))=true then (match bg S r q with | some y=>some (i,y) | none=>none) else none)=(some x:Option (Nat×cW r)):=h
   split at h
   ·split at h
    ·rename_i y hy
     cases h
     exact fX (cks:=r) hy hl
    ·cases h
   ·cases h
  ·cases h
 | .mapR j::r,[],x,base,t,l,h,hl=>by simp[bg] at h
 | .mapR j::r,c::q,x,base,t,l,h,hl=>by
  simp only[bg] at h
  split at h
  ·rename_i j'
   replace h:(if j.beq j'=true then bg S r q else none)=(some x:Option (cW r)):=h
   split at h
   ·exact fX (cks:=r) h hl
   ·cases h
  ·cases h
 | .rowC j e t'::r,q,x,base,t,l,h,hl=>by
  simp only[bg] at h
  split at h
  ·rename_i y z hz
   cases h
   exact fX (cks:=r) hz hl
  ·cases h
 | .mapC j k v::r,q,x,base,t,l,h,hl=>by
  simp only[bg] at h
  split at h
  ·rename_i y z hz
   cases h
   simp only[dn,aq] at hl
   split at hl
   ·cases hl
   ·exact fX (cks:=r) hz hl
  ·cases h
 | .arF t'::r,q,x,base,t,l,h,hl=>by
  simp only[bg] at h
  split at h
  ·rename_i y z hz
   cases h
   simp only[dn,aq] at hl
   split at hl
   ·cases hl
   ·exact fX (cks:=r) hz hl
  ·cases h
 | .ar t'::r,q,x,base,t,l,h,hl=>by
  simp only[bg] at h
  split at h
  ·rename_i y z hy hz
   obtain⟨f,hl,hf⟩:=qP hy
   have:=hf rfl
   subst this
   exact⟨_,_,hl⟩
  ·cases h
theorem aad {a:Act} {A:Ann} {x:cW A.cks} (hM:Mod C G ρ S w a) (h:Sa A S=some x):∃ ρ',Mod C G ρ' (head A S.tmps.length x) w a:=by
 unfold Sa at h
 split at h
 ·rename_i cvs hpl
  split at h
  ·cases h
  ·rename_i hdup
   simp only[adx,agd,ads,adr] at hdup
   obtain⟨⟨⟨hfix,hlen1⟩,hdup'⟩,hcod⟩:=hdup
   have hlen2:A.cks.length<1000:=by simpa using hlen1
   generalize hcar:carried dP A.cks cvs=ow at*
   unfold St.places at hpl
   split at hpl
   ·rename_i ct cb hct hcb
    cases hpl
    obtain⟨hvT,hszT⟩:=QA hM.tmps hct
    obtain⟨vss,hvB,hbs⟩:=PW hM.toMem hcb
    have hvs:=hvT.append hvB
    generalize hvals:bp dP A.cks (A.tmps.flatMap (rJ a)++vss.flatten)=hv
    let ρ':Env:=⟨ρ.bx,fun i=>(look hv i).getD (ρ.rw i),
     fun b=>match ρ.own b with | some (.inl k)=>some (.inl k) | some (.inr j)=>(bG ow (.inr j)).map .inr | some (.ob j)=>(bG ow (.ob j)).map .ob | none=>none,
     fun i=>(look hv i).getD (ρ.ob i),
     fun i=>match lS ow i with | some (.ob j)=>ρ.st j | _=>ρ.st i⟩
    have hfxv:∀ j,(j<dP\/dP+lO A.cks<=j)->ρ'.rw j=ρ.rw j/\ρ'.ob j=ρ.ob j:=fun j hj=>by
     have:look hv j=none:=by
      cases hl:look hv j with
      | none=>rfl
      | some v=>
       rw[<- hvals] at hl
       have:=fP hl
       have:=fY hl
       omega
     exact⟨by show (look hv j).getD _=_;rw[this];rfl,by show (look hv j).getD _=_;rw[this];rfl⟩
    obtain⟨h1,h2,h2'⟩:=gU (ow:=ow) hM.toMem ρ' rfl (fun j n hl b hb=>by
     show ((match ρ.own b with | some (.inl k)=>some (aT.inl k) | some (.inr j)=>(bG ow (.inr j)).map aT.inr | some (.ob j)=>(bG ow (.ob j)).map aT.ob | none=>none):Option aT)=_
     rw[hb];simp[hl])
     (fun j n hl=>⟨fun b hb=>by
       show ((match ρ.own b with | some (.inl k)=>some (aT.inl k) | some (.inr j)=>(bG ow (.inr j)).map aT.inr | some (.ob j)=>(bG ow (.ob j)).map aT.ob | none=>none):Option aT)=_
       rw[hb];simp[hl],by
       show (match lS ow n with | some (.ob j)=>ρ.st j | _=>ρ.st n)=_
       rw[xR hcod (YQ hl)]⟩) hfxv (base:=dP) hfix h hvs (fun i v hi=>by
       rw[hvals] at hi
       exact⟨by show (look hv i).getD _=_;rw[hi];rfl,by show (look hv i).getD _=_;rw[hi];rfl⟩) (fun p hp=>by
       rw[hcar] at hp
       exact wD hdup' hp)
    obtain⟨h3,h4⟩:=h1.aav
    rw[Oi.len hszT] at h3 h4
    refine⟨ρ',{ agr:=hM.agr,le0:=hM.le0,old:=hM.old,frame:=hM.frame,size:=hM.size,os:=hM.os,output:=hM.output,pin:=hM.pin,pinR:=fun k hk=>⟨(hfxv k (by have:=Pf A.cks;simp only[dP];omega)).1.trans (hM.pinR k hk).1,(hfxv k (by have:=Pf A.cks;simp only[dP];omega)).2.trans (hM.pinR k hk).2⟩,owned:= ?_,boxes:= ?_,rows:=h2,objs:=h2',hndI:=fun hn=>⟨(hM.hndI hn).1,fun t l hl=>by obtain⟨t',l',h'⟩:=fX h hl;exact (hM.hndI hn).2 t' l' h'⟩,tmps:= ?_,defers:=hM.defers }⟩
    ·intro b o ho
     have ho':(match ρ.own b with | some (.inl k)=>some (.inl k) | some (.inr j)=>(bG ow (.inr j)).map .inr | some (.ob j)=>(bG ow (.ob j)).map .ob | none=>none)=some o:=ho
     cases h5:ρ.own b with
     | none=>rw[h5] at ho';cases ho'
     | some o'=>exact hM.owned b o' h5
    ·intro k cs hk
     obtain⟨vs,⟨h5,T,h6⟩,h7⟩:=PV (R:=aQ G ρ') (H:=fun k vs=>ρ.own (ρ.bx k)=some (.inl k)/\∃ T,w.heap[ρ.bx k]? =some (.cells (List.toArray vs) T (0,0))) h4 hbs k cs hk
     exact⟨by simp only[ρ',h5],vs,T,h6,h7⟩
    ·have:gj G ρ' ⟨zH A.tmps ((kS dP A.cks x).take (mm (A.tmps.map (·.2)))) (List.replicate S.tmps.length (.v false [.any])),[],[],[]⟩ a:=
      Qr hszT h3 ⟨by simpa using hM.tmps.1,fun i s hi=>by
       simp only[List.getElem?_replicate] at hi
       split at hi
       ·cases hi;exact trivial
       ·cases hi⟩
     rw[<- Dy] at this
     exact this
   ·cases hpl
 ·cases h
theorem OW {a:Act} {A:Ann} {x:cW A.cks} (hM:Mod C G ρ S w a) (h:carry A S=some x):∃ G' ρ',Mod C G' ρ' (head A S.tmps.length x) w a:=by
 unfold carry at h
 split at h
 ·rename_i cvs _
  obtain⟨G1,ρ1,_,hM1⟩:=hM.freeze (Iq A.cks cvs)
  obtain⟨ρ2,h2⟩:=aad hM1 h
  exact⟨G1,ρ2,h2⟩
 ·cases h
end Go.Dn
namespace Go.Dn
variable {β:Type} {X:Cx} {C:Fr X.P} {G:Gh} {ρ:Env} {w:World}
def RB:Option Del->SV
 | some x=>x.sv
 | none=>nA
def wJ:Option Del->Option (List CV)
 | some x=>x.box
 | none=>none
def vH:Option Del->Option lJ
 | some x=>x.row
 | none=>none
def zE:Option Del->Option oz
 | some x=>x.obj
 | none=>none
def St.out (S:St) (o:Oper):Option Del->St
 | some x=>S.app o.dst x
 | none=>S.put o.dst nA
def states:List Oper->St->List (Option Del)->St
 | o::l,S,x::xs=>states l (S.out o x) xs
 | _,S,_=>S
theorem Yn {S:St} {d:Nat} {b:Bool} (h:S.ev (.tmp d)= .v false [.bool b]):S.put (some d) (.v false [.bool b])=S:=by
 simp only[St.ev] at h
 rw[aee] at h
 cases hs:S.tmps[d]? with
 | none=>rw[hs] at h;cases h
 | some s=>
  rw[hs] at h
  simp only[afK] at h
  subst h
  obtain⟨hlt,he⟩:=aen.1 hs
  simp only[St.put]
  have:S.tmps.set d (.v false [.bool b])=S.tmps:=by rw[<- he];exact List.set_getElem_self hlt
  rw[this]
theorem SL {ops:List Oper} {o:Oper} {S:St} {d:Nat} {b want:Bool} (h:guardOf ops o S=some (some (d,b,want))):S.ev (.tmp d)= .v false [.bool b]:=by
 unfold guardOf at h
 split at h
 ·cases h
 ·split at h
  ·split at h
   ·split at h
    ·rename_i hb;cases h;exact hb
    ·cases h
   ·cases h
  ·cases h
structure XT (P:Program) (o:Oper) (S:St) (x:Del):Prop where
 blind:vB o.op=true->de P o S qN x/\x.box=none/\x.row=none/\x.obj=none
 make:qK o.op=true->de P o S qN x/\x.box=none/\x.obj=none
def Cq (X:Cx) (ops:List Oper) (M:St) (o:Oper) (S:St):Option Del->Prop
 | some x=>(de X.P o S M x/\XT X.P o S x)/\(guardOf ops o S=some none\/∃ d b want,guardOf ops o S=some (some (d,b,want))/\(b==want)=true)
 | none=>(∃ d b want,guardOf ops o S=some (some (d,b,want))/\(b==want)=false)\/lD ops o S=true
theorem de.VH {P:Program} {o:Oper} {S M:St} {x:Del} (h:de P o S qN x):de P o S M x:=
 fun C G ρ S1 w a Q hM hN h1 h2 h3=>h C G ρ S1 w a Q hM ⟨hN.ops,fun k cs hk=>(by cases hk),fun k cs hk=>(by cases hk),fun k cs hk=>(by cases hk)⟩ h1 h2 h3
theorem pR (hX:cA X) {o:Oper} {S M:St} {k:Del->Option β} {r:β} (h:dU X o S M k=some r):∃ x,k x=some r/\de X.P o S M x/\XT X.P o S x:=by
 cases hb:vB o.op with
 | false=>
  cases hk:qK o.op with
  | false=>
   obtain⟨x,h1,h2,_⟩:=qM hX h
   exact⟨x,h1,h2,⟨fun h=>(by rw[hb] at h;cases h),fun h=>(by rw[hk] at h;cases h)⟩⟩
  | true=>
   have e:dU X o S qN (fun x=>bif x.box.isNone&&x.obj.isNone then k x else none)=some r:=by
    obtain⟨dst,op,ty,pos,af,g⟩:=o
    cases op<;>first | exact absurd hk adp | exact h
   obtain⟨x,h1,h2,_⟩:=qM hX e
   cases hc:x.box.isNone&&x.obj.isNone with
   | false=>rw[hc] at h1;cases h1
   | true=>
    rw[hc] at h1
    simp only[adj,afL] at hc
    exact⟨x,h1,h2.VH,⟨fun h=>(by rw[hb] at h;cases h),fun _=>⟨h2,hc⟩⟩⟩
 | true=>
  have e:dU X o S qN (fun x=>bif x.box.isNone&&(x.row.isNone&&x.obj.isNone) then k x else none)=some r:=by
   obtain⟨dst,op,ty,pos,af,g⟩:=o
   cases op<;>first | exact absurd hb adp | exact h
  have hk:qK o.op=false:=by
   revert hb
   cases o.op<;>intro hb<;>first | rfl | exact absurd hb adp
  obtain⟨x,h1,h2,_⟩:=qM hX e
  cases hc:x.box.isNone&&(x.row.isNone&&x.obj.isNone) with
  | false=>rw[hc] at h1;cases h1
  | true=>
   rw[hc] at h1
   simp only[adj,afL] at hc
   exact⟨x,h1,h2.VH,⟨fun _=>⟨h2,hc⟩,fun h=>(by rw[hk] at h;cases h)⟩⟩
theorem uJ (hX:cA X) {ops:List Oper} {M:St}:∀ {l:List Oper} {S:St} {k:St->Option β} {r:β},pX X ops M l S k=some r-> ∃ outs:List (Option Del),outs.length=l.length/\k (states l S outs)=some r/\∀ i o x,l[i]? =some o->outs[i]? =some x->Cq X ops M o (states (l.take i) S (outs.take i)) x
 | [],S,k,r,h=>⟨[],rfl,h,fun i o x hi=>by simp at hi⟩
 | o::l,S,k,r,h=>by
  have cons:∀ (x:Option Del),Cq X ops M o S x->pX X ops M l (S.out o x) k=some r->
   ∃ outs:List (Option Del),outs.length=(o::l).length/\k (states (o::l) S outs)=some r/\∀ i o' x,(o::l)[i]? =some o'->outs[i]? =some x->Cq X ops M o' (states ((o::l).take i) S (outs.take i)) x:=by
   intro x hx hr
   obtain⟨outs,h1,h2,h3⟩:=uJ hX hr
   refine⟨x::outs,by simp[h1],h2,fun i o' y hi hy=> ?_⟩
   cases i with
   | zero=>
    simp only[aej,Option.some.injEq] at hi hy
    subst hi;subst hy
    exact hx
   | succ i=>
    simp only[aei] at hi hy
    exact h3 i o' y hi hy
  simp only[pX] at h
  split at h
  ·cases hs:lD ops o S with
   | false=>rw[hs] at h;cases h
   | true=>rw[hs] at h;exact cons none (.inr hs) h
  ·rename_i hg
   obtain⟨x,h1,h2⟩:=pR hX h
   exact cons (some x) ⟨h2,.inl hg⟩ h1
  ·rename_i d b want hg
   rcases JE (Yn (SL hg)) h with ⟨hb,h⟩ | ⟨hb,h⟩
   ·obtain⟨x,h1,h2⟩:=pR hX h
    exact cons (some x) ⟨h2,.inr ⟨d,b,want,hg,hb⟩⟩ h1
   ·exact cons none (.inl ⟨d,b,want,hg,hb⟩) h
section
variable {S:St} {o:Oper} {x:Option Del} {d:Nat}
theorem L7 (hd:o.dst=some d):(S.out o x).tmps=S.tmps.set d (RB x):=by
 cases x<;>simp[St.out,St.app,St.put,hd,RB]
theorem IU (hd:o.dst=some d) (k:Nat):look (S.out o x).boxes k=if k=d then (wJ x).or (look S.boxes k) else look S.boxes k:=by
 cases x with
 | none=>simp[St.out,St.put,hd,wJ]
 | some y=>
  simp only[St.out,St.app,hd,wJ]
  cases y.box with
  | none=>simp
  | some c=>
   simp only[aq]
   by_cases e:k=d
   ·simp[e]
   ·have:¬ d=k:=fun h=>e h.symm
    simp[e,this]
theorem L6 (hd:o.dst=some d) (k:Nat):look (S.out o x).rows k=if k=d then (vH x).or (look S.rows k) else look S.rows k:=by
 cases x with
 | none=>simp[St.out,St.put,hd,vH]
 | some y=>
  simp only[St.out,St.app,hd,vH]
  cases y.row with
  | none=>simp
  | some c=>
   simp only[aq]
   by_cases e:k=d
   ·simp[e]
   ·have:¬ d=k:=fun h=>e h.symm
    simp[e,this]
theorem LZ (hd:o.dst=some d) (k:Nat):look (S.out o x).objs k=if k=d then (zE x).or (look S.objs k) else look S.objs k:=by
 cases x with
 | none=>simp[St.out,St.put,hd,zE]
 | some y=>
  simp only[St.out,St.app,hd,zE]
  cases y.obj with
  | none=>simp
  | some c=>
   simp only[aq]
   by_cases e:k=d
   ·simp[e]
   ·have:¬ d=k:=fun h=>e h.symm
    simp[e,this]
end
def fq (l:List Oper):List Nat:=l.filterMap (·.dst)
theorem F8:∀ {l:List Oper} {S:St} {outs:List (Option Del)},(states l S outs).tmps.length=S.tmps.length
 | [],S,outs=>by cases outs<;>rfl
 | o::l,S,[]=>rfl
 | o::l,S,x::xs=>by
  simp only[states]
  rw[F8]
  cases x<;>cases hd:o.dst<;>simp[St.out,St.app,St.put,hd]
theorem dW:∀ {l:List Oper} {S:St} {outs:List (Option Del)} {t:Nat},t∉fq l->(states l S outs).tmps[t]? =S.tmps[t]? /\look (states l S outs).boxes t=look S.boxes t/\look (states l S outs).rows t=look S.rows t/\look (states l S outs).objs t=look S.objs t
 | [],S,outs,t,_=>by cases outs<;>exact⟨rfl,rfl,rfl,rfl⟩
 | o::l,S,[],t,_=>⟨rfl,rfl,rfl,rfl⟩
 | o::l,S,x::xs,t,h=>by
  simp only[states]
  cases hd:o.dst with
  | none=>
   have hl:t∉fq l:=by simpa [fq,hd] using h
   obtain⟨h1,h2,h3,h4⟩:=dW (S:=S.out o x) (outs:=xs) hl
   rw[h1,h2,h3,h4]
   cases x<;>simp[St.out,St.app,St.put,hd]
  | some d=>
   have hl:t≠d/\t∉fq l:=by simpa [fq,hd] using h
   obtain⟨h1,h2,h3,h4⟩:=dW (S:=S.out o x) (outs:=xs) hl.2
   rw[h1,h2,h3,h4,L7 hd,IU hd,L6 hd,LZ hd]
   refine⟨aer (fun e=>hl.1 e.symm),by simp[hl.1],by simp[hl.1],by simp[hl.1]⟩
theorem Ci:∀ (l:List Oper) (S:St) (outs:List (Option Del)) (i:Nat),outs.length=l.length->states l S outs=states (l.drop i) (states (l.take i) S (outs.take i)) (outs.drop i)
 | l,S,outs,0,_=>by simp only[ad6,afg,states]
 | [],S,outs,i+1,h=>by
  have:outs=[]:=ad8 (by simpa using h)
  subst this;rfl
 | o::l,S,[],i+1,h=>by simp at h
 | o::l,S,x::xs,i+1,h=>by
  simp only[List.drop_succ_cons,afe,states]
  exact Ci l _ xs i (by simpa using h)
theorem jw {l:List Oper} {i:Nat} {o:Oper} {d:Nat} (h:dup (fq l)=false) (hi:l[i]? =some o) (hd:o.dst=some d):d∉fq (l.drop (i+1))/\d∉fq (l.take i):=by
 induction l generalizing i with
 | nil=>simp at hi
 | cons p l ih=>
  cases i with
  | zero=>
   simp only[aej,Option.some.injEq] at hi
   subst hi
   simp only[fq,List.filterMap_cons,hd] at h
   refine⟨?_,by simp[fq]⟩
   simpa [fq] using (Fj h).1
  | succ i=>
   simp only[aei] at hi
   have hm:d∈fq l:=by
    simp only[fq,aeR];exact⟨o,aeU hi,hd⟩
   cases hp:p.dst with
   | none=>
    have h':dup (fq l)=false:=by simpa [fq,hp] using h
    obtain⟨h1,h2⟩:=ih h' hi
    exact⟨by simpa using h1,by simpa [fq,hp] using h2⟩
   | some dp=>
    have h':dup (dp::fq l)=false:=by simpa [fq,hp] using h
    obtain⟨h3,h4⟩:=Fj h'
    obtain⟨h1,h2⟩:=ih h4 hi
    refine⟨by simpa using h1, ?_⟩
    have hne:d≠dp:=fun e=>h3 (e ▸ hm)
    simp only[afe,fq,List.filterMap_cons,hp,aeO,agd]
    exact⟨hne,h2⟩
theorem rH {l:List Oper} {S:St} {outs:List (Option Del)} {i d:Nat} {o:Oper} {x:Option Del} (hl:outs.length=l.length) (hdup:dup (fq l)=false) (hi:l[i]? =some o) (hx:outs[i]? =some x) (hd:o.dst=some d): (d<S.tmps.length->(states l S outs).tmps[d]? =some (RB x))/\look (states l S outs).boxes d=(wJ x).or (look S.boxes d)/\look (states l S outs).rows d=(vH x).or (look S.rows d)/\look (states l S outs).objs d=(zE x).or (look S.objs d):=by
 obtain⟨h1,h2⟩:=jw hdup hi hd
 have e:=Ci l S outs i hl
 have hlt:=(aen.1 hi).1
 have hlt':=(aen.1 hx).1
 have e1:l.drop i=o::l.drop (i+1):=by rw[ad1 hlt,(aen.1 hi).2]
 have e2:outs.drop i=x::outs.drop (i+1):=by rw[ad1 hlt',(aen.1 hx).2]
 rw[e1,e2] at e
 simp only[states] at e
 rw[e]
 obtain⟨g1,g2,g3,g4⟩:=dW (S:=(states (l.take i) S (outs.take i)).out o x) (outs:=outs.drop (i+1)) h1
 obtain⟨f1,f2,f3,f4⟩:=dW (S:=S) (outs:=outs.take i) h2
 rw[g1,g2,g3,g4,L7 hd,IU hd,L6 hd,LZ hd,f2,f3,f4]
 refine⟨fun hlen=> ?_,by simp,by simp,by simp⟩
 rw[aes (by rw[F8];exact hlen)]
end Go.Dn
namespace Go.Dn
variable {β:Type} {X:Cx} {C:Fr X.P} {G:Gh} {ρ:Env} {w:World}
def aD (S Sn:St) (U:Nat->Bool):St:=
 { tmps:=(List.range S.tmps.length).map fun t=>if U t then S.tmps.getD t (.v false [.any]) else Sn.tmps.getD t (.v false [.any]),
   boxes:=Sn.boxes.filter fun p=> !U p.1,rows:=Sn.rows.filter fun p=> !U p.1,objs:=Sn.objs.filter fun p=> !U p.1 }
theorem aN {α:Type} (U:Nat->Bool):∀ (l:List (Nat×α)) (i:Nat),look (l.filter fun p=> !U p.1) i=if U i=true then none else look l i
 | [],i=>by simp[look]
 | (j,y)::r,i=>by
  have ih:=aN U r i
  cases hU:U j with
  | true=>
   have:(List.filter (fun p:Nat×α=> !U p.1) ((j,y)::r))=r.filter fun p=> !U p.1:=by simp[hU]
   rw[this,ih,aq]
   by_cases e:j=i
   ·subst e;simp[hU]
   ·simp[e]
  | false=>
   have:(List.filter (fun p:Nat×α=> !U p.1) ((j,y)::r))=(j,y)::r.filter fun p=> !U p.1:=by simp[hU]
   rw[this,aq,aq,ih]
   by_cases e:j=i
   ·subst e;simp[hU]
   ·simp[e]
theorem dV {S Sn:St} {U:Nat->Bool} {t:Nat}:(aD S Sn U).tmps[t]? =if t<S.tmps.length then some (if U t then S.tmps.getD t (.v false [.any]) else Sn.tmps.getD t (.v false [.any])) else none:=by
 simp only[aD,aeo]
 by_cases h:t<S.tmps.length
 ·rw[aep h];simp[h]
 ·rw[aem (by simp;omega)];simp[h]
theorem Mod.equiv {A B:St} {a:Act} (h:Mod C G ρ A w a) (ht:A.tmps=B.tmps) (hb:∀ k cs,look B.boxes k=some cs->look A.boxes k=some cs) (hr:∀ k q,look B.rows k=some q->look A.rows k=some q) (ho:∀ k q,look B.objs k=some q->look A.objs k=some q):Mod C G ρ B w a:=
 { h.toMem.sub hb hr ho with tmps:=by have:=h.tmps;unfold gj at this ⊢;rw[<- ht];exact this,defers:=h.defers }
theorem Vw {l:List Nat} {j:Nat}:inL l j=true↔j∈l:=by
 simp only[inL,adS]
 constructor
 ·rintro⟨x,hx,h⟩;rw[afm h];exact hx
 ·intro h;exact⟨j,h,by simp⟩
theorem yI {s:Msk} {j:Nat}:inM s j=s.m.testBit j:=by
 unfold inM Nat.testBit
 rw[show Nat.land (Nat.shiftRight s.m j) 1=(1 &&& (s.m >>> j)) from Nat.and_comm _ _]
 have:(1 &&& (s.m >>> j))=(s.m >>> j) % 2:=by rw[Nat.and_comm];exact Nat.and_one_is_mod _
 rw[this]
 rcases Nat.mod_two_eq_zero_or_one (s.m >>> j) with h | h<;>rw[h]<;>rfl
theorem Fh {acc:List Msk}:∀ {es:List Edge} {j:Nat},j∈mw acc es->∃ e,e∈es/\Region.binds .any e=true/\(j=e.on\/j∈acc.getD e.on m0)
 | [],j,h=>by
  change inM m0 j=true at h
  rw[yI] at h
  simp[m0] at h
 | e::r,j,h=>by
  simp only[mw] at h
  cases hb:Region.binds .any e with
  | false=>
   rw[hb] at h
   obtain⟨e',h1,h2⟩:=Fh h
   exact⟨e',by simp[h1],h2⟩
  | true=>
   rw[hb] at h
   simp only[afX] at h
   change inM _ j=true at h
   rw[yI] at h
   change (((1 <<< e.on) ||| (acc.getD e.on m0).m) ||| (mw acc r).m).testBit j=true at h
   rw[Nat.testBit_or,Nat.testBit_or,adx,adx] at h
   rcases h with (h | h) | h
   ·refine⟨e,by simp,hb,.inl ?_⟩
    rw[Nat.one_shiftLeft,Nat.testBit_two_pow] at h
    exact (age h).symm
   ·exact⟨e,by simp,hb,.inr (by change inM _ j=true;rw[yI];exact h)⟩
   ·have h':j∈mw acc r:=by change inM _ j=true;rw[yI];exact h
    obtain⟨e',h1,h2⟩:=Fh h'
    exact⟨e',by simp[h1],h2⟩
theorem MR:∀ (l:List Oper) (acc:List Msk),(pq l acc).take acc.length=acc/\(pq l acc).length=acc.length+l.length/\ ∀ i o,l[i]? =some o->(pq l acc).getD (acc.length+i) m0=mw ((pq l acc).take (acc.length+i)) o.after.toList
 | [],acc=>⟨by simp[pq],by simp[pq],fun i o h=>by simp at h⟩
 | p::l,acc=>by
  obtain⟨h1,h2,h3⟩:=MR l (acc++[mw acc p.after.toList])
  simp only[aey,aez,aeC,afH] at h1 h2 h3
  simp only[pq]
  have hacc:(pq l (acc++[mw acc p.after.toList])).take acc.length=acc:=by
   have:=congrArg (List.take acc.length) h1
   rw[aff,afA (by omega)] at this
   simpa using this
  refine⟨hacc,by rw[h2];simp;omega,fun i o hi=> ?_⟩
  cases i with
  | zero=>
   simp only[aej,Option.some.injEq] at hi
   subst hi
   rw[afj,hacc]
   have:(pq l (acc++[mw acc p.after.toList]))[acc.length]? =some (mw acc p.after.toList):=by
    have h4:((pq l (acc++[mw acc p.after.toList])).take (acc.length+1))[acc.length]? =some (mw acc p.after.toList):=by rw[h1];simp
    rw[aet] at h4
    simpa using h4
   rw[aee,this];rfl
  | succ i=>
   simp only[aei] at hi
   have:=h3 i o hi
   rw[show acc.length+(i+1)=acc.length+1+i by omega]
   exact this
theorem Sv {ops:List Oper} {i:Nat} {o:Oper} (hi:ops[i]? =some o) {j:Nat} (h:j∈(deps ops).getD i m0) (hE:eF ops=true): ∃ e,e∈o.after.toList/\Region.binds .any e=true/\e.on<i/\(j=e.on\/j∈(deps ops).getD e.on m0):=by
 obtain⟨_,_,h3⟩:=MR ops []
 have:=h3 i o hi
 simp only[aeC,afH] at this
 rw[deps,this] at h
 obtain⟨e,h4,h5,h6⟩:=Fh h
 have hlt:e.on<i:=by
  simp only[eF,adQ] at hE
  have h7:=hE i (by simp;exact (aen.1 hi).1)
  rw[hi] at h7
  simp only[adQ] at h7
  have h8:=h7 e h4
  simp only[h5,adv,adq] at h8
  exact aft (afx _) (afo h8)
 refine⟨e,h4,h5,hlt, ?_⟩
 rcases h6 with h6 | h6
 ·exact .inl h6
 ·right
  rw[aee,aet] at h6
  rw[af9 hlt] at h6
  rw[deps,aee];exact h6
def ju (ops:List Oper) (listed:Array Bool):Prop:=∀ i o,ops[i]? =some o->listed.getD i true=true->∀ e,e∈o.after.toList->Region.binds .any e=true->listed.getD e.on false=true
theorem cJ {ops:List Oper} {listed:Array Bool} (hE:eF ops=true) (hc:ju ops listed):∀ (i:Nat) (o:Oper),ops[i]? =some o->(∀ e,e∈o.after.toList->Region.binds .any e=true->listed.getD e.on false=true)-> ∀ j,j∈(deps ops).getD i m0->listed.getD j true=true:=by
 intro i
 induction i using Nat.strongRecOn with
 | _ i ih=>
  intro o hi he j hj
  have hT:∀ m,listed.getD m false=true->listed.getD m true=true:=fun m hm=>by
   rw[ac5] at hm ⊢
   cases h:listed[m]? with
   | none=>rfl
   | some b=>rw[h] at hm;simpa using hm
  obtain⟨e,h1,h2,h3,h4⟩:=Sv hi hj hE
  have h5:=he e h1 h2
  rcases h4 with rfl | h4
  ·exact hT _ h5
  ·have hlt:e.on<ops.length:=afy h3 (aen.1 hi).1
   have h6:ops[e.on]? =some ops[e.on]:=ael hlt
   exact ih e.on h3 _ h6 (fun e' h7 h8=>hc e.on _ h6 (hT _ h5) e' h7 h8) j h4
theorem gD {s:Msk} {j:Nat}:inM s j=true↔j∈s:=Iff.rfl
theorem MX {t:Nat} {m:Msk}:∀ {l:List (Option Nat)} {j k:Nat},MW t m l j=true->l[k]? =some (some t)->j+k∈m
 | [],_,_,_,h=>by simp at h
 | d::r,j,k,h,hk=>by
  simp only[MW,adj] at h
  cases k with
  | zero=>
   simp only[aej,Option.some.injEq] at hk
   subst hk
   have:=h.1
   simp only[afk,adv,adq] at this
   exact this
  | succ k=>
   have:=MX h.2 (k:=k) (by simpa using hk)
   rw[show j+(k+1)=j+1+k by omega];exact this
theorem Yv {d:Nat} {c:CV}:c.di d=inL (WM c) d:=by
 have hc:∀ k:Nat,Nat.beq k d=Nat.beq d k:=fun k=>by
  rw[Bool.eq_iff_iff]
  exact⟨fun h=>by rw[afm h];simp,fun h=>by rw[afm h];simp⟩
 cases c<;>simp[CV.di,CV.bV,CV.aX,CV.bu,CV.bn,WM,inL,hc]
theorem mA {a b:List Nat} {d:Nat}:inL (a++b) d=(inL a d||inL b d):=by simp[inL]
theorem SP {a:Nat} {b:List Nat} {d:Nat}:inL (a::b) d=(Nat.beq d a||inL b d):=by simp[inL]
theorem wu {d:Nat}:∀ {cs:List CV},cs.any (CV.di d)=inL (BF cs) d
 | []=>rfl
 | c::r=>by rw[BF,mA, <- wu, <- Yv];rfl
theorem Qb {d:Nat}:∀ {l:List (Bool×List CV)},(l.any fun p=>p.2.any (CV.di d))=inL (Ry l) d
 | []=>rfl
 | c::r=>by rw[Ry,mA, <- Qb, <- wu];rfl
theorem Qa {d:Nat}:∀ {s:SV},s.di d=inL (WN s) d
 | .v _ _=>wu
 | .tup _=>Qb
theorem Nf {d:Nat}:∀ {l:List SV},l.any (SV.di d)=inL (Nd l) d
 | []=>rfl
 | c::r=>by rw[Nd,mA, <- Nf, <- Qa];rfl
theorem P9 {d:Nat}:∀ {l:List (Nat×List CV)},inL (Rx l) d=false->(l.any fun p=>p.2.any (CV.di d))=false/\look l d=none
 | [],_=>⟨rfl,rfl⟩
 | (k,cs)::r,h=>by
  rw[Rx,SP,mA,adw,adw] at h
  obtain⟨h1,h2⟩:=P9 h.2.2
  refine⟨by rw[List.any_cons,h1,wu,h.2.1];rfl, ?_⟩
  have hk:Nat.beq k d=false:=by
   cases hb:Nat.beq k d with
   | false=>rfl
   | true=>have:=h.1;rw[afm hb] at this;simp at this
  rw[look,hk];exact h2
theorem Iy {α:Type} {d:Nat}:∀ {l:List (Nat×α)},inL (Nn l) d=false->look l d=none
 | [],_=>rfl
 | (k,cs)::r,h=>by
  rw[Nn,SP,adw] at h
  have hk:Nat.beq k d=false:=by
   cases hb:Nat.beq k d with
   | false=>rfl
   | true=>have:=h.1;rw[afm hb] at this;simp at this
  rw[look,hk];exact Iy h.2
theorem Vv {S:St} {d:Nat} (h:inL S.ids d=false):S.di d=false/\look S.boxes d=none/\look S.rows d=none/\look S.objs d=none:=by
 rw[St.ids,mA,mA,mA] at h
 simp only[adw] at h
 obtain⟨h1,h2,h3,h4⟩:=h
 obtain⟨h5,h6⟩:=P9 h2
 exact⟨by rw[St.di,Nf,h1,h5];rfl,h6,Iy h3,Iy h4⟩
theorem aaJ {Sn:St} {d dj:Nat}:Py Sn d dj=inL (Rw Sn dj) d:=by
 rw[Py,Rw,mA, <- Qa]
 cases look Sn.boxes dj with
 | none=>rfl
 | some cs=>simp only;rw[wu]
def az (ops:List Oper) (n:Nat) (listed:Array Bool) (t:Nat):Bool:=(List.range n).any fun i=> !listed.getD i true&&(bS ops i==some t)
theorem cU {ops:List Oper} {n t:Nat} {listed:Array Bool}:az ops n listed t=true↔∃ i,i<n/\listed.getD i true=false/\bS ops i=some t:=by
 simp only[az,adS,aeX,adj,adt,beq_iff_eq]
section
variable {ops:List Oper} {n:Nat} {S Sn:St} {listed:Array Bool} {outs:List (Option Del)}
structure ck (X:Cx) (ops:List Oper) (n:Nat) (S:St) (outs:List (Option Del)) (Sn:St):Prop where
 n_le:n<=ops.length
 dupl:dup (fq (ops.take n))=false
 head:∀ i o,i<n->ops[i]? =some o->o.dst.isSome=true/\∀ t,t∈o.looksAt ops.toArray->∀ j,j<n->bS ops j=some t->j∈(deps ops).getD i m0
 edges:eF ops=true
 len:outs.length=n
 sn:Sn=states (ops.take n) S outs
 step:∀ i o x,i<n->ops[i]? =some o->outs[i]? =some x->Cq X ops S o (states ((ops.take n).take i) S (outs.take i)) x
 new:∀ i d,i<n->bS ops i=some d->S.di d=false/\look S.boxes d=none/\look S.rows d=none/\look S.objs d=none/\
  ∀ j dj,j<n->bS ops j=some dj->i≠j->i∉(deps ops).getD j m0->Py Sn d dj=false
theorem cE {l:List Oper} {n i:Nat} (h:i<n):(l.take n)[i]? =l[i]? :=aeu h
theorem iw {i d:Nat} (h:bS ops i=some d):∃ o,ops[i]? =some o/\o.dst=some d:=by
 unfold bS at h
 cases ho:ops[i]? with
 | none=>rw[ho] at h;cases h
 | some o=>rw[ho] at h;exact⟨o,rfl,h⟩
theorem Jy (hE:eF ops=true):∀ (i:Nat) (o:Oper),ops[i]? =some o->∀ j,j∈(deps ops).getD i m0->j<i:=by
 intro i
 induction i using Nat.strongRecOn with
 | _ i ih=>
  intro o hi j hj
  obtain⟨e,h1,h2,h3,h4⟩:=Sv hi hj hE
  rcases h4 with rfl | h4
  ·exact h3
  ·have hlt:e.on<ops.length:=afy h3 (aen.1 hi).1
   exact afy (ih e.on h3 _ (ael hlt) j h4) h3
theorem uB {i j d:Nat} {o:Oper} (hj:ops[j]? =some o) (hd:o.dst=some d) (hji:j<i):d∈fq (ops.take i):=by
 simp only[fq,aeR]
 exact⟨o,aeU (by rw[cE hji];exact hj),hd⟩
theorem ck.uniq (K:ck X ops n S outs Sn) {i j d:Nat} (hi:i<n) (hj:j<n) (hdi:bS ops i=some d) (hdj:bS ops j=some d):i=j:=by
 obtain⟨oi,h1,h2⟩:=iw hdi
 obtain⟨oj,h3,h4⟩:=iw hdj
 rcases afz i j with h | h | h
 ·have:=(jw K.dupl (i:=j) (o:=oj) (d:=d) (by rw[cE hj];exact h3) h4).2
  exact absurd (uB (ops:=ops.take n) (i:=j) (j:=i) (by rw[cE hi];exact h1) h2 h) this
 ·exact h
 ·have:=(jw K.dupl (i:=i) (o:=oi) (d:=d) (by rw[cE hi];exact h1) h2).2
  exact absurd (uB (ops:=ops.take n) (i:=i) (j:=j) (by rw[cE hj];exact h3) h4 h) this
theorem ck.split (K:ck X ops n S outs Sn) (i:Nat):Sn=states ((ops.take n).drop i) (states ((ops.take n).take i) S (outs.take i)) (outs.drop i):=by
 rw[K.sn]
 exact Ci _ _ _ i (by rw[K.len,aeH,afA K.n_le])
theorem ck.uf (K:ck X ops n S outs Sn):Sn.tmps.length=S.tmps.length:=by rw[K.sn,F8]
theorem Ek {l m:List SV} {t:Nat} (h:l[t]? =m[t]?):l.getD t (.v false [.any])=m.getD t (.v false [.any]):=by
 rw[aee,aee,h]
theorem ck.looks (K:ck X ops n S outs Sn) {i:Nat} {o:Oper} (hin:i<n) (hi:ops[i]? =some o) (hcl:∀ j,j∈(deps ops).getD i m0->listed.getD j true=true):∀ t,t∈o.looksAt ops.toArray-> (aD S Sn (az ops n listed)).tmps.getD t (.v false [.any])=(states ((ops.take n).take i) S (outs.take i)).tmps.getD t (.v false [.any]):=by
 intro t ht
 have hund:az ops n listed t=false:=by
  cases hu:az ops n listed t with
  | false=>rfl
  | true=>
   obtain⟨j,h1,h2,h3⟩:=cU.1 hu
   have:=hcl j ((K.head i o hin hi).2 t ht j h1 h3)
   rw[h2] at this;cases this
 have key:Sn.tmps[t]? =(states ((ops.take n).take i) S (outs.take i)).tmps[t]? :=by
  by_cases hex:∃ j,j<n/\bS ops j=some t
  ·obtain⟨j,h1,h2⟩:=hex
   have hji:=Jy K.edges i o hi j ((K.head i o hin hi).2 t ht j h1 h2)
   have hnd:t∉fq ((ops.take n).drop i):=by
    intro hm
    simp only[fq,aeR] at hm
    obtain⟨p,hp,hpd⟩:=hm
    obtain⟨m,hm⟩:=aeS.1 hp
    rw[aek] at hm
    have hmn:i+m<n:=by
     have:=(aen.1 hm).1
     simp at this;omega
    rw[cE hmn] at hm
    have:=K.uniq h1 hmn h2 (by unfold bS;rw[hm];exact hpd)
    omega
   rw[K.split i]
   exact (dW hnd).1
  ·have hnd:t∉fq (ops.take n):=by
    intro hm
    simp only[fq,aeR] at hm
    obtain⟨p,hp,hpd⟩:=hm
    obtain⟨m,hm⟩:=aeS.1 hp
    have hmn:m<n:=by
     have:=(aen.1 hm).1
     simp at this;omega
    rw[cE hmn] at hm
    exact hex ⟨m,hmn,by unfold bS;rw[hm];exact hpd⟩
   have hnd':t∉fq ((ops.take n).take i):=fun hm=>hnd (by
    simp only[fq,aeR] at hm ⊢
    obtain⟨p,hp,hpd⟩:=hm
    exact⟨p,aeV hp,hpd⟩)
   rw[K.sn,(dW hnd).1,(dW hnd').1]
 rw[<- Ek key,aee,dV]
 by_cases hlt:t<S.tmps.length
 ·simp[hlt,hund]
 ·rw[af8 hlt]
  have:Sn.tmps[t]? =none:=aem (by rw[K.uf];exact Nat.le_of_not_lt hlt)
  rw[aee,this]
theorem ck.evs (K:ck X ops n S outs Sn) {i:Nat} {o:Oper} (hin:i<n) (hi:ops[i]? =some o) (hcl:∀ j,j∈(deps ops).getD i m0->listed.getD j true=true):∀ x,x∈o.op.operands->(aD S Sn (az ops n listed)).ev x=(states ((ops.take n).take i) S (outs.take i)).ev x:=by
 intro x hx
 cases x with
 | tmp t=>
  refine K.looks hin hi hcl t ?_
  simp only[Oper.looksAt,aeN,aeR]
  exact .inl ⟨.tmp t,by simpa using hx,rfl⟩
 | const v=>rfl
 | global g=>rfl
 | func f=>rfl
theorem ck.guards (K:ck X ops n S outs Sn) {i:Nat} {o:Oper} (hin:i<n) (hi:ops[i]? =some o) (hcl:∀ j,j∈(deps ops).getD i m0->listed.getD j true=true):guardOf ops o (aD S Sn (az ops n listed))=guardOf ops o (states ((ops.take n).take i) S (outs.take i)):=by
 unfold guardOf
 cases hg:o.guard with
 | none=>rfl
 | some p=>
  obtain⟨j,want⟩:=p
  simp only
  cases ho':ops[j]? with
  | none=>rfl
  | some o'=>
   simp only
   cases hd:o'.dst with
   | none=>rfl
   | some d=>
    simp only
    have:(aD S Sn (az ops n listed)).ev (.tmp d)=(states ((ops.take n).take i) S (outs.take i)).ev (.tmp d):=by
     refine K.looks hin hi hcl d ?_
     simp only[Oper.looksAt,hg,aeN]
     right
     simp[ho',hd]
    rw[this]
theorem ck.abH (K:ck X ops n S outs Sn) {i:Nat} {o:Oper} (hin:i<n) (hi:ops[i]? =some o) (hcl:∀ j,j∈(deps ops).getD i m0->listed.getD j true=true):lD ops o (aD S Sn (az ops n listed))=lD ops o (states ((ops.take n).take i) S (outs.take i)):=by
 unfold lD
 cases hg:o.guard with
 | none=>rfl
 | some p=>
  obtain⟨j,want⟩:=p
  simp only
  cases ho':ops[j]? with
  | none=>rfl
  | some o'=>
   simp only
   cases hd:o'.dst with
   | none=>rfl
   | some d=>
    simp only
    have:(aD S Sn (az ops n listed)).ev (.tmp d)=(states ((ops.take n).take i) S (outs.take i)).ev (.tmp d):=by
     refine K.looks hin hi hcl d ?_
     simp only[Oper.looksAt,hg,aeN]
     right
     simp[ho',hd]
    rw[this]
end
end Go.Dn
