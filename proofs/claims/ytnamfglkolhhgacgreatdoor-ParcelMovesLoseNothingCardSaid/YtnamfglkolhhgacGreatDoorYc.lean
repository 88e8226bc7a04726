/-
  The executor, its third part: calls, regions and orders are sound. No condition.
-/
import Derived.Test.YtnamfglkolhhgacGreatDoorYb
import Derived.LoopN
set_option linter.all false
namespace Go.Dn
variable {β:Type} {X:Cx} {o:Oper} {S:St} {r:β} {P0:Program} {C:Fr P0} {G:Gh} {ρ:Env} {w:World}
theorem aU.beq_eq {a b:aU}:aU.beq a b=true↔a=b:=by
 cases a<;>cases b<;>simp[aU.beq]
theorem Bb (l:List (aU×Nat)) (o x:aU) (n:Nat):bH ((o,n)::l) x=if o=x then some n else bH l x:=by
 simp only[bH]
 by_cases h:o=x
 ·subst h;simp[aU.beq_eq.2 rfl]
 ·have:aU.beq o x=false:=by
   cases hb:aU.beq o x with
   | false=>rfl
   | true=>exact absurd (aU.beq_eq.1 hb) h
  simp[this,h]
theorem O5 {l:List (aU×Nat)} {o:aU} {n:Nat} (h:bH l o=some n):(o,n)∈l:=by
 induction l with
 | nil=>simp[bH] at h
 | cons p r ih=>
  obtain⟨o',n'⟩:=p
  rw[Bb] at h
  split at h
  ·rename_i e;cases h;subst e;simp
  ·exact Ul _ (ih h)
theorem Bc {l:List (aU×Nat)} {o:aU} {n:Nat} (h:(o,n)∈l):(bH l o).isSome=true:=by
 induction l with
 | nil=>simp at h
 | cons p r ih=>
  obtain⟨o',n'⟩:=p
  rw[Bb]
  split
  ·rfl
  ·rename_i hne
   rcases Uk.1 h with h | h
   ·cases h;exact absurd rfl hne
   ·exact ih h
theorem sW {l:List (aU×Nat)} {o:aU} {n:Nat} (hd:tY l=false) (h:(o,n)∈l):bH l o=some n:=by
 induction l with
 | nil=>simp at h
 | cons p r ih=>
  obtain⟨o',n'⟩:=p
  simp only[tY,Te] at hd
  rw[Bb]
  rcases Uk.1 h with h | h
  ·cases h;simp
  ·split
   ·rename_i e
    subst e
    have:=Bc h
    rw[hd.1] at this;cases this
   ·exact ih hd.2 h
theorem rG {x:Nat} {l:List Nat} (h:dup (x::l)=false):x∉l∧dup l=false:=by
 simp only[dup,Te,Tr] at h
 refine⟨fun hm=> ?_,h.2⟩
 have:=h.1 x hm
 simp at this
theorem Mp {l:List (aU×Nat)} {o o':aU} {n:Nat} (hd:dup (l.map (·.2))=false) (h:(o,n)∈l) (h':(o',n)∈l):o=o':=by
 induction l with
 | nil=>simp at h
 | cons p r ih=>
  rw[Uf] at hd
  obtain⟨h1,h2⟩:=rG hd
  rcases Uk.1 h with g | g<;>rcases Uk.1 h' with g' | g'
  ·rw[← g] at g';cases g';rfl
  ·rw[← g] at h1;exact absurd (Up.2 ⟨(o',n),g',rfl⟩) h1
  ·rw[← g'] at h1;exact absurd (Up.2 ⟨(o,n),g,rfl⟩) h1
  ·exact ih h2 g g'
theorem lY {α:Type} {f:CV→Option α} {cs r:List CV} {x:α} (h:oZ f cs=some (x,r)):r=cs.drop 1:=by
 cases cs with
 | nil=>cases h
 | cons c q=>
  simp only[oZ] at h
  split at h
  ·cases h;rfl
  ·cases h
theorem s6 {S:St} {fb:List Nat}:∀ (t:Ty) {cs r:List CV} {x:t.den},ez S fb t cs=some (x,r)→r=cs.drop t.size
 | .int _,_,_,_,h=>lY h
 | .bool,_,_,_,h=>lY h
 | .str,_,_,_,h=>lY h
 | .unit,_,_,_,h=>by simp only[ez] at h;cases h;rfl
 | .pair a b,cs,r,x,h=>by
  simp only[ez] at h
  split at h
  ·rename_i y q h1
   split at h
   ·rename_i z q' h2
    cases h
    rw[s6 b h2,s6 a h1,TB];rfl
   ·cases h
  ·cases h
 | .st t,_,_,_,h=>s6 t h
 | .slice _,_,_,_,h=>lY h
 | .ptr _,_,_,_,h=>lY h
 | .clo _ _,_,_,_,h=>lY h
 | .hnd,_,_,_,h=>lY h
def cW (ρ:Env) (ow:List (aU×Nat)) (b:Nat):Option Nat:=(ρ.own b).bind (bH ow)
section
variable {V:St} {G2:Gh} {ow:List (aU×Nat)} (hM:Mem C G ρ V w) (hle:G.le G2) (hh:G2.hnd=G.hnd)
include hM hle
theorem nY {e:TypeId} {t:Ty} {c:CV} {l:List t.den} {v:Value} {n:Nat} (h:gA V e t c=some l) (hv:aJ G ρ c v) (ho:∀ p,p∈lB n c→bH ow p.1=some p.2):
 mO G2 w e t l v∧∀ b,v.ownBlock=some b→cW ρ ow b=some n:=by
 cases c<;>simp only[gA] at h<;>try cases h
 case row j=>
  split at h
  ·rename_i q hq
   split at h
   ·cases h
   ·rename_i hc
    simp only[Tf,VL,Ta,S9] at hc
    obtain⟨et,el⟩:=gw h
    have hrow:=hM.rows j q hq
    obtain⟨qf,qe,qt,ql⟩:=q
    dsimp only at et el hc
    subst et;subst el
    have hee:qe=e:=UW hc.2
    subst hee
    unfold bX at hrow
    rw[VG (by simp[hc.1])] at hrow
    obtain⟨xs,hown,hl,hb⟩:=hrow
    have hv1:=hv.1
    subst hv1
    refine⟨⟨xs,hown,hl.mono (aq.mono hle _)⟩,fun b hb'=> ?_⟩
    have:=hb b hb'
    simp only[cW,this,Vl]
    exact ho (.inr j,n) (by simp[lB])
  ·cases h
 case nils=>
  have hv':v= .slice none 0 0:=hv
  subst hv'
  exact⟨⟨[],World.ownsRow_nil w 0 e t.size,rfl⟩,fun b hb=>by cases hb⟩
theorem uW {kk vv:Ty} {c:CV} {l:List (kk.den×vv.den)} {v:Value} {n:Nat} (h:lZ V kk vv c=some l) (hv:aJ G ρ c v) (ho:∀ p,p∈lB n c→bH ow p.1=some p.2):
 ∃ b,v= .map (some b)∧cW ρ ow b=some n∧pR G2 w kk vv l b:=by
 cases c<;>simp only[lZ] at h<;>try cases h
 case mp j=>
  split at h
  ·rename_i k' v' l' hl
   obtain⟨e1,e2,e3⟩:=AP h
   subst e1;subst e2;subst e3
   obtain⟨b,es,clock,h1,h2,h3,h4,h5,h6⟩:=hM.objs j _ hl
   refine⟨b,hv.1.trans h1, ?_,es,clock,h3,h4.mono fun x y hxy=>hxy.mono hle,fun i e hi=>(h5 i e hi).2,h6⟩
   simp only[cW,h2,Vl]
   exact ho (.ob j,n) (by simp[lB])
  ·cases h
theorem vR:∀ {l:List OT} {cs:List CV} {x:kz l} {vs:List Value} {n:Nat},lC V l cs=some x→ay (aJ G ρ) cs vs→(∀ p,p∈mw n l cs→bH ow p.1=some p.2)→uS G2 w (cW ρ ow) n l x vs
 | [],[],x,vs,n,h,hv,_=>hv
 | [],_::_,x,vs,n,h,hv,_=>by simp[lC] at h
 | .val t::r,cs,x,vs,n,h,hv,ho=>by
  simp only[lC] at h
  split at h
  ·rename_i y cs' hy
   split at h
   ·rename_i z hz
    cases h
    obtain⟨a,b,e,h1,h2⟩:=Nk hM.frozen t cs y cs' vs hy hv
    have hr:=s6 t hy
    refine⟨a,b,e,aq.mono hle t y a h1,vR hz h2 (fun p hp=>ho p ?_)⟩
    simp only[mw, ← hr];exact hp
   ·cases h
  ·cases h
 | .row e t::r,[],x,vs,n,h,hv,_=>by simp[lC] at h
 | .row e t::r,c::cs,x,vs,n,h,⟨v,us,ev,hc,hcs⟩,ho=>by
  simp only[lC] at h
  split at h
  ·rename_i y hy
   split at h
   ·rename_i z hz
    cases h
    subst ev
    have h1:=nY (n:=n) hM hle hy hc (fun p hp=>ho p (by simp[mw,hp]))
    exact⟨[v],us,rfl,⟨v,rfl,h1⟩,vR hz hcs (fun p hp=>ho p (by simp[mw,hp]))⟩
   ·cases h
  ·cases h
 | .map k v'::r,[],x,vs,n,h,hv,_=>by simp[lC] at h
 | .map k v'::r,c::cs,x,vs,n,h,⟨v,us,ev,hc,hcs⟩,ho=>by
  simp only[lC] at h
  split at h
  ·rename_i y hy
   split at h
   ·rename_i z hz
    cases h
    subst ev
    obtain⟨b,h1,h2,h3⟩:=uW (n:=n) hM hle hy hc (fun p hp=>ho p (by simp[mw,hp]))
    subst h1
    exact⟨[_],us,rfl,⟨b,rfl,h2,h3⟩,vR hz hcs (fun p hp=>ho p (by simp[mw,hp]))⟩
   ·cases h
  ·cases h
include hh
theorem Hw {fb:List Nat} (hF:gv G2 ρ V) (hL:jq G2 ρ V fb) {p:PM} (hA:(∃ t,p= .arR t)→∀ fz t l,look V.objs bq=some (.ar fz t l)→iW G2 w (fun _=>True) true t l) {s:SV} {x:p.den} {v:Value} {i:Nat} (h:sC V fb p s=some x)
 (hv:p.arg=true→bf G ρ s v) (ho:∀ q,q∈ir V i p s→bH ow q.1=some q.2):wO G2 w (cW ρ ow) i p x v:=by
 have cv:∀ {c:CV},oB s=some c→bf G ρ s v→aJ G ρ c v:=by
  intro c hc hs
  unfold oB at hc
  split at hc
  ·cases hc;exact hs
  ·cases hc
 cases p with
 | val t=>exact iJ hF hL h (bf.congr hle (.refl ρ s) (hv rfl))
 | row e t=>
  simp only[sC] at h
  split at h
  ·rename_i c hc
   exact nY hM hle h (cv hc (hv rfl)) (fun q hq=>ho q (by simp only[ir,hc];exact hq))
  ·cases h
 | mrow e t=>
  simp only[sC] at h
  split at h
  ·rename_i c hc
   exact nY hM hle h (cv hc (hv rfl)) (fun q hq=>ho q (by simp only[ir,hc];exact hq))
  ·cases h
 | map k e=>
  simp only[sC] at h
  split at h
  ·rename_i c hc
   exact uW hM hle h (cv hc (hv rfl)) (fun q hq=>ho q (by simp only[ir,hc];exact hq))
  ·cases h
 | box l=>
  simp only[sC] at h
  split at h
  ·rename_i k hk
   split at h
   ·rename_i cs hcs
    obtain⟨h1,vs,T,h2,h3⟩:=hM.boxes k cs hcs
    have hp:v= .pointer (some ⟨ρ.bx k,0,none⟩):=by
     have hs:=hv rfl
     unfold mu at hk
     split at hk
     ·split at hk
      ·rename_i hb
       cases hk
       have:=UW hb
       subst this
       exact hs
      ·cases hk
     ·cases hk
    refine⟨ρ.bx k,vs,T,hp, ?_,h2,vR hM hle h h3 (fun q hq=>ho q (by simp only[ir,hk,hcs];exact Ul _ hq))⟩
    simp only[cW,h1,Vl]
    exact ho (.inl k,64*i) (by simp[ir,hk])
   ·cases h
  ·cases h
 | ar t=>
  obtain⟨f,hl,hf⟩:=oW (show qO V false t=some x from h)
  have:=hf rfl
  subst this
  obtain⟨_,h1,h2,h3⟩:=hM.objs bq _ hl
  refine⟨fun i b hb=>h1 i b (by rw[← hh];exact hb),fun i i' b hb hb'=>h2 i i' b (by rw[← hh];exact hb) (by rw[← hh];exact hb'),fun n z hz=> ?_⟩
  obtain⟨b,vs,T,g1,g2,g3,g4,g5⟩:=h3 n z hz
  refine⟨b,vs,T,by rw[hh];exact g1,nofun,fun _=> ?_,g4,aq.mono hle t z _ g5⟩
  have:=g3 rfl
  simp only[cW,this,Vl]
  exact ho (.ob bq,64*i) (by simp[ir])
 | arR t=>
  obtain⟨f,hl,_⟩:=oW (show qO V true t=some x from h)
  exact hA ⟨t,rfl⟩ f t x hl
theorem Dy {fb:List Nat} (hF:gv G2 ρ V) (hL:jq G2 ρ V fb):∀ {ps:List PM} {args:List SV} {x:ew ps} {vs:List Value} (i:Nat),((sU ps=true)→∀ fz t l,look V.objs bq=some (.ar fz t l)→iW G2 w (fun _=>True) true t l)→
 (∀ q,q∈dX V i ps args→bH ow q.1=some q.2)→gj V fb ps args=some x→ay (bf G ρ) args vs→fo G2 w (cW ρ ow) i ps x vs
 | [],[],x,vs,i,_,_,h,hv=>by cases hv;rfl
 | [],_::_,x,vs,i,_,_,h,hv=>by simp[gj] at h
 | p::r,args,x,vs,i,hA,ho,h,hv=>by
  simp only[gj] at h
  simp only[dX] at ho
  have hA':sU r=true→∀ fz t l,look V.objs bq=some (.ar fz t l)→iW G2 w (fun _=>True) true t l:=fun hr=>hA (by cases p<;>first | rfl | exact hr)
  split at h
  ·rename_i s hs
   rw[hs] at ho
   split at h
   ·rename_i y hy
    split at h
    ·rename_i z hz
     cases h
     have hAp:(∃ t,p= .arR t)→∀ fz t l,look V.objs bq=some (.ar fz t l)→iW G2 w (fun _=>True) true t l:=fun ⟨t,e⟩=>hA (by subst e;rfl)
     cases hp:p.arg with
     | true=>
      rw[hp] at hs hz ho
      simp only[Vx] at hs hz ho
      match args,hv,hs,hz with
      | s'::q,⟨v,us,e,hsv,hq⟩,hs,hz=>
       simp only[List.head?_cons,Option.some.injEq] at hs
       subst hs
       exact⟨v,us,fun _=>e,fun e=>(by rw[hp] at e;cases e),Hw hM hle hh hF hL hAp hy (fun _=>hsv) (fun q hq=>ho q (by simp[hq])),Dy hF hL (i+1) hA' (fun q hq=>ho q (by simp at hq ⊢;exact .inr hq)) hz hq⟩
     | false=>
      rw[hp] at hs hz ho
      simp only[Vw] at hs hz ho
      exact⟨undef,vs,fun e=>(by rw[hp] at e;cases e),fun _=>rfl,Hw hM hle hh hF hL hAp hy (fun e=>(by rw[hp] at e;cases e)) (fun q hq=>ho q (by simp[hq])),Dy hF hL (i+1) hA' (fun q hq=>ho q (by simp[hq])) hz hv⟩
    ·cases h
   ·cases h
  ·cases h
end
end Go.Dn
namespace Go.Dn
variable {β:Type} {X:Cx} {o:Oper} {S:St} {r:β} {P0:Program} {C:Fr P0} {G:Gh} {ρ:Env} {w:World}
def Asg (ρ:Env) (w:World):aU→Value→Prop
 | .inl k,v=>v= .pointer (some ⟨ρ.bx k,0,none⟩)
 | .inr j,v=>ρ.rw j=v
 | .ob j,v=>∀ b,v= .map (some b)→ρ.ob j= .map (some b)∧∀ es clock,w.heap[b]? =some (.map es clock)→∀ (i:Nat) (e:MapEntry),es.toList[i]? =some e→(e.born:Int)=ρ.st j i
section
variable {G' G3:Gh} {w':World} {ow':Nat→Option Nat} {ρ3:Env}
theorem bA.of_flat (hh:∀ h b,G'.hnd h=some b→G3.hnd h=some b) {t:Ty} (hf:t.flat=true):∀ {l:List t.den} {cs:List Value},bA (aq G' t) l cs→bA (aq G3 t) l cs
 | [],_,h=>h
 | _::_,_,⟨c,r,e,hx,hl⟩=>⟨c,r,e,aq.of_flat hh hf hx,bA.of_flat hh hf hl⟩
def Trans (G' G3:Gh) (flat:Bool):Prop:=(∀ h b,G'.hnd h=some b→G3.hnd h=some b)∧(flat=true∨G'.le G3)
theorem Trans.left {a b:Bool} (h:Trans G' G3 (a&&b)):Trans G' G3 a:=⟨h.1,h.2.imp (fun e=>by simp at e;exact e.1) id⟩
theorem Trans.right {a b:Bool} (h:Trans G' G3 (a&&b)):Trans G' G3 b:=⟨h.1,h.2.imp (fun e=>by simp at e;exact e.2) id⟩
theorem Trans.RV {t:Ty} (h:Trans G' G3 t.flat) {x:t.den} {cs:List Value} (hx:aq G' t x cs):aq G3 t x cs:=by
 rcases h.2 with hf | hle
 ·exact hx.of_flat h.1 hf
 ·exact aq.mono hle t x cs hx
theorem Trans.I2 {t:Ty} (h:Trans G' G3 t.flat) {x:t.den} {v:Value} (hx:bF G' t x v):bF G3 t x v:=by
 rcases h.2 with hf | hle
 ·exact hx.of_flat h.1 hf
 ·exact hx.mono hle
theorem Trans.N9 {t:Ty} (h:Trans G' G3 t.flat) {l:List t.den} {cs:List Value} (hx:bA (aq G' t) l cs):bA (aq G3 t) l cs:=by
 rcases h.2 with hf | hle
 ·exact hx.of_flat h.1 hf
 ·exact hx.mono (aq.mono hle t)
theorem mO.ok {e:TypeId} {t:Ty} {l:List t.den} {v:Value} {j:Nat} (hT:Trans G' G3 t.flat) (h:mO G' w' e t l v) (hv:ρ3.rw j=v) (ho:∀ b,v.ownBlock=some b→ρ3.own b=some (.inr j)):bX G3 ρ3 w' j ⟨false,e,t,l⟩:=by
 obtain⟨xs,h1,h2⟩:=h
 unfold bX
 rw[VG (by simp)]
 subst hv
 exact⟨xs,h1,hT.N9 h2,ho⟩
theorem mO.isSlice {e:TypeId} {t:Ty} {l:List t.den} {v:Value} (h:mO G' w' e t l v):∃ a n c,v= .slice a n c:=by
 obtain⟨xs,h1,h2⟩:=h
 rcases h1.2 with ⟨e,_⟩ | ⟨g,cap,cur,e,_⟩
 ·exact⟨_,_,_,e⟩
 ·exact⟨_,_,_,e⟩
theorem pR.ok {k v:Ty} {l:List (k.den×v.den)} {b j:Nat} (hT:Trans G' G3 (k.flat&&v.flat)) (h:pR G' w' k v l b) (ha:Asg ρ3 w' (.ob j) (.map (some b))) (ho:ρ3.own b=some (.ob j)):kX G3 ρ3 w' j (.map k v l)∧ρ3.ob j= .map (some b):=by
 obtain⟨es,clock,h1,h2,h3,h4⟩:=h
 obtain⟨ha,hs⟩:=ha b rfl
 exact⟨⟨b,es,clock,ha,ho,h1,h2.mono fun x y hxy=>⟨hT.left.I2 hxy.1,hT.right.I2 hxy.2⟩,fun i e hi=>⟨hs es clock h1 i e hi,h3 i e hi⟩,h4⟩,ha⟩
theorem Bl {d i:Nat}:∀ {l:List OT} {c:Nat} {x:kz l} {vs:List Value},Trans G' G3 (nN l)→uS G' w' ow' (64*i+c) l x vs→
 ∃ vals:List (aU×Value),vals.map (·.1)=(dI d i c l).map (·.1)∧∀ ρ3:Env,(∀ o v,(o,v)∈vals→Asg ρ3 w' o v)→(∀ o n,(o,n)∈dI d i c l→∀ b,ow' b=some n→ρ3.own b=some o)→
  ay (aJ G3 ρ3) (Dv d i c l x) vs∧(∀ j q,look (nO d i c l x) j=some q→bX G3 ρ3 w' j q)∧(∀ j q,look (jT d i c l x) j=some q→kX G3 ρ3 w' j q)
 | [],c,x,vs,_,h=>⟨[],rfl,fun ρ3 _ _=>⟨h,fun j q hj=>by simp[nO,look] at hj,fun j q hj=>by simp[jT,look] at hj⟩⟩
 | .val t::r,c,x,vs,hT,⟨a,b,e,h1,h2⟩=>by
  obtain⟨vals,hv,hr⟩:=Bl (d:=d) (i:=i) (c:=c+1) (l:=r) (Trans.right (a:=t.flat) hT) h2
  refine⟨vals,hv,fun ρ3 hA hO=> ?_⟩
  obtain⟨g1,g2,g3⟩:=hr ρ3 hA hO
  subst e
  exact⟨(eM ρ3 (Trans.RV (Trans.left (b:=nN r) hT) h1)).append g1,g2,g3⟩
 | .row e' t::r,c,x,vs,hT,⟨a,b,e,⟨v,ea,h1,h1'⟩,h2⟩=>by
  obtain⟨vals,hv,hr⟩:=Bl (d:=d) (i:=i) (c:=c+1) (l:=r) (Trans.right (a:=t.flat) hT) h2
  refine⟨(.inr (nid d i c),v)::vals,by simp[dI,hv],fun ρ3 hA hO=> ?_⟩
  obtain⟨g1,g2,g3⟩:=hr ρ3 (fun o v h=>hA o v (by simp[h])) (fun o n h=>hO o n (by simp[dI,h]))
  have hav:ρ3.rw (nid d i c)=v:=hA (.inr (nid d i c)) v (by simp)
  subst e;subst ea
  refine⟨⟨v,b,rfl,⟨hav.symm,h1.isSlice⟩,g1⟩,fun j q hj=> ?_,g3⟩
  simp only[nO,ai] at hj
  split at hj
  ·rename_i ej
   subst ej
   cases hj
   exact h1.ok (Trans.left (b:=nN r) hT) hav (fun b' hb'=>hO _ _ (by simp[dI]) b' (h1' b' hb'))
  ·exact g2 j q hj
 | .map k v'::r,c,x,vs,hT,⟨a,b,e,⟨bb,ea,h1,h1'⟩,h2⟩=>by
  obtain⟨vals,hv,hr⟩:=Bl (d:=d) (i:=i) (c:=c+1) (l:=r) (Trans.right (a:=k.flat&&v'.flat) hT) h2
  refine⟨(.ob (nid d i c),.map (some bb))::vals,by simp[dI,hv],fun ρ3 hA hO=> ?_⟩
  obtain⟨g1,g2,g3⟩:=hr ρ3 (fun o v h=>hA o v (by simp[h])) (fun o n h=>hO o n (by simp[dI,h]))
  have ho:ρ3.own bb=some (.ob (nid d i c)):=hO _ _ (by simp[dI]) bb h1
  obtain⟨m1,m2⟩:=h1'.ok (Trans.left (b:=nN r) hT) (hA (.ob (nid d i c)) (.map (some bb)) (by simp)) ho
  subst e;subst ea
  refine⟨⟨_,b,rfl,⟨m2.symm,bb,rfl⟩,g1⟩,g2,fun j q hj=> ?_⟩
  simp only[jT,ai] at hj
  split at hj
  ·rename_i ej
   subst ej
   cases hj
   exact m1
  ·exact g3 j q hj
theorem rN {d i:Nat}:∀ {l:List OT} {c:Nat} {x:kz l},(∀ j n,(.inr j,n)∈dI d i c l→(look (nO d i c l x) j).isSome=true)∧(∀ j n,(.ob j,n)∈dI d i c l→(look (jT d i c l x) j).isSome=true)∧
 (∀ k n,(.inl k,n)∉dI d i c l)
 | [],c,x=>⟨fun j n h=>by simp[dI] at h,fun j n h=>by simp[dI] at h,fun j n h=>by simp[dI] at h⟩
 | .val t::r,c,x=>by
  obtain⟨h1,h2,h3⟩:=rN (d:=d) (i:=i) (l:=r) (c:=c+1) (x:=x.2)
  exact⟨h1,h2,h3⟩
 | .row e t::r,c,x=>by
  obtain⟨h1,h2,h3⟩:=rN (d:=d) (i:=i) (l:=r) (c:=c+1) (x:=x.2)
  refine⟨fun j n h=> ?_,fun j n h=> ?_,fun k n h=> ?_⟩
  ·simp only[dI,Uk,Prod.mk.injEq,aU.inr.injEq] at h
   simp only[nO,ai]
   rcases h with ⟨h,_⟩ | h
   ·simp[h]
   ·split
    ·rfl
    ·exact h1 j n h
  ·simp only[dI,Uk,Prod.mk.injEq,reduceCtorEq,VC,VD] at h
   exact h2 j n h
  ·simp only[dI,Uk,Prod.mk.injEq,reduceCtorEq,VC,VD] at h
   exact h3 k n h
 | .map kk vv::r,c,x=>by
  obtain⟨h1,h2,h3⟩:=rN (d:=d) (i:=i) (l:=r) (c:=c+1) (x:=x.2)
  refine⟨fun j n h=> ?_,fun j n h=> ?_,fun k n h=> ?_⟩
  ·simp only[dI,Uk,Prod.mk.injEq,reduceCtorEq,VC,VD] at h
   exact h1 j n h
  ·simp only[dI,Uk,Prod.mk.injEq,aU.ob.injEq] at h
   simp only[jT,ai]
   rcases h with ⟨h,_⟩ | h
   ·simp[h]
   ·split
    ·rfl
    ·exact h2 j n h
  ·simp only[dI,Uk,Prod.mk.injEq,reduceCtorEq,VC,VD] at h
   exact h3 k n h
theorem bZ {α:Type}:∀ (l m:List (Nat×α)) (k:Nat),look (l++m) k=(look l k).or (look m k)
 | [],m,k=>by simp[look]
 | (j,x)::l,m,k=>by
  rw[Tx,ai,ai,bZ l m k]
  split<;>simp
theorem or_some {α:Type} {a b:Option α} {x:α} (h:a.or b=some x):a=some x∨(a=none∧b=some x):=by
 cases a with
 | none=>exact .inr ⟨rfl,by simpa using h⟩
 | some y=>exact .inl (by simpa using h)
theorem isSome_or {α:Type} {a b:Option α} (h:a.isSome=true∨b.isSome=true):(a.or b).isSome=true:=by
 cases a with
 | none=>simpa using h
 | some y=>rfl
def A6 (d:Nat) (o:aU) (n:Nat):Prop:=o= .inr (nid d 0 0+n)∨o= .ob (nid d 0 0+n)
theorem x5 (d i c:Nat):nid d i c=nid d 0 0+(64*i+c):=by simp only[nid];omega
theorem xq {d i:Nat}:∀ {l:List OT} {c:Nat} {o:aU} {n:Nat},(o,n)∈dI d i c l→A6 d o n
 | [],c,o,n,h=>by simp[dI] at h
 | .val t::r,c,o,n,h=>xq (l:=r) h
 | .row e t::r,c,o,n,h=>by
  simp only[dI,Uk,Prod.mk.injEq] at h
  rcases h with ⟨h,h'⟩ | h
  ·subst h;subst h';exact .inl (by rw[x5])
  ·exact xq (l:=r) h
 | .map e t::r,c,o,n,h=>by
  simp only[dI,Uk,Prod.mk.injEq] at h
  rcases h with ⟨h,h'⟩ | h
  ·subst h;subst h';exact .inr (by rw[x5])
  ·exact xq (l:=r) h
structure ia (G3:Gh) (ρ3:Env) (w':World) (bx:List (Nat×List CV)) (rw:List (Nat×kJ)) (ob:List (Nat×mg)):Prop where
 bx:∀ k cs,look bx k=some cs→ρ3.own (ρ3.bx k)=some (.inl k)∧∃ vs T,w'.heap[ρ3.bx k]? =some (.cells (List.toArray vs) T (0,0))∧ay (aJ G3 ρ3) cs vs
 rw:∀ j q,look rw j=some q→bX G3 ρ3 w' j q
 ob:∀ j q,look ob j=some q→kX G3 ρ3 w' j q
theorem ia.app {a b:List (Nat×List CV)} {c e:List (Nat×kJ)} {f g:List (Nat×mg)} (h:ia G3 ρ3 w' a c f) (k:ia G3 ρ3 w' b e g):ia G3 ρ3 w' (a++b) (c++e) (f++g) where
 bx:=fun i cs hi=>by
  rw[bZ] at hi
  rcases or_some hi with h1 | ⟨_,h1⟩
  ·exact h.bx i cs h1
  ·exact k.bx i cs h1
 rw:=fun i cs hi=>by
  rw[bZ] at hi
  rcases or_some hi with h1 | ⟨_,h1⟩
  ·exact h.rw i cs h1
  ·exact k.rw i cs h1
 ob:=fun i cs hi=>by
  rw[bZ] at hi
  rcases or_some hi with h1 | ⟨_,h1⟩
  ·exact h.ob i cs h1
  ·exact k.ob i cs h1
theorem ia.nil:ia G3 ρ3 w' [] [] []:=⟨fun k cs h=>by simp[look] at h,fun k cs h=>by simp[look] at h,fun k cs h=>by simp[look] at h⟩
theorem Ff {d i k:Nat} {l:List OT} {x:kz l} {v:Value} (hT:Trans G' G3 (nN l)) (h:sI G' w' ow' (64*i) l x v):
 ∃ vals:List (aU×Value),vals.map (·.1)=(dI d i 1 l).map (·.1)∧∀ ρ3:Env,Asg ρ3 w' (.inl k) v→(∀ o v,(o,v)∈vals→Asg ρ3 w' o v)→(∀ o n,(o,n)∈(.inl k,64*i)::dI d i 1 l→∀ b,ow' b=some n→ρ3.own b=some o)→
  ia G3 ρ3 w' [(k,Dv d i 1 l x)] (nO d i 1 l x) (jT d i 1 l x):=by
 obtain⟨b,vs,T,h1,h2,h3,h4⟩:=h
 obtain⟨vals,hv,hr⟩:=Bl (G3:=G3) (d:=d) (i:=i) (c:=1) hT h4
 refine⟨vals,hv,fun ρ3 hk hA hO=> ?_⟩
 obtain⟨g1,g2,g3⟩:=hr ρ3 hA (fun o n h=>hO o n (by simp[h]))
 refine⟨fun k' cs hk'=> ?_,g2,g3⟩
 rw[ai] at hk'
 split at hk'
 ·rename_i ek
  subst ek
  cases hk'
  have hb:b=ρ3.bx k:=by
   rw[h1] at hk
   have hk2:Value.pointer (some ⟨b,0,none⟩)= .pointer (some ⟨ρ3.bx k,0,none⟩):=hk
   cases hk2;rfl
  subst hb
  exact⟨hO (.inl k) (64*i) (by simp) _ h2,vs,T,h3,g1⟩
 ·cases hk'
theorem yg {ps:List PM} {args:List Value} {d:Nat}:∀ {rs:List RM} {c:Nat} {y:cE ps rs} {vs:List Value},Trans G' G3 (gK rs)→kr G' w' ow' ps args c rs y vs→
 me G' w' ow' 0 ps (Bn ps rs y) args∧∃ vals:List (aU×Value),vals.map (·.1)=(dB d c rs).map (·.1)∧(∀ k v,(.inl k,v)∈vals→∃ b,v= .pointer (some ⟨b,0,none⟩))∧∀ ρ3:Env,(∀ o v,(o,v)∈vals→Asg ρ3 w' o v)→(∀ o n,(o,n)∈dB d c rs→∀ b,ow' b=some n→ρ3.own b=some o)→
  ay (fun p=>jr G3 ρ3 p.1 p.2) (vP ps d rs c y) vs∧ia G3 ρ3 w' (nP ps d rs c y) (nQ ps d rs c y) (ji ps d rs c y)
 | [],c,y,vs,_,h=>⟨h.2,[],rfl,fun k v h=>(by simp at h),fun ρ3 _ _=>⟨h.1,ia.nil⟩⟩
 | .val t::r,c,y,vs,hT,⟨v,us,e,hv,hu⟩=>by
  obtain⟨h0,vals,hv',hpt,hr⟩:=yg (d:=d) (rs:=r) (Trans.right (a:=t.flat) hT) hu
  refine⟨h0,vals,hv',hpt,fun ρ3 hA hO=> ?_⟩
  obtain⟨g1,g2⟩:=hr ρ3 hA hO
  subst e
  exact⟨⟨v,us,rfl,xA ρ3 (Trans.I2 (Trans.left (b:=gK r) hT) hv),g1⟩,g2⟩
 | .row e' t::r,c,y,vs,hT,⟨v,us,e,⟨hv,hv2⟩,hu⟩=>by
  obtain⟨h0,vals,hv',hpt,hr⟩:=yg (d:=d) (rs:=r) (Trans.right (a:=t.flat) hT) hu
  refine⟨h0,(.inr (nid d (24+c) 0),v)::vals,by simp[dB,hv'],fun k v h=>hpt k v (by simpa using h),fun ρ3 hA hO=> ?_⟩
  obtain⟨g1,g2⟩:=hr ρ3 (fun o v h=>hA o v (by simp[h])) (fun o n h=>hO o n (by simp[dB,h]))
  have hav:ρ3.rw (nid d (24+c) 0)=v:=hA (.inr (nid d (24+c) 0)) v (by simp)
  subst e
  refine⟨⟨v,us,rfl,⟨hav.symm,hv.isSlice⟩,g1⟩,g2.bx,fun j q hj=> ?_,g2.ob⟩
  simp only[nQ,ai] at hj
  split at hj
  ·rename_i ej
   subst ej
   cases hj
   exact hv.ok (Trans.left (b:=gK r) hT) hav (fun b' hb'=>hO _ _ (by simp[dB]) b' (hv2 b' hb'))
  ·exact g2.rw j q hj
 | .map k' v'::r,c,y,vs,hT,⟨v,us,e,⟨bb,hv,hv1,hv2⟩,hu⟩=>by
  obtain⟨h0,vals,hv',hpt,hr⟩:=yg (d:=d) (rs:=r) (Trans.right (a:=k'.flat&&v'.flat) hT) hu
  refine⟨h0,(.ob (nid d (24+c) 0),v)::vals,by simp[dB,hv'],fun k v h=>hpt k v (by simpa using h),fun ρ3 hA hO=> ?_⟩
  obtain⟨g1,g2⟩:=hr ρ3 (fun o v h=>hA o v (by simp[h])) (fun o n h=>hO o n (by simp[dB,h]))
  subst e;subst hv
  have ho:ρ3.own bb=some (.ob (nid d (24+c) 0)):=hO _ _ (by simp[dB]) bb hv1
  obtain⟨m1,m2⟩:=hv2.ok (Trans.left (b:=gK r) hT) (hA (.ob (nid d (24+c) 0)) (.map (some bb)) (by simp)) ho
  refine⟨⟨_,us,rfl,⟨m2.symm,bb,rfl⟩,g1⟩,g2.bx,g2.rw,fun j q hj=> ?_⟩
  simp only[ji,ai] at hj
  split at hj
  ·rename_i ej
   subst ej
   cases hj
   exact m1
  ·exact g2.ob j q hj
 | .box l::r,c,y,vs,hT,⟨v,us,e,hv,hu⟩=>by
  obtain⟨h0,vals,hv',hpt,hr⟩:=yg (d:=d) (rs:=r) (Trans.right (a:=nN l) hT) hu
  obtain⟨vals2,hv2,hr2⟩:=Ff (G3:=G3) (d:=d) (k:=d) (Trans.left (b:=gK r) hT) hv
  refine⟨h0,((.inl d,v)::vals2)++vals,by simp[dB,hv',hv2],fun k v' h=> ?_,fun ρ3 hA hO=> ?_⟩
  ·rcases Uh.1 h with h | h
   ·rcases Uk.1 h with h | h
    ·cases h
     obtain⟨b,_,_,e1,_⟩:=hv
     exact⟨b,e1⟩
    ·have hm:(.inl k:aU)∈vals2.map (·.1):=Up.2 ⟨_,h,rfl⟩
     rw[hv2] at hm
     obtain⟨p,hp,e1⟩:=Up.1 hm
     obtain⟨p1,p2⟩:=p
     simp only at e1
     subst e1
     exact absurd hp ((rN (x:=y.1)).2.2 k p2)
   ·exact hpt k v' h
  obtain⟨g1,g2⟩:=hr ρ3 (fun o v h=>hA o v (by simp[h])) (fun o n h=>hO o n (by simp[dB,h]))
  have g3:=hr2 ρ3 (hA (.inl d) v (by simp)) (fun o v h=>hA o v (by simp[h])) (fun o n h=>hO o n (by
   simp only[Uk] at h
   simp only[dB,Tx,Uk,Uh]
   rcases h with h | h
   ·exact .inl h
   ·exact .inr (.inl h)))
  subst e
  exact⟨⟨v,us,rfl,hA (.inl d) v (by simp),g1⟩,g3.app g2⟩
theorem Pk {s:SV} {v:Value} {j:Option Nat} (h:Du s=some j) (hv:bf G ρ s v):match j with | some j=>v=ρ.rw j | none=>v= .slice none 0 0:=by
 unfold Du at h
 split at h
 ·cases h;exact hv.1
 ·cases h;exact hv
 ·cases h
theorem JE {s:SV} {v:Value} {k:Nat} (h:mu s=some k) (hv:bf G ρ s v):v= .pointer (some ⟨ρ.bx k,0,none⟩):=by
 unfold mu at h
 split at h
 ·split at h
  ·rename_i hb
   cases h
   have:=UW hb
   subst this
   exact hv
  ·cases h
 ·cases h
theorem Pj {s:SV} {v:Value} {j:Nat} (h:Dt s=some j) (hv:bf G ρ s v):v=ρ.ob j:=by
 unfold Dt at h
 split at h
 ·cases h;exact hv.1
 ·cases h
def Old (ρ:Env):aU→Value→Prop
 | .inl k,v=>v= .pointer (some ⟨ρ.bx k,0,none⟩)
 | .inr j,v=>ρ.rw j=v
 | .ob j,v=>∀ b,v= .map (some b)→ρ.ob j= .map (some b)
theorem CJ {s:SV} {q:List SV} {vs:List Value} (h:ay (bf G ρ) (s::q) vs) {v:Value} (hv:vs.head? =some v):bf G ρ s v∧ay (bf G ρ) q vs.tail:=by
 obtain⟨u,us,e,h1,h2⟩:=h
 subst e
 cases hv
 exact⟨h1,h2⟩
theorem Jn {s:SV} {q:List SV} {vs:List Value} (h:ay (bf G ρ) (s::q) vs):ay (bf G ρ) q vs.tail:=by
 obtain⟨u,us,e,h1,h2⟩:=h
 subst e
 exact h2
theorem sg {d:Nat} (hh3:G3.hnd=G'.hnd):∀ {ps:List PM} {args:List SV} {i:Nat} {y:dP ps} {vs:List Value},Trans G' G3 (fU ps)→me G' w' ow' i ps y vs→ay (bf G ρ) args vs→
 ∃ vals:List (aU×Value),vals.map (·.1)=(bR d i ps args).map (·.1)∧(∀ o v,(o,v)∈vals→Old ρ o v∨∃ n,(o,n)∈bR d i ps args∧A6 d o n)∧∀ ρ3:Env,(∀ o v,(o,v)∈vals→Asg ρ3 w' o v)→(∀ o n,(o,n)∈bR d i ps args→∀ b,ow' b=some n→ρ3.own b=some o)→
  ia G3 ρ3 w' (cZ d i ps args y) (fC d i ps args y) (cS d i ps args y)
 | [],args,i,y,vs,_,h,hv=>⟨[],rfl,fun o v h=>by simp at h,fun ρ3 _ _=>ia.nil⟩
 | .val t::r,[],i,y,vs,_,_,hv=>⟨[],rfl,fun o v h=>by simp at h,fun ρ3 _ _=>ia.nil⟩
 | .row e t::r,[],i,y,vs,_,_,hv=>⟨[],rfl,fun o v h=>by simp at h,fun ρ3 _ _=>ia.nil⟩
 | .mrow e t::r,[],i,y,vs,_,_,hv=>⟨[],rfl,fun o v h=>by simp at h,fun ρ3 _ _=>ia.nil⟩
 | .map e t::r,[],i,y,vs,_,_,hv=>⟨[],rfl,fun o v h=>by simp at h,fun ρ3 _ _=>ia.nil⟩
 | .box l::r,[],i,y,vs,_,_,hv=>⟨[],rfl,fun o v h=>by simp at h,fun ρ3 _ _=>ia.nil⟩
 | .val t::r,s::q,i,y,vs,hT,h,hv=>sg hh3 (ps:=r) (by simpa [fU] using hT) h (Jn hv)
 | .row e t::r,s::q,i,y,vs,hT,h,hv=>sg hh3 (ps:=r) (by simpa [fU] using hT) h (Jn hv)
 | .arR t::r,q,i,y,vs,hT,h,hv=>by
  have:=sg (d:=d) hh3 (ps:=r) (args:=q) (i:=i+1) (y:=y) (by simpa [fU] using hT) h hv
  cases q<;>exact this
 | .ar t::r,q,i,y,vs,hT,⟨h1,h2⟩,hv=>by
  obtain⟨vals,hv',hold,hr⟩:=sg (d:=d) hh3 (ps:=r) (args:=q) (i:=i+1) (y:=y.2) (Trans.right (a:=t.flat) hT) h2 hv
  have e1:bR d i (.ar t::r) q=(.ob bq,64*i)::bR d (i+1) r q:=by cases q<;>rfl
  have e2:cZ d i (.ar t::r) q y=cZ d (i+1) r q y.2:=by cases q<;>rfl
  have e3:fC d i (.ar t::r) q y=fC d (i+1) r q y.2:=by cases q<;>rfl
  have e4:cS d i (.ar t::r) q y=(bq,.ar false t y.1)::cS d (i+1) r q y.2:=by cases q<;>rfl
  rw[e1,e2,e3,e4]
  refine⟨(.ob bq,undef)::vals,by simp[hv'],fun o v h=> ?_,fun ρ3 hA hO=> ?_⟩
  ·rcases Uk.1 h with h | h
   ·cases h;exact .inl fun b e=>by cases e
   ·exact (hold o v h).imp id fun ⟨n,h1,h2⟩=>⟨n,by simp[h1],h2⟩
  ·have g:=hr ρ3 (fun o v h=>hA o v (by simp[h])) (fun o n h=>hO o n (by simp[h]))
   refine⟨g.bx,g.rw,fun j q' hj=> ?_⟩
   simp only[ai] at hj
   split at hj
   ·rename_i ej
    subst ej
    cases hj
    refine⟨rfl,fun i b hb=>h1.1 i b (by rw[← hh3];exact hb),fun i i' b hb hb'=>h1.2.1 i i' b (by rw[← hh3];exact hb) (by rw[← hh3];exact hb'),fun n z hz=> ?_⟩
    obtain⟨b,ws,T,f1,f2,f3,f4,f5⟩:=h1.2.2 n z hz
    exact⟨b,ws,T,by rw[hh3];exact f1,nofun,fun _=>hO _ _ (by simp) b (f3 rfl),f4,Trans.RV (Trans.left (b:=fU r) hT) f5⟩
   ·exact g.ob j q' hj
 | .mrow e t::r,s::q,i,y,vs,hT,⟨⟨v,h0,h1,h1'⟩,h2⟩,hv=>by
  obtain⟨hs,hq⟩:=CJ hv h0
  obtain⟨vals,hv',hold,hr⟩:=sg (d:=d) hh3 (ps:=r) (args:=q) (i:=i+1) (y:=y.2) (Trans.right (a:=t.flat) hT) h2 hq
  simp only[bR,cZ,fC,cS]
  cases ho:Du s with
  | none=>simpa using ⟨vals,hv',hold,hr⟩
  | some jo=>
   cases jo with
   | none=>simpa using ⟨vals,hv',hold,hr⟩
   | some j=>
    have hvj:v=ρ.rw j:=Pk ho hs
    refine⟨(.inr j,v)::vals,by simp[hv'],fun o v' h=> ?_,fun ρ3 hA hO=> ?_⟩
    ·rcases Uk.1 h with h | h
     ·cases h;exact .inl hvj.symm
     ·exact (hold o v' h).imp id fun ⟨n,h1,h2⟩=>⟨n,by simp[h1],h2⟩
    ·have g:=hr ρ3 (fun o v h=>hA o v (by simp[h])) (fun o n h=>hO o n (by simp[h]))
     refine⟨g.bx,fun j' q' hj=> ?_,g.ob⟩
     simp only[Tx,Ux,ai] at hj
     split at hj
     ·rename_i ej
      subst ej
      cases hj
      exact h1.ok (Trans.left (b:=fU r) hT) (hA (.inr j) v (by simp)) (fun b' hb'=>hO _ _ (by simp) b' (h1' b' hb'))
     ·exact g.rw j' q' hj
 | .map kk vv::r,s::q,i,y,vs,hT,⟨⟨bb,h0,h1,h1'⟩,h2⟩,hv=>by
  obtain⟨hs,hq⟩:=CJ hv h0
  obtain⟨vals,hv',hold,hr⟩:=sg (d:=d) hh3 (ps:=r) (args:=q) (i:=i+1) (y:=y.2) (Trans.right (a:=kk.flat&&vv.flat) hT) h2 hq
  simp only[bR,cZ,fC,cS]
  cases ho:Dt s with
  | none=>simpa using ⟨vals,hv',hold,hr⟩
  | some j=>
   have hvj:Value.map (some bb)=ρ.ob j:=Pj ho hs
   refine⟨(.ob j,.map (some bb))::vals,by simp[hv'],fun o v' h=> ?_,fun ρ3 hA hO=> ?_⟩
   ·rcases Uk.1 h with h | h
    ·cases h;exact .inl fun b e=>by rw[← hvj,e]
    ·exact (hold o v' h).imp id fun ⟨n,h1,h2⟩=>⟨n,by simp[h1],h2⟩
   ·have g:=hr ρ3 (fun o v h=>hA o v (by simp[h])) (fun o n h=>hO o n (by simp[h]))
    have hob:ρ3.own bb=some (.ob j):=hO _ _ (by simp) bb h1
    obtain⟨m1,m2⟩:=h1'.ok (Trans.left (b:=fU r) hT) (hA (.ob j) (.map (some bb)) (by simp)) hob
    refine⟨g.bx,g.rw,fun j' q' hj=> ?_⟩
    simp only[Tx,Ux,ai] at hj
    split at hj
    ·rename_i ej
     subst ej
     cases hj
     exact m1
    ·exact g.ob j' q' hj
 | .box l::r,s::q,i,y,vs,hT,⟨⟨v,h0,h1⟩,h2⟩,hv=>by
  obtain⟨hs,hq⟩:=CJ hv h0
  obtain⟨vals,hv',hold,hr⟩:=sg (d:=d) hh3 (ps:=r) (args:=q) (i:=i+1) (y:=y.2) (Trans.right (a:=nN l) hT) h2 hq
  simp only[bR,cZ,fC,cS]
  cases ho:mu s with
  | none=>
   simpa using ⟨vals,hv',hold,hr⟩
  | some k=>
   have hvk:=JE ho hs
   obtain⟨vals2,hv2,hr2⟩:=Ff (G3:=G3) (d:=d) (k:=k) (Trans.left (b:=fU r) hT) h1
   refine⟨((.inl k,v)::vals2)++vals,by simp[hv',hv2],fun o v' h=> ?_,fun ρ3 hA hO=> ?_⟩
   ·rcases Uh.1 h with h | h
    ·rcases Uk.1 h with h | h
     ·cases h;exact .inl hvk
     ·right
      have hm:o∈vals2.map (·.1):=Up.2 ⟨_,h,rfl⟩
      rw[hv2] at hm
      obtain⟨p,hp,e⟩:=Up.1 hm
      refine⟨p.2, ?_,by rw[← e];exact xq (n:=p.2) hp⟩
      rw[← e]
      simp[hp]
    ·exact (hold o v' h).imp id fun ⟨n,h1,h2⟩=>⟨n,by simp[h1],h2⟩
   ·have g:=hr ρ3 (fun o v h=>hA o v (by simp[h])) (fun o n h=>hO o n (by simp[h]))
    have g3:=hr2 ρ3 (hA (.inl k) v (by simp)) (fun o v h=>hA o v (by simp[h])) (fun o n h=>hO o n (by
     simp only[Uk] at h
     simp only[Tx,Uk,Uh]
     rcases h with h | h
     ·exact .inl h
     ·exact .inr (.inl h)))
    exact g3.app g
end
theorem nV {d:Nat}:∀ {ps:List PM} {args:List SV} {i:Nat} {y:dP ps},(∀ j n,(.inr j,n)∈bR d i ps args→(look (fC d i ps args y) j).isSome=true)∧(∀ j n,(.ob j,n)∈bR d i ps args→(look (cS d i ps args y) j).isSome=true)∧
 (∀ k n,(.inl k,n)∈bR d i ps args→(look (cZ d i ps args y) k).isSome=true)
 | [],args,i,y=>⟨fun j n h=>by simp[bR] at h,fun j n h=>by simp[bR] at h,fun j n h=>by simp[bR] at h⟩
 | .val t::r,[],i,y=>⟨fun j n h=>by simp[bR] at h,fun j n h=>by simp[bR] at h,fun j n h=>by simp[bR] at h⟩
 | .row e t::r,[],i,y=>⟨fun j n h=>by simp[bR] at h,fun j n h=>by simp[bR] at h,fun j n h=>by simp[bR] at h⟩
 | .mrow e t::r,[],i,y=>⟨fun j n h=>by simp[bR] at h,fun j n h=>by simp[bR] at h,fun j n h=>by simp[bR] at h⟩
 | .map e t::r,[],i,y=>⟨fun j n h=>by simp[bR] at h,fun j n h=>by simp[bR] at h,fun j n h=>by simp[bR] at h⟩
 | .box l::r,[],i,y=>⟨fun j n h=>by simp[bR] at h,fun j n h=>by simp[bR] at h,fun j n h=>by simp[bR] at h⟩
 | .val t::r,s::q,i,y=>nV (ps:=r) (args:=q) (i:=i+1)
 | .row e t::r,s::q,i,y=>nV (ps:=r) (args:=q) (i:=i+1)
 | .arR t::r,q,i,y=>by
  have:=nV (d:=d) (ps:=r) (args:=q) (i:=i+1) (y:=y)
  cases q<;>exact this
 | .ar t::r,q,i,y=>by
  obtain⟨h1,h2,h3⟩:=nV (d:=d) (ps:=r) (args:=q) (i:=i+1) (y:=y.2)
  have e1:bR d i (.ar t::r) q=(.ob bq,64*i)::bR d (i+1) r q:=by cases q<;>rfl
  have e2:cZ d i (.ar t::r) q y=cZ d (i+1) r q y.2:=by cases q<;>rfl
  have e3:fC d i (.ar t::r) q y=fC d (i+1) r q y.2:=by cases q<;>rfl
  have e4:cS d i (.ar t::r) q y=(bq,.ar false t y.1)::cS d (i+1) r q y.2:=by cases q<;>rfl
  rw[e1,e2,e3,e4]
  refine⟨fun j n h=>h1 j n (by simpa using h),fun j n h=> ?_,fun k n h=>h3 k n (by simpa using h)⟩
  rw[ai]
  split
  ·rfl
  ·rename_i hne
   rcases Uk.1 h with h | h
   ·cases h;exact absurd rfl hne
   ·exact h2 j n h
 | .mrow e t::r,s::q,i,y=>by
  obtain⟨h1,h2,h3⟩:=nV (d:=d) (ps:=r) (args:=q) (i:=i+1) (y:=y.2)
  simp only[bR,cZ,fC,cS]
  refine⟨fun j n h=> ?_,fun j n h=> ?_,fun k n h=> ?_⟩
  ·rw[bZ]
   rcases Uh.1 h with h | h
   ·apply isSome_or;left
    split at h
    ·rename_i j' hj
     simp only[Uv,Prod.mk.injEq,aU.inr.injEq] at h
     simp[ai,h.1]
    ·simp at h
   ·exact isSome_or (.inr (h1 j n h))
  ·rcases Uh.1 h with h | h
   ·split at h<;>simp at h
   ·exact h2 j n h
  ·rcases Uh.1 h with h | h
   ·split at h<;>simp at h
   ·exact h3 k n h
 | .map e t::r,s::q,i,y=>by
  obtain⟨h1,h2,h3⟩:=nV (d:=d) (ps:=r) (args:=q) (i:=i+1) (y:=y.2)
  simp only[bR,cZ,fC,cS]
  refine⟨fun j n h=> ?_,fun j n h=> ?_,fun k n h=> ?_⟩
  ·rcases Uh.1 h with h | h
   ·split at h<;>simp at h
   ·exact h1 j n h
  ·rw[bZ]
   rcases Uh.1 h with h | h
   ·apply isSome_or;left
    split at h
    ·rename_i j' hj
     simp only[Uv,Prod.mk.injEq,aU.ob.injEq] at h
     simp[ai,h.1]
    ·simp at h
   ·exact isSome_or (.inr (h2 j n h))
  ·rcases Uh.1 h with h | h
   ·split at h<;>simp at h
   ·exact h3 k n h
 | .box l::r,s::q,i,y=>by
  obtain⟨h1,h2,h3⟩:=nV (d:=d) (ps:=r) (args:=q) (i:=i+1) (y:=y.2)
  obtain⟨g1,g2,g3⟩:=rN (d:=d) (i:=i) (l:=l) (c:=1) (x:=y.1)
  simp only[bR,cZ,fC,cS]
  refine⟨fun j n h=> ?_,fun j n h=> ?_,fun k n h=> ?_⟩
  ·rw[bZ]
   rcases Uh.1 h with h | h
   ·apply isSome_or;left
    split at h
    ·simp only[Uk,Prod.mk.injEq,reduceCtorEq,VC,VD] at h
     exact g1 j n h
    ·simp at h
   ·exact isSome_or (.inr (h1 j n h))
  ·rw[bZ]
   rcases Uh.1 h with h | h
   ·apply isSome_or;left
    split at h
    ·simp only[Uk,Prod.mk.injEq,reduceCtorEq,VC,VD] at h
     exact g2 j n h
    ·simp at h
   ·exact isSome_or (.inr (h2 j n h))
  ·rw[bZ]
   rcases Uh.1 h with h | h
   ·apply isSome_or;left
    split at h
    ·rename_i k' hk'
     rcases Uk.1 h with h | h
     ·cases h;simp[ai]
     ·exact absurd h (g3 k n)
    ·simp at h
   ·exact isSome_or (.inr (h3 k n h))
theorem sD {ps:List PM} {d:Nat}:∀ {rs:List RM} {c:Nat} {y:cE ps rs},(∀ j n,(.inr j,n)∈dB d c rs→(look (nQ ps d rs c y) j).isSome=true)∧(∀ j n,(.ob j,n)∈dB d c rs→(look (ji ps d rs c y) j).isSome=true)∧
 (∀ k n,(.inl k,n)∈dB d c rs→k=d∧0<x4 rs∧(look (nP ps d rs c y) k).isSome=true)
 | [],c,y=>⟨fun j n h=>by simp[dB] at h,fun j n h=>by simp[dB] at h,fun j n h=>by simp[dB] at h⟩
 | .val t::r,c,y=>sD (rs:=r) (c:=c+1) (y:=y.2)
 | .row e t::r,c,y=>by
  obtain⟨h1,h2,h3⟩:=sD (ps:=ps) (d:=d) (rs:=r) (c:=c+1) (y:=y.2)
  simp only[dB,nQ,ji,nP,x4,Uk,Prod.mk.injEq,aU.inr.injEq,reduceCtorEq,VC,VD]
  refine⟨fun j n h=> ?_,h2,h3⟩
  rw[ai]
  rcases h with ⟨h,_⟩ | h
  ·simp[h]
  ·split
   ·rfl
   ·exact h1 j n h
 | .map e t::r,c,y=>by
  obtain⟨h1,h2,h3⟩:=sD (ps:=ps) (d:=d) (rs:=r) (c:=c+1) (y:=y.2)
  simp only[dB,nQ,ji,nP,x4,Uk,Prod.mk.injEq,aU.ob.injEq,reduceCtorEq,VC,VD]
  refine⟨h1,fun j n h=> ?_,h3⟩
  rw[ai]
  rcases h with ⟨h,_⟩ | h
  ·simp[h]
  ·split
   ·rfl
   ·exact h2 j n h
 | .box l::r,c,y=>by
  obtain⟨h1,h2,h3⟩:=sD (ps:=ps) (d:=d) (rs:=r) (c:=c+1) (y:=y.2)
  obtain⟨g1,g2,g3⟩:=rN (d:=d) (i:=24+c) (l:=l) (c:=1) (x:=y.1)
  simp only[dB,nQ,ji,nP,x4,Tx,Uk,Uh,Prod.mk.injEq,aU.inl.injEq,reduceCtorEq,VC,VD]
  refine⟨fun j n h=> ?_,fun j n h=> ?_,fun k n h=> ?_⟩
  ·rw[bZ]
   rcases h with h | h
   ·exact isSome_or (.inl (g1 j n h))
   ·exact isSome_or (.inr (h1 j n h))
  ·rw[bZ]
   rcases h with h | h
   ·exact isSome_or (.inl (g2 j n h))
   ·exact isSome_or (.inr (h2 j n h))
  ·rcases h with ⟨h,_⟩ | h | h
   ·subst h;exact⟨rfl,by omega,by simp[ai]⟩
   ·exact absurd h (g3 k n)
   ·obtain⟨e,_,hk⟩:=h3 k n h
    refine⟨e,by omega, ?_⟩
    rw[ai]
    split
    ·rfl
    ·exact hk
theorem DB {d:Nat}:∀ {rs:List RM} {c:Nat} {o:aU} {n:Nat},(o,n)∈dB d c rs→o= .inl d∨A6 d o n
 | [],c,o,n,h=>by simp[dB] at h
 | .val t::r,c,o,n,h=>DB (rs:=r) h
 | .row e t::r,c,o,n,h=>by
  simp only[dB,Uk,Prod.mk.injEq] at h
  rcases h with ⟨h,h'⟩ | h
  ·subst h;subst h';exact .inr (.inl (by rw[x5];rfl))
  ·exact DB (rs:=r) h
 | .map e t::r,c,o,n,h=>by
  simp only[dB,Uk,Prod.mk.injEq] at h
  rcases h with ⟨h,h'⟩ | h
  ·subst h;subst h';exact .inr (.inr (by rw[x5];rfl))
  ·exact DB (rs:=r) h
 | .box l::r,c,o,n,h=>by
  simp only[dB,Tx,Uk,Uh,Prod.mk.injEq] at h
  rcases h with ⟨h,_⟩ | h | h
  ·exact .inl h
  ·exact .inr (xq h)
  ·exact DB (rs:=r) h
end Go.Dn
namespace Go.Dn
variable {β:Type} {X:Cx} {o:Oper} {S:St} {r:β} {P0:Program} {C:Fr P0} {G:Gh} {ρ:Env} {w:World}
theorem IB {a b j:Nat} (h1:a≤j) (h2:j<b) (c:CV):c.aT j=true∨c.br j=true∨c.aW j=true→c.gT a b=true:=by
 have hb:∀ i,Nat.beq i j=true→(Nat.ble a i&&Nat.blt i b)=true:=fun i hi=>by
  have:=UW hi
  subst this
  simp only[SX]
  exact⟨Nat.ble_eq_true_of_le h1,by simpa using h2⟩
 intro h
 cases c<;>simp only[CV.aT,CV.br,CV.aW,CV.gT] at h ⊢ <;>first
  | (rcases h with h | h | h<;>first | exact hb _ h | cases h)
theorem NK {S:St} {a b j:Nat} (h:S.gT a b=false) (h1:a≤j) (h2:j<b):S.aT j=false∧S.br j=false∧S.aW j=false:=by
 simp only[St.gT,Te,Tr] at h
 have sv:∀ s,s∈S.tmps→s.aT j=false∧s.br j=false∧s.aW j=false:=fun s hs=>by
  have hn:=h.1 s hs
  cases s with
  | v a' cs=>
   simp only[SV.gT,Tt,VK,VJ] at hn
   have key:∀ c,c∈cs→¬ (c.aT j=true∨c.br j=true∨c.aW j=true):=fun c hc hx=>hn c hc (IB h1 h2 c hx)
   simp only[SV.aT,SV.br,SV.aW,Tr]
   exact⟨fun c hc e=>key c hc (.inl e),fun c hc e=>key c hc (.inr (.inl e)),fun c hc e=>key c hc (.inr (.inr e))⟩
  | tup l=>
   simp only[SV.gT,Tt,VK,VJ] at hn
   have key:∀ p,p∈l→∀ c,c∈p.2→¬ (c.aT j=true∨c.br j=true∨c.aW j=true):=fun p hp c hc hx=>hn p hp c hc (IB h1 h2 c hx)
   simp only[SV.aT,SV.br,SV.aW,Tr,Tt,VK,VJ]
   exact⟨fun p hp c hc e=>key p hp c hc (.inl e),fun p hp c hc e=>key p hp c hc (.inr (.inl e)),fun p hp c hc e=>key p hp c hc (.inr (.inr e))⟩
 have bv:∀ p,p∈S.boxes→∀ c,c∈p.2→¬ (c.aT j=true∨c.br j=true∨c.aW j=true):=fun p hp c hc hx=>by
  have hn:=h.2 p hp
  simp only[Tt,VK,VJ] at hn
  exact hn c hc (IB h1 h2 c hx)
 simp only[St.aT,St.br,St.aW,Te,Tr,Tt,VK,VJ]
 exact⟨⟨fun s hs=>by simp[(sv s hs).1],fun p hp c hc e=>bv p hp c hc (.inl e)⟩,⟨fun s hs=>by simp[(sv s hs).2.1],fun p hp c hc e=>bv p hp c hc (.inr (.inl e))⟩,⟨fun s hs=>by simp[(sv s hs).2.2],fun p hp c hc e=>bv p hp c hc (.inr (.inr e))⟩⟩
theorem Rf {ρ ρ':Env} (hb:∀ k,S.bN k=true→ρ'.bx k=ρ.bx k) (hr:∀ k,S.aT k=true→ρ'.rw k=ρ.rw k) (ho:∀ k,S.br k=true→ρ'.ob k=ρ.ob k) (hs:∀ k,S.aW k=true→ρ'.st k=ρ.st k):S.dO ρ ρ':=by
 have inT:∀ s,s∈S.tmps→∀ c,(∀ f:CV→Bool,f c=true→(match s with | .v _ cs=>cs.any f | .tup l=>l.any fun p=>p.2.any f)=true)→c.dO ρ ρ':=fun s hs' c hc=>
  ⟨fun k hk=>hb k (by
    simp only[St.bN,Tf,Tt];left
    refine⟨s,hs', ?_⟩
    have:=hc (CV.bN k) hk
    cases s<;>exact this),
   fun k hk=>hr k (by
    simp only[St.aT,Tf,Tt];left
    refine⟨s,hs', ?_⟩
    have:=hc (CV.aT k) hk
    cases s<;>exact this),
   fun k hk=>ho k (by
    simp only[St.br,Tf,Tt];left
    refine⟨s,hs', ?_⟩
    have:=hc (CV.br k) hk
    cases s<;>exact this),
   fun k hk=>hs k (by
    simp only[St.aW,Tf,Tt];left
    refine⟨s,hs', ?_⟩
    have:=hc (CV.aW k) hk
    cases s<;>exact this)⟩
 refine⟨fun s hs'=> ?_,fun p hp c hc=>⟨fun k hk=>hb k ?_,fun k hk=>hr k ?_,fun k hk=>ho k ?_,fun k hk=>hs k ?_⟩⟩
 ·cases s with
  | v a cs=>exact fun c hc=>inT _ hs' c fun f hf=>by simp only[Tt];exact⟨c,hc,hf⟩
  | tup l=>exact fun p hp c hc=>inT _ hs' c fun f hf=>by simp only[Tt];exact⟨p,hp,c,hc,hf⟩
 ·simp only[St.bN,Tf,Tt];exact .inr ⟨p,hp,c,hc,hk⟩
 ·simp only[St.aT,Tf,Tt];exact .inr ⟨p,hp,c,hc,hk⟩
 ·simp only[St.br,Tf,Tt];exact .inr ⟨p,hp,c,hc,hk⟩
 ·simp only[St.aW,Tf,Tt];exact .inr ⟨p,hp,c,hc,hk⟩
def bY:List (aU×Value)→aU→Option Value
 | [],_=>none
 | (o,n)::r,x=>if o=x then some n else bY r x
theorem zb {l:List (aU×Value)} {o:aU} {v:Value} (h:bY l o=some v):(o,v)∈l:=by
 induction l with
 | nil=>simp[bY] at h
 | cons p r ih=>
  obtain⟨o',n'⟩:=p
  simp only[bY] at h
  split at h
  ·rename_i e;cases h;subst e;simp
  ·exact Ul _ (ih h)
theorem Dm {l:List (aU×Value)} {its:List (aU×Nat)} (he:l.map (·.1)=its.map (·.1)) (hd:tY its=false) {o:aU} {v:Value} (h:(o,v)∈l):bY l o=some v:=by
 induction l generalizing its with
 | nil=>simp at h
 | cons p r ih=>
  cases its with
  | nil=>simp at he
  | cons q its=>
   obtain⟨o',v'⟩:=p
   obtain⟨o2,n2⟩:=q
   simp only[Uf,List.cons.injEq] at he
   obtain⟨e1,e2⟩:=he
   subst e1
   simp only[tY,Te] at hd
   simp only[bY]
   rcases Uk.1 h with h | h
   ·cases h;simp
   ·split
    ·rename_i e
     subst e
     have hm:o'∈its.map (·.1):=by rw[← e2];exact Up.2 ⟨_,h,rfl⟩
     obtain⟨x,hx,ex⟩:=Up.1 hm
     have:=Bc (l:=its) (o:=o') (n:=x.2) (by rw[← ex];exact hx)
     rw[hd.1] at this;cases this
    ·exact ih e2 hd.2 h
theorem Bg {l:List (aU×Value)} {its:List (aU×Nat)} (he:l.map (·.1)=its.map (·.1)) {o:aU} (h:bY l o≠none):∃ n,(o,n)∈its:=by
 cases hv:bY l o with
 | none=>exact absurd hv h
 | some v=>
  have hm:o∈its.map (·.1):=by rw[← he];exact Up.2 ⟨_,zb hv,rfl⟩
  obtain⟨x,hx,ex⟩:=Up.1 hm
  exact⟨x.2,by rw[← ex];exact hx⟩
def kS:List (aU×Nat)→Nat→Option aU
 | [],_=>none
 | (o,n)::r,x=>if n=x then some o else kS r x
theorem tZ {l:List (aU×Nat)} (hd:dup (l.map (·.2))=false) {o:aU} {n:Nat} (h:(o,n)∈l):kS l n=some o:=by
 induction l with
 | nil=>simp at h
 | cons p r ih=>
  obtain⟨o',n'⟩:=p
  rw[Uf] at hd
  obtain⟨h1,h2⟩:=rG hd
  simp only[kS]
  rcases Uk.1 h with h | h
  ·cases h;simp
  ·split
   ·rename_i e;subst e;exact absurd (Up.2 ⟨(o,n'),h,rfl⟩) h1
   ·exact ih h2 h
theorem mo {α:Type} (f:Nat→Bool):∀ (l:List (Nat×α)) (i:Nat),look (l.filter fun p=>f p.1) i=if f i=true then look l i else none
 | [],i=>by simp[look]
 | (j,y)::r,i=>by
  have ih:=mo f r i
  cases hU:f j with
  | false=>
   have:(List.filter (fun p:Nat×α=>f p.1) ((j,y)::r))=r.filter fun p=>f p.1:=by simp[hU]
   rw[this,ih,ai]
   by_cases e:j=i
   ·subst e;simp[hU]
   ·simp[e]
  | true=>
   have:(List.filter (fun p:Nat×α=>f p.1) ((j,y)::r))=(j,y)::r.filter fun p=>f p.1:=by simp[hU]
   rw[this,ai,ai,ih]
   by_cases e:j=i
   ·subst e;simp[hU]
   ·simp[e]
def zi (w:World) (v:Value) (i:Nat):Int:=
 match v with
 | .map (some b)=>match w.heap[b]? with
  | some (.map es _)=>((es.toList[i]?).map fun e=>(e.born:Int)).getD 0
  | _=>0
 | _=>0
def DM:Value→Nat
 | .pointer (some ⟨b,_,_⟩)=>b
 | _=>0
theorem E1 (S:St) (js:List Nat):∀ (i:Nat) (ps:List PM) (args:List SV),dX (aB S js) i ps args=dX S i ps args
 | _,[],_=>rfl
 | i,p::r,l=>by
  have h1:∀ s,ir (aB S js) i p s=ir S i p s:=fun s=>by cases p<;>rfl
  simp only[dX,E1 S js (i+1) r,h1]
theorem Pe {d n:Nat} (hd:d<2000) (hn:n<2048):nid d 0 0+n<10000000:=by simp only[nid];omega
theorem JG {S:St}:∀ {ps:List PM} {args:List SV} {i:Nat},gV ps=true→∃ n,(.ob bq,n)∈dX S i ps args
 | [],args,i,h=>by simp[gV] at h
 | p::r,args,i,h=>by
  simp only[dX,Uh]
  cases p with
  | ar t=>exact⟨64*i,.inl (by simp[PM.arg,ir])⟩
  | _=>
   obtain⟨n,hn⟩:=JG (S:=S) (ps:=r) (args:=(bif PM.arg _ then args.tail else args)) (i:=i+1) h
   exact⟨n,.inr hn⟩
theorem JH {V:St} {fb:List Nat}:∀ {ps:List PM} {args:List SV} {x:ew ps},gj V fb ps args=some x→gV ps=true→∃ t l,look V.objs bq=some (.ar false t l)
 | [],args,x,h,ha=>by simp[gV] at ha
 | p::r,args,x,h,ha=>by
  simp only[gj] at h
  split at h
  ·rename_i s hs
   split at h
   ·rename_i y hy
    split at h
    ·rename_i z hz
     cases p with
     | ar t=>
      obtain⟨f,hl,hf⟩:=oW (show qO V false t=some y from hy)
      have:=hf rfl
      subst this
      exact⟨_,_,hl⟩
     | _=>exact JH hz ha
    ·cases h
   ·cases h
  ·cases h
theorem p9 {d i:Nat}:∀ {l:List OT} {c:Nat} {x:kz l} {j:Nat} {q:mg},look (jT d i c l x) j=some q→∃ k v l,q= .map k v l
 | [],c,x,j,q,h=>by simp[jT,look] at h
 | .val _::r,c,x,j,q,h=>p9 (l:=r) h
 | .row _ _::r,c,x,j,q,h=>p9 (l:=r) h
 | .map k v::r,c,x,j,q,h=>by
  simp only[jT,ai] at h
  split at h
  ·cases h;exact⟨_,_,_,rfl⟩
  ·exact p9 (l:=r) h
theorem s5 {ps:List PM} {d:Nat}:∀ {rs:List RM} {c:Nat} {y:cE ps rs} {j:Nat} {q:mg},look (ji ps d rs c y) j=some q→∃ k v l,q= .map k v l
 | [],c,y,j,q,h=>by simp[ji,look] at h
 | .val _::r,c,y,j,q,h=>s5 (rs:=r) h
 | .row _ _::r,c,y,j,q,h=>s5 (rs:=r) h
 | .map k v::r,c,y,j,q,h=>by
  simp only[ji,ai] at h
  split at h
  ·cases h;exact⟨_,_,_,rfl⟩
  ·exact s5 (rs:=r) h
 | .box l::r,c,y,j,q,h=>by
  simp only[ji,bZ] at h
  rcases or_some h with h | ⟨_,h⟩
  ·exact p9 h
  ·exact s5 (rs:=r) h
theorem mV {d:Nat}:∀ {ps:List PM} {args:List SV} {i:Nat} {y:dP ps} {j:Nat} {q:mg},gV ps=false→look (cS d i ps args y) j=some q→∃ k v l,q= .map k v l
 | [],args,i,y,j,q,_,h=>by simp[cS,look] at h
 | .val _::r,[],i,y,j,q,_,h=>by simp[cS,look] at h
 | .row _ _::r,[],i,y,j,q,_,h=>by simp[cS,look] at h
 | .mrow _ _::r,[],i,y,j,q,_,h=>by simp[cS,look] at h
 | .map _ _::r,[],i,y,j,q,_,h=>by simp[cS,look] at h
 | .box _::r,[],i,y,j,q,_,h=>by simp[cS,look] at h
 | .val _::r,s::t,i,y,j,q,ha,h=>mV (ps:=r) (args:=t) ha h
 | .row _ _::r,s::t,i,y,j,q,ha,h=>mV (ps:=r) (args:=t) ha h
 | .mrow _ _::r,s::t,i,y,j,q,ha,h=>mV (ps:=r) (args:=t) ha h
 | .arR _::r,t,i,y,j,q,ha,h=>mV (d:=d) (ps:=r) (args:=t) (i:=i+1) (y:=y) (j:=j) ha (by cases t<;>exact h)
 | .ar _::r,t,i,y,j,q,ha,h=>by simp[gV] at ha
 | .map k v::r,s::t,i,y,j,q,ha,h=>by
  simp only[cS,bZ] at h
  rcases or_some h with h | ⟨_,h⟩
  ·split at h
   ·simp only[ai] at h
    split at h
    ·cases h;exact⟨_,_,_,rfl⟩
    ·simp[look] at h
   ·simp[look] at h
  ·exact mV (ps:=r) (args:=t) ha h
 | .box l::r,s::t,i,y,j,q,ha,h=>by
  simp only[cS,bZ] at h
  rcases or_some h with h | ⟨_,h⟩
  ·split at h
   ·exact p9 h
   ·simp[look] at h
  ·exact mV (ps:=r) (args:=t) ha h
theorem HL {args:List SV} {sp:aA} {k:St→Option β}
 (h:mh sp S args o.dst k=some r):∃ S',k S'=some r∧∀ (C:Fr X.P) (G:Gh) (ρ:Env) (w:World) (a:Act) (Q:Exit→Act→World→Prop),Mod C G ρ S w a→
   (∀ G1 ρ1,Mod C G1 ρ1 (aB S (dW S (gL sp.ps args))) w a→ρ1.bx=ρ.bx→∃ vs f avs,ay (bf G1 ρ1) args vs∧(execOp a.eval o).run X.P w= .ok (.enter f avs) w∧
     ∀ G2 x y,Agr G2 w→(∀ b i,cW ρ1 (dX S 0 sp.ps args) b=some i→G2 b=none∧b<w.heap.size)→
      (∀ b,G2 b≠G1 b→(∃ k',ρ1.own b=some (.inl k')∧inL (gy S (gL sp.ps args)) k'=true)∨ρ1.own b=some (.ob bq))→
      fo G2 w (cW ρ1 (dX S 0 sp.ps args)) 0 sp.ps x vs→sp.m x=some y→mP X.P G2→
      Calls X.P f avs w fun e w'=>∃ w1 G' ow' us,qU G2 w (cW ρ1 (dX S 0 sp.ps args)) sp vs y e w1 G' ow' us∧
       (∀ G3 ρ3 a',Mod C G3 ρ3 S' w1 a'→(∀ k',S.bN k'=true→ρ3.bx k'=ρ.bx k')→∃ G4 ρ4,Mod C G4 ρ4 S' w' a'))→
   o.wp X.P a w (fun a' w'=>∃ G' ρ',Mod C G' ρ' S' w' a') Q:=by
 unfold mh at h
 simp only at h
 split at h
 ·cases h
 ·rename_i hc
  simp only[Tf,VL,Ta,S9] at hc
  obtain⟨⟨⟨⟨⟨⟨⟨⟨⟨⟨⟨⟨hdO,hdI⟩,hdC⟩,hcode⟩,hfbo⟩,hjso⟩,harx⟩,hfresh⟩,howold⟩,hnostp⟩,hflx⟩,hnbx⟩,hdd⟩:=hc
  generalize hits:bR (o.dst.getD 0) 0 sp.ps args++dB (o.dst.getD 0) 0 sp.rs=its at*
  generalize how:dX S 0 sp.ps args=ow at*
  split at h
  ·rename_i x hx
   obtain⟨y,hy,h⟩:=bind_some h
   refine⟨_,h,fun C G ρ w a Q hM hCall=> ?_⟩
   clear h
   generalize hva:gL sp.ps args=va at*
   obtain⟨G1,ρ1,G2,hfz,hM1,hle2,hhn2,hagr2,hlent,harok,hG2⟩:=hM.P5 (dW S va) (gy S va) (sU sp.ps)
   obtain⟨vs,f,avs,hvs,hrun,hCall⟩:=hCall G1 ρ1 hM1 hfz.bx
   have hF:gv G2 ρ1 (aB S (dW S va)):=fun j q hj hq=>dM.mono hle2 (hM1.toMem.frozen j q hj hq)
   have hargs:=Dy (ow:=ow) hM1.toMem hle2 hhn2 hF hlent 0 (fun e fz t l hl=>harok e fz t l hl) (fun q hq=>by
    rw[E1,how] at hq
    exact sW hdO hq) hx hvs
   have howG:∀ b i,cW ρ1 ow b=some i→G2 b=none∧b<w.heap.size:=fun b i hb=>by
    unfold cW at hb
    cases h1:ρ1.own b with
    | none=>rw[h1] at hb;cases hb
    | some o'=>
     rw[h1] at hb
     simp only[Vl] at hb
     have hbb:=hM1.owned b o' h1
     refine⟨?_,hbb.2.1⟩
     by_cases e:G2 b=G1 b
     ·rw[e];exact hbb.1
     ·rcases hG2 b e with ⟨k',hk1,hk2⟩ | ⟨hk1,hk2⟩
      ·rw[h1] at hk1
       cases hk1
       simp only[Tr] at hfbo
       have hm:k'∈gy S va:=by
        simp only[inL,Tt] at hk2
        obtain⟨x',hx1,hx2⟩:=hk2
        rw[UW hx2];exact hx1
       have:=hfbo k' hm
       rw[hb] at this;simp at this
      ·rw[h1] at hk2
       cases hk2
       rw[hk1,hb] at harx;simp at harx
   have hcall:=hCall G2 x y hagr2 howG (fun b hb=>(hG2 b hb).imp id (·.2)) hargs hy (C.tab.mono (Gh.le_trans hM1.le0 hle2))
   unfold Oper.wp
   rw[hrun]
   refine hcall.mono ?_
   rintro e w0 ⟨w',G',ow',us,hg,hfin⟩
   rw[hg.ret]
   have base:∃ Gb ρb Sb,Mod C Gb ρb Sb w a∧Sb.tmps=S.tmps∧Sb.boxes=S.boxes∧Sb.objs=S.objs∧Sb.rows=(if (gK sp.rs&&fU sp.ps)=true then S else aB S (dW S va)).rows∧ρb.bx=ρ1.bx∧ρb.rw=ρ1.rw∧ρb.ob=ρ1.ob∧ρb.st=ρ1.st∧Gb.hnd=G2.hnd∧
    (∀ b o',ρ1.own b=some o'→ρb.own b=some o')∧((gK sp.rs&&fU sp.ps)=true∨∀ b,G2 b=Gb b):=by
    by_cases hfl:(gK sp.rs&&fU sp.ps)=true
    ·exact⟨G,ρ,S,hM,rfl,rfl,rfl,by rw[VH hfl],hfz.bx.symm,hfz.rw.symm,hfz.ob.symm,hfz.st.symm,(hhn2.trans hfz.hnd).symm,hfz.own,.inl hfl⟩
    ·refine⟨G1,ρ1,_,hM1,rfl,rfl,rfl,by rw[VG hfl],rfl,rfl,rfl,rfl,hhn2.symm,fun _ _ h=>h,.inr fun b=> ?_⟩
     have hfe:(gy S va).isEmpty=true∧sU sp.ps=false:=by
      rcases hflx with h1 | h1
      ·exact absurd h1 hfl
      ·simpa using h1
     cases Classical.em (G2 b=G1 b) with
     | inl e=>exact e
     | inr e=>
      rcases hG2 b e with ⟨k',_,hk2⟩ | ⟨hk1,_⟩
      ·have:gy S va=[]:=by simpa using hfe.1
       rw[this] at hk2;simp[inL] at hk2
      ·rw[hfe.2] at hk1;cases hk1
   obtain⟨Gb,ρb,Sb,hMb,eT,eB,eO,eR,ebx,erw,eob,est,ehn,hown1,hflat⟩:=base
   have howN:∀ b o',ρb.own b=some o'→bH ow o'=none→cW ρ1 ow b=none:=fun b o' hb hn=>by
    unfold cW
    cases h1:ρ1.own b with
    | none=>rfl
    | some o2=>
     have:=hown1 b o2 h1
     rw[hb] at this
     cases this
     simpa using hn
   have hownb:∀ b,cW ρ1 ow b≠none→∃ o',ρb.own b=some o':=fun b hb=>by
    unfold cW at hb
    cases h1:ρ1.own b with
    | none=>rw[h1] at hb;exact absurd rfl hb
    | some o'=>exact⟨o',hown1 b o' h1⟩
   have hgb:∀ b,cW ρ1 ow b≠none→Gb b=none:=fun b hb=>by
    obtain⟨o',h1⟩:=hownb b hb
    exact (hMb.owned b o' h1).1
   let G3:Gh:=⟨fun b=>if b<w.heap.size∧cW ρ1 ow b=none then Gb b else G' b,G'.hnd⟩
   have hle3:Gb.le G3:=⟨fun b o' hb=>by
    have h1:=bT (hMb.agr b o' hb)
    have h2:cW ρ1 ow b=none:=by
     cases h3:cW ρ1 ow b with
     | none=>rfl
     | some i=>have:=hgb b (by rw[h3];simp);rw[hb] at this;cases this
    simp only[G3,h1,h2,and_self,VI];exact hb,fun i b hb=>hg.le.hnd i b (by rw[← ehn];exact hb)⟩
   have hagr3:Agr G3 w':=fun b o' hb=>by
    simp only[G3] at hb
    split at hb
    ·rename_i hb'
     rw[(hg.old b hb'.1 hb'.2).1];exact hMb.agr b o' hb
    ·exact hg.agr b o' hb
   have hTr:Trans G' G3 (gK sp.rs&&fU sp.ps):=⟨fun _ _ h=>h,by
    rcases hflat with h1 | h1
    ·exact .inl h1
    ·right
     refine⟨fun b o' hb=> ?_,fun _ _ h=>h⟩
     simp only[G3]
     by_cases hb':b<w.heap.size∧cW ρ1 ow b=none
     ·rw[VH hb', ← h1, ← (hg.old b hb'.1 hb'.2).2];exact hb
     ·rw[VG hb'];exact hb⟩
   obtain⟨hbk,vals1,hv1,hpt1,hr1⟩:=yg (d:=o.dst.getD 0) (Trans.left hTr) hg.out
   obtain⟨vals2,hv2,hold2,hr2⟩:=sg (d:=o.dst.getD 0) (G:=G1) (ρ:=ρ1) (show G3.hnd=G'.hnd from rfl) (Trans.right hTr) hbk hvs
   generalize hvals:vals2++vals1=vals
   have hvits:vals.map (·.1)=its.map (·.1):=by rw[← hvals, ← hits];simp[hv1,hv2]
   have hmem1:∀ p,p∈vals1→p∈vals:=fun p hp=>by rw[← hvals];simp[hp]
   have hmem2:∀ p,p∈vals2→p∈vals:=fun p hp=>by rw[← hvals];simp[hp]
   let ρ3:Env:=⟨fun i=>match bY vals (.inl i) with | some v=>DM v | none=>ρb.bx i,
    fun i=>(bY vals (.inr i)).getD (ρb.rw i),
    fun b=>match ow' b with | some n=>kS its n | none=>if cW ρ1 ow b=none then ρb.own b else none,
    fun i=>match bY vals (.ob i) with | some (.map (some b))=> .map (some b) | _=>ρb.ob i,
    fun i=>match bY vals (.ob i) with | some v=>zi w' v | none=>ρb.st i⟩
   have hA3:∀ o v,(o,v)∈vals→Asg ρ3 w' o v:=fun o v hm=>by
    have hl:=Dm hvits hdI hm
    cases o with
    | inl k'=>
     have hp:∃ b,v= .pointer (some ⟨b,0,none⟩):=by
      rw[← hvals] at hm
      rcases Uh.1 hm with h1 | h1
      ·rcases hold2 _ _ h1 with h2 | ⟨n,_,h2⟩
       ·exact⟨_,h2⟩
       ·rcases h2 with h2 | h2<;>cases h2
      ·exact hpt1 k' v h1
     obtain⟨b,hb⟩:=hp
     show v= .pointer (some ⟨match bY vals (.inl k') with | some v=>DM v | none=>ρb.bx k',0,none⟩)
     rw[hl,hb];rfl
    | inr j=>show (bY vals (.inr j)).getD (ρb.rw j)=v;rw[hl];rfl
    | ob j=>
     intro b hb
     subst hb
     refine⟨?_,fun es clock hw i e' hi=> ?_⟩
     ·show (match bY vals (.ob j) with | some (.map (some b))=>Value.map (some b) | _=>ρb.ob j)=_
      rw[hl]
     ·show (e'.born:Int)=(match bY vals (.ob j) with | some v=>zi w' v | none=>ρb.st j) i
      rw[hl]
      simp[zi,hw,hi]
   have hO3:∀ o n,(o,n)∈its→∀ b,ow' b=some n→ρ3.own b=some o:=fun o n hm b hb=>by
    show (match ow' b with | some n=>kS its n | none=>_)=_
    rw[hb];exact tZ hdC hm
   have hi1:∀ p,p∈dB (o.dst.getD 0) 0 sp.rs→p∈its:=fun p hp=>by rw[← hits];simp[hp]
   have hi2:∀ p,p∈bR (o.dst.getD 0) 0 sp.ps args→p∈its:=fun p hp=>by rw[← hits];simp[hp]
   obtain⟨hxv,hP1⟩:=hr1 ρ3 (fun o v h=>hA3 o v (hmem1 _ h)) (fun o n h=>hO3 o n (hi1 _ h))
   have hP2:=hr2 ρ3 (fun o v h=>hA3 o v (hmem2 _ h)) (fun o n h=>hO3 o n (hi2 _ h))
   have hnew:∀ o' n,(o',n)∈its→A6 (o.dst.getD 0) o' n→∀ j,o'= .inr j∨o'= .ob j→S.aT j=false∧S.br j=false:=fun o' n hm hn j hj=>by
    have hlt:n<2048:=by
     have:=Tq.1 hcode (o',n) hm
     simpa using this
    have hj2:j=nid (o.dst.getD 0) 0 0+n:=by
     rcases hn with hn | hn<;>rcases hj with hj | hj<;>rw[hn] at hj<;>cases hj<;>rfl
    have hf:S.gT (nid (o.dst.getD 0) 0 0) (nid (o.dst.getD 0+1) 0 0)=false:=by simpa [xP] using hfresh
    have:=NK (j:=j) hf (by omega) (by rw[hj2];simp only[nid];omega)
    exact⟨this.1,this.2.1⟩
   have hval:∀ o' v,(o',v)∈vals→(Old ρ1 o' v)∨(o'= .inl (o.dst.getD 0)∧0<x4 sp.rs)∨∃ n,(o',n)∈its∧A6 (o.dst.getD 0) o' n:=fun o' v hm=>by
    rw[← hvals] at hm
    rcases Uh.1 hm with h1 | h1
    ·rcases hold2 _ _ h1 with h2 | ⟨n,h2,h3⟩
     ·exact .inl h2
     ·exact .inr (.inr ⟨n,hi2 _ h2,h3⟩)
    ·have hm2:o'∈(dB (o.dst.getD 0) 0 sp.rs).map (·.1):=by rw[← hv1];exact Up.2 ⟨_,h1,rfl⟩
     obtain⟨p,hp,e1⟩:=Up.1 hm2
     obtain⟨p1,p2⟩:=p
     simp only at e1
     subst e1
     rcases DB hp with h2 | h2
     ·subst h2
      exact .inr (.inl ⟨rfl,((sD (y:=y)).2.2 _ _ hp).2.1⟩)
     ·exact .inr (.inr ⟨p2,hi1 _ hp,h2⟩)
   have hnb:0<x4 sp.rs→S.bN (o.dst.getD 0)=false∧o.dst.getD 0<2000:=fun h0=>by
    have h1:Nat.blt 0 (x4 sp.rs)=true:=by simpa using h0
    rw[h1] at hnbx
    simp only[Tg,Te] at hnbx
    exact⟨hnbx.1,by simpa using hdd⟩
   have sbx:∀ k',S.bN k'=true∨2000≤k'→ρ3.bx k'=ρb.bx k':=fun k' hk'=>by
    show (match bY vals (.inl k') with | some v=>DM v | none=>ρb.bx k')=_
    cases hl:bY vals (.inl k') with
    | none=>rfl
    | some v=>
     rcases hval _ _ (zb hl) with h1 | ⟨h1,h2⟩ | ⟨n,_,h1⟩
     ·have h1':v= .pointer (some ⟨ρ1.bx k',0,none⟩):=h1
      rw[h1',ebx];rfl
     ·cases h1
      rcases hk' with hk' | hk'
      ·rw[(hnb h2).1] at hk';cases hk'
      ·exact absurd (hnb h2).2 (Nat.not_lt.2 hk')
     ·rcases h1 with h1 | h1<;>cases h1
   have hsmall:∀ o' n,(o',n)∈its→A6 (o.dst.getD 0) o' n→∀ j,o'= .inr j∨o'= .ob j→j<10000000:=fun o' n hm hn j hj=>by
    have hlt:n<2048:=by
     have:=Tq.1 hcode (o',n) hm
     simpa using this
    have hd2:o.dst.getD 0<2000:=by simpa using hdd
    have hj2:j=nid (o.dst.getD 0) 0 0+n:=by
     rcases hn with hn | hn<;>rcases hj with hj | hj<;>rw[hn] at hj<;>cases hj<;>rfl
    rw[hj2];exact Pe hd2 hlt
   have srw:∀ j,S.aT j=true∨10000000≤j→ρ3.rw j=ρb.rw j:=fun j hj=>by
    show (bY vals (.inr j)).getD (ρb.rw j)=_
    cases hl:bY vals (.inr j) with
    | none=>rfl
    | some v=>
     rcases hval _ _ (zb hl) with h1 | ⟨h1,_⟩ | ⟨n,h0,h1⟩
     ·have h1':ρ1.rw j=v:=h1
      rw[erw,h1'];rfl
     ·cases h1
     ·rcases hj with hj | hj
      ·have:=(hnew _ _ h0 h1 j (.inl rfl)).1
       rw[hj] at this;cases this
      ·have:=hsmall _ _ h0 h1 j (.inl rfl);omega
   have sob:∀ j,S.br j=true∨10000000≤j→ρ3.ob j=ρb.ob j:=fun j hj=>by
    show (match bY vals (.ob j) with | some (.map (some b))=>Value.map (some b) | _=>ρb.ob j)=_
    split
    ·rename_i b hl
     rcases hval _ _ (zb hl) with h1 | ⟨h1,_⟩ | ⟨n,h0,h1⟩
     ·rw[eob,h1 b rfl]
     ·cases h1
     ·rcases hj with hj | hj
      ·have:=(hnew _ _ h0 h1 j (.inr rfl)).2
       rw[hj] at this;cases this
      ·have:=hsmall _ _ h0 h1 j (.inr rfl);omega
    ·rfl
   have inIts:∀ o' v,bY vals o'=some v→∃ n,(o',n)∈its:=fun o' v hl=>Bg hvits (by rw[hl];simp)
   have sst:∀ j,S.aW j=true→ρ3.st j=ρb.st j:=fun j hj=>by
    show (match bY vals (.ob j) with | some v=>zi w' v | none=>ρb.st j)=_
    cases hl:bY vals (.ob j) with
    | none=>rfl
    | some v=>
     obtain⟨n,hn⟩:=inIts _ _ hl
     have:=Tq.1 hnostp _ hn
     simp only[Tb] at this
     rw[hj] at this;cases this
   have hsame:S.dO ρb ρ3:=Rf (fun k' hk'=>sbx k' (.inl hk')) (fun j hj=>srw j (.inl hj)) (fun j hj=>sob j (.inl hj)) sst
   have hkeep:∀ b o',ρb.own b=some o'→cW ρ1 ow b=none→ρ3.own b=some o':=fun b o' hb h1=>by
    have h2:ow' b=none:=by
     cases h3:ow' b with
     | none=>rfl
     | some i=>
      rcases (hg.own b i h3).2.2 with h4 | h4
      ·have:=(hMb.owned b o' hb).2.1;omega
      ·exact absurd h1 h4
    show (match ow' b with | some n=>kS its n | none=>if cW ρ1 ow b=none then ρb.own b else none)=_
    rw[h2]
    simp only[h1,VI];exact hb
   refine hfin G3 ρ3 _ ?_ (fun k' hk'=>(sbx k' (.inl hk')).trans (by rw[ebx,hfz.bx]))
   refine { agr:=hagr3,le0:=Gh.le_trans hMb.le0 hle3,old:= ?_,frame:= ?_,size:=U1 hMb.size hg.size,os:=hg.os.trans hMb.os,output:=hg.output.trans hMb.output,pin:=fun k' hk'=>(sbx k' (.inr hk')).trans (hMb.pin k' hk'),pinR:=fun k' hk'=>⟨(srw k' (.inr hk')).trans (hMb.pinR k' hk').1,(sob k' (.inr hk')).trans (hMb.pinR k' hk').2⟩,owned:= ?_,boxes:= ?_,rows:= ?_,objs:= ?_,hndI:=fun hn=> ?_,tmps:= ?_,defers:= ?_ }
   ·intro b hb hB
    have h1:b<w.heap.size:=U4 hb hMb.size
    have h2:cW ρ1 ow b=none:=by
     cases h3:cW ρ1 ow b with
     | none=>rfl
     | some i=>
      obtain⟨o2,h4⟩:=hownb b (by rw[h3];simp)
      rcases (hMb.owned b o2 h4).2.2 with h5 | h5
      ·omega
      ·exact absurd h5 hB
    simp only[G3,h1,h2,and_self,VI];exact hMb.old b hb hB
   ·intro b hb hB
    have h1:b<w.heap.size:=U4 hb hMb.size
    have h2:cW ρ1 ow b=none:=by
     cases h3:cW ρ1 ow b with
     | none=>rfl
     | some i=>
      obtain⟨o2,h4⟩:=hownb b (by rw[h3];simp)
      rcases (hMb.owned b o2 h4).2.2 with h5 | h5
      ·omega
      ·exact absurd h5 hB
    rw[(hg.old b h1 h2).1];exact hMb.frame b hb hB
   ·intro b o' hb
    have hb':(match ow' b with | some n=>kS its n | none=>if cW ρ1 ow b=none then ρb.own b else none)=some o':=hb
    cases h1:ow' b with
    | some i=>
     obtain⟨h2,h3,h4⟩:=hg.own b i h1
     refine⟨?_,h3, ?_⟩
     ·simp only[G3]
      rw[VG]
      ·exact h2
      ·rintro⟨h5,h6⟩
       rcases h4 with h4 | h4
       ·omega
       ·exact h4 h6
     ·rcases h4 with h4 | h4
      ·exact .inl (U1 hMb.size h4)
      ·obtain⟨o2,h5⟩:=hownb b h4
       exact (hMb.owned b o2 h5).2.2
    | none=>
     rw[h1] at hb'
     simp only at hb'
     split at hb'
     ·rename_i h2
      have h3:=hMb.owned b o' hb'
      refine⟨?_,U4 h3.2.1 hg.size,h3.2.2⟩
      simp only[G3,h3.2.1,h2,and_self,VI];exact h3.1
     ·cases hb'
   ·intro k' cs hk'
    simp only[bZ] at hk'
    rcases or_some hk' with h1 | ⟨n1,hk'⟩
    ·exact hP1.bx k' cs h1
    ·rcases or_some hk' with h1 | ⟨n2,hk'⟩
     ·exact hP2.bx k' cs h1
     ·rw[mo (fun i=>(bH ow (.inl i)).isNone)] at hk'
      split at hk'
      ·rename_i hn
       have hnv:bY vals (.inl k')=none:=by
        cases hl:bY vals (.inl k') with
        | none=>rfl
        | some v=>
         obtain⟨n,hn⟩:=inIts _ _ hl
         rw[← hits] at hn
         rcases Uh.1 hn with h1 | h1
         ·have:=(nV (y:=Bn sp.ps sp.rs y)).2.2 k' n h1
          rw[n2] at this;cases this
         ·have:=((sD (y:=y)).2.2 k' n h1).2.2
          rw[n1] at this;cases this
       have ebk:ρ3.bx k'=ρb.bx k':=by
        show (match bY vals (.inl k') with | some v=>DM v | none=>ρb.bx k')=_
        rw[hnv]
       obtain⟨h2,ws,T,h3,h4⟩:=hMb.boxes k' cs (by rw[eB];exact hk')
       have h5:=howN _ _ h2 (by simpa using hn)
       rw[ebk]
       refine⟨hkeep _ _ h2 h5,ws,T, ?_,ay.rK (fun c hc v=>aJ.congr hle3 (hsame.boxes (k',cs) (lV hk') c hc)) h4⟩
       rw[(hg.old _ (bT h3) h5).1];exact h3
      ·cases hk'
   ·intro j q hj
    simp only[bZ] at hj
    rcases or_some hj with h1 | ⟨n1,hj⟩
    ·exact hP1.rw j q h1
    ·rcases or_some hj with h1 | ⟨n2,hj⟩
     ·exact hP2.rw j q h1
     ·rw[mo (fun i=>(bH ow (.inr i)).isNone)] at hj
      split at hj
      ·rename_i hn
       have hnv:bY vals (.inr j)=none:=by
        cases hl:bY vals (.inr j) with
        | none=>rfl
        | some v=>
         obtain⟨n,hn⟩:=inIts _ _ hl
         rw[← hits] at hn
         rcases Uh.1 hn with h1 | h1
         ·have:=(nV (y:=Bn sp.ps sp.rs y)).1 j n h1
          rw[n2] at this;cases this
         ·have:=(sD (y:=y)).1 j n h1
          rw[n1] at this;cases this
       have erj:ρ3.rw j=ρb.rw j:=by
        show (bY vals (.inr j)).getD (ρb.rw j)=_
        rw[hnv];rfl
       have hrow:=hMb.rows j q (by rw[eR];exact hj)
       have hk1:bX Gb ρb w' j q:=by
        unfold bX at hrow ⊢
        split
        ·rename_i hf;rw[VH hf] at hrow;exact hrow
        ·rename_i hf
         rw[VG hf] at hrow
         obtain⟨xs,⟨hlen,hor⟩,hl,hb⟩:=hrow
         refine⟨xs,⟨hlen, ?_⟩,hl,hb⟩
         rcases hor with h1 | ⟨g,cap,cur,hv,h0,hgg,rest⟩
         ·exact .inl h1
         ·refine .inr ⟨g,cap,cur,hv,h0, ?_,rest⟩
          have h5:=howN g _ (hb g (by rw[hv];rfl)) (by simpa using hn)
          rw[(hg.old g (bT hgg) h5).1];exact hgg
       exact hk1.congr hle3 erj (fun b hb=>hkeep b _ hb (howN b _ hb (by simpa using hn)))
      ·cases hj
   ·intro j q hj
    simp only[bZ] at hj
    rcases or_some hj with h1 | ⟨n1,hj⟩
    ·exact hP1.ob j q h1
    ·rcases or_some hj with h1 | ⟨n2,hj⟩
     ·exact hP2.ob j q h1
     ·rw[mo (fun i=>(bH ow (.ob i)).isNone)] at hj
      split at hj
      ·rename_i hn
       have hn':bH ow (.ob j)=none:=by simpa using hn
       have hnv:bY vals (.ob j)=none:=by
        cases hl:bY vals (.ob j) with
        | none=>rfl
        | some v=>
         obtain⟨n,hn⟩:=inIts _ _ hl
         rw[← hits] at hn
         rcases Uh.1 hn with h1 | h1
         ·have:=(nV (y:=Bn sp.ps sp.rs y)).2.1 j n h1
          rw[n2] at this;cases this
         ·have:=(sD (y:=y)).2.1 j n h1
          rw[n1] at this;cases this
       have eoj:ρ3.ob j=ρb.ob j:=by
        show (match bY vals (.ob j) with | some (.map (some b))=>Value.map (some b) | _=>ρb.ob j)=_
        rw[hnv]
       have esj:ρ3.st j=ρb.st j:=by
        show (match bY vals (.ob j) with | some v=>zi w' v | none=>ρb.st j)=_
        rw[hnv]
       have hobj:=hMb.objs j q (by rw[eO];exact hj)
       cases q with
       | map kk vv l=>
        obtain⟨b,es,clock,h1,h2,h3,h4,h5,h6⟩:=hobj
        have h7:=howN b _ h2 hn'
        exact⟨b,es,clock,by rw[eoj];exact h1,hkeep b _ h2 h7,by rw[(hg.old b (bT h3) h7).1];exact h3,h4.mono fun x y hxy=>hxy.mono hle3,by rw[esj];exact h5,h6⟩
       | ar fz t l=>
        obtain⟨hja,hA⟩:=hobj
        subst hja
        have hna:gV sp.ps=false:=by
         cases hh:gV sp.ps with
         | false=>rfl
         | true=>
          obtain⟨n,hn2⟩:=JG (S:=S) (args:=args) (i:=0) hh
          rw[how] at hn2
          have:=Bc hn2
          rw[hn'] at this;cases this
        have hhn:G3.hnd=Gb.hnd:=(hg.hnd hna).trans ehn.symm
        refine⟨rfl,fun i b hb=>hA.1 i b (by rw[← hhn];exact hb),fun i i' b hb hb'=>hA.2.1 i i' b (by rw[← hhn];exact hb) (by rw[← hhn];exact hb'),fun i z hz=> ?_⟩
        obtain⟨b,ws,T,f1,f2,f3,f4,f5⟩:=hA.2.2 i z hz
        have hob:cW ρ1 ow b=none:=by
         cases hx2:cW ρ1 ow b with
         | none=>rfl
         | some n=>
          cases fz with
          | true=>have:=hgb b (by rw[hx2];simp);rw[f2 rfl] at this;cases this
          | false=>have:=howN b _ (f3 rfl) hn';rw[hx2] at this;cases this
        exact⟨b,ws,T,by rw[hhn];exact f1,fun e'=>hle3 _ _ (f2 e'),fun e'=>hkeep b _ (f3 e') hob,by rw[(hg.old b (bT f4) hob).1];exact f4,aq.mono hle3 t z _ f5⟩
      ·cases hj
   ·obtain⟨q1,q2⟩:=hMb.hndI hn
    have hna:gV sp.ps=false:=by
     cases hh:gV sp.ps with
     | false=>rfl
     | true=>
      obtain⟨t,l,hl⟩:=JH hx hh
      exact absurd (show look Sb.objs bq=_ by rw[eO];exact hl) (q2 t l)
    refine⟨(hg.hnd hna).trans (ehn.symm.trans q1),fun t l hl=> ?_⟩
    simp only[bZ] at hl
    rcases or_some hl with h1 | ⟨_,hl⟩
    ·obtain⟨_,_,_,e⟩:=s5 h1;cases e
    ·rcases or_some hl with h1 | ⟨_,hl⟩
     ·obtain⟨_,_,_,e⟩:=mV hna h1;cases e
     ·rw[mo (fun i=>(bH ow (.ob i)).isNone)] at hl
      split at hl
      ·exact q2 t l (by rw[eO];exact hl)
      ·cases hl
   ·have hT:eX G3 ρ3 S a:=by
     have h1:eX Gb ρb S a:=by
      have:=hMb.tmps
      unfold eX at this ⊢
      rw[eT] at this;exact this
     exact h1.congr hle3 hsame
    have:=hT.put o.dst (s:=AD (vP sp.ps (o.dst.getD 0) sp.rs 0 y)) (v:=pg us) (fun _ _=>HO hxv)
    cases hd:o.dst with
    | none=>rw[hd] at this;exact this
    | some d=>rw[hd] at this;exact this
   ·cases hd:o.dst<;>exact hMb.defers
  ·cases h
theorem JO {c:Call} {f:Nat} {args:List SV} {sp:aA} {k:St→Option β} (hX:bS X) (ho:o.op= .call c) (hcal:cU S c=some (f,args)) (hsp:(f,sp)∈X.specs)
 (h:mh sp S args o.dst k=some r):∃ S',k S'=some r∧dJ X.P o S S':=by
 obtain⟨hfun,hbody⟩:=hX.fn f sp hsp
 obtain⟨S',hk,hS⟩:=HL h
 refine⟨S',hk,fun C G ρ w a Q hM=>hS C G ρ w a Q hM fun G1 ρ1 hM1 _=> ?_⟩
 obtain⟨vs,hvs,hrun⟩:=fE (S:=S) (w:=w) (G:=G1) (ρ:=ρ1) (a:=a) ho hcal (fun z _=>by
  have:=hM1.tmps.ev z;rw[su] at this;exact this) hbody
 refine⟨vs,f,_,hvs,hrun,fun G2 x y h1 h2 _ h3 h4 h5=>(hfun G2 w _ vs x y h1 h2 h3 h4 h5).mono ?_⟩
 rintro e w' ⟨G',ow',us,hg⟩
 exact⟨w',G',ow',us,hg,fun G3 ρ3 a' h _=>⟨G3,ρ3,h⟩⟩
theorem Mod.tX {P0:Program} {C:Fr P0} {G:Gh} {ρ:Env} {S:St} {w:World} {a:Act} (h:Mod C G ρ S w a) (d:Option Tmp):Mod C G ρ (tX S d) w a:=by
 unfold Dn.tX
 split
 ·rename_i d
  split
  ·rename_i k _ _
   cases Nat.beq k d with
   | false=>exact h
   | true=>
    refine { h.toMem.Am (S':={ S with tmps:=S.tmps.set d (.v false [.any]) }) rfl rfl rfl with tmps:=⟨by simpa using h.tmps.1,fun i s hi=> ?_⟩,defers:=h.defers }
    have hi':(S.tmps.set d (.v false [.any]))[i]? =some s:=hi
    rw[TX] at hi'
    split at hi'
    ·split at hi'
     ·cases hi';trivial
     ·cases hi'
    ·exact h.tmps.2 i s hi'
  ·exact h
 ·exact h
theorem Mm {sp:aA} {S:St} {args:List SV} {d:Option Tmp} {k:St→Option β} {e:Option β} {r:β} (h:Fg sp S args d k e=some r):mh sp S args d k=some r∨e=some r:=by
 unfold Fg at h
 unfold mh
 simp only at h ⊢
 split at h
 ·cases h
 ·rename_i hc
  rw[VG hc]
  split at h
  ·rename_i x hx
   cases hm:sp.m x with
   | none=>rw[hm] at h;exact .inr h
   | some y=>rw[hm] at h;exact .inl h
  ·cases h
theorem MD {α:Type} {l:List (Nat×α)} {k:Nat} {x:α} (h:x∈pZ l k):(k,x)∈l:=by
 induction l with
 | nil=>simp[pZ] at h
 | cons p r ih=>
  obtain⟨j,y⟩:=p
  simp only[pZ] at h
  cases hb:Nat.beq j k with
  | true=>
   rw[hb] at h
   simp only[Vx,Uk] at h
   have:=UW hb
   subst this
   rcases h with h | h
   ·subst h;simp
   ·exact Ul _ (ih h)
  | false=>rw[hb] at h;simp only[Vw] at h;exact Ul _ (ih h)
theorem HK {c:Call} {f:Nat} {args:List SV} {k:St→Option β} (hX:bS X) (ho:o.op= .call c) (hcal:cU S c=some (f,args)):∀ {l:List aA},(∀ sp,sp∈l→(f,sp)∈X.specs)→
 tO S args o.dst k l=some r→∃ S',k S'=some r∧dJ X.P o S S'
 | [],_,h=>by cases h
 | [sp],hl,h=>JO hX ho hcal (hl sp (by simp)) h
 | sp::sp'::q,hl,h=>by
  rcases Mm h with h | h
  ·exact JO hX ho hcal (hl sp (by simp)) h
  ·exact HK hX ho hcal (fun s hs=>hl s (by simp[Uk] at hs ⊢;exact .inr hs)) h
theorem ay.Ph {α β:Type} {R:α→β→Prop}:∀ {l:List α} {r:List β},l.length=r.length→(∀ (k:Nat) x y,l[k]? =some x→r[k]? =some y→R x y)→ay R l r
 | [],[],_,_=>rfl
 | [],_::_,h,_=>by cases h
 | _::_,[],h,_=>by cases h
 | x::l,y::r,h,hr=>⟨y,r,rfl,hr 0 x y rfl rfl,ay.Ph (by simpa using h) fun k a b ha hb=>hr (k+1) a b (by simpa using ha) (by simpa using hb)⟩
theorem Mod.QS {P0:Program} {C:Fr P0} {G:Gh} {ρ:Env} {S:St} {w:World} {a:Act} {k:Nat} {cs:List CV} (h:Mod C G ρ { S with boxes:=(k,cs)::S.boxes } w a) (hl:look S.boxes k=some cs):Mod C G ρ S w a:=
 { agr:=h.agr,le0:=h.le0,old:=h.old,frame:=h.frame,size:=h.size,os:=h.os,output:=h.output,pin:=h.pin,pinR:=h.pinR,owned:=h.owned,
   boxes:=fun i c hi=>h.boxes i c (by
    simp only[ai]
    split
    ·rename_i e
     subst e
     rw[hl] at hi;exact hi
    ·exact hi),rows:=h.rows,objs:=h.objs,hndI:=h.hndI,tmps:=h.tmps,defers:=h.defers }
theorem RW {c:Call} {f:Nat} {args:List SV} {p:Nat} {sp:aA} {k:St→Option β} (hX:bS X) (ho:o.op= .call c) (hcal:cU S c=some (f,args)) (hk:look X.keys f=some (.nest p sp))
 (h:DS (.nest p sp) S args o.dst k=some r):∃ S',k S'=some r∧dJ X.P o S S':=by
 obtain⟨hkey,hbody0⟩:=hX.key f _ (lV hk)
 have hbody:=hbody0 nofun
 simp only[DS] at h
 split at h
 ·rename_i km o0 hp
  split at h
  ·cases h
  rename_i hc0
  simp only[Tf,VL,Ta,S9] at hc0
  obtain⟨ho0,hbk⟩:=hc0
  have e0:=UW ho0
  subst e0
  split at h
  ·rename_i kk o2 hbx
   split at h
   ·cases h
   rename_i hc1
   simp only[Tf,VL,Ta,S9] at hc1
   obtain⟨⟨ho2,hlent⟩,how⟩:=hc1
   have e2:=UW ho2
   subst e2
   obtain⟨S',hk',hS⟩:=HL h
   split at hk'
   ·rename_i k1 o1 hb'
    split at hk'
    ·rename_i hc2
     simp only[SX] at hc2
     obtain⟨⟨h1,h2⟩,hkk⟩:=hc2
     have e3:=UW h1
     have e4:=UW h2
     subst e3;subst e4
     refine⟨S',hk',fun C G ρ w a Q hM=>hS C G ρ w a Q hM fun G1 ρ1 hM1 eb=> ?_⟩
     obtain⟨vs0,hvs,hrun⟩:=fE (S:=S) (w:=w) (G:=G1) (ρ:=ρ1) (a:=a) ho hcal (fun z _=>by
      have:=hM1.tmps.ev z;rw[su] at this;exact this) hbody
     obtain⟨u,hu,hud⟩:=hvs.get hp
     have hu':u= .pointer (some ⟨ρ1.bx km,0,none⟩):=hud
     subst hu'
     obtain⟨hob,bvs,T,hbh,hbv⟩:=hM1.boxes km _ hbx
     obtain⟨v,ebv,hv⟩:=hbv.single
     subst ebv
     refine⟨vs0.set p v,f,_,hvs.set (show bf G1 ρ1 (.v false [.ref k1 0]) v from hv) p,hrun,fun G2 x y q1 q2 q3 q4 q5 q6=> ?_⟩
     have hG2:G2 (ρ1.bx km)=none:=by
      by_cases e:G2 (ρ1.bx km)=G1 (ρ1.bx km)
      ·rw[e];exact (hM1.owned _ _ hob).1
      ·rcases q3 _ e with ⟨k',z1,z2⟩ | z1
       ·rw[hob] at z1;cases z1;rw[hlent] at z2;cases z2
       ·rw[hob] at z1;cases z1
     have how':cW ρ1 (dX S 0 sp.ps (args.set p (.v false [.ref k1 0]))) (ρ1.bx km)=none:=by
      unfold cW
      rw[hob]
      simpa using how
     have hlt:p<vs0.length:=(TU.1 hu).1
     have hc:=hkey G2 w _ (vs0.set p v) x y (ρ1.bx km) v T q1 q2 q4 q5 q6 (by rw[TZ hlt]) how' hG2 hbh
     have eset:(vs0.set p v).set p (.pointer (some ⟨ρ1.bx km,0,none⟩))=vs0:=by
      rw[UH]
      refine TJ fun i=> ?_
      rw[TX]
      split
      ·rename_i e
       subst e
       first | exact hu.symm | (rw[VH hlt];exact hu.symm)
      ·rfl
     rw[eset] at hc
     refine hc.mono ?_
     rintro e w' ⟨w1,G',ow',us,T',z1,z2,z3,z4,z5,hg⟩
     refine⟨w1,G',ow',us,hg,fun G3 ρ3 a' hM3 hsame=> ?_⟩
     have eb3:ρ3.bx km=ρ1.bx km:=(hsame km hbk).trans (by rw[eb])
     have hv':v= .pointer (some ⟨ρ1.bx k1,0,none⟩):=hv
     have hM4:=hM3.L6 (w':=w') (k:=km) (cs:=[.ref k1 0]) (vs:=[v]) (T:=T') ⟨_,hb'⟩ ⟨z1.symm,z2.symm,by omega,fun b _ hne=>(z4 b (fun e=>hne (by rw[eb3,e]))).symm⟩ (by rw[eb3];exact z5)
      ⟨v,[],rfl,by show v=_;rw[hv',hsame k1 hkk,eb],rfl⟩
     exact⟨G3,ρ3,hM4.QS hb'⟩
    ·cases hk'
   ·cases hk'
  ·cases h
 ·cases h
theorem Sf {c:Call} {f:Nat} {args:List SV} {kf:xB} {k:St→Option β} (hX:bS X) (ho:o.op= .call c) (hcal:cU S c=some (f,args)) (hk:look X.keys f=some kf)
 (h:DS kf S args o.dst k=some r):∃ S',k S'=some r∧dJ X.P o S S':=by
 by_cases hn:∃ p sp,kf= .nest p sp
 ·obtain⟨p,sp,e⟩:=hn
  subst e
  exact RW hX ho hcal hk h
 obtain⟨hkey,hbody0⟩:=hX.key f _ (lV hk)
 unfold DS at h
 split at h
 ·rename_i lo nb tb te m
  have hbody:=hbody0 nofun
  split at h
  ·rename_i kb o0 j sz i off
   split at h
   ·cases h
   rename_i hc0
   simp only[Tf,VL,Ta,S9] at hc0
   obtain⟨ho0,hoff⟩:=hc0
   have e0:=UW ho0
   have e1:=UW hoff
   subst e0;subst e1
   split at h
   ·rename_i cs q hcs hq
    split at h
    ·cases h
    rename_i hc1
    simp only[Tf,VL,Ta,S9] at hc1
    obtain⟨⟨hfz,hsz⟩,hnb⟩:=hc1
    have hsz':=UW hsz
    have hnb':=UW hnb
    subst hsz'
    split at h
    ·rename_i t0 l0 hlo
     split at h
     ·rename_i l ql hl hql
      obtain⟨ql',hm,h2⟩:=bind_some h
      clear h
      obtain⟨et,el⟩:=gw hl
      obtain⟨eqt,eql⟩:=gw hql
      subst et;subst el
      obtain⟨qf,qe,qt,qll⟩:=q
      dsimp only at eqt eql hfz hql
      subst eqt;subst eql;subst hfz
      refine⟨_,h2,fun C G ρ w a Q hM=> ?_⟩
      obtain⟨vs,hvs,hrun⟩:=fE (S:=S) (w:=w) (G:=G) (ρ:=ρ) (a:=a) ho hcal (fun z _=>hM.tmps.ev z) hbody
      obtain⟨v1,us1,ev1,hv1,hr1⟩:=hvs
      subst ev1
      obtain⟨v2,ev2,hv2⟩:=hr1.single
      subst ev2
      have hp1:v1= .pointer (some ⟨ρ.bx kb,0,none⟩):=hv1
      obtain⟨b,len,cap,e1,e2⟩:∃ b len cap,ρ.rw j= .slice (some ⟨b,0,none⟩) len cap∧v2= .pointer (some ⟨b,i*qt.size+0,none⟩):=hv2
      rw[US] at e2
      subst hp1;subst e2
      obtain⟨hob,bvs,T,hbh,hbv⟩:=hM.boxes kb cs hcs
      have hrow:=hM.rows j _ hq
      unfold bX at hrow
      rw[VG (by simp)] at hrow
      obtain⟨xs,hor,hlr,hown⟩:=hrow
      have hlen:len=qll.length:=by
       rcases hor.2 with hn | ⟨g,cap',cur,hv,_⟩
       ·rw[e1] at hn;cases hn.1
       ·rw[e1] at hv;cases hv;rfl
      subst hlen
      have hgo:=hown b (by rw[e1];rfl)
      obtain⟨u,hu1,hu2⟩:=hbv.get hlo
      have hBR:ρ.bx kb≠b:=fun e=>by rw[e,hgo] at hob;cases hob
      have hbl:=hbv.len
      rw[e1] at hor
      have hcall:=hkey G w (ρ.bx kb) b i cap qe T bvs l0 qll ql' xs hM.agr (C.tab.mono hM.le0) hBR hbh (by omega) ⟨u,hu1,hu2⟩ (hM.owned _ _ hgo).2.1 hor hlr (hM.owned _ _ hob).1 (hM.owned _ _ hgo).1 hm
      unfold Oper.wp
      rw[hrun]
      refine hcall.mono ?_
      rintro e w' ⟨rfl,G',vs',xs',T',hle,hhnd,hagr',hG',hos,hout,hsize,hold,hB',hvl,hvk,⟨u',hu',hul'⟩,hor',hlr'⟩
      have hbs:=(hM.owned _ _ hob).2.1
      have hgs:=(hM.owned _ _ hgo).2.1
      obtain⟨oR,hoR⟩:∃ oR,w.heap[b]? =some oR:=⟨_,SD hgs⟩
      let w2:World:={ w' with heap:=w'.heap.setIfInBounds b oR }
      let w1:World:={ w2 with heap:=w2.heap.setIfInBounds (ρ.bx kb) (.cells bvs.toArray T (0,0)) }
      have s2:w2.heap.size=w'.heap.size:=by simp[w2]
      have s1:w1.heap.size=w'.heap.size:=by simp[w1,w2]
      have h2o:∀ b',b'≠b→w2.heap[b']? =w'.heap[b']? :=fun b' hb'=>by
       show (w'.heap.setIfInBounds b oR)[b']? =_
       rw[SJ (Ne.symm hb')]
      have h2b:w2.heap[b]? =some oR:=by
       show (w'.heap.setIfInBounds b oR)[b]? =_
       rw[SK (by omega)]
      have h1o:∀ b',b'≠ρ.bx kb→w1.heap[b']? =w2.heap[b']? :=fun b' hb'=>by
       show (w2.heap.setIfInBounds _ _)[b']? =_
       rw[SJ (Ne.symm hb')]
      have h1b:w1.heap[ρ.bx kb]? =some (.cells bvs.toArray T (0,0)):=by
       show (w2.heap.setIfInBounds _ _)[ρ.bx kb]? =_
       rw[SK (by omega)]
      have hsame:∀ b',b'<w.heap.size→w1.heap[b']? =w.heap[b']? :=fun b' hb'=>by
       by_cases c1:b'=ρ.bx kb
       ·subst c1;rw[h1b,hbh]
       ·rw[h1o b' c1]
        by_cases c2:b'=b
        ·subst c2;rw[h2b,hoR]
        ·rw[h2o b' c2];exact hold b' hb' c1 c2
      have hagr1:Agr G' w1:=fun b' o' hb'=>by
       by_cases c1:b'=ρ.bx kb
       ·subst c1;rw[hG' _ hbs,(hM.owned _ _ hob).1] at hb';cases hb'
       ·rw[h1o b' c1]
        by_cases c2:b'=b
        ·subst c2;rw[hG' _ hgs,(hM.owned _ _ hgo).1] at hb';cases hb'
        ·rw[h2o b' c2];exact hagr' b' o' hb'
      have hM1:=hM.after (w':=w1) hle hhnd hagr1 (by omega) hos hout hsame hG'
      have hM2:=hM1.L6 (w':=w2) (k:=kb) (cs:=cs) (vs:=vs') (T:=T') ⟨cs,hcs⟩ ⟨rfl,rfl,by omega,fun b' _ hne=>(h1o b' (fun e=>hne (by rw[e]))).symm⟩ (by rw[h2o _ hBR];exact hB')
       (ay.Ph (by omega) (fun k x y hx hy=>by
         by_cases c1:k=lo
         ·subst c1
          rw[hlo] at hx;cases hx
          rw[hu'] at hy;cases hy
          exact hul'
         ·rw[hvk k c1] at hy
          obtain⟨z,hz,hzd⟩:=hbv.get hx
          rw[hy] at hz;cases hz
          exact aJ.congr hle (.refl ρ x) hzd))
      have hM3:=hM2.setRow (w':=w') (j:=j) (q:=⟨false,qe,qt,qll⟩) (r:=⟨false,qe,qt,ql'⟩) hq rfl rfl (b:=b) (by rw[e1];rfl) ⟨rfl,rfl,by omega,fun b' _ hne=>(h2o b' (fun e=>hne (by rw[e]))).symm⟩ xs' (by rw[e1];exact hor') hlr'
      exact⟨G',ρ,hM3.put o.dst (fun _ _=>trivial)⟩
     ·cases h
    ·cases h
   ·cases h
  ·cases h
 ·rename_i p sp
  exact absurd ⟨p,sp,rfl⟩ hn
 ·cases h
theorem uv {k:St→Option β} (hX:bS X) (h:cg X o S k=some r):∃ S',k S'=some r∧dJ X.P o S S':=by
 have dflt:dA X o S S (fun x=>k (S.app o.dst x))=some r→∃ S',k S'=some r∧dJ X.P o S S':=fun h=>by
  obtain⟨x,hk,hl,hf⟩:=mY hX h
  exact⟨_,hk,.LK hl hf⟩
 cases ho:o.op with
 | store t x y=>
  unfold cg at h
  rw[ho] at h
  simp only at h
  split at h
  ·cases h
  rename_i hd0
  have hd:o.dst=none:=by simpa using hd0
  split at h
  ·rename_i b off ag cs hx hy
   exact Od ho hd hx hy h
  ·rename_i j sz i off ag cs hx hy
   obtain⟨S',h1,h2⟩:=Oe (S:=aB S (fH cs)) ho hd (by rw[su];exact hx) (by rw[su];exact hy) h
   exact⟨S',h1,h2.freeze _⟩
  ·rename_i i off ag cs hx hy
   obtain⟨S',h1,h2⟩:=Pz (S:=aB S (fH cs)) ho hd (by rw[su];exact hx) (by rw[su];exact hy) h
   exact⟨S',h1,h2.freeze _⟩
  ·cases h
 | mapUpdate t m kx x=>
  unfold cg at h
  rw[ho] at h
  simp only at h
  split at h
  ·cases h
  rename_i hd0
  have hd:o.dst=none:=by simpa using hd0
  split at h
  ·rename_i kt et j ht hm
   split at h
   ·rename_i kk vv l hl
    split at h
    ·rename_i key y hk hy
     split at h
     ·rename_i hc
      simp only[SX,Tb] at hc
      exact⟨_,h,((MM ho hd ht hm hl hk hy hc.1 hc.2).intern _).freeze _⟩
     ·cases h
    ·cases h
   ·cases h
  ·cases h
 | slice t x lo hi mx=>
  unfold cg at h
  rw[ho] at h
  simp only at h
  obtain⟨x,hk,hl,hf⟩:=mY hX h
  exact⟨_,hk,(dJ.LK hl hf).freeze _⟩
 | alloc t=>
  unfold cg at h
  rw[ho] at h
  simp only at h
  obtain⟨x,hk,hl,hf⟩:=mY hX h
  exact⟨_,hk,fun C G ρ w a Q hM=>dJ.LK hl hf C G ρ w a Q (hM.tX _)⟩
 | buildSlice t len parts=>
  unfold cg at h
  rw[ho] at h
  simp only at h
  obtain⟨x,hk,hl,hf⟩:=Dj ho h
  exact⟨_,hk,((dJ.LK hl hf).intern _).freeze _⟩
 | call c=>
  obtain⟨callee,args,argTypes⟩:=c
  by_cases hb:callee= .builtin .append
  ·subst hb
   exact Qm ho h
  ·have key:cg X o S k=(match cU S ⟨callee,args,argTypes⟩ with
    | some (f,args)=>(match look X.keys f with
     | some kf=>if kf.QC then DS kf S args o.dst k else dA X o S S fun x=>k (S.app o.dst x)
     | none=>tO S args o.dst k (pZ X.specs f))
    | none=>dA X o S S fun x=>k (S.app o.dst x)):=by
    unfold cg
    rw[ho]
    cases callee with
    | builtin b=>cases b<;>first | rfl | exact absurd rfl hb
    | value f=>rfl
    | invoke r m=>rfl
   rw[key] at h
   split at h
   ·rename_i f args' hcal
    split at h
    ·rename_i kf hkf
     split at h
     ·exact Sf hX ho hcal hkf h
     ·exact dflt h
    ·exact HK hX ho hcal (fun _ h=>MD h) h
   ·exact dflt h
 | _=>
  unfold cg at h
  rw[ho] at h
  exact dflt h
end Go.Dn
namespace Go.Dn
variable {β:Type} {X:Cx} {S:St} {r:β} {C:Fr X.P} {G:Gh} {ρ:Env} {w:World}
theorem QT {a:Act} {d:Nat} {b:Bool} (hT:eX G ρ S a) (h:S.ev (.tmp d)= .v false [.bool b]):S.put (some d) (.v false [.bool b])=S∧a.tmps[d]? =some (.bool b):=by
 have hv:=hT.ev (.tmp d)
 rw[h] at hv
 have hv':a.eval (.tmp d)= .bool b:=hv
 simp only[St.ev] at h
 rw[TL] at h
 cases hs:S.tmps[d]? with
 | none=>rw[hs] at h;cases h
 | some s=>
  rw[hs] at h
  simp only[Vm] at h
  subst h
  obtain⟨hlt,he⟩:=TU.1 hs
  constructor
  ·simp only[St.put]
   have:S.tmps.set d (.v false [.bool b])=S.tmps:=by rw[← he];exact UG hlt
   rw[this]
  ·simp only[Act.eval,SC] at hv'
   have hlt':d<a.tmps.size:=by rw[hT.1];exact hlt
   rw[SD hlt'] at hv' ⊢
   simpa using hv'
theorem fR {ops:List Oper} {o:Oper} {a:Act} {g:Option (Nat×Bool×Bool)} (hT:eX G ρ S a) (h:guardOf ops o S=some g):
 match g with
 | none=>Region.wanted o (yielded ops.toArray a.tmps)=true
 | some (d,b,want)=>S.put (some d) (.v false [.bool b])=S∧Region.wanted o (yielded ops.toArray a.tmps)=(b==want):=by
 unfold guardOf at h
 cases hg:o.guard with
 | none=>
  rw[hg] at h
  cases h
  simp[Region.wanted,hg]
 | some p=>
  obtain⟨j,want⟩:=p
  rw[hg] at h
  simp only at h
  split at h
  ·rename_i o' ho'
   split at h
   ·rename_i d hd
    split at h
    ·rename_i b hb
     cases h
     obtain⟨h1,h2⟩:=QT hT hb
     refine⟨h1, ?_⟩
     have hy:yielded ops.toArray a.tmps j=some b:=by
      simp[yielded,ho',hd,h2]
     simp only[Region.wanted,hg,hy]
     cases b<;>cases want<;>rfl
    ·cases h
   ·cases h
  ·cases h
theorem HR:bf G ρ nA undef:=⟨[],rfl,rfl⟩
theorem Bw {ops:List Oper} {o:Oper} {a:Act} (hT:eX G ρ S a) (h:kH ops o S=true):Region.wanted o (yielded ops.toArray a.tmps)=false:=by
 unfold kH at h
 cases hg:o.guard with
 | none=>rw[hg] at h;cases h
 | some p=>
  obtain⟨j,want⟩:=p
  rw[hg] at h
  simp only at h
  split at h
  ·rename_i o' ho'
   split at h
   ·rename_i d hd
    split at h
    ·rename_i hb
     have hv:=hT.ev (.tmp d)
     rw[hb] at hv
     obtain⟨vs,hv,hn⟩:=hv
     have hn':vs=[]:=hn
     subst hn'
     have hy:yielded ops.toArray a.tmps j=none:=by
      have hv':a.tmps.getD d undef= .tuple #[]:=hv
      simp only[yielded]
      have:(ops.toArray[j]?).bind (fun x=>x.dst)=some d:=by simp[ho',hd]
      rw[this]
      simp only[Vl]
      cases hs:a.tmps[d]? with
      | none=>rfl
      | some v=>
       rw[SC,hs] at hv'
       simp only[Vm] at hv'
       subst hv'
       rfl
     simp[Region.wanted,hg,hy]
    ·cases h
   ·cases h
  ·cases h
theorem DU {d:Nat} {b want:Bool} {yes no:St→Option β} (hS:S.put (some d) (.v false [.bool b])=S) (h:fork S d b want yes no=some r):((b==want)=true∧yes S=some r)∨((b==want)=false∧no S=some r):=by
 unfold fork at h
 cases want<;>cases b<;>simp only[Vx,Vw] at h<;>rw[hS] at h
 ·exact .inl ⟨rfl,h⟩
 ·exact .inr ⟨rfl,h⟩
 ·exact .inr ⟨rfl,h⟩
 ·exact .inl ⟨rfl,h⟩
theorem pq (hX:bS X) (ops:List Oper):∀ (l:List Oper) {S:St} {k:St→Option β} {r:β},jV X ops l S k=some r→∀ {Q:Exit→Act→World→Prop},
 (∀ S' G ρ w a,k S'=some r→Mod C G ρ S' w a→Q .normal a w)→∀ {G ρ w a},Mod C G ρ S w a→wpList X.P ops.toArray Q l a w
 | [],S,k,r,h,Q,hQ,G,ρ,w,a,hM=>hQ S G ρ w a h hM
 | o::rest,S,k,r,h,Q,hQ,G,ρ,w,a,hM=>by
  have step:cg X o S (fun S=>jV X ops rest S k)=some r→o.wp X.P a w (wpList X.P ops.toArray Q rest) Q:=fun h=>by
   obtain⟨S',h1,h2⟩:=uv hX h
   have:=h2 C G ρ w a Q hM
   exact Oper.wp_mono (fun a' w' ⟨G',ρ',hM'⟩=>pq hX ops rest h1 hQ hM') this
  have skip:jV X ops rest (S.put o.dst nA) k=some r→wpList X.P ops.toArray Q rest (a.put o.dst undef) w:=fun h=>
   pq hX ops rest h hQ (hM.put o.dst (fun _ _=>HR))
  simp only[jV] at h
  split at h
  ·cases hs:kH ops o S with
   | false=>rw[hs] at h;cases h
   | true=>
    rw[hs] at h
    have hw:=Bw hM.tmps hs
    simp only[wpList,hw]
    rw[VG (by simp)];exact skip h
  ·rename_i hg
   have hw:=fR hM.tmps hg
   simp only at hw
   simp only[wpList,hw,VI]
   exact .inl (step h)
  ·rename_i d b want hg
   obtain⟨hS,hw⟩:=fR hM.tmps hg
   simp only[wpList,hw]
   rcases DU hS h with ⟨hb,h⟩ | ⟨hb,h⟩
   ·rw[VH hb];exact .inl (step h)
   ·rw[VG (by simp[hb])];exact skip h
theorem wp_region_list {P:Program} {id:Nat} {ops:Array Oper} {Q:Exit→Act→World→Prop} {a:Act} {w:World} (h:wpList P ops Q ops.toList a w):(Code.region id ops false).wp P Q a w:=by
 apply wp_region
 have e:=wpOps_eq_wpList (P:=P) (ops:=ops) (Q:=Q) ops.toList 0 (fun j=>by simp)
 have e2:List.range ops.size=List.range' 0 ops.toList.length:=by rw[List.range_eq_range'];simp
 rw[e2,e]
 exact h
def bh (base:Nat):List CK→List Value→List (Nat×Value)
 | .val t::r,vs=>bh base r (vs.drop t.size)
 | .own _ _::r,v::q=>(base,v)::bh (base+1) r q
 | .map _ _::r,v::q=>(base,v)::bh (base+1) r q
 | .ref _ _::r,_::q=>bh base r q
 | .fn _ _::r,_::q=>bh base r q
 | .ar _::r,q=>bh base r q
 | .arF _::r,q=>bh base r q
 | .rowR _::r,_::q=>bh base r q
 | .rpR _ _::r,_::q=>bh base r q
 | .mapR _::r,_::q=>bh base r q
 | .rowC _ _ _::r,q=>bh base r q
 | .mapC _ _ _::r,q=>bh base r q
 | _,_=>[]
theorem eD:∀ {cks:List CK} {base:Nat} {vs:List Value} {i:Nat} {v:Value},look (bh base cks vs) i=some v→base≤i∧i<base+cks.length
 | [],base,vs,i,v,h=>by simp[bh,look] at h
 | .val t::r,base,vs,i,v,h=>by
  simp only[bh] at h
  have:=eD (cks:=r) h;simp;omega
 | .ar t::r,base,vs,i,v,h=>by
  have:look (bh base r vs) i=some v:=by cases vs<;>exact h
  have:=eD (cks:=r) this;simp;omega
 | .arF t::r,base,vs,i,v,h=>by
  have:look (bh base r vs) i=some v:=by cases vs<;>exact h
  have:=eD (cks:=r) this;simp;omega
 | .rowC _ _ _::r,base,vs,i,v,h=>by
  have:look (bh base r vs) i=some v:=by cases vs<;>exact h
  have:=eD (cks:=r) this;simp;omega
 | .mapC _ _ _::r,base,vs,i,v,h=>by
  have:look (bh base r vs) i=some v:=by cases vs<;>exact h
  have:=eD (cks:=r) this;simp;omega
 | .own _ _::r,base,[],i,v,h=>by simp[bh,look] at h
 | .map _ _::r,base,[],i,v,h=>by simp[bh,look] at h
 | .ref _ _::r,base,[],i,v,h=>by simp[bh,look] at h
 | .fn _ _::r,base,[],i,v,h=>by simp[bh,look] at h
 | .rowR _::r,base,[],i,v,h=>by simp[bh,look] at h
 | .rpR _ _::r,base,[],i,v,h=>by simp[bh,look] at h
 | .mapR _::r,base,[],i,v,h=>by simp[bh,look] at h
 | .own _ _::r,base,u::q,i,v,h=>by
  simp only[bh,ai] at h
  split at h
  ·simp;omega
  ·have:=eD h;simp;omega
 | .map _ _::r,base,u::q,i,v,h=>by
  simp only[bh,ai] at h
  split at h
  ·simp;omega
  ·have:=eD h;simp;omega
 | .ref _ _::r,base,u::q,i,v,h=>by have:=eD (cks:=r) (vs:=q) h;simp;omega
 | .fn _ _::r,base,u::q,i,v,h=>by have:=eD (cks:=r) (vs:=q) h;simp;omega
 | .rowR _::r,base,u::q,i,v,h=>by have:=eD (cks:=r) (vs:=q) h;simp;omega
 | .rpR _ _::r,base,u::q,i,v,h=>by have:=eD (cks:=r) (vs:=q) h;simp;omega
 | .mapR _::r,base,u::q,i,v,h=>by have:=eD (cks:=r) (vs:=q) h;simp;omega
theorem IJ:∀ (cks:List CK),kL cks≤cks.length
 | []=>U0 _
 | c::r=>by
  have:=IJ r
  cases c<;>simp only[kL,T8]<;>omega
theorem eS:∀ {cks:List CK} {base:Nat} {vs:List Value} {i:Nat} {v:Value},look (bh base cks vs) i=some v→i<base+kL cks
 | [],base,vs,i,v,h=>by simp[bh,look] at h
 | .val t::r,base,vs,i,v,h=>by
  simp only[bh] at h
  have:=eS (cks:=r) h;simp only[kL];omega
 | .ar t::r,base,vs,i,v,h=>by
  have:look (bh base r vs) i=some v:=by cases vs<;>exact h
  have:=eS (cks:=r) this;simp only[kL];omega
 | .arF t::r,base,vs,i,v,h=>by
  have:look (bh base r vs) i=some v:=by cases vs<;>exact h
  have:=eS (cks:=r) this;simp only[kL];omega
 | .rowC _ _ _::r,base,vs,i,v,h=>by
  have:look (bh base r vs) i=some v:=by cases vs<;>exact h
  have:=eS (cks:=r) this;simp only[kL];omega
 | .mapC _ _ _::r,base,vs,i,v,h=>by
  have:look (bh base r vs) i=some v:=by cases vs<;>exact h
  have:=eS (cks:=r) this;simp only[kL];omega
 | .own _ _::r,base,[],i,v,h=>by simp[bh,look] at h
 | .map _ _::r,base,[],i,v,h=>by simp[bh,look] at h
 | .ref _ _::r,base,[],i,v,h=>by simp[bh,look] at h
 | .fn _ _::r,base,[],i,v,h=>by simp[bh,look] at h
 | .rowR _::r,base,[],i,v,h=>by simp[bh,look] at h
 | .rpR _ _::r,base,[],i,v,h=>by simp[bh,look] at h
 | .mapR _::r,base,[],i,v,h=>by simp[bh,look] at h
 | .own _ _::r,base,u::q,i,v,h=>by
  simp only[bh,ai] at h
  split at h
  ·simp only[kL];omega
  ·have:=eS h;simp only[kL];omega
 | .map _ _::r,base,u::q,i,v,h=>by
  simp only[bh,ai] at h
  split at h
  ·simp only[kL];omega
  ·have:=eS h;simp only[kL];omega
 | .ref _ _::r,base,u::q,i,v,h=>by have:=eS (cks:=r) (vs:=q) h;simp only[kL];omega
 | .fn _ _::r,base,u::q,i,v,h=>by have:=eS (cks:=r) (vs:=q) h;simp only[kL];omega
 | .rowR _::r,base,u::q,i,v,h=>by have:=eS (cks:=r) (vs:=q) h;simp only[kL];omega
 | .rpR _ _::r,base,u::q,i,v,h=>by have:=eS (cks:=r) (vs:=q) h;simp only[kL];omega
 | .mapR _::r,base,u::q,i,v,h=>by have:=eS (cks:=r) (vs:=q) h;simp only[kL];omega
theorem N0 {t:Ty} {l:List t.den} (h:IV S t=some l):look S.objs bq=some (.ar true t l):=by
 unfold IV at h
 split at h
 ·rename_i ty l' hl
  unfold ox at h
  split at h
  ·rename_i e
   subst e
   cases h
   exact hl
  ·cases h
 ·cases h
theorem fV {ow:List (aU×Nat)} (hM:Mem C G ρ S w) (ρ':Env) (hbx:ρ'.bx=ρ.bx)
 (hor:∀ j n,bH ow (.inr j)=some n→∀ b,ρ.own b=some (.inr j)→ρ'.own b=some (.inr n))
 (hoo:∀ j n,bH ow (.ob j)=some n→(∀ b,ρ.own b=some (.ob j)→ρ'.own b=some (.ob n))∧ρ'.st n=ρ.st j)
 {nn:Nat} (hfx:∀ j,(j<de∨de+nn≤j)→ρ'.rw j=ρ.rw j∧ρ'.ob j=ρ.ob j):∀ {cks:List CK} {cvs:List CV} {x:b8 cks} {vs:List Value} {base:Nat},
 cks.all (CK.oy nn)=true→aY S cks cvs=some x→ay (aJ G ρ) cvs vs→(∀ i v,look (bh base cks vs) i=some v→ρ'.rw i=v∧ρ'.ob i=v)→(∀ p,p∈carried base cks cvs→bH ow p.1=some p.2)→
 ay (aJ G ρ') (jQ base cks x) vs∧(∀ j q,look (eE base cks x) j=some q→bX G ρ' w j q)∧(∀ j q,look (cw base cks x) j=some q→kX G ρ' w j q)
 | [],[],x,vs,base,_,h,hv,_,_=>⟨hv,fun j q hj=>by simp[eE,look] at hj,fun j q hj=>by simp[cw,look] at hj⟩
 | [],_::_,x,vs,base,_,h,hv,_,_=>by simp[aY] at h
 | .own e t::r,[],x,vs,base,_,h,hv,_,_=>by simp[aY] at h
 | .map e t::r,[],x,vs,base,_,h,hv,_,_=>by simp[aY] at h
 | .ref _ _::r,[],x,vs,base,_,h,hv,_,_=>by simp[aY] at h
 | .rowR _::r,[],x,vs,base,_,h,hv,_,_=>by simp[aY] at h
 | .rpR _ _::r,[],x,vs,base,_,h,hv,_,_=>by simp[aY] at h
 | .mapR _::r,[],x,vs,base,_,h,hv,_,_=>by simp[aY] at h
 | .fn _ _::r,[],x,vs,base,_,h,hv,_,_=>by simp[aY] at h
 | .val t::r,cvs,x,vs,base,hfo,h,hv,hval,hcar=>by
  have hfo':r.all (CK.oy nn)=true:=by simp only[Tp,SX] at hfo;exact hfo.2
  simp only[aY] at h
  split at h
  ·rename_i y q hy
   split at h
   ·rename_i z hz
    cases h
    obtain⟨a,b,e,h1,h2⟩:=Nk hM.frozen t cvs y q vs hy hv
    have hr:=s6 t hy
    have hlen:=h1.len
    have hb:vs.drop t.size=b:=by rw[e, ← hlen,TD]
    obtain⟨g1,g2,g3⟩:=fV hM ρ' hbx hor hoo hfx (base:=base) hfo' hz h2 (fun i v hi=>hval i v (by simp only[bh,hb];exact hi)) (fun p hp=>hcar p (by simp only[carried, ← hr];exact hp))
    refine⟨?_,g2,g3⟩
    rw[e]
    exact (eM ρ' h1).append g1
   ·cases h
  ·cases h
 | .ref k off::r,c::q,x,vs,base,hfo,h,⟨v,us,e,hc,hq⟩,hval,hcar=>by
  have hfo':r.all (CK.oy nn)=true:=by simp only[Tp,SX] at hfo;exact hfo.2
  subst e
  simp only[aY] at h
  split at h
  ·rename_i k' off'
   replace h:(if (k.beq k'&&off.beq off')=true then aY S r q else none)=(some x:Option (b8 r)):=h
   split at h
   ·rename_i hk
    simp only[SX] at hk
    have e1:=UW hk.1
    have e2:=UW hk.2
    subst e1;subst e2
    obtain⟨g1,g2,g3⟩:=fV (cks:=r) hM ρ' hbx hor hoo hfx (base:=base) hfo' h hq hval hcar
    exact⟨⟨v,us,rfl,by show v=_;rw[hbx];exact hc,g1⟩,g2,g3⟩
   ·cases h
  ·cases h
 | .fn g ks::r,c::q,x,vs,base,hfo,h,⟨v,us,e,hc,hq⟩,hval,hcar=>by
  have hfo':r.all (CK.oy nn)=true:=by simp only[Tp,SX] at hfo;exact hfo.2
  subst e
  simp only[aY] at h
  split at h
  ·rename_i g' ks'
   replace h:(if (g.beq g'&&ks==ks')=true then aY S r q else none)=(some x:Option (b8 r)):=h
   split at h
   ·rename_i hk
    simp only[SX] at hk
    have e1:=UW hk.1
    have e2:ks=ks':=by simpa using hk.2
    subst e1;subst e2
    obtain⟨g1,g2,g3⟩:=fV (cks:=r) hM ρ' hbx hor hoo hfx (base:=base) hfo' h hq hval hcar
    exact⟨⟨v,us,rfl,by show v=_;rw[hbx];exact hc,g1⟩,g2,g3⟩
   ·cases h
  ·cases h
 | .ar t::r,q,x,vs,base,hfo,h,hv,hval,hcar=>by
  have hfo':r.all (CK.oy nn)=true:=by simp only[Tp,SX] at hfo;exact hfo.2
  simp only[aY] at h
  split at h
  ·rename_i l y hl hy
   cases h
   obtain⟨f,hlk,hf⟩:=oW hl
   have:=hf rfl
   subst this
   have ec:carried base (.ar t::r) q=(.ob bq,bq)::carried base r q:=by cases q<;>rfl
   have ev:bh base (.ar t::r) vs=bh base r vs:=by cases vs<;>rfl
   rw[ec] at hcar
   rw[ev] at hval
   obtain⟨g1,g2,g3⟩:=fV (cks:=r) hM ρ' hbx hor hoo hfx (base:=base) hfo' hy hv hval (fun p hp=>hcar p (by simp[hp]))
   refine⟨g1,g2,fun j q' hj=> ?_⟩
   simp only[cw,ai] at hj
   split at hj
   ·rename_i ej
    subst ej
    cases hj
    obtain⟨_,h1,h2,h3⟩:=hM.objs bq _ hlk
    have hown:=(hoo bq bq (hcar (.ob bq,bq) (by simp))).1
    refine⟨rfl,h1,h2,fun i z hz=> ?_⟩
    obtain⟨b,ws,T,f1,f2,f3,f4,f5⟩:=h3 i z hz
    exact⟨b,ws,T,f1,nofun,fun _=>hown b (f3 rfl),f4,f5⟩
   ·exact g3 j q' hj
  ·cases h
 | .arF t::r,q,x,vs,base,hfo,h,hv,hval,hcar=>by
  have hfo':r.all (CK.oy nn)=true:=by simp only[Tp,SX] at hfo;exact hfo.2
  simp only[aY] at h
  split at h
  ·rename_i l y hl hy
   cases h
   have hlk:=N0 hl
   have ec:carried base (.arF t::r) q=carried base r q:=by cases q<;>rfl
   have ev:bh base (.arF t::r) vs=bh base r vs:=by cases vs<;>rfl
   rw[ec] at hcar
   rw[ev] at hval
   obtain⟨g1,g2,g3⟩:=fV (cks:=r) hM ρ' hbx hor hoo hfx (base:=base) hfo' hy hv hval hcar
   refine⟨g1,g2,fun j q' hj=> ?_⟩
   simp only[cw,ai] at hj
   split at hj
   ·rename_i ej
    subst ej
    cases hj
    obtain⟨_,h1,h2,h3⟩:=hM.objs bq _ hlk
    refine⟨rfl,h1,h2,fun i z hz=> ?_⟩
    obtain⟨b,ws,T,f1,f2,f3,f4,f5⟩:=h3 i z hz
    exact⟨b,ws,T,f1,f2,nofun,f4,f5⟩
   ·exact g3 j q' hj
  ·cases h
 | .own e' t::r,c::q,x,vs,base,hfo,h,⟨v,us,e,hc,hq⟩,hval,hcar=>by
  have hfo':r.all (CK.oy nn)=true:=by simp only[Tp,SX] at hfo;exact hfo.2
  subst e
  have hv:ρ'.rw base=v:=(hval base v (by simp[bh,ai])).1
  have hval':∀ i u,look (bh (base+1) r us) i=some u→ρ'.rw i=u∧ρ'.ob i=u:=fun i u hi=>hval i u (by
   simp only[bh,ai]
   rw[VG (by have:=eD hi;omega)]
   exact hi)
  simp only[aY] at h
  split at h
  ·rename_i l y hl hy
   cases h
   obtain⟨g1,g2,g3⟩:=fV hM ρ' hbx hor hoo hfx (base:=base+1) hfo' hy hq hval' (fun p hp=>hcar p (by simp[carried,hp]))
   obtain⟨h1,h2⟩:=nY (ow:=ow) (n:=base) hM (Gh.le_refl G) hl hc (fun p hp=>hcar p (by simp[carried,hp]))
   refine⟨⟨v,us,rfl,⟨hv.symm, ?_⟩,g1⟩,fun j q' hj=> ?_,g3⟩
   ·obtain⟨xs,ho,_⟩:=h1
    rcases ho.2 with ⟨e,_⟩ | ⟨g,cap,cur,e,_⟩
    ·exact⟨_,_,_,e⟩
    ·exact⟨_,_,_,e⟩
   ·simp only[eE,ai] at hj
    split at hj
    ·rename_i ej
     subst ej
     cases hj
     unfold bX
     rw[VG (by simp),hv]
     obtain⟨xs,ho,hr⟩:=h1
     refine⟨xs,ho,hr,fun b hb=> ?_⟩
     have hown:=h2 b hb
     unfold cW at hown
     cases h3:ρ.own b with
     | none=>rw[h3] at hown;cases hown
     | some o'=>
      rw[h3] at hown
      simp only[Vl] at hown
      have:∃ j,o'= .inr j:=by
       cases c<;>simp only[gA] at hl<;>try cases hl
       case row j0=>
        split at hl
        ·rename_i q0 hq0
         split at hl
         ·cases hl
         ·rename_i hcnd
          simp only[Tf,VL,Ta,S9] at hcnd
          have hrow:=hM.rows j0 q0 hq0
          unfold bX at hrow
          rw[VG (by simp[hcnd.1])] at hrow
          obtain⟨_,_,_,hob⟩:=hrow
          have hc1:=hc.1
          rw[hc1] at hb
          have:=hob b hb
          rw[h3] at this
          exact⟨j0,by simpa using this⟩
        ·cases hl
       case nils=>
        have hvn:v= .slice none 0 0:=hc
        rw[hvn] at hb;cases hb
      obtain⟨j0,rfl⟩:=this
      exact hor j0 base hown b h3
    ·exact g2 j q' hj
  ·cases h
 | .map kk vv::r,c::q,x,vs,base,hfo,h,⟨v,us,e,hc,hq⟩,hval,hcar=>by
  have hfo':r.all (CK.oy nn)=true:=by simp only[Tp,SX] at hfo;exact hfo.2
  subst e
  have hv:ρ'.ob base=v:=(hval base v (by simp[bh,ai])).2
  have hval':∀ i u,look (bh (base+1) r us) i=some u→ρ'.rw i=u∧ρ'.ob i=u:=fun i u hi=>hval i u (by
   simp only[bh,ai]
   rw[VG (by have:=eD hi;omega)]
   exact hi)
  simp only[aY] at h
  split at h
  ·rename_i l y hl hy
   cases h
   obtain⟨g1,g2,g3⟩:=fV hM ρ' hbx hor hoo hfx (base:=base+1) hfo' hy hq hval' (fun p hp=>hcar p (by simp[carried,hp]))
   cases c<;>simp only[lZ] at hl<;>try cases hl
   case mp j0=>
    split at hl
    ·rename_i k' v' l' hlk
     obtain⟨e1,e2,e3⟩:=AP hl
     subst e1;subst e2;subst e3
     obtain⟨b,es,clock,f1,f2,f3,f4,f5,f6⟩:=hM.objs j0 _ hlk
     have hlo:=hcar (.ob j0,base) (by simp[carried,lB])
     obtain⟨ho1,ho2⟩:=hoo j0 base hlo
     have hvb:v= .map (some b):=hc.1.trans f1
     refine⟨⟨v,us,rfl,⟨hv.symm,b,hvb⟩,g1⟩,g2,fun j q' hj=> ?_⟩
     simp only[cw,ai] at hj
     split at hj
     ·rename_i ej
      subst ej
      cases hj
      exact⟨b,es,clock,hv.trans hvb,ho1 b f2,f3,f4,by rw[ho2];exact f5,f6⟩
     ·exact g3 j q' hj
    ·cases hl
  ·cases h
 | .rowR j::r,c::q,x,vs,base,hfo,h,⟨v,us,e,hc,hq⟩,hval,hcar=>by
  simp only[Tp,SX] at hfo
  subst e
  simp only[aY] at h
  split at h
  ·rename_i j'
   replace h:(if j.beq j'=true then aY S r q else none)=(some x:Option (b8 r)):=h
   split at h
   ·rename_i hk
    have e1:=UW hk
    subst e1
    obtain⟨g1,g2,g3⟩:=fV (cks:=r) hM ρ' hbx hor hoo hfx (base:=base) hfo.2 h hq hval hcar
    have hj:=(hfx j (by have:=hfo.1;simp only[CK.oy,Tf] at this;exact this.imp (fun h=>by simpa using h) UY)).1
    exact⟨⟨v,us,rfl,⟨by rw[hj];exact hc.1,hc.2⟩,g1⟩,g2,g3⟩
   ·cases h
  ·cases h
 | .rpR j sz::r,c::q,x,vs,base,hfo,h,⟨v,us,e,hc,hq⟩,hval,hcar=>by
  simp only[Tp,SX] at hfo
  subst e
  simp only[aY] at h
  split at h
  ·rename_i j' sz' i off
   replace h:(if (j.beq j'&&(sz.beq sz'&&off.beq 0))=true then (match aY S r q with | some y=>some (i,y) | none=>none) else none)=(some x:Option (Nat×b8 r)):=h
   split at h
   ·rename_i hk
    simp only[SX] at hk
    have e1:=UW hk.1
    have e2:=UW hk.2.1
    have e3:=UW hk.2.2
    subst e1;subst e2;subst e3
    split at h
    ·rename_i y hy
     cases h
     obtain⟨g1,g2,g3⟩:=fV (cks:=r) hM ρ' hbx hor hoo hfx (base:=base) hfo.2 hy hq hval hcar
     have hj:=(hfx j (by have:=hfo.1;simp only[CK.oy,Tf] at this;exact this.imp (fun h=>by simpa using h) UY)).1
     obtain⟨b,len,cap,c1,c2⟩:=hc
     exact⟨⟨v,us,rfl,⟨b,len,cap,by rw[hj];exact c1,c2⟩,g1⟩,g2,g3⟩
    ·cases h
   ·cases h
  ·cases h
 | .mapR j::r,c::q,x,vs,base,hfo,h,⟨v,us,e,hc,hq⟩,hval,hcar=>by
  simp only[Tp,SX] at hfo
  subst e
  simp only[aY] at h
  split at h
  ·rename_i j'
   replace h:(if j.beq j'=true then aY S r q else none)=(some x:Option (b8 r)):=h
   split at h
   ·rename_i hk
    have e1:=UW hk
    subst e1
    obtain⟨g1,g2,g3⟩:=fV (cks:=r) hM ρ' hbx hor hoo hfx (base:=base) hfo.2 h hq hval hcar
    have hj:=(hfx j (by have:=hfo.1;simp only[CK.oy,Tf] at this;exact this.imp (fun h=>by simpa using h) UY)).2
    exact⟨⟨v,us,rfl,⟨by rw[hj];exact hc.1,hc.2⟩,g1⟩,g2,g3⟩
   ·cases h
  ·cases h
 | .rowC j e' t::r,q,x,vs,base,hfo,h,hv,hval,hcar=>by
  simp only[Tp,SX] at hfo
  have hj:=(hfx j (by have:=hfo.1;simp only[CK.oy,Tf] at this;exact this.imp (fun h=>by simpa using h) UY)).1
  simp only[aY] at h
  split at h
  ·rename_i l y hl hy
   cases h
   have ec:carried base (.rowC j e' t::r) q=(.inr j,j)::carried base r q:=by cases q<;>rfl
   have ev:bh base (.rowC j e' t::r) vs=bh base r vs:=by cases vs<;>rfl
   rw[ec] at hcar
   rw[ev] at hval
   obtain⟨g1,g2,g3⟩:=fV (cks:=r) hM ρ' hbx hor hoo hfx (base:=base) hfo.2 hy hv hval (fun p hp=>hcar p (by simp[hp]))
   refine⟨g1,fun i q' hi=> ?_,g3⟩
   simp only[eE,ai] at hi
   split at hi
   ·rename_i ej
    subst ej
    cases hi
    have hlo:=hcar (.inr j,j) (by simp)
    simp only[gA] at hl
    split at hl
    ·rename_i q0 hq0
     split at hl
     ·cases hl
     ·rename_i hc
      simp only[Tf,VL,Ta,S9] at hc
      obtain⟨et,el⟩:=gw hl
      have hrow:=hM.rows j q0 hq0
      obtain⟨qf,qe,qt,ql⟩:=q0
      dsimp only at et el hc
      subst et;subst el
      have hee:qe=e':=UW hc.2
      subst hee
      unfold bX at hrow ⊢
      rw[VG (by simp[hc.1])] at hrow
      rw[VG (by simp),hj]
      obtain⟨xs,h1,h2,h3⟩:=hrow
      exact⟨xs,h1,h2,fun b hb=>hor j j hlo b (h3 b hb)⟩
    ·cases hl
   ·exact g2 i q' hi
  ·cases h
 | .mapC j kk vv::r,q,x,vs,base,hfo,h,hv,hval,hcar=>by
  simp only[Tp,SX] at hfo
  have hj:=(hfx j (by have:=hfo.1;simp only[CK.oy,Tf] at this;exact this.imp (fun h=>by simpa using h) UY)).2
  simp only[aY] at h
  split at h
  ·rename_i l y hl hy
   cases h
   have ec:carried base (.mapC j kk vv::r) q=(.ob j,j)::carried base r q:=by cases q<;>rfl
   have ev:bh base (.mapC j kk vv::r) vs=bh base r vs:=by cases vs<;>rfl
   rw[ec] at hcar
   rw[ev] at hval
   obtain⟨g1,g2,g3⟩:=fV (cks:=r) hM ρ' hbx hor hoo hfx (base:=base) hfo.2 hy hv hval (fun p hp=>hcar p (by simp[hp]))
   refine⟨g1,g2,fun i q' hi=> ?_⟩
   simp only[cw,ai] at hi
   split at hi
   ·rename_i ej
    subst ej
    cases hi
    obtain⟨ho1,ho2⟩:=hoo j j (hcar (.ob j,j) (by simp))
    simp only[lZ] at hl
    split at hl
    ·rename_i k' v' l' hlk
     obtain⟨e1,e2,e3⟩:=AP hl
     subst e1;subst e2;subst e3
     obtain⟨b,es,clock,f1,f2,f3,f4,f5,f6⟩:=hM.objs j _ hlk
     exact⟨b,es,clock,by rw[hj];exact f1,ho1 b f2,f3,f4,by rw[ho2];exact f5,f6⟩
    ·cases hl
   ·exact g3 i q' hi
  ·cases h
def pK (a:Act) (p:Nat×CK):List Value:=match p.2.agg with
 | false=>[a.tmps.getD p.1 undef]
 | true=>match a.tmps.getD p.1 undef with
  | .agg vs=>vs.toList
  | _=>[]
def HW (a:Act) (l:List (Nat×CK)):Prop:=∀ p,p∈l→(pK a p).length=p.2.size∧(p.2.agg=true→a.tmps.getD p.1 undef= .agg (pK a p).toArray)
theorem JQ {a:Act} (hT:eX G ρ S a):∀ {l:List (Nat×CK)} {cs:List CV},DG S l=some cs→ay (aJ G ρ) cs (l.flatMap (pK a))∧HW a l
 | [],cs,h=>by simp only[DG] at h;cases h;exact⟨rfl,fun p hp=>by cases hp⟩
 | p::r,cs,h=>by
  simp only[DG] at h
  split at h
  ·rename_i ag c hc
   split at h
   ·rename_i l hl
    split at h
    ·rename_i hsz
     cases h
     simp only[SX,beq_iff_eq,Tf] at hsz
     obtain⟨e1,e2,e3⟩:=hsz
     have hlen:=UW e2
     have:=hT.ev (.tmp p.1)
     simp only[St.ev] at this
     rw[hc] at this
     obtain⟨h1,h2⟩:=JQ hT hl
     have key:ay (aJ G ρ) c (pK a p)∧(p.2.agg=true→a.tmps.getD p.1 undef= .agg (pK a p).toArray):=by
      unfold pK
      rw[← e1]
      cases ag with
      | true=>
       obtain⟨vs,ev,hv⟩:=this
       have ev':a.tmps.getD p.1 undef= .agg vs.toArray:=ev
       rw[ev']
       simpa using hv
      | false=>
       have e3':c.length=1:=by
        rcases e3 with e3 | e3
        ·cases e3
        ·rw[hlen];exact UW e3
       match c,e3' with
       | [c],_=>exact⟨⟨_,_,rfl,this,rfl⟩,nofun⟩
     refine⟨by simpa using key.1.append h1,fun q hq=> ?_⟩
     rcases Uk.1 hq with rfl | hq
     ·exact⟨by rw[key.1.len];exact hlen,key.2⟩
     ·exact h2 q hq
    ·cases h
   ·cases h
  ·cases h
theorem Jm (hM:Mem C G ρ S w):∀ {l:List (Nat×List CK)} {cs:List CV},CD S l=some cs→∃ vss:List (List Value),ay (aJ G ρ) cs vss.flatten∧
 ay (fun (p:Nat×List CK) vs=>vs.length=kZ p.2∧ρ.own (ρ.bx p.1)=some (.inl p.1)∧∃ T,w.heap[ρ.bx p.1]? =some (.cells (List.toArray vs) T (0,0))) l vss
 | [],cs,h=>by simp only[CD] at h;cases h;exact⟨[],rfl,rfl⟩
 | p::r,cs,h=>by
  simp only[CD] at h
  split at h
  ·rename_i c hc
   split at h
   ·rename_i hlen
    split at h
    ·rename_i l hl
     cases h
     obtain⟨vss,h1,h2⟩:=Jm hM hl
     obtain⟨ho,vs,T,hw,hv⟩:=hM.boxes p.1 c hc
     refine⟨vs::vss,by simpa using hv.append h1,vs,vss,rfl,⟨?_,ho,T,hw⟩,h2⟩
     rw[hv.len];exact UW hlen
    ·cases h
   ·cases h
  ·cases h
theorem JK {a:Act}:∀ {l:List (Nat×CK)} {cs:List CV} {t:List SV},HW a l→ay (aJ G ρ) cs (l.flatMap (pK a))→eX G ρ ⟨t,[],[],[]⟩ a→eX G ρ ⟨vU l cs t,[],[],[]⟩ a
 | [],cs,t,_,h,ht=>ht
 | p::r,cs,t,hk,h,ht=>by
  obtain⟨h1,h2⟩:=hk p Um
  simp only[TK] at h
  have g1:=h.take p.2.size
  have g2:=h.drop p.2.size
  rw[← h1,UM] at g1
  rw[← h1,TD] at g2
  rw[h1] at g1 g2
  simp only[vU]
  refine JK (fun q hq=>hk q (Ul _ hq)) g2 ⟨by simpa using ht.1,fun i s hi=> ?_⟩
  simp only[TX] at hi
  split at hi
  ·rename_i e
   split at hi
   ·cases hi;subst e
    show jr G ρ p.2.agg (cs.take p.2.size) (a.tmps.getD p.1 undef)
    cases hag:p.2.agg with
    | true=>rw[h2 hag];exact⟨_,rfl,g1⟩
    | false=>
     have e:pK a p=[a.tmps.getD p.1 undef]:=by unfold pK;rw[hag]
     rw[e] at g1
     obtain⟨x,y,e2,g3,g4⟩:∃ x y,cs.take p.2.size=x::y∧aJ G ρ x (a.tmps.getD p.1 undef)∧y=[]:=by
      cases hc:cs.take p.2.size with
      | nil=>rw[hc] at g1;cases g1
      | cons x y=>
       rw[hc] at g1
       obtain⟨v,s,e5,e6,e7⟩:=g1
       cases e5
       cases y with
       | nil=>exact⟨x,[],rfl,e6,rfl⟩
       | cons z y=>obtain⟨_,_,e8,_⟩:=e7;cases e8
     rw[e2,g4];exact g3
   ·cases hi
  ·exact ht.2 i s hi
theorem Jl {R:CV→Value→Prop} {H:Nat→List Value→Prop}:∀ {l:List (Nat×List CK)} {cs:List CV} {vss:List (List Value)},ay R cs vss.flatten→ay (fun (p:Nat×List CK) vs=>vs.length=kZ p.2∧H p.1 vs) l vss→
 ∀ k cells,look (CC l cs) k=some cells→∃ vs,H k vs∧ay R cells vs
 | [],cs,vss,_,_,k,cells,hk=>by simp[CC,look] at hk
 | p::r,cs,vss,h,⟨vs,us,e,⟨hl,hH⟩,hr⟩,k,cells,hk=>by
  subst e
  simp only[CC,ai] at hk
  have h1:=h.take (kZ p.2)
  have h2:=h.drop (kZ p.2)
  simp only[List.flatten_cons] at h1 h2
  rw[← hl,UM] at h1
  rw[← hl,TD] at h2
  split at hk
  ·rename_i ek
   cases hk
   subst ek
   exact⟨vs,hH,by rw[← hl];exact h1⟩
  ·exact Jl (by rw[← hl];exact h2) hr k cells hk
theorem ay.Qe {α γ:Type} {R:α→γ→Prop} {l:List α} {a b:List γ} (h:ay R l (a++b)):ay R (l.take a.length) a∧ay R (l.drop a.length) b:=by
 have h1:=h.take a.length
 have h2:=h.drop a.length
 rw[UM] at h1
 rw[TD] at h2
 exact⟨h1,h2⟩
theorem zJ:∀ (l:List (Nat×CK)) (cs:List CV) (t:List SV),vU l cs t=vU l (cs.take (kZ (l.map (·.2)))) t
 | [],cs,t=>rfl
 | p::r,cs,t=>by
  simp only[vU,Uf,kZ]
  rw[zJ r,zJ r ((cs.take _).drop _)]
  congr 1
  ·rw[List.drop_take,UP]
   congr 1
   omega
  ·rw[UP]
   congr 3
   omega
theorem HW.len {a:Act}:∀ {l:List (Nat×CK)},HW a l→(l.flatMap (pK a)).length=kZ (l.map (·.2))
 | [],_=>rfl
 | p::r,h=>by
  have ih:=HW.len (l:=r) fun q hq=>h q (Ul _ hq)
  simp only[TK,T7,Uf,kZ,ih,(h p Um).1]
theorem eN:∀ {cks:List CK} {cvs:List CV} {x:b8 cks} {base:Nat} {t:Ty} {l:List t.den},aY S cks cvs=some x→look (cw base cks x) bq=some (.ar false t l)→∃ t l,look S.objs bq=some (.ar false t l)
 | [],cvs,x,base,t,l,h,hl=>by simp[cw,look] at hl
 | .val _::r,cvs,x,base,t,l,h,hl=>by
  simp only[aY] at h
  split at h
  ·split at h
   ·rename_i z hz
    cases h
    exact eN (cks:=r) hz hl
   ·cases h
  ·cases h
 | .own _ _::r,[],x,base,t,l,h,hl=>by simp[aY] at h
 | .own _ _::r,c::q,x,base,t,l,h,hl=>by
  simp only[aY] at h
  split at h
  ·rename_i y z hz
   cases h
   exact eN (cks:=r) hz hl
  ·cases h
 | .map _ _::r,[],x,base,t,l,h,hl=>by simp[aY] at h
 | .map _ _::r,c::q,x,base,t,l,h,hl=>by
  simp only[aY] at h
  split at h
  ·rename_i y z hz
   cases h
   simp only[cw,ai] at hl
   split at hl
   ·cases hl
   ·exact eN (cks:=r) hz hl
  ·cases h
 | .ref k off::r,[],x,base,t,l,h,hl=>by simp[aY] at h
 | .ref k off::r,c::q,x,base,t,l,h,hl=>by
  simp only[aY] at h
  split at h
  ·rename_i k' off'
   replace h:(if (k.beq k'&&off.beq off')=true then aY S r q else none)=(some x:Option (b8 r)):=h
   split at h
   ·exact eN (cks:=r) h hl
   ·cases h
  ·cases h
 | .fn g ks::r,[],x,base,t,l,h,hl=>by simp[aY] at h
 | .fn g ks::r,c::q,x,base,t,l,h,hl=>by
  simp only[aY] at h
  split at h
  ·rename_i g' ks'
   replace h:(if (g.beq g'&&ks==ks')=true then aY S r q else none)=(some x:Option (b8 r)):=h
   split at h
   ·exact eN (cks:=r) h hl
   ·cases h
  ·cases h
 | .rowR j::r,[],x,base,t,l,h,hl=>by simp[aY] at h
 | .rowR j::r,c::q,x,base,t,l,h,hl=>by
  simp only[aY] at h
  split at h
  ·rename_i j'
   replace h:(if j.beq j'=true then aY S r q else none)=(some x:Option (b8 r)):=h
   split at h
   ·exact eN (cks:=r) h hl
   ·cases h
  ·cases h
 | .rpR j sz::r,[],x,base,t,l,h,hl=>by simp[aY] at h
 | .rpR j sz::r,c::q,x,base,t,l,h,hl=>by
  simp only[aY] at h
  split at h
  ·rename_i j' sz' i off
   replace h:(if (j.beq j'&&(sz.beq sz'&&off.beq 0))=true then (match aY S r q with | some y=>some (i,y) | none=>none) else none)=(some x:Option (Nat×b8 r)):=h
   split at h
   ·split at h
    ·rename_i y hy
     cases h
     exact eN (cks:=r) hy hl
    ·cases h
   ·cases h
  ·cases h
 | .mapR j::r,[],x,base,t,l,h,hl=>by simp[aY] at h
 | .mapR j::r,c::q,x,base,t,l,h,hl=>by
  simp only[aY] at h
  split at h
  ·rename_i j'
   replace h:(if j.beq j'=true then aY S r q else none)=(some x:Option (b8 r)):=h
   split at h
   ·exact eN (cks:=r) h hl
   ·cases h
  ·cases h
 | .rowC j e t'::r,q,x,base,t,l,h,hl=>by
  simp only[aY] at h
  split at h
  ·rename_i y z hz
   cases h
   exact eN (cks:=r) hz hl
  ·cases h
 | .mapC j k v::r,q,x,base,t,l,h,hl=>by
  simp only[aY] at h
  split at h
  ·rename_i y z hz
   cases h
   simp only[cw,ai] at hl
   split at hl
   ·cases hl
   ·exact eN (cks:=r) hz hl
  ·cases h
 | .arF t'::r,q,x,base,t,l,h,hl=>by
  simp only[aY] at h
  split at h
  ·rename_i y z hz
   cases h
   simp only[cw,ai] at hl
   split at hl
   ·cases hl
   ·exact eN (cks:=r) hz hl
  ·cases h
 | .ar t'::r,q,x,base,t,l,h,hl=>by
  simp only[aY] at h
  split at h
  ·rename_i y z hy hz
   obtain⟨f,hl,hf⟩:=oW hy
   have:=hf rfl
   subst this
   exact⟨_,_,hl⟩
  ·cases h
theorem PV {a:Act} {A:Ann} {x:b8 A.cks} (hM:Mod C G ρ S w a) (h:KW A S=some x):∃ ρ',Mod C G ρ' (head A S.tmps.length x) w a:=by
 unfold KW at h
 split at h
 ·rename_i cvs hpl
  split at h
  ·cases h
  ·rename_i hdup
   simp only[Tf,VL,Ta,S9] at hdup
   obtain⟨⟨⟨hfix,hlen1⟩,hdup'⟩,hcod⟩:=hdup
   have hlen2:A.cks.length<1000:=by simpa using hlen1
   generalize hcar:carried de A.cks cvs=ow at*
   unfold St.places at hpl
   split at hpl
   ·rename_i ct cb hct hcb
    cases hpl
    obtain⟨hvT,hszT⟩:=JQ hM.tmps hct
    obtain⟨vss,hvB,hbs⟩:=Jm hM.toMem hcb
    have hvs:=hvT.append hvB
    generalize hvals:bh de A.cks (A.tmps.flatMap (pK a)++vss.flatten)=hv
    let ρ':Env:=⟨ρ.bx,fun i=>(look hv i).getD (ρ.rw i),
     fun b=>match ρ.own b with | some (.inl k)=>some (.inl k) | some (.inr j)=>(bH ow (.inr j)).map .inr | some (.ob j)=>(bH ow (.ob j)).map .ob | none=>none,
     fun i=>(look hv i).getD (ρ.ob i),
     fun i=>match kS ow i with | some (.ob j)=>ρ.st j | _=>ρ.st i⟩
    have hfxv:∀ j,(j<de∨de+kL A.cks≤j)→ρ'.rw j=ρ.rw j∧ρ'.ob j=ρ.ob j:=fun j hj=>by
     have:look hv j=none:=by
      cases hl:look hv j with
      | none=>rfl
      | some v=>
       rw[← hvals] at hl
       have:=eD hl
       have:=eS hl
       omega
     exact⟨by show (look hv j).getD _=_;rw[this];rfl,by show (look hv j).getD _=_;rw[this];rfl⟩
    obtain⟨h1,h2,h2'⟩:=fV (ow:=ow) hM.toMem ρ' rfl (fun j n hl b hb=>by
     show ((match ρ.own b with | some (.inl k)=>some (aU.inl k) | some (.inr j)=>(bH ow (.inr j)).map aU.inr | some (.ob j)=>(bH ow (.ob j)).map aU.ob | none=>none):Option aU)=_
     rw[hb];simp[hl])
     (fun j n hl=>⟨fun b hb=>by
       show ((match ρ.own b with | some (.inl k)=>some (aU.inl k) | some (.inr j)=>(bH ow (.inr j)).map aU.inr | some (.ob j)=>(bH ow (.ob j)).map aU.ob | none=>none):Option aU)=_
       rw[hb];simp[hl],by
       show (match kS ow n with | some (.ob j)=>ρ.st j | _=>ρ.st n)=_
       rw[tZ hcod (O5 hl)]⟩) hfxv (base:=de) hfix h hvs (fun i v hi=>by
       rw[hvals] at hi
       exact⟨by show (look hv i).getD _=_;rw[hi];rfl,by show (look hv i).getD _=_;rw[hi];rfl⟩) (fun p hp=>by
       rw[hcar] at hp
       exact sW hdup' hp)
    obtain⟨h3,h4⟩:=h1.Qe
    rw[HW.len hszT] at h3 h4
    refine⟨ρ',{ agr:=hM.agr,le0:=hM.le0,old:=hM.old,frame:=hM.frame,size:=hM.size,os:=hM.os,output:=hM.output,pin:=hM.pin,pinR:=fun k hk=>⟨(hfxv k (by have:=IJ A.cks;simp only[de];omega)).1.trans (hM.pinR k hk).1,(hfxv k (by have:=IJ A.cks;simp only[de];omega)).2.trans (hM.pinR k hk).2⟩,owned:= ?_,boxes:= ?_,rows:=h2,objs:=h2',hndI:=fun hn=>⟨(hM.hndI hn).1,fun t l hl=>by obtain⟨t',l',h'⟩:=eN h hl;exact (hM.hndI hn).2 t' l' h'⟩,tmps:= ?_,defers:=hM.defers }⟩
    ·intro b o ho
     have ho':(match ρ.own b with | some (.inl k)=>some (.inl k) | some (.inr j)=>(bH ow (.inr j)).map .inr | some (.ob j)=>(bH ow (.ob j)).map .ob | none=>none)=some o:=ho
     cases h5:ρ.own b with
     | none=>rw[h5] at ho';cases ho'
     | some o'=>exact hM.owned b o' h5
    ·intro k cs hk
     obtain⟨vs,⟨h5,T,h6⟩,h7⟩:=Jl (R:=aJ G ρ') (H:=fun k vs=>ρ.own (ρ.bx k)=some (.inl k)∧∃ T,w.heap[ρ.bx k]? =some (.cells (List.toArray vs) T (0,0))) h4 hbs k cs hk
     exact⟨by simp only[ρ',h5],vs,T,h6,h7⟩
    ·have:eX G ρ' ⟨vU A.tmps ((jQ de A.cks x).take (kZ (A.tmps.map (·.2)))) (List.replicate S.tmps.length (.v false [.any])),[],[],[]⟩ a:=
      JK hszT h3 ⟨by simpa using hM.tmps.1,fun i s hi=>by
       simp only[List.getElem?_replicate] at hi
       split at hi
       ·cases hi;exact trivial
       ·cases hi⟩
     rw[← zJ] at this
     exact this
   ·cases hpl
 ·cases h
theorem Iz {a:Act} {A:Ann} {x:b8 A.cks} (hM:Mod C G ρ S w a) (h:carry A S=some x):∃ G' ρ',Mod C G' ρ' (head A S.tmps.length x) w a:=by
 unfold carry at h
 split at h
 ·rename_i cvs _
  obtain⟨G1,ρ1,_,hM1⟩:=hM.freeze (C7 A.cks cvs)
  obtain⟨ρ2,h2⟩:=PV hM1 h
  exact⟨G1,ρ2,h2⟩
 ·cases h
end Go.Dn
namespace Go.Dn
variable {β:Type} {X:Cx} {C:Fr X.P} {G:Gh} {ρ:Env} {w:World}
def KA:Option Del→SV
 | some x=>x.sv
 | none=>nA
def sZ:Option Del→Option (List CV)
 | some x=>x.box
 | none=>none
def sA:Option Del→Option kJ
 | some x=>x.row
 | none=>none
def vO:Option Del→Option mg
 | some x=>x.obj
 | none=>none
def St.out (S:St) (o:Oper):Option Del→St
 | some x=>S.app o.dst x
 | none=>S.put o.dst nA
def states:List Oper→St→List (Option Del)→St
 | o::l,S,x::xs=>states l (S.out o x) xs
 | _,S,_=>S
theorem OL {S:St} {d:Nat} {b:Bool} (h:S.ev (.tmp d)= .v false [.bool b]):S.put (some d) (.v false [.bool b])=S:=by
 simp only[St.ev] at h
 rw[TL] at h
 cases hs:S.tmps[d]? with
 | none=>rw[hs] at h;cases h
 | some s=>
  rw[hs] at h
  simp only[Vm] at h
  subst h
  obtain⟨hlt,he⟩:=TU.1 hs
  simp only[St.put]
  have:S.tmps.set d (.v false [.bool b])=S.tmps:=by rw[← he];exact UG hlt
  rw[this]
theorem Lp {ops:List Oper} {o:Oper} {S:St} {d:Nat} {b want:Bool} (h:guardOf ops o S=some (some (d,b,want))):S.ev (.tmp d)= .v false [.bool b]:=by
 unfold guardOf at h
 split at h
 ·cases h
 ·split at h
  ·split at h
   ·split at h
    ·rename_i hb;cases h;exact hb
    ·cases h
   ·cases h
  ·cases h
structure Oj (P:Program) (o:Oper) (S:St) (x:Del):Prop where
 blind:si o.op=true→cq P o S jh x∧x.box=none∧x.row=none∧x.obj=none
 make:oS o.op=true→cq P o S jh x∧x.box=none∧x.obj=none
def yR (X:Cx) (ops:List Oper) (M:St) (o:Oper) (S:St):Option Del→Prop
 | some x=>(cq X.P o S M x∧Oj X.P o S x)∧(guardOf ops o S=some none∨∃ d b want,guardOf ops o S=some (some (d,b,want))∧(b==want)=true)
 | none=>(∃ d b want,guardOf ops o S=some (some (d,b,want))∧(b==want)=false)∨kH ops o S=true
theorem cq.Na {P:Program} {o:Oper} {S M:St} {x:Del} (h:cq P o S jh x):cq P o S M x:=
 fun C G ρ S1 w a Q hM hN h1 h2 h3=>h C G ρ S1 w a Q hM ⟨hN.ops,fun k cs hk=>(by cases hk),fun k cs hk=>(by cases hk),fun k cs hk=>(by cases hk)⟩ h1 h2 h3
theorem nW (hX:bS X) {o:Oper} {S M:St} {k:Del→Option β} {r:β} (h:dA X o S M k=some r):∃ x,k x=some r∧cq X.P o S M x∧Oj X.P o S x:=by
 cases hb:si o.op with
 | false=>
  cases hk:oS o.op with
  | false=>
   obtain⟨x,h1,h2,_⟩:=mY hX h
   exact⟨x,h1,h2,⟨fun h=>(by rw[hb] at h;cases h),fun h=>(by rw[hk] at h;cases h)⟩⟩
  | true=>
   have e:dA X o S jh (fun x=>bif x.box.isNone&&x.obj.isNone then k x else none)=some r:=by
    obtain⟨dst,op,ty,pos,af,g⟩:=o
    cases op<;>first | exact absurd hk S7 | exact h
   obtain⟨x,h1,h2,_⟩:=mY hX e
   cases hc:x.box.isNone&&x.obj.isNone with
   | false=>rw[hc] at h1;cases h1
   | true=>
    rw[hc] at h1
    simp only[SX,Vn] at hc
    exact⟨x,h1,h2.Na,⟨fun h=>(by rw[hb] at h;cases h),fun _=>⟨h2,hc⟩⟩⟩
 | true=>
  have e:dA X o S jh (fun x=>bif x.box.isNone&&(x.row.isNone&&x.obj.isNone) then k x else none)=some r:=by
   obtain⟨dst,op,ty,pos,af,g⟩:=o
   cases op<;>first | exact absurd hb S7 | exact h
  have hk:oS o.op=false:=by
   revert hb
   cases o.op<;>intro hb<;>first | rfl | exact absurd hb S7
  obtain⟨x,h1,h2,_⟩:=mY hX e
  cases hc:x.box.isNone&&(x.row.isNone&&x.obj.isNone) with
  | false=>rw[hc] at h1;cases h1
  | true=>
   rw[hc] at h1
   simp only[SX,Vn] at hc
   exact⟨x,h1,h2.Na,⟨fun _=>⟨h2,hc⟩,fun h=>(by rw[hk] at h;cases h)⟩⟩
theorem rj (hX:bS X) {ops:List Oper} {M:St}:∀ {l:List Oper} {S:St} {k:St→Option β} {r:β},oa X ops M l S k=some r→
 ∃ outs:List (Option Del),outs.length=l.length∧k (states l S outs)=some r∧∀ i o x,l[i]? =some o→outs[i]? =some x→yR X ops M o (states (l.take i) S (outs.take i)) x
 | [],S,k,r,h=>⟨[],rfl,h,fun i o x hi=>by simp at hi⟩
 | o::l,S,k,r,h=>by
  have cons:∀ (x:Option Del),yR X ops M o S x→oa X ops M l (S.out o x) k=some r→
   ∃ outs:List (Option Del),outs.length=(o::l).length∧k (states (o::l) S outs)=some r∧∀ i o' x,(o::l)[i]? =some o'→outs[i]? =some x→yR X ops M o' (states ((o::l).take i) S (outs.take i)) x:=by
   intro x hx hr
   obtain⟨outs,h1,h2,h3⟩:=rj hX hr
   refine⟨x::outs,by simp[h1],h2,fun i o' y hi hy=> ?_⟩
   cases i with
   | zero=>
    simp only[TQ,Option.some.injEq] at hi hy
    subst hi;subst hy
    exact hx
   | succ i=>
    simp only[TP] at hi hy
    exact h3 i o' y hi hy
  simp only[oa] at h
  split at h
  ·cases hs:kH ops o S with
   | false=>rw[hs] at h;cases h
   | true=>rw[hs] at h;exact cons none (.inr hs) h
  ·rename_i hg
   obtain⟨x,h1,h2⟩:=nW hX h
   exact cons (some x) ⟨h2,.inl hg⟩ h1
  ·rename_i d b want hg
   rcases DU (OL (Lp hg)) h with ⟨hb,h⟩ | ⟨hb,h⟩
   ·obtain⟨x,h1,h2⟩:=nW hX h
    exact cons (some x) ⟨h2,.inr ⟨d,b,want,hg,hb⟩⟩ h1
   ·exact cons none (.inl ⟨d,b,want,hg,hb⟩) h
section
variable {S:St} {o:Oper} {x:Option Del} {d:Nat}
theorem FW (hd:o.dst=some d):(S.out o x).tmps=S.tmps.set d (KA x):=by
 cases x<;>simp[St.out,St.app,St.put,hd,KA]
theorem Dw (hd:o.dst=some d) (k:Nat):look (S.out o x).boxes k=if k=d then (sZ x).or (look S.boxes k) else look S.boxes k:=by
 cases x with
 | none=>simp[St.out,St.put,hd,sZ]
 | some y=>
  simp only[St.out,St.app,hd,sZ]
  cases y.box with
  | none=>simp
  | some c=>
   simp only[ai]
   by_cases e:k=d
   ·simp[e]
   ·have:¬ d=k:=fun h=>e h.symm
    simp[e,this]
theorem FV (hd:o.dst=some d) (k:Nat):look (S.out o x).rows k=if k=d then (sA x).or (look S.rows k) else look S.rows k:=by
 cases x with
 | none=>simp[St.out,St.put,hd,sA]
 | some y=>
  simp only[St.out,St.app,hd,sA]
  cases y.row with
  | none=>simp
  | some c=>
   simp only[ai]
   by_cases e:k=d
   ·simp[e]
   ·have:¬ d=k:=fun h=>e h.symm
    simp[e,this]
theorem FU (hd:o.dst=some d) (k:Nat):look (S.out o x).objs k=if k=d then (vO x).or (look S.objs k) else look S.objs k:=by
 cases x with
 | none=>simp[St.out,St.put,hd,vO]
 | some y=>
  simp only[St.out,St.app,hd,vO]
  cases y.obj with
  | none=>simp
  | some c=>
   simp only[ai]
   by_cases e:k=d
   ·simp[e]
   ·have:¬ d=k:=fun h=>e h.symm
    simp[e,this]
end
def dV (l:List Oper):List Nat:=l.filterMap (·.dst)
theorem Bx:∀ {l:List Oper} {S:St} {outs:List (Option Del)},(states l S outs).tmps.length=S.tmps.length
 | [],S,outs=>by cases outs<;>rfl
 | o::l,S,[]=>rfl
 | o::l,S,x::xs=>by
  simp only[states]
  rw[Bx]
  cases x<;>cases hd:o.dst<;>simp[St.out,St.app,St.put,hd]
theorem di:∀ {l:List Oper} {S:St} {outs:List (Option Del)} {t:Nat},t∉dV l→(states l S outs).tmps[t]? =S.tmps[t]? ∧look (states l S outs).boxes t=look S.boxes t∧look (states l S outs).rows t=look S.rows t∧look (states l S outs).objs t=look S.objs t
 | [],S,outs,t,_=>by cases outs<;>exact⟨rfl,rfl,rfl,rfl⟩
 | o::l,S,[],t,_=>⟨rfl,rfl,rfl,rfl⟩
 | o::l,S,x::xs,t,h=>by
  simp only[states]
  cases hd:o.dst with
  | none=>
   have hl:t∉dV l:=by simpa [dV,hd] using h
   obtain⟨h1,h2,h3,h4⟩:=di (S:=S.out o x) (outs:=xs) hl
   rw[h1,h2,h3,h4]
   cases x<;>simp[St.out,St.app,St.put,hd]
  | some d=>
   have hl:t≠d∧t∉dV l:=by simpa [dV,hd] using h
   obtain⟨h1,h2,h3,h4⟩:=di (S:=S.out o x) (outs:=xs) hl.2
   rw[h1,h2,h3,h4,FW hd,Dw hd,FV hd,FU hd]
   refine⟨TY (fun e=>hl.1 e.symm),by simp[hl.1],by simp[hl.1],by simp[hl.1]⟩
theorem yz:∀ (l:List Oper) (S:St) (outs:List (Option Del)) (i:Nat),outs.length=l.length→states l S outs=states (l.drop i) (states (l.take i) S (outs.take i)) (outs.drop i)
 | l,S,outs,0,_=>by simp only[TG,List.take_zero,states]
 | [],S,outs,i+1,h=>by
  have:outs=[]:=TI (by simpa using h)
  subst this;rfl
 | o::l,S,[],i+1,h=>by simp at h
 | o::l,S,x::xs,i+1,h=>by
  simp only[TF,UO,states]
  exact yz l _ xs i (by simpa using h)
theorem iH {l:List Oper} {i:Nat} {o:Oper} {d:Nat} (h:dup (dV l)=false) (hi:l[i]? =some o) (hd:o.dst=some d):d∉dV (l.drop (i+1))∧d∉dV (l.take i):=by
 induction l generalizing i with
 | nil=>simp at hi
 | cons p l ih=>
  cases i with
  | zero=>
   simp only[TQ,Option.some.injEq] at hi
   subst hi
   simp only[dV,List.filterMap_cons,hd] at h
   refine⟨?_,by simp[dV]⟩
   simpa [dV] using (rG h).1
  | succ i=>
   simp only[TP] at hi
   have hm:d∈dV l:=by
    simp only[dV,Un];exact⟨o,Uq hi,hd⟩
   cases hp:p.dst with
   | none=>
    have h':dup (dV l)=false:=by simpa [dV,hp] using h
    obtain⟨h1,h2⟩:=ih h' hi
    exact⟨by simpa using h1,by simpa [dV,hp] using h2⟩
   | some dp=>
    have h':dup (dp::dV l)=false:=by simpa [dV,hp] using h
    obtain⟨h3,h4⟩:=rG h'
    obtain⟨h1,h2⟩:=ih h4 hi
    refine⟨by simpa using h1, ?_⟩
    have hne:d≠dp:=fun e=>h3 (e ▸ hm)
    simp only[UO,dV,List.filterMap_cons,hp,Uk,VL]
    exact⟨hne,h2⟩
theorem pI {l:List Oper} {S:St} {outs:List (Option Del)} {i d:Nat} {o:Oper} {x:Option Del} (hl:outs.length=l.length) (hdup:dup (dV l)=false) (hi:l[i]? =some o) (hx:outs[i]? =some x) (hd:o.dst=some d):
 (d<S.tmps.length→(states l S outs).tmps[d]? =some (KA x))∧look (states l S outs).boxes d=(sZ x).or (look S.boxes d)∧look (states l S outs).rows d=(sA x).or (look S.rows d)∧look (states l S outs).objs d=(vO x).or (look S.objs d):=by
 obtain⟨h1,h2⟩:=iH hdup hi hd
 have e:=yz l S outs i hl
 have hlt:=(TU.1 hi).1
 have hlt':=(TU.1 hx).1
 have e1:l.drop i=o::l.drop (i+1):=by rw[TC hlt,(TU.1 hi).2]
 have e2:outs.drop i=x::outs.drop (i+1):=by rw[TC hlt',(TU.1 hx).2]
 rw[e1,e2] at e
 simp only[states] at e
 rw[e]
 obtain⟨g1,g2,g3,g4⟩:=di (S:=(states (l.take i) S (outs.take i)).out o x) (outs:=outs.drop (i+1)) h1
 obtain⟨f1,f2,f3,f4⟩:=di (S:=S) (outs:=outs.take i) h2
 rw[g1,g2,g3,g4,FW hd,Dw hd,FV hd,FU hd,f2,f3,f4]
 refine⟨fun hlen=> ?_,by simp,by simp,by simp⟩
 rw[TZ (by rw[Bx];exact hlen)]
end Go.Dn
namespace Go.Dn
variable {β:Type} {X:Cx} {C:Fr X.P} {G:Gh} {ρ:Env} {w:World}
def az (S Sn:St) (U:Nat→Bool):St:=
 { tmps:=(List.range S.tmps.length).map fun t=>if U t then S.tmps.getD t (.v false [.any]) else Sn.tmps.getD t (.v false [.any]),
   boxes:=Sn.boxes.filter fun p=> !U p.1,rows:=Sn.rows.filter fun p=> !U p.1,objs:=Sn.objs.filter fun p=> !U p.1 }
theorem bn {α:Type} (U:Nat→Bool):∀ (l:List (Nat×α)) (i:Nat),look (l.filter fun p=> !U p.1) i=if U i=true then none else look l i
 | [],i=>by simp[look]
 | (j,y)::r,i=>by
  have ih:=bn U r i
  cases hU:U j with
  | true=>
   have:(List.filter (fun p:Nat×α=> !U p.1) ((j,y)::r))=r.filter fun p=> !U p.1:=by simp[hU]
   rw[this,ih,ai]
   by_cases e:j=i
   ·subst e;simp[hU]
   ·simp[e]
  | false=>
   have:(List.filter (fun p:Nat×α=> !U p.1) ((j,y)::r))=(j,y)::r.filter fun p=> !U p.1:=by simp[hU]
   rw[this,ai,ai,ih]
   by_cases e:j=i
   ·subst e;simp[hU]
   ·simp[e]
theorem dh {S Sn:St} {U:Nat→Bool} {t:Nat}:(az S Sn U).tmps[t]? =if t<S.tmps.length then some (if U t then S.tmps.getD t (.v false [.any]) else Sn.tmps.getD t (.v false [.any])) else none:=by
 simp only[az,TV]
 by_cases h:t<S.tmps.length
 ·rw[TW h];simp[h]
 ·rw[TT (by simp;omega)];simp[h]
theorem Mod.equiv {A B:St} {a:Act} (h:Mod C G ρ A w a) (ht:A.tmps=B.tmps) (hb:∀ k cs,look B.boxes k=some cs→look A.boxes k=some cs) (hr:∀ k q,look B.rows k=some q→look A.rows k=some q) (ho:∀ k q,look B.objs k=some q→look A.objs k=some q):Mod C G ρ B w a:=
 { h.toMem.sub hb hr ho with tmps:=by have:=h.tmps;unfold eX at this ⊢;rw[← ht];exact this,defers:=h.defers }
theorem QW {l:List Nat} {j:Nat}:inL l j=true↔j∈l:=by
 simp only[inL,Tt]
 constructor
 ·rintro⟨x,hx,h⟩;rw[UW h];exact hx
 ·intro h;exact⟨j,h,by simp⟩
theorem uU {s:Msk} {j:Nat}:inM s j=s.m.testBit j:=by
 unfold inM Nat.testBit
 rw[show Nat.land (Nat.shiftRight s.m j) 1=(1 &&& (s.m >>> j)) from Nat.and_comm _ _]
 have:(1 &&& (s.m >>> j))=(s.m >>> j) % 2:=by rw[Nat.and_comm];exact Nat.and_one_is_mod _
 rw[this]
 rcases Nat.mod_two_eq_zero_or_one (s.m >>> j) with h | h<;>rw[h]<;>rfl
theorem AW {acc:List Msk}:∀ {es:List Edge} {j:Nat},j∈lp acc es→∃ e,e∈es∧Region.binds .any e=true∧(j=e.on∨j∈acc.getD e.on m0)
 | [],j,h=>by
  change inM m0 j=true at h
  rw[uU] at h
  simp[m0] at h
 | e::r,j,h=>by
  simp only[lp] at h
  cases hb:Region.binds .any e with
  | false=>
   rw[hb] at h
   obtain⟨e',h1,h2⟩:=AW h
   exact⟨e',by simp[h1],h2⟩
  | true=>
   rw[hb] at h
   simp only[Vx] at h
   change inM _ j=true at h
   rw[uU] at h
   change (((1 <<< e.on) ||| (acc.getD e.on m0).m) ||| (lp acc r).m).testBit j=true at h
   rw[Nat.testBit_or,Nat.testBit_or,Tf,Tf] at h
   rcases h with (h | h) | h
   ·refine⟨e,by simp,hb,.inl ?_⟩
    rw[Nat.one_shiftLeft,Nat.testBit_two_pow] at h
    exact (VM h).symm
   ·exact⟨e,by simp,hb,.inr (by change inM _ j=true;rw[uU];exact h)⟩
   ·have h':j∈lp acc r:=by change inM _ j=true;rw[uU];exact h
    obtain⟨e',h1,h2⟩:=AW h'
    exact⟨e',by simp[h1],h2⟩
theorem GL:∀ (l:List Oper) (acc:List Msk),(nJ l acc).take acc.length=acc∧(nJ l acc).length=acc.length+l.length∧
 ∀ i o,l[i]? =some o→(nJ l acc).getD (acc.length+i) m0=lp ((nJ l acc).take (acc.length+i)) o.after.toList
 | [],acc=>⟨by simp[nJ],by simp[nJ],fun i o h=>by simp at h⟩
 | p::l,acc=>by
  obtain⟨h1,h2,h3⟩:=GL l (acc++[lp acc p.after.toList])
  simp only[T7,T8,Ub,Vj] at h1 h2 h3
  simp only[nJ]
  have hacc:(nJ l (acc++[lp acc p.after.toList])).take acc.length=acc:=by
   have:=congrArg (List.take acc.length) h1
   rw[UP,U9 (by omega)] at this
   simpa using this
  refine⟨hacc,by rw[h2];simp;omega,fun i o hi=> ?_⟩
  cases i with
  | zero=>
   simp only[TQ,Option.some.injEq] at hi
   subst hi
   rw[US,hacc]
   have:(nJ l (acc++[lp acc p.after.toList]))[acc.length]? =some (lp acc p.after.toList):=by
    have h4:((nJ l (acc++[lp acc p.after.toList])).take (acc.length+1))[acc.length]? =some (lp acc p.after.toList):=by rw[h1];simp
    rw[T0] at h4
    simpa using h4
   rw[TL,this];rfl
  | succ i=>
   simp only[TP] at hi
   have:=h3 i o hi
   rw[show acc.length+(i+1)=acc.length+1+i by omega]
   exact this
theorem Lc {ops:List Oper} {i:Nat} {o:Oper} (hi:ops[i]? =some o) {j:Nat} (h:j∈(deps ops).getD i m0) (hE:iQ ops=true):
 ∃ e,e∈o.after.toList∧Region.binds .any e=true∧e.on<i∧(j=e.on∨j∈(deps ops).getD e.on m0):=by
 obtain⟨_,_,h3⟩:=GL ops []
 have:=h3 i o hi
 simp only[Ub,Vj] at this
 rw[deps,this] at h
 obtain⟨e,h4,h5,h6⟩:=AW h
 have hlt:e.on<i:=by
  simp only[iQ,Tq] at hE
  have h7:=hE i (by simp;exact (TU.1 hi).1)
  rw[hi] at h7
  simp only[Tq] at h7
  have h8:=h7 e h4
  simp only[h5,Td,S8] at h8
  exact U4 (U7 _) (UY h8)
 refine⟨e,h4,h5,hlt, ?_⟩
 rcases h6 with h6 | h6
 ·exact .inl h6
 ·right
  rw[TL,T0] at h6
  rw[VH hlt] at h6
  rw[deps,TL];exact h6
def oK (ops:List Oper) (listed:Array Bool):Prop:=∀ i o,ops[i]? =some o→listed.getD i true=true→∀ e,e∈o.after.toList→Region.binds .any e=true→listed.getD e.on false=true
theorem cQ {ops:List Oper} {listed:Array Bool} (hE:iQ ops=true) (hc:oK ops listed):∀ (i:Nat) (o:Oper),ops[i]? =some o→(∀ e,e∈o.after.toList→Region.binds .any e=true→listed.getD e.on false=true)→
 ∀ j,j∈(deps ops).getD i m0→listed.getD j true=true:=by
 intro i
 induction i using Nat.strongRecOn with
 | _ i ih=>
  intro o hi he j hj
  have hT:∀ m,listed.getD m false=true→listed.getD m true=true:=fun m hm=>by
   rw[SC] at hm ⊢
   cases h:listed[m]? with
   | none=>rfl
   | some b=>rw[h] at hm;simpa using hm
  obtain⟨e,h1,h2,h3,h4⟩:=Lc hi hj hE
  have h5:=he e h1 h2
  rcases h4 with rfl | h4
  ·exact hT _ h5
  ·have hlt:e.on<ops.length:=Nat.lt_trans h3 (TU.1 hi).1
   have h6:ops[e.on]? =some ops[e.on]:=TS hlt
   exact ih e.on h3 _ h6 (fun e' h7 h8=>hc e.on _ h6 (hT _ h5) e' h7 h8) j h4
theorem kT {s:Msk} {j:Nat}:inM s j=true↔j∈s:=Iff.rfl
theorem GN {t:Nat} {m:Msk}:∀ {l:List (Option Nat)} {j k:Nat},GM t m l j=true→l[k]? =some (some t)→j+k∈m
 | [],_,_,_,h=>by simp at h
 | d::r,j,k,h,hk=>by
  simp only[GM,SX] at h
  cases k with
  | zero=>
   simp only[TQ,Option.some.injEq] at hk
   subst hk
   have:=h.1
   simp only[Nat.beq_refl,Td,S8] at this
   exact this
  | succ k=>
   have:=GN h.2 (k:=k) (by simpa using hk)
   rw[show j+(k+1)=j+1+k by omega];exact this
theorem OP {d:Nat} {c:CV}:c.cr d=inL (NL c) d:=by
 have hc:∀ k:Nat,Nat.beq k d=Nat.beq d k:=fun k=>by
  rw[Bool.eq_iff_iff]
  exact⟨fun h=>by rw[UW h];simp,fun h=>by rw[UW h];simp⟩
 cases c<;>simp[CV.cr,CV.bN,CV.aT,CV.br,CV.aW,NL,inL,hc]
theorem lq {a b:List Nat} {d:Nat}:inL (a++b) d=(inL a d||inL b d):=by simp[inL]
theorem Lv {a:Nat} {b:List Nat} {d:Nat}:inL (a::b) d=(Nat.beq d a||inL b d):=by simp[inL]
theorem sV {d:Nat}:∀ {cs:List CV},cs.any (CV.cr d)=inL (xX cs) d
 | []=>rfl
 | c::r=>by rw[xX,lq, ← sV, ← OP];rfl
theorem Js {d:Nat}:∀ {l:List (Bool×List CV)},(l.any fun p=>p.2.any (CV.cr d))=inL (Kw l) d
 | []=>rfl
 | c::r=>by rw[Kw,lq, ← Js, ← sV];rfl
theorem Jr {d:Nat}:∀ {s:SV},s.cr d=inL (NM s) d
 | .v _ _=>sV
 | .tup _=>Js
theorem G7 {d:Nat}:∀ {l:List SV},l.any (SV.cr d)=inL (G6 l) d
 | []=>rfl
 | c::r=>by rw[G6,lq, ← G7, ← Jr];rfl
theorem Jq {d:Nat}:∀ {l:List (Nat×List CV)},inL (Kv l) d=false→(l.any fun p=>p.2.any (CV.cr d))=false∧look l d=none
 | [],_=>⟨rfl,rfl⟩
 | (k,cs)::r,h=>by
  rw[Kv,Lv,lq,Te,Te] at h
  obtain⟨h1,h2⟩:=Jq h.2.2
  refine⟨by rw[List.any_cons,h1,sV,h.2.1];rfl, ?_⟩
  have hk:Nat.beq k d=false:=by
   cases hb:Nat.beq k d with
   | false=>rfl
   | true=>have:=h.1;rw[UW hb] at this;simp at this
  rw[look,hk];exact h2
theorem Di {α:Type} {d:Nat}:∀ {l:List (Nat×α)},inL (Hg l) d=false→look l d=none
 | [],_=>rfl
 | (k,cs)::r,h=>by
  rw[Hg,Lv,Te] at h
  have hk:Nat.beq k d=false:=by
   cases hb:Nat.beq k d with
   | false=>rfl
   | true=>have:=h.1;rw[UW hb] at this;simp at this
  rw[look,hk];exact Di h.2
theorem MZ {S:St} {d:Nat} (h:inL S.ids d=false):S.cr d=false∧look S.boxes d=none∧look S.rows d=none∧look S.objs d=none:=by
 rw[St.ids,lq,lq,lq] at h
 simp only[Te] at h
 obtain⟨h1,h2,h3,h4⟩:=h
 obtain⟨h5,h6⟩:=Jq h2
 exact⟨by rw[St.cr,G7,h1,h5];rfl,h6,Di h3,Di h4⟩
theorem Qn {Sn:St} {d dj:Nat}:I5 Sn d dj=inL (Ku Sn dj) d:=by
 rw[I5,Ku,lq, ← Jr]
 cases look Sn.boxes dj with
 | none=>rfl
 | some cs=>simp only;rw[sV]
def an (ops:List Oper) (n:Nat) (listed:Array Bool) (t:Nat):Bool:=(List.range n).any fun i=> !listed.getD i true&&(bI ops i==some t)
theorem cD {ops:List Oper} {n t:Nat} {listed:Array Bool}:an ops n listed t=true↔∃ i,i<n∧listed.getD i true=false∧bI ops i=some t:=by
 simp only[an,Tt,Uu,SX,Tb,beq_iff_eq]
section
variable {ops:List Oper} {n:Nat} {S Sn:St} {listed:Array Bool} {outs:List (Option Del)}
structure bQ (X:Cx) (ops:List Oper) (n:Nat) (S:St) (outs:List (Option Del)) (Sn:St):Prop where
 n_le:n≤ops.length
 dupl:dup (dV (ops.take n))=false
 head:∀ i o,i<n→ops[i]? =some o→o.dst.isSome=true∧∀ t,t∈o.looksAt ops.toArray→∀ j,j<n→bI ops j=some t→j∈(deps ops).getD i m0
 edges:iQ ops=true
 len:outs.length=n
 sn:Sn=states (ops.take n) S outs
 step:∀ i o x,i<n→ops[i]? =some o→outs[i]? =some x→yR X ops S o (states ((ops.take n).take i) S (outs.take i)) x
 new:∀ i d,i<n→bI ops i=some d→S.cr d=false∧look S.boxes d=none∧look S.rows d=none∧look S.objs d=none∧
  ∀ j dj,j<n→bI ops j=some dj→i≠j→i∉(deps ops).getD j m0→I5 Sn d dj=false
theorem bV {l:List Oper} {n i:Nat} (h:i<n):(l.take n)[i]? =l[i]? :=T3 h
theorem gx {i d:Nat} (h:bI ops i=some d):∃ o,ops[i]? =some o∧o.dst=some d:=by
 unfold bI at h
 cases ho:ops[i]? with
 | none=>rw[ho] at h;cases h
 | some o=>rw[ho] at h;exact⟨o,rfl,h⟩
theorem Ip (hE:iQ ops=true):∀ (i:Nat) (o:Oper),ops[i]? =some o→∀ j,j∈(deps ops).getD i m0→j<i:=by
 intro i
 induction i using Nat.strongRecOn with
 | _ i ih=>
  intro o hi j hj
  obtain⟨e,h1,h2,h3,h4⟩:=Lc hi hj hE
  rcases h4 with rfl | h4
  ·exact h3
  ·have hlt:e.on<ops.length:=Nat.lt_trans h3 (TU.1 hi).1
   exact Nat.lt_trans (ih e.on h3 _ (TS hlt) j h4) h3
theorem rf {i j d:Nat} {o:Oper} (hj:ops[j]? =some o) (hd:o.dst=some d) (hji:j<i):d∈dV (ops.take i):=by
 simp only[dV,Un]
 exact⟨o,Uq (by rw[bV hji];exact hj),hd⟩
theorem bQ.uniq (K:bQ X ops n S outs Sn) {i j d:Nat} (hi:i<n) (hj:j<n) (hdi:bI ops i=some d) (hdj:bI ops j=some d):i=j:=by
 obtain⟨oi,h1,h2⟩:=gx hdi
 obtain⟨oj,h3,h4⟩:=gx hdj
 rcases U8 i j with h | h | h
 ·have:=(iH K.dupl (i:=j) (o:=oj) (d:=d) (by rw[bV hj];exact h3) h4).2
  exact absurd (rf (ops:=ops.take n) (i:=j) (j:=i) (by rw[bV hi];exact h1) h2 h) this
 ·exact h
 ·have:=(iH K.dupl (i:=i) (o:=oi) (d:=d) (by rw[bV hi];exact h1) h2).2
  exact absurd (rf (ops:=ops.take n) (i:=i) (j:=j) (by rw[bV hj];exact h3) h4 h) this
theorem bQ.split (K:bQ X ops n S outs Sn) (i:Nat):Sn=states ((ops.take n).drop i) (states ((ops.take n).take i) S (outs.take i)) (outs.drop i):=by
 rw[K.sn]
 exact yz _ _ _ i (by rw[K.len,Ud,U9 K.n_le])
theorem bQ.qR (K:bQ X ops n S outs Sn):Sn.tmps.length=S.tmps.length:=by rw[K.sn,Bx]
theorem Ag {l m:List SV} {t:Nat} (h:l[t]? =m[t]?):l.getD t (.v false [.any])=m.getD t (.v false [.any]):=by
 rw[TL,TL,h]
theorem bQ.looks (K:bQ X ops n S outs Sn) {i:Nat} {o:Oper} (hin:i<n) (hi:ops[i]? =some o)
 (hcl:∀ j,j∈(deps ops).getD i m0→listed.getD j true=true):∀ t,t∈o.looksAt ops.toArray→
 (az S Sn (an ops n listed)).tmps.getD t (.v false [.any])=(states ((ops.take n).take i) S (outs.take i)).tmps.getD t (.v false [.any]):=by
 intro t ht
 have hund:an ops n listed t=false:=by
  cases hu:an ops n listed t with
  | false=>rfl
  | true=>
   obtain⟨j,h1,h2,h3⟩:=cD.1 hu
   have:=hcl j ((K.head i o hin hi).2 t ht j h1 h3)
   rw[h2] at this;cases this
 have key:Sn.tmps[t]? =(states ((ops.take n).take i) S (outs.take i)).tmps[t]? :=by
  by_cases hex:∃ j,j<n∧bI ops j=some t
  ·obtain⟨j,h1,h2⟩:=hex
   have hji:=Ip K.edges i o hi j ((K.head i o hin hi).2 t ht j h1 h2)
   have hnd:t∉dV ((ops.take n).drop i):=by
    intro hm
    simp only[dV,Un] at hm
    obtain⟨p,hp,hpd⟩:=hm
    obtain⟨m,hm⟩:=Uo.1 hp
    rw[TR] at hm
    have hmn:i+m<n:=by
     have:=(TU.1 hm).1
     simp at this;omega
    rw[bV hmn] at hm
    have:=K.uniq h1 hmn h2 (by unfold bI;rw[hm];exact hpd)
    omega
   rw[K.split i]
   exact (di hnd).1
  ·have hnd:t∉dV (ops.take n):=by
    intro hm
    simp only[dV,Un] at hm
    obtain⟨p,hp,hpd⟩:=hm
    obtain⟨m,hm⟩:=Uo.1 hp
    have hmn:m<n:=by
     have:=(TU.1 hm).1
     simp at this;omega
    rw[bV hmn] at hm
    exact hex ⟨m,hmn,by unfold bI;rw[hm];exact hpd⟩
   have hnd':t∉dV ((ops.take n).take i):=fun hm=>hnd (by
    simp only[dV,Un] at hm ⊢
    obtain⟨p,hp,hpd⟩:=hm
    exact⟨p,Us hp,hpd⟩)
   rw[K.sn,(di hnd).1,(di hnd').1]
 rw[← Ag key,TL,dh]
 by_cases hlt:t<S.tmps.length
 ·simp[hlt,hund]
 ·rw[VG hlt]
  have:Sn.tmps[t]? =none:=TT (by rw[K.qR];exact Nat.le_of_not_lt hlt)
  rw[TL,this]
theorem bQ.evs (K:bQ X ops n S outs Sn) {i:Nat} {o:Oper} (hin:i<n) (hi:ops[i]? =some o)
 (hcl:∀ j,j∈(deps ops).getD i m0→listed.getD j true=true):∀ x,x∈o.op.operands→(az S Sn (an ops n listed)).ev x=(states ((ops.take n).take i) S (outs.take i)).ev x:=by
 intro x hx
 cases x with
 | tmp t=>
  refine K.looks hin hi hcl t ?_
  simp only[Oper.looksAt,Uh,Un]
  exact .inl ⟨.tmp t,by simpa using hx,rfl⟩
 | const v=>rfl
 | global g=>rfl
 | func f=>rfl
theorem bQ.guards (K:bQ X ops n S outs Sn) {i:Nat} {o:Oper} (hin:i<n) (hi:ops[i]? =some o)
 (hcl:∀ j,j∈(deps ops).getD i m0→listed.getD j true=true):guardOf ops o (az S Sn (an ops n listed))=guardOf ops o (states ((ops.take n).take i) S (outs.take i)):=by
 unfold guardOf
 cases hg:o.guard with
 | none=>rfl
 | some p=>
  obtain⟨j,want⟩:=p
  simp only
  cases ho':ops[j]? with
  | none=>rfl
  | some o'=>
   simp only
   cases hd:o'.dst with
   | none=>rfl
   | some d=>
    simp only
    have:(az S Sn (an ops n listed)).ev (.tmp d)=(states ((ops.take n).take i) S (outs.take i)).ev (.tmp d):=by
     refine K.looks hin hi hcl d ?_
     simp only[Oper.looksAt,hg,Uh]
     right
     simp[ho',hd]
    rw[this]
theorem bQ.Ri (K:bQ X ops n S outs Sn) {i:Nat} {o:Oper} (hin:i<n) (hi:ops[i]? =some o)
 (hcl:∀ j,j∈(deps ops).getD i m0→listed.getD j true=true):kH ops o (az S Sn (an ops n listed))=kH ops o (states ((ops.take n).take i) S (outs.take i)):=by
 unfold kH
 cases hg:o.guard with
 | none=>rfl
 | some p=>
  obtain⟨j,want⟩:=p
  simp only
  cases ho':ops[j]? with
  | none=>rfl
  | some o'=>
   simp only
   cases hd:o'.dst with
   | none=>rfl
   | some d=>
    simp only
    have:(az S Sn (an ops n listed)).ev (.tmp d)=(states ((ops.take n).take i) S (outs.take i)).ev (.tmp d):=by
     refine K.looks hin hi hcl d ?_
     simp only[Oper.looksAt,hg,Uh]
     right
     simp[ho',hd]
    rw[this]
end
end Go.Dn
