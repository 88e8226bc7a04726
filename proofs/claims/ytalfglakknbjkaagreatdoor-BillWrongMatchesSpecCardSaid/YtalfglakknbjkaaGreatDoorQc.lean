/-
  Part 3. No condition.
-/
import Derived.Test.YtalfglakknbjkaaGreatDoorQb
import Derived.LoopN
set_option linter.all false
namespace Go.Dn
variable {β:Type} {X:Cx} {o:Oper} {S:St} {r:β} {C:Fr} {G:Gh} {ρ:Env} {w:World}
theorem bM.beq_eq {a b:bM}:bM.beq a b=true↔a=b:=by
 cases a<;>cases b<;>simp[bM.beq]
theorem Ov (l:List (bM×Nat)) (o x:bM) (n:Nat):dN ((o,n)::l) x=if o=x then some n else dN l x:=by
 simp only[dN]
 by_cases h:o=x
 ·subst h;simp[bM.beq_eq.2 rfl]
 ·have:bM.beq o x=false:=by
   cases hb:bM.beq o x with
   | false=>rfl
   | true=>exact absurd (bM.beq_eq.1 hb) h
  simp[this,h]
theorem agK {l:List (bM×Nat)} {o:bM} {n:Nat} (h:dN l o=some n):(o,n)∈l:=by
 induction l with
 | nil=>simp[dN] at h
 | cons p r ih=>
  obtain⟨o',n'⟩:=p
  rw[Ov] at h
  split at h
  ·rename_i e;cases h;subst e;simp
  ·exact alj _ (ih h)
theorem NX {l:List (bM×Nat)} {o:bM} {n:Nat} (h:(o,n)∈l):(dN l o).isSome=true:=by
 induction l with
 | nil=>simp at h
 | cons p r ih=>
  obtain⟨o',n'⟩:=p
  rw[Ov]
  split
  ·rfl
  ·rename_i hne
   rcases ali.1 h with h | h
   ·cases h;exact absurd rfl hne
   ·exact ih h
theorem DJ {l:List (bM×Nat)} {o:bM} {n:Nat} (hd:JP l=false) (h:(o,n)∈l):dN l o=some n:=by
 induction l with
 | nil=>simp at h
 | cons p r ih=>
  obtain⟨o',n'⟩:=p
  simp only[JP,ajX] at hd
  rw[Ov]
  rcases ali.1 h with h | h
  ·cases h;simp
  ·split
   ·rename_i e
    subst e
    have:=NX h
    rw[hd.1] at this;cases this
   ·exact ih hd.2 h
theorem NW {x:Nat} {l:List Nat} (h:dup (x::l)=false):x∉l∧dup l=false:=by
 simp only[dup,ajX,aku] at h
 refine⟨fun hm=> ?_,h.2⟩
 have:=h.1 x hm
 simp at this
theorem ady {l:List (bM×Nat)} {o o':bM} {n:Nat} (hd:dup (l.map (·.2))=false) (h:(o,n)∈l) (h':(o',n)∈l):o=o':=by
 induction l with
 | nil=>simp at h
 | cons p r ih=>
  rw[alf] at hd
  obtain⟨h1,h2⟩:=NW hd
  rcases ali.1 h with g | g<;>rcases ali.1 h' with g' | g'
  ·rw[← g] at g';cases g';rfl
  ·rw[← g] at h1;exact absurd (alp.2 ⟨(o',n),g',rfl⟩) h1
  ·rw[← g'] at h1;exact absurd (alp.2 ⟨(o,n),g,rfl⟩) h1
  ·exact ih h2 g g'
theorem rW {α:Type} {f:CV→Option α} {cs r:List CV} {x:α} (h:yz f cs=some (x,r)):r=cs.drop 1:=by
 cases cs with
 | nil=>cases h
 | cons c q=>
  simp only[yz] at h
  split at h
  ·cases h;rfl
  ·cases h
theorem DF {S:St} {fb:List Nat}:∀ (t:Ty) {cs r:List CV} {x:t.den},jY S fb t cs=some (x,r)→r=cs.drop t.size
 | .int _,_,_,_,h=>rW h
 | .bool,_,_,_,h=>rW h
 | .str,_,_,_,h=>rW h
 | .unit,_,_,_,h=>by simp only[jY] at h;cases h;rfl
 | .pair a b,cs,r,x,h=>by
  simp only[jY] at h
  split at h
  ·rename_i y q h1
   split at h
   ·rename_i z q' h2
    cases h
    rw[DF b h2,DF a h1,akB];rfl
   ·cases h
  ·cases h
 | .st t,_,_,_,h=>DF t h
 | .slice _,_,_,_,h=>rW h
 | .ptr _,_,_,_,h=>rW h
 | .clo _ _,_,_,_,h=>rW h
 | .hnd,_,_,_,h=>rW h
def gR (ρ:Env) (ow:List (bM×Nat)) (b:Nat):Option Nat:=(ρ.own b).bind (dN ow)
section
variable {V:St} {G2:Gh} {ow:List (bM×Nat)} (hM:Mem C G ρ V w) (hle:G.le G2) (hh:G2.hnd=G.hnd)
include hM hle
theorem wh {e:TypeId} {t:Ty} {c:CV} {l:List t.den} {v:Value} {n:Nat} (h:pL V e t c=some l) (hv:bJ G ρ c v) (ho:∀ p,p∈sO n c→dN ow p.1=some p.2):
 wU G2 w e t l v∧∀ b,v.ownBlock=some b→gR ρ ow b=some n:=by
 cases c<;>simp only[pL] at h<;>try cases h
 case row j=>
  split at h
  ·rename_i q hq
   split at h
   ·cases h
   ·rename_i hc
    simp only[ajY,amU,ajT,ajS] at hc
    obtain⟨et,el⟩:=qI h
    have hrow:=hM.rows j q hq
    obtain⟨qf,qe,qt,ql⟩:=q
    dsimp only at et el hc
    subst et;subst el
    have hee:qe=e:=alV hc.2
    subst hee
    unfold dK at hrow
    rw[amP (by simp[hc.1])] at hrow
    obtain⟨xs,hown,hl,hb⟩:=hrow
    have hv1:=hv.1
    subst hv1
    refine⟨⟨xs,hown,hl.mono (bp.mono hle _)⟩,fun b hb'=> ?_⟩
    have:=hb b hb'
    simp only[gR,this,amq]
    exact ho (.inr j,n) (by simp[sO])
  ·cases h
 case nils=>
  have hv':v= .slice none 0 0:=hv
  subst hv'
  exact⟨⟨[],World.ownsRow_nil w 0 e t.size,rfl⟩,fun b hb=>by cases hb⟩
theorem F7 {kk vv:Ty} {c:CV} {l:List (kk.den×vv.den)} {v:Value} {n:Nat} (h:rV V kk vv c=some l) (hv:bJ G ρ c v) (ho:∀ p,p∈sO n c→dN ow p.1=some p.2):
 ∃ b,v= .map (some b)∧gR ρ ow b=some n∧Gd G2 w kk vv l b:=by
 cases c<;>simp only[rV] at h<;>try cases h
 case mp j=>
  split at h
  ·rename_i k' v' l' hl
   obtain⟨e1,e2,e3⟩:=O9 h
   subst e1;subst e2;subst e3
   obtain⟨b,es,clock,h1,h2,h3,h4,h5,h6⟩:=hM.objs j _ hl
   refine⟨b,hv.1.trans h1, ?_,es,clock,h3,h4.mono fun x y hxy=>hxy.mono hle,fun i e hi=>(h5 i e hi).2,h6⟩
   simp only[gR,h2,amq]
   exact ho (.ob j,n) (by simp[sO])
  ·cases h
theorem Gu:∀ {l:List OT} {cs:List CV} {x:qg l} {vs:List Value} {n:Nat},qY V l cs=some x→bD (bJ G ρ) cs vs→(∀ p,p∈ua n l cs→dN ow p.1=some p.2)→Ge G2 w (gR ρ ow) n l x vs
 | [],[],x,vs,n,h,hv,_=>hv
 | [],_::_,x,vs,n,h,hv,_=>by simp[qY] at h
 | .val t::r,cs,x,vs,n,h,hv,ho=>by
  simp only[qY] at h
  split at h
  ·rename_i y cs' hy
   split at h
   ·rename_i z hz
    cases h
    obtain⟨a,b,e,h1,h2⟩:=aeT hM.frozen t cs y cs' vs hy hv
    have hr:=DF t hy
    refine⟨a,b,e,bp.mono hle t y a h1,Gu hz h2 (fun p hp=>ho p ?_)⟩
    simp only[ua, ← hr];exact hp
   ·cases h
  ·cases h
 | .row e t::r,[],x,vs,n,h,hv,_=>by simp[qY] at h
 | .row e t::r,c::cs,x,vs,n,h,⟨v,us,ev,hc,hcs⟩,ho=>by
  simp only[qY] at h
  split at h
  ·rename_i y hy
   split at h
   ·rename_i z hz
    cases h
    subst ev
    have h1:=wh (n:=n) hM hle hy hc (fun p hp=>ho p (by simp[ua,hp]))
    exact⟨[v],us,rfl,⟨v,rfl,h1⟩,Gu hz hcs (fun p hp=>ho p (by simp[ua,hp]))⟩
   ·cases h
  ·cases h
 | .map k v'::r,[],x,vs,n,h,hv,_=>by simp[qY] at h
 | .map k v'::r,c::cs,x,vs,n,h,⟨v,us,ev,hc,hcs⟩,ho=>by
  simp only[qY] at h
  split at h
  ·rename_i y hy
   split at h
   ·rename_i z hz
    cases h
    subst ev
    obtain⟨b,h1,h2,h3⟩:=F7 (n:=n) hM hle hy hc (fun p hp=>ho p (by simp[ua,hp]))
    subst h1
    exact⟨[_],us,rfl,⟨b,rfl,h2,h3⟩,Gu hz hcs (fun p hp=>ho p (by simp[ua,hp]))⟩
   ·cases h
  ·cases h
include hh
theorem Wj {fb:List Nat} (hF:mS G2 ρ V) (hL:rJ G2 ρ V fb) {p:PM} (hA:(∃ t,p= .arR t)→∀ fz t l,look V.objs bT=some (.ar fz t l)→oq G2 w (fun _=>True) true t l) {s:SV} {x:p.den} {v:Value} {i:Nat} (h:IW V fb p s=some x)
 (hv:p.arg=true→bW G ρ s v) (ho:∀ q,q∈tM V i p s→dN ow q.1=some q.2):NU G2 w (gR ρ ow) i p x v:=by
 have cv:∀ {c:CV},wV s=some c→bW G ρ s v→bJ G ρ c v:=by
  intro c hc hs
  unfold wV at hc
  split at hc
  ·cases hc;exact hs
  ·cases hc
 cases p with
 | val t=>exact uz hF hL h (bW.congr hle (.refl ρ s) (hv rfl))
 | row e t=>
  simp only[IW] at h
  split at h
  ·rename_i c hc
   exact wh hM hle h (cv hc (hv rfl)) (fun q hq=>ho q (by simp only[tM,hc];exact hq))
  ·cases h
 | mrow e t=>
  simp only[IW] at h
  split at h
  ·rename_i c hc
   exact wh hM hle h (cv hc (hv rfl)) (fun q hq=>ho q (by simp only[tM,hc];exact hq))
  ·cases h
 | map k e=>
  simp only[IW] at h
  split at h
  ·rename_i c hc
   exact F7 hM hle h (cv hc (hv rfl)) (fun q hq=>ho q (by simp only[tM,hc];exact hq))
  ·cases h
 | box l=>
  simp only[IW] at h
  split at h
  ·rename_i k hk
   split at h
   ·rename_i cs hcs
    obtain⟨h1,vs,T,h2,h3⟩:=hM.boxes k cs hcs
    have hp:v= .pointer (some ⟨ρ.bx k,0,none⟩):=by
     have hs:=hv rfl
     unfold s9 at hk
     split at hk
     ·split at hk
      ·rename_i hb
       cases hk
       have:=alV hb
       subst this
       exact hs
      ·cases hk
     ·cases hk
    refine⟨ρ.bx k,vs,T,hp, ?_,h2,Gu hM hle h h3 (fun q hq=>ho q (by simp only[tM,hk,hcs];exact alj _ hq))⟩
    simp only[gR,h1,amq]
    exact ho (.inl k,64*i) (by simp[tM,hk])
   ·cases h
  ·cases h
 | ar t=>
  obtain⟨f,hl,hf⟩:=xN (show AW V false t=some x from h)
  have:=hf rfl
  subst this
  obtain⟨_,h1,h2,h3⟩:=hM.objs bT _ hl
  refine⟨fun i b hb=>h1 i b (by rw[← hh];exact hb),fun i i' b hb hb'=>h2 i i' b (by rw[← hh];exact hb) (by rw[← hh];exact hb'),fun n z hz=> ?_⟩
  obtain⟨b,vs,T,g1,g2,g3,g4,g5⟩:=h3 n z hz
  refine⟨b,vs,T,by rw[hh];exact g1,nofun,fun _=> ?_,g4,bp.mono hle t z _ g5⟩
  have:=g3 rfl
  simp only[gR,this,amq]
  exact ho (.ob bT,64*i) (by simp[tM])
 | arR t=>
  obtain⟨f,hl,_⟩:=xN (show AW V true t=some x from h)
  exact hA ⟨t,rfl⟩ f t x hl
theorem Sq {fb:List Nat} (hF:mS G2 ρ V) (hL:rJ G2 ρ V fb):∀ {ps:List PM} {args:List SV} {x:gU ps} {vs:List Value} (i:Nat),((J8 ps=true)→∀ fz t l,look V.objs bT=some (.ar fz t l)→oq G2 w (fun _=>True) true t l)→
 (∀ q,q∈AZ V i ps args→dN ow q.1=some q.2)→vP V fb ps args=some x→bD (bW G ρ) args vs→mb G2 w (gR ρ ow) i ps x vs
 | [],[],x,vs,i,_,_,h,hv=>by cases hv;rfl
 | [],_::_,x,vs,i,_,_,h,hv=>by simp[vP] at h
 | p::r,args,x,vs,i,hA,ho,h,hv=>by
  simp only[vP] at h
  simp only[AZ] at ho
  have hA':J8 r=true→∀ fz t l,look V.objs bT=some (.ar fz t l)→oq G2 w (fun _=>True) true t l:=fun hr=>hA (by cases p<;>first | rfl | exact hr)
  split at h
  ·rename_i s hs
   rw[hs] at ho
   split at h
   ·rename_i y hy
    split at h
    ·rename_i z hz
     cases h
     have hAp:(∃ t,p= .arR t)→∀ fz t l,look V.objs bT=some (.ar fz t l)→oq G2 w (fun _=>True) true t l:=fun ⟨t,e⟩=>hA (by subst e;rfl)
     cases hp:p.arg with
     | true=>
      rw[hp] at hs hz ho
      simp only[amE] at hs hz ho
      match args,hv,hs,hz with
      | s'::q,⟨v,us,e,hsv,hq⟩,hs,hz=>
       simp only[List.head?_cons,Option.some.injEq] at hs
       subst hs
       exact⟨v,us,fun _=>e,fun e=>(by rw[hp] at e;cases e),Wj hM hle hh hF hL hAp hy (fun _=>hsv) (fun q hq=>ho q (by simp[hq])),Sq hF hL (i+1) hA' (fun q hq=>ho q (by simp at hq ⊢;exact .inr hq)) hz hq⟩
     | false=>
      rw[hp] at hs hz ho
      simp only[amD] at hs hz ho
      exact⟨undef,vs,fun e=>(by rw[hp] at e;cases e),fun _=>rfl,Wj hM hle hh hF hL hAp hy (fun e=>(by rw[hp] at e;cases e)) (fun q hq=>ho q (by simp[hq])),Sq hF hL (i+1) hA' (fun q hq=>ho q (by simp[hq])) hz hv⟩
    ·cases h
   ·cases h
  ·cases h
end
end Go.Dn
namespace Go.Dn
variable {β:Type} {X:Cx} {o:Oper} {S:St} {r:β} {C:Fr} {G:Gh} {ρ:Env} {w:World}
def Asg (ρ:Env) (w:World):bM→Value→Prop
 | .inl k,v=>v= .pointer (some ⟨ρ.bx k,0,none⟩)
 | .inr j,v=>ρ.rw j=v
 | .ob j,v=>∀ b,v= .map (some b)→ρ.ob j= .map (some b)∧∀ es clock,w.heap[b]? =some (.map es clock)→∀ (i:Nat) (e:MapEntry),es.toList[i]? =some e→(e.born:Int)=ρ.st j i
section
variable {G' G3:Gh} {w':World} {ow':Nat→Option Nat} {ρ3:Env}
theorem cP.of_flat (hh:∀ h b,G'.hnd h=some b→G3.hnd h=some b) {t:Ty} (hf:t.flat=true):∀ {l:List t.den} {cs:List Value},cP (bp G' t) l cs→cP (bp G3 t) l cs
 | [],_,h=>h
 | _::_,_,⟨c,r,e,hx,hl⟩=>⟨c,r,e,bp.of_flat hh hf hx,cP.of_flat hh hf hl⟩
def Trans (G' G3:Gh) (flat:Bool):Prop:=(∀ h b,G'.hnd h=some b→G3.hnd h=some b)∧(flat=true∨G'.le G3)
theorem Trans.left {a b:Bool} (h:Trans G' G3 (a&&b)):Trans G' G3 a:=⟨h.1,h.2.imp (fun e=>by simp at e;exact e.1) id⟩
theorem Trans.right {a b:Bool} (h:Trans G' G3 (a&&b)):Trans G' G3 b:=⟨h.1,h.2.imp (fun e=>by simp at e;exact e.2) id⟩
theorem Trans.ai6 {t:Ty} (h:Trans G' G3 t.flat) {x:t.den} {cs:List Value} (hx:bp G' t x cs):bp G3 t x cs:=by
 rcases h.2 with hf | hle
 ·exact hx.of_flat h.1 hf
 ·exact bp.mono hle t x cs hx
theorem Trans.aie {t:Ty} (h:Trans G' G3 t.flat) {x:t.den} {v:Value} (hx:dA G' t x v):dA G3 t x v:=by
 rcases h.2 with hf | hle
 ·exact hx.of_flat h.1 hf
 ·exact hx.mono hle
theorem Trans.ahN {t:Ty} (h:Trans G' G3 t.flat) {l:List t.den} {cs:List Value} (hx:cP (bp G' t) l cs):cP (bp G3 t) l cs:=by
 rcases h.2 with hf | hle
 ·exact hx.of_flat h.1 hf
 ·exact hx.mono (bp.mono hle t)
theorem wU.ok {e:TypeId} {t:Ty} {l:List t.den} {v:Value} {j:Nat} (hT:Trans G' G3 t.flat) (h:wU G' w' e t l v) (hv:ρ3.rw j=v) (ho:∀ b,v.ownBlock=some b→ρ3.own b=some (.inr j)):dK G3 ρ3 w' j ⟨false,e,t,l⟩:=by
 obtain⟨xs,h1,h2⟩:=h
 unfold dK
 rw[amP (by simp)]
 subst hv
 exact⟨xs,h1,hT.ahN h2,ho⟩
theorem wU.isSlice {e:TypeId} {t:Ty} {l:List t.den} {v:Value} (h:wU G' w' e t l v):∃ a n c,v= .slice a n c:=by
 obtain⟨xs,h1,h2⟩:=h
 rcases h1.2 with ⟨e,_⟩ | ⟨g,cap,cur,e,_⟩
 ·exact⟨_,_,_,e⟩
 ·exact⟨_,_,_,e⟩
theorem Gd.ok {k v:Ty} {l:List (k.den×v.den)} {b j:Nat} (hT:Trans G' G3 (k.flat&&v.flat)) (h:Gd G' w' k v l b) (ha:Asg ρ3 w' (.ob j) (.map (some b))) (ho:ρ3.own b=some (.ob j)):qR G3 ρ3 w' j (.map k v l)∧ρ3.ob j= .map (some b):=by
 obtain⟨es,clock,h1,h2,h3,h4⟩:=h
 obtain⟨ha,hs⟩:=ha b rfl
 exact⟨⟨b,es,clock,ha,ho,h1,h2.mono fun x y hxy=>⟨hT.left.aie hxy.1,hT.right.aie hxy.2⟩,fun i e hi=>⟨hs es clock h1 i e hi,h3 i e hi⟩,h4⟩,ha⟩
theorem Oi {d i:Nat}:∀ {l:List OT} {c:Nat} {x:qg l} {vs:List Value},Trans G' G3 (vT l)→Ge G' w' ow' (64*i+c) l x vs→
 ∃ vals:List (bM×Value),vals.map (·.1)=(gT d i c l).map (·.1)∧∀ ρ3:Env,(∀ o v,(o,v)∈vals→Asg ρ3 w' o v)→(∀ o n,(o,n)∈gT d i c l→∀ b,ow' b=some n→ρ3.own b=some o)→
  bD (bJ G3 ρ3) (RB d i c l x) vs∧(∀ j q,look (vC d i c l x) j=some q→dK G3 ρ3 w' j q)∧(∀ j q,look (pS d i c l x) j=some q→qR G3 ρ3 w' j q)
 | [],c,x,vs,_,h=>⟨[],rfl,fun ρ3 _ _=>⟨h,fun j q hj=>by simp[vC,look] at hj,fun j q hj=>by simp[pS,look] at hj⟩⟩
 | .val t::r,c,x,vs,hT,⟨a,b,e,h1,h2⟩=>by
  obtain⟨vals,hv,hr⟩:=Oi (d:=d) (i:=i) (c:=c+1) (l:=r) (Trans.right (a:=t.flat) hT) h2
  refine⟨vals,hv,fun ρ3 hA hO=> ?_⟩
  obtain⟨g1,g2,g3⟩:=hr ρ3 hA hO
  subst e
  exact⟨(jk ρ3 (Trans.ai6 (Trans.left (b:=vT r) hT) h1)).append g1,g2,g3⟩
 | .row e' t::r,c,x,vs,hT,⟨a,b,e,⟨v,ea,h1,h1'⟩,h2⟩=>by
  obtain⟨vals,hv,hr⟩:=Oi (d:=d) (i:=i) (c:=c+1) (l:=r) (Trans.right (a:=t.flat) hT) h2
  refine⟨(.inr (nid d i c),v)::vals,by simp[gT,hv],fun ρ3 hA hO=> ?_⟩
  obtain⟨g1,g2,g3⟩:=hr ρ3 (fun o v h=>hA o v (by simp[h])) (fun o n h=>hO o n (by simp[gT,h]))
  have hav:ρ3.rw (nid d i c)=v:=hA (.inr (nid d i c)) v (by simp)
  subst e;subst ea
  refine⟨⟨v,b,rfl,⟨hav.symm,h1.isSlice⟩,g1⟩,fun j q hj=> ?_,g3⟩
  simp only[vC,aW] at hj
  split at hj
  ·rename_i ej
   subst ej
   cases hj
   exact h1.ok (Trans.left (b:=vT r) hT) hav (fun b' hb'=>hO _ _ (by simp[gT]) b' (h1' b' hb'))
  ·exact g2 j q hj
 | .map k v'::r,c,x,vs,hT,⟨a,b,e,⟨bb,ea,h1,h1'⟩,h2⟩=>by
  obtain⟨vals,hv,hr⟩:=Oi (d:=d) (i:=i) (c:=c+1) (l:=r) (Trans.right (a:=k.flat&&v'.flat) hT) h2
  refine⟨(.ob (nid d i c),.map (some bb))::vals,by simp[gT,hv],fun ρ3 hA hO=> ?_⟩
  obtain⟨g1,g2,g3⟩:=hr ρ3 (fun o v h=>hA o v (by simp[h])) (fun o n h=>hO o n (by simp[gT,h]))
  have ho:ρ3.own bb=some (.ob (nid d i c)):=hO _ _ (by simp[gT]) bb h1
  obtain⟨m1,m2⟩:=h1'.ok (Trans.left (b:=vT r) hT) (hA (.ob (nid d i c)) (.map (some bb)) (by simp)) ho
  subst e;subst ea
  refine⟨⟨_,b,rfl,⟨m2.symm,bb,rfl⟩,g1⟩,g2,fun j q hj=> ?_⟩
  simp only[pS,aW] at hj
  split at hj
  ·rename_i ej
   subst ej
   cases hj
   exact m1
  ·exact g3 j q hj
theorem Cn {d i:Nat}:∀ {l:List OT} {c:Nat} {x:qg l},(∀ j n,(.inr j,n)∈gT d i c l→(look (vC d i c l x) j).isSome=true)∧(∀ j n,(.ob j,n)∈gT d i c l→(look (pS d i c l x) j).isSome=true)∧
 (∀ k n,(.inl k,n)∉gT d i c l)
 | [],c,x=>⟨fun j n h=>by simp[gT] at h,fun j n h=>by simp[gT] at h,fun j n h=>by simp[gT] at h⟩
 | .val t::r,c,x=>by
  obtain⟨h1,h2,h3⟩:=Cn (d:=d) (i:=i) (l:=r) (c:=c+1) (x:=x.2)
  exact⟨h1,h2,h3⟩
 | .row e t::r,c,x=>by
  obtain⟨h1,h2,h3⟩:=Cn (d:=d) (i:=i) (l:=r) (c:=c+1) (x:=x.2)
  refine⟨fun j n h=> ?_,fun j n h=> ?_,fun k n h=> ?_⟩
  ·simp only[gT,ali,Prod.mk.injEq,bM.inr.injEq] at h
   simp only[vC,aW]
   rcases h with ⟨h,_⟩ | h
   ·simp[h]
   ·split
    ·rfl
    ·exact h1 j n h
  ·simp only[gT,ali,Prod.mk.injEq,reduceCtorEq,amM,amN] at h
   exact h2 j n h
  ·simp only[gT,ali,Prod.mk.injEq,reduceCtorEq,amM,amN] at h
   exact h3 k n h
 | .map kk vv::r,c,x=>by
  obtain⟨h1,h2,h3⟩:=Cn (d:=d) (i:=i) (l:=r) (c:=c+1) (x:=x.2)
  refine⟨fun j n h=> ?_,fun j n h=> ?_,fun k n h=> ?_⟩
  ·simp only[gT,ali,Prod.mk.injEq,reduceCtorEq,amM,amN] at h
   exact h1 j n h
  ·simp only[gT,ali,Prod.mk.injEq,bM.ob.injEq] at h
   simp only[pS,aW]
   rcases h with ⟨h,_⟩ | h
   ·simp[h]
   ·split
    ·rfl
    ·exact h2 j n h
  ·simp only[gT,ali,Prod.mk.injEq,reduceCtorEq,amM,amN] at h
   exact h3 k n h
theorem dz {α:Type}:∀ (l m:List (Nat×α)) (k:Nat),look (l++m) k=(look l k).or (look m k)
 | [],m,k=>by simp[look]
 | (j,x)::l,m,k=>by
  rw[aky,aW,aW,dz l m k]
  split<;>simp
theorem or_some {α:Type} {a b:Option α} {x:α} (h:a.or b=some x):a=some x∨(a=none∧b=some x):=by
 cases a with
 | none=>exact .inr ⟨rfl,by simpa using h⟩
 | some y=>exact .inl (by simpa using h)
theorem isSome_or {α:Type} {a b:Option α} (h:a.isSome=true∨b.isSome=true):(a.or b).isSome=true:=by
 cases a with
 | none=>simpa using h
 | some y=>rfl
def NO (d:Nat) (o:bM) (n:Nat):Prop:=o= .inr (nid d 0 0+n)∨o= .ob (nid d 0 0+n)
theorem JN (d i c:Nat):nid d i c=nid d 0 0+(64*i+c):=by simp only[nid];omega
theorem IV {d i:Nat}:∀ {l:List OT} {c:Nat} {o:bM} {n:Nat},(o,n)∈gT d i c l→NO d o n
 | [],c,o,n,h=>by simp[gT] at h
 | .val t::r,c,o,n,h=>IV (l:=r) h
 | .row e t::r,c,o,n,h=>by
  simp only[gT,ali,Prod.mk.injEq] at h
  rcases h with ⟨h,h'⟩ | h
  ·subst h;subst h';exact .inl (by rw[JN])
  ·exact IV (l:=r) h
 | .map e t::r,c,o,n,h=>by
  simp only[gT,ali,Prod.mk.injEq] at h
  rcases h with ⟨h,h'⟩ | h
  ·subst h;subst h';exact .inr (by rw[JN])
  ·exact IV (l:=r) h
structure mK (G3:Gh) (ρ3:Env) (w':World) (bx:List (Nat×List CV)) (rw:List (Nat×qu)) (ob:List (Nat×wN)):Prop where
 bx:∀ k cs,look bx k=some cs→ρ3.own (ρ3.bx k)=some (.inl k)∧∃ vs T,w'.heap[ρ3.bx k]? =some (.cells (List.toArray vs) T (0,0))∧bD (bJ G3 ρ3) cs vs
 rw:∀ j q,look rw j=some q→dK G3 ρ3 w' j q
 ob:∀ j q,look ob j=some q→qR G3 ρ3 w' j q
theorem mK.app {a b:List (Nat×List CV)} {c e:List (Nat×qu)} {f g:List (Nat×wN)} (h:mK G3 ρ3 w' a c f) (k:mK G3 ρ3 w' b e g):mK G3 ρ3 w' (a++b) (c++e) (f++g) where
 bx:=fun i cs hi=>by
  rw[dz] at hi
  rcases or_some hi with h1 | ⟨_,h1⟩
  ·exact h.bx i cs h1
  ·exact k.bx i cs h1
 rw:=fun i cs hi=>by
  rw[dz] at hi
  rcases or_some hi with h1 | ⟨_,h1⟩
  ·exact h.rw i cs h1
  ·exact k.rw i cs h1
 ob:=fun i cs hi=>by
  rw[dz] at hi
  rcases or_some hi with h1 | ⟨_,h1⟩
  ·exact h.ob i cs h1
  ·exact k.ob i cs h1
theorem mK.nil:mK G3 ρ3 w' [] [] []:=⟨fun k cs h=>by simp[look] at h,fun k cs h=>by simp[look] at h,fun k cs h=>by simp[look] at h⟩
theorem Vp {d i k:Nat} {l:List OT} {x:qg l} {v:Value} (hT:Trans G' G3 (vT l)) (h:DX G' w' ow' (64*i) l x v):
 ∃ vals:List (bM×Value),vals.map (·.1)=(gT d i 1 l).map (·.1)∧∀ ρ3:Env,Asg ρ3 w' (.inl k) v→(∀ o v,(o,v)∈vals→Asg ρ3 w' o v)→(∀ o n,(o,n)∈(.inl k,64*i)::gT d i 1 l→∀ b,ow' b=some n→ρ3.own b=some o)→
  mK G3 ρ3 w' [(k,RB d i 1 l x)] (vC d i 1 l x) (pS d i 1 l x):=by
 obtain⟨b,vs,T,h1,h2,h3,h4⟩:=h
 obtain⟨vals,hv,hr⟩:=Oi (G3:=G3) (d:=d) (i:=i) (c:=1) hT h4
 refine⟨vals,hv,fun ρ3 hk hA hO=> ?_⟩
 obtain⟨g1,g2,g3⟩:=hr ρ3 hA (fun o n h=>hO o n (by simp[h]))
 refine⟨fun k' cs hk'=> ?_,g2,g3⟩
 rw[aW] at hk'
 split at hk'
 ·rename_i ek
  subst ek
  cases hk'
  have hb:b=ρ3.bx k:=by
   rw[h1] at hk
   have hk2:Value.pointer (some ⟨b,0,none⟩)= .pointer (some ⟨ρ3.bx k,0,none⟩):=hk
   cases hk2;rfl
  subst hb
  exact⟨hO (.inl k) (64*i) (by simp) _ h2,vs,T,h3,g1⟩
 ·cases hk'
theorem JW {ps:List PM} {args:List Value} {d:Nat}:∀ {rs:List RM} {c:Nat} {y:dX ps rs} {vs:List Value},Trans G' G3 (oa rs)→sI G' w' ow' ps args c rs y vs→
 tc G' w' ow' 0 ps (SO ps rs y) args∧∃ vals:List (bM×Value),vals.map (·.1)=(gF d c rs).map (·.1)∧(∀ k v,(.inl k,v)∈vals→∃ b,v= .pointer (some ⟨b,0,none⟩))∧∀ ρ3:Env,(∀ o v,(o,v)∈vals→Asg ρ3 w' o v)→(∀ o n,(o,n)∈gF d c rs→∀ b,ow' b=some n→ρ3.own b=some o)→
  bD (fun p=>o5 G3 ρ3 p.1 p.2) (Jn ps d rs c y) vs∧mK G3 ρ3 w' (AD ps d rs c y) (ym ps d rs c y) (pM ps d rs c y)
 | [],c,y,vs,_,h=>⟨h.2,[],rfl,fun k v h=>(by simp at h),fun ρ3 _ _=>⟨h.1,mK.nil⟩⟩
 | .val t::r,c,y,vs,hT,⟨v,us,e,hv,hu⟩=>by
  obtain⟨h0,vals,hv',hpt,hr⟩:=JW (d:=d) (rs:=r) (Trans.right (a:=t.flat) hT) hu
  refine⟨h0,vals,hv',hpt,fun ρ3 hA hO=> ?_⟩
  obtain⟨g1,g2⟩:=hr ρ3 hA hO
  subst e
  exact⟨⟨v,us,rfl,IY ρ3 (Trans.aie (Trans.left (b:=oa r) hT) hv),g1⟩,g2⟩
 | .row e' t::r,c,y,vs,hT,⟨v,us,e,⟨hv,hv2⟩,hu⟩=>by
  obtain⟨h0,vals,hv',hpt,hr⟩:=JW (d:=d) (rs:=r) (Trans.right (a:=t.flat) hT) hu
  refine⟨h0,(.inr (nid d (24+c) 0),v)::vals,by simp[gF,hv'],fun k v h=>hpt k v (by simpa using h),fun ρ3 hA hO=> ?_⟩
  obtain⟨g1,g2⟩:=hr ρ3 (fun o v h=>hA o v (by simp[h])) (fun o n h=>hO o n (by simp[gF,h]))
  have hav:ρ3.rw (nid d (24+c) 0)=v:=hA (.inr (nid d (24+c) 0)) v (by simp)
  subst e
  refine⟨⟨v,us,rfl,⟨hav.symm,hv.isSlice⟩,g1⟩,g2.bx,fun j q hj=> ?_,g2.ob⟩
  simp only[ym,aW] at hj
  split at hj
  ·rename_i ej
   subst ej
   cases hj
   exact hv.ok (Trans.left (b:=oa r) hT) hav (fun b' hb'=>hO _ _ (by simp[gF]) b' (hv2 b' hb'))
  ·exact g2.rw j q hj
 | .map k' v'::r,c,y,vs,hT,⟨v,us,e,⟨bb,hv,hv1,hv2⟩,hu⟩=>by
  obtain⟨h0,vals,hv',hpt,hr⟩:=JW (d:=d) (rs:=r) (Trans.right (a:=k'.flat&&v'.flat) hT) hu
  refine⟨h0,(.ob (nid d (24+c) 0),v)::vals,by simp[gF,hv'],fun k v h=>hpt k v (by simpa using h),fun ρ3 hA hO=> ?_⟩
  obtain⟨g1,g2⟩:=hr ρ3 (fun o v h=>hA o v (by simp[h])) (fun o n h=>hO o n (by simp[gF,h]))
  subst e;subst hv
  have ho:ρ3.own bb=some (.ob (nid d (24+c) 0)):=hO _ _ (by simp[gF]) bb hv1
  obtain⟨m1,m2⟩:=hv2.ok (Trans.left (b:=oa r) hT) (hA (.ob (nid d (24+c) 0)) (.map (some bb)) (by simp)) ho
  refine⟨⟨_,us,rfl,⟨m2.symm,bb,rfl⟩,g1⟩,g2.bx,g2.rw,fun j q hj=> ?_⟩
  simp only[pM,aW] at hj
  split at hj
  ·rename_i ej
   subst ej
   cases hj
   exact m1
  ·exact g2.ob j q hj
 | .box l::r,c,y,vs,hT,⟨v,us,e,hv,hu⟩=>by
  obtain⟨h0,vals,hv',hpt,hr⟩:=JW (d:=d) (rs:=r) (Trans.right (a:=vT l) hT) hu
  obtain⟨vals2,hv2,hr2⟩:=Vp (G3:=G3) (d:=d) (k:=d) (Trans.left (b:=oa r) hT) hv
  refine⟨h0,((.inl d,v)::vals2)++vals,by simp[gF,hv',hv2],fun k v' h=> ?_,fun ρ3 hA hO=> ?_⟩
  ·rcases alh.1 h with h | h
   ·rcases ali.1 h with h | h
    ·cases h
     obtain⟨b,_,_,e1,_⟩:=hv
     exact⟨b,e1⟩
    ·have hm:(.inl k:bM)∈vals2.map (·.1):=alp.2 ⟨_,h,rfl⟩
     rw[hv2] at hm
     obtain⟨p,hp,e1⟩:=alp.1 hm
     obtain⟨p1,p2⟩:=p
     simp only at e1
     subst e1
     exact absurd hp ((Cn (x:=y.1)).2.2 k p2)
   ·exact hpt k v' h
  obtain⟨g1,g2⟩:=hr ρ3 (fun o v h=>hA o v (by simp[h])) (fun o n h=>hO o n (by simp[gF,h]))
  have g3:=hr2 ρ3 (hA (.inl d) v (by simp)) (fun o v h=>hA o v (by simp[h])) (fun o n h=>hO o n (by
   simp only[ali] at h
   simp only[gF,aky,ali,alh]
   rcases h with h | h
   ·exact .inl h
   ·exact .inr (.inl h)))
  subst e
  exact⟨⟨v,us,rfl,hA (.inl d) v (by simp),g1⟩,g3.app g2⟩
theorem agz {s:SV} {v:Value} {j:Option Nat} (h:RC s=some j) (hv:bW G ρ s v):match j with | some j=>v=ρ.rw j | none=>v= .slice none 0 0:=by
 unfold RC at h
 split at h
 ·cases h;exact hv.1
 ·cases h;exact hv
 ·cases h
theorem YT {s:SV} {v:Value} {k:Nat} (h:s9 s=some k) (hv:bW G ρ s v):v= .pointer (some ⟨ρ.bx k,0,none⟩):=by
 unfold s9 at h
 split at h
 ·split at h
  ·rename_i hb
   cases h
   have:=alV hb
   subst this
   exact hv
  ·cases h
 ·cases h
theorem agF {s:SV} {v:Value} {j:Nat} (h:RQ s=some j) (hv:bW G ρ s v):v=ρ.ob j:=by
 unfold RQ at h
 split at h
 ·cases h;exact hv.1
 ·cases h
def Old (ρ:Env):bM→Value→Prop
 | .inl k,v=>v= .pointer (some ⟨ρ.bx k,0,none⟩)
 | .inr j,v=>ρ.rw j=v
 | .ob j,v=>∀ b,v= .map (some b)→ρ.ob j= .map (some b)
theorem Ru {s:SV} {q:List SV} {vs:List Value} (h:bD (bW G ρ) (s::q) vs) {v:Value} (hv:vs.head? =some v):bW G ρ s v∧bD (bW G ρ) q vs.tail:=by
 obtain⟨u,us,e,h1,h2⟩:=h
 subst e
 cases hv
 exact⟨h1,h2⟩
theorem Zg {s:SV} {q:List SV} {vs:List Value} (h:bD (bW G ρ) (s::q) vs):bD (bW G ρ) q vs.tail:=by
 obtain⟨u,us,e,h1,h2⟩:=h
 subst e
 exact h2
theorem CW {d:Nat} (hh3:G3.hnd=G'.hnd):∀ {ps:List PM} {args:List SV} {i:Nat} {y:iN ps} {vs:List Value},Trans G' G3 (mI ps)→tc G' w' ow' i ps y vs→bD (bW G ρ) args vs→
 ∃ vals:List (bM×Value),vals.map (·.1)=(dn d i ps args).map (·.1)∧(∀ o v,(o,v)∈vals→Old ρ o v∨∃ n,(o,n)∈dn d i ps args∧NO d o n)∧∀ ρ3:Env,(∀ o v,(o,v)∈vals→Asg ρ3 w' o v)→(∀ o n,(o,n)∈dn d i ps args→∀ b,ow' b=some n→ρ3.own b=some o)→
  mK G3 ρ3 w' (jd d i ps args y) (lu d i ps args y) (fV d i ps args y)
 | [],args,i,y,vs,_,h,hv=>⟨[],rfl,fun o v h=>by simp at h,fun ρ3 _ _=>mK.nil⟩
 | .val t::r,[],i,y,vs,_,_,hv=>⟨[],rfl,fun o v h=>by simp at h,fun ρ3 _ _=>mK.nil⟩
 | .row e t::r,[],i,y,vs,_,_,hv=>⟨[],rfl,fun o v h=>by simp at h,fun ρ3 _ _=>mK.nil⟩
 | .mrow e t::r,[],i,y,vs,_,_,hv=>⟨[],rfl,fun o v h=>by simp at h,fun ρ3 _ _=>mK.nil⟩
 | .map e t::r,[],i,y,vs,_,_,hv=>⟨[],rfl,fun o v h=>by simp at h,fun ρ3 _ _=>mK.nil⟩
 | .box l::r,[],i,y,vs,_,_,hv=>⟨[],rfl,fun o v h=>by simp at h,fun ρ3 _ _=>mK.nil⟩
 | .val t::r,s::q,i,y,vs,hT,h,hv=>CW hh3 (ps:=r) (by simpa [mI] using hT) h (Zg hv)
 | .row e t::r,s::q,i,y,vs,hT,h,hv=>CW hh3 (ps:=r) (by simpa [mI] using hT) h (Zg hv)
 | .arR t::r,q,i,y,vs,hT,h,hv=>by
  have:=CW (d:=d) hh3 (ps:=r) (args:=q) (i:=i+1) (y:=y) (by simpa [mI] using hT) h hv
  cases q<;>exact this
 | .ar t::r,q,i,y,vs,hT,⟨h1,h2⟩,hv=>by
  obtain⟨vals,hv',hold,hr⟩:=CW (d:=d) hh3 (ps:=r) (args:=q) (i:=i+1) (y:=y.2) (Trans.right (a:=t.flat) hT) h2 hv
  have e1:dn d i (.ar t::r) q=(.ob bT,64*i)::dn d (i+1) r q:=by cases q<;>rfl
  have e2:jd d i (.ar t::r) q y=jd d (i+1) r q y.2:=by cases q<;>rfl
  have e3:lu d i (.ar t::r) q y=lu d (i+1) r q y.2:=by cases q<;>rfl
  have e4:fV d i (.ar t::r) q y=(bT,.ar false t y.1)::fV d (i+1) r q y.2:=by cases q<;>rfl
  rw[e1,e2,e3,e4]
  refine⟨(.ob bT,undef)::vals,by simp[hv'],fun o v h=> ?_,fun ρ3 hA hO=> ?_⟩
  ·rcases ali.1 h with h | h
   ·cases h;exact .inl fun b e=>by cases e
   ·exact (hold o v h).imp id fun ⟨n,h1,h2⟩=>⟨n,by simp[h1],h2⟩
  ·have g:=hr ρ3 (fun o v h=>hA o v (by simp[h])) (fun o n h=>hO o n (by simp[h]))
   refine⟨g.bx,g.rw,fun j q' hj=> ?_⟩
   simp only[aW] at hj
   split at hj
   ·rename_i ej
    subst ej
    cases hj
    refine⟨rfl,fun i b hb=>h1.1 i b (by rw[← hh3];exact hb),fun i i' b hb hb'=>h1.2.1 i i' b (by rw[← hh3];exact hb) (by rw[← hh3];exact hb'),fun n z hz=> ?_⟩
    obtain⟨b,ws,T,f1,f2,f3,f4,f5⟩:=h1.2.2 n z hz
    exact⟨b,ws,T,by rw[hh3];exact f1,nofun,fun _=>hO _ _ (by simp) b (f3 rfl),f4,Trans.ai6 (Trans.left (b:=mI r) hT) f5⟩
   ·exact g.ob j q' hj
 | .mrow e t::r,s::q,i,y,vs,hT,⟨⟨v,h0,h1,h1'⟩,h2⟩,hv=>by
  obtain⟨hs,hq⟩:=Ru hv h0
  obtain⟨vals,hv',hold,hr⟩:=CW (d:=d) hh3 (ps:=r) (args:=q) (i:=i+1) (y:=y.2) (Trans.right (a:=t.flat) hT) h2 hq
  simp only[dn,jd,lu,fV]
  cases ho:RC s with
  | none=>simpa using ⟨vals,hv',hold,hr⟩
  | some jo=>
   cases jo with
   | none=>simpa using ⟨vals,hv',hold,hr⟩
   | some j=>
    have hvj:v=ρ.rw j:=agz ho hs
    refine⟨(.inr j,v)::vals,by simp[hv'],fun o v' h=> ?_,fun ρ3 hA hO=> ?_⟩
    ·rcases ali.1 h with h | h
     ·cases h;exact .inl hvj.symm
     ·exact (hold o v' h).imp id fun ⟨n,h1,h2⟩=>⟨n,by simp[h1],h2⟩
    ·have g:=hr ρ3 (fun o v h=>hA o v (by simp[h])) (fun o n h=>hO o n (by simp[h]))
     refine⟨g.bx,fun j' q' hj=> ?_,g.ob⟩
     simp only[aky,aly,aW] at hj
     split at hj
     ·rename_i ej
      subst ej
      cases hj
      exact h1.ok (Trans.left (b:=mI r) hT) (hA (.inr j) v (by simp)) (fun b' hb'=>hO _ _ (by simp) b' (h1' b' hb'))
     ·exact g.rw j' q' hj
 | .map kk vv::r,s::q,i,y,vs,hT,⟨⟨bb,h0,h1,h1'⟩,h2⟩,hv=>by
  obtain⟨hs,hq⟩:=Ru hv h0
  obtain⟨vals,hv',hold,hr⟩:=CW (d:=d) hh3 (ps:=r) (args:=q) (i:=i+1) (y:=y.2) (Trans.right (a:=kk.flat&&vv.flat) hT) h2 hq
  simp only[dn,jd,lu,fV]
  cases ho:RQ s with
  | none=>simpa using ⟨vals,hv',hold,hr⟩
  | some j=>
   have hvj:Value.map (some bb)=ρ.ob j:=agF ho hs
   refine⟨(.ob j,.map (some bb))::vals,by simp[hv'],fun o v' h=> ?_,fun ρ3 hA hO=> ?_⟩
   ·rcases ali.1 h with h | h
    ·cases h;exact .inl fun b e=>by rw[← hvj,e]
    ·exact (hold o v' h).imp id fun ⟨n,h1,h2⟩=>⟨n,by simp[h1],h2⟩
   ·have g:=hr ρ3 (fun o v h=>hA o v (by simp[h])) (fun o n h=>hO o n (by simp[h]))
    have hob:ρ3.own bb=some (.ob j):=hO _ _ (by simp) bb h1
    obtain⟨m1,m2⟩:=h1'.ok (Trans.left (b:=mI r) hT) (hA (.ob j) (.map (some bb)) (by simp)) hob
    refine⟨g.bx,g.rw,fun j' q' hj=> ?_⟩
    simp only[aky,aly,aW] at hj
    split at hj
    ·rename_i ej
     subst ej
     cases hj
     exact m1
    ·exact g.ob j' q' hj
 | .box l::r,s::q,i,y,vs,hT,⟨⟨v,h0,h1⟩,h2⟩,hv=>by
  obtain⟨hs,hq⟩:=Ru hv h0
  obtain⟨vals,hv',hold,hr⟩:=CW (d:=d) hh3 (ps:=r) (args:=q) (i:=i+1) (y:=y.2) (Trans.right (a:=vT l) hT) h2 hq
  simp only[dn,jd,lu,fV]
  cases ho:s9 s with
  | none=>
   simpa using ⟨vals,hv',hold,hr⟩
  | some k=>
   have hvk:=YT ho hs
   obtain⟨vals2,hv2,hr2⟩:=Vp (G3:=G3) (d:=d) (k:=k) (Trans.left (b:=mI r) hT) h1
   refine⟨((.inl k,v)::vals2)++vals,by simp[hv',hv2],fun o v' h=> ?_,fun ρ3 hA hO=> ?_⟩
   ·rcases alh.1 h with h | h
    ·rcases ali.1 h with h | h
     ·cases h;exact .inl hvk
     ·right
      have hm:o∈vals2.map (·.1):=alp.2 ⟨_,h,rfl⟩
      rw[hv2] at hm
      obtain⟨p,hp,e⟩:=alp.1 hm
      refine⟨p.2, ?_,by rw[← e];exact IV (n:=p.2) hp⟩
      rw[← e]
      simp[hp]
    ·exact (hold o v' h).imp id fun ⟨n,h1,h2⟩=>⟨n,by simp[h1],h2⟩
   ·have g:=hr ρ3 (fun o v h=>hA o v (by simp[h])) (fun o n h=>hO o n (by simp[h]))
    have g3:=hr2 ρ3 (hA (.inl k) v (by simp)) (fun o v h=>hA o v (by simp[h])) (fun o n h=>hO o n (by
     simp only[ali] at h
     simp only[aky,ali,alh]
     rcases h with h | h
     ·exact .inl h
     ·exact .inr (.inl h)))
    exact g3.app g
end
theorem wg {d:Nat}:∀ {ps:List PM} {args:List SV} {i:Nat} {y:iN ps},(∀ j n,(.inr j,n)∈dn d i ps args→(look (lu d i ps args y) j).isSome=true)∧(∀ j n,(.ob j,n)∈dn d i ps args→(look (fV d i ps args y) j).isSome=true)∧
 (∀ k n,(.inl k,n)∈dn d i ps args→(look (jd d i ps args y) k).isSome=true)
 | [],args,i,y=>⟨fun j n h=>by simp[dn] at h,fun j n h=>by simp[dn] at h,fun j n h=>by simp[dn] at h⟩
 | .val t::r,[],i,y=>⟨fun j n h=>by simp[dn] at h,fun j n h=>by simp[dn] at h,fun j n h=>by simp[dn] at h⟩
 | .row e t::r,[],i,y=>⟨fun j n h=>by simp[dn] at h,fun j n h=>by simp[dn] at h,fun j n h=>by simp[dn] at h⟩
 | .mrow e t::r,[],i,y=>⟨fun j n h=>by simp[dn] at h,fun j n h=>by simp[dn] at h,fun j n h=>by simp[dn] at h⟩
 | .map e t::r,[],i,y=>⟨fun j n h=>by simp[dn] at h,fun j n h=>by simp[dn] at h,fun j n h=>by simp[dn] at h⟩
 | .box l::r,[],i,y=>⟨fun j n h=>by simp[dn] at h,fun j n h=>by simp[dn] at h,fun j n h=>by simp[dn] at h⟩
 | .val t::r,s::q,i,y=>wg (ps:=r) (args:=q) (i:=i+1)
 | .row e t::r,s::q,i,y=>wg (ps:=r) (args:=q) (i:=i+1)
 | .arR t::r,q,i,y=>by
  have:=wg (d:=d) (ps:=r) (args:=q) (i:=i+1) (y:=y)
  cases q<;>exact this
 | .ar t::r,q,i,y=>by
  obtain⟨h1,h2,h3⟩:=wg (d:=d) (ps:=r) (args:=q) (i:=i+1) (y:=y.2)
  have e1:dn d i (.ar t::r) q=(.ob bT,64*i)::dn d (i+1) r q:=by cases q<;>rfl
  have e2:jd d i (.ar t::r) q y=jd d (i+1) r q y.2:=by cases q<;>rfl
  have e3:lu d i (.ar t::r) q y=lu d (i+1) r q y.2:=by cases q<;>rfl
  have e4:fV d i (.ar t::r) q y=(bT,.ar false t y.1)::fV d (i+1) r q y.2:=by cases q<;>rfl
  rw[e1,e2,e3,e4]
  refine⟨fun j n h=>h1 j n (by simpa using h),fun j n h=> ?_,fun k n h=>h3 k n (by simpa using h)⟩
  rw[aW]
  split
  ·rfl
  ·rename_i hne
   rcases ali.1 h with h | h
   ·cases h;exact absurd rfl hne
   ·exact h2 j n h
 | .mrow e t::r,s::q,i,y=>by
  obtain⟨h1,h2,h3⟩:=wg (d:=d) (ps:=r) (args:=q) (i:=i+1) (y:=y.2)
  simp only[dn,jd,lu,fV]
  refine⟨fun j n h=> ?_,fun j n h=> ?_,fun k n h=> ?_⟩
  ·rw[dz]
   rcases alh.1 h with h | h
   ·apply isSome_or;left
    split at h
    ·rename_i j' hj
     simp only[alx,Prod.mk.injEq,bM.inr.injEq] at h
     simp[aW,h.1]
    ·simp at h
   ·exact isSome_or (.inr (h1 j n h))
  ·rcases alh.1 h with h | h
   ·split at h<;>simp at h
   ·exact h2 j n h
  ·rcases alh.1 h with h | h
   ·split at h<;>simp at h
   ·exact h3 k n h
 | .map e t::r,s::q,i,y=>by
  obtain⟨h1,h2,h3⟩:=wg (d:=d) (ps:=r) (args:=q) (i:=i+1) (y:=y.2)
  simp only[dn,jd,lu,fV]
  refine⟨fun j n h=> ?_,fun j n h=> ?_,fun k n h=> ?_⟩
  ·rcases alh.1 h with h | h
   ·split at h<;>simp at h
   ·exact h1 j n h
  ·rw[dz]
   rcases alh.1 h with h | h
   ·apply isSome_or;left
    split at h
    ·rename_i j' hj
     simp only[alx,Prod.mk.injEq,bM.ob.injEq] at h
     simp[aW,h.1]
    ·simp at h
   ·exact isSome_or (.inr (h2 j n h))
  ·rcases alh.1 h with h | h
   ·split at h<;>simp at h
   ·exact h3 k n h
 | .box l::r,s::q,i,y=>by
  obtain⟨h1,h2,h3⟩:=wg (d:=d) (ps:=r) (args:=q) (i:=i+1) (y:=y.2)
  obtain⟨g1,g2,g3⟩:=Cn (d:=d) (i:=i) (l:=l) (c:=1) (x:=y.1)
  simp only[dn,jd,lu,fV]
  refine⟨fun j n h=> ?_,fun j n h=> ?_,fun k n h=> ?_⟩
  ·rw[dz]
   rcases alh.1 h with h | h
   ·apply isSome_or;left
    split at h
    ·simp only[ali,Prod.mk.injEq,reduceCtorEq,amM,amN] at h
     exact g1 j n h
    ·simp at h
   ·exact isSome_or (.inr (h1 j n h))
  ·rw[dz]
   rcases alh.1 h with h | h
   ·apply isSome_or;left
    split at h
    ·simp only[ali,Prod.mk.injEq,reduceCtorEq,amM,amN] at h
     exact g2 j n h
    ·simp at h
   ·exact isSome_or (.inr (h2 j n h))
  ·rw[dz]
   rcases alh.1 h with h | h
   ·apply isSome_or;left
    split at h
    ·rename_i k' hk'
     rcases ali.1 h with h | h
     ·cases h;simp[aW]
     ·exact absurd h (g3 k n)
    ·simp at h
   ·exact isSome_or (.inr (h3 k n h))
theorem C8 {ps:List PM} {d:Nat}:∀ {rs:List RM} {c:Nat} {y:dX ps rs},(∀ j n,(.inr j,n)∈gF d c rs→(look (ym ps d rs c y) j).isSome=true)∧(∀ j n,(.ob j,n)∈gF d c rs→(look (pM ps d rs c y) j).isSome=true)∧
 (∀ k n,(.inl k,n)∈gF d c rs→k=d∧0<LF rs∧(look (AD ps d rs c y) k).isSome=true)
 | [],c,y=>⟨fun j n h=>by simp[gF] at h,fun j n h=>by simp[gF] at h,fun j n h=>by simp[gF] at h⟩
 | .val t::r,c,y=>C8 (rs:=r) (c:=c+1) (y:=y.2)
 | .row e t::r,c,y=>by
  obtain⟨h1,h2,h3⟩:=C8 (ps:=ps) (d:=d) (rs:=r) (c:=c+1) (y:=y.2)
  simp only[gF,ym,pM,AD,LF,ali,Prod.mk.injEq,bM.inr.injEq,reduceCtorEq,amM,amN]
  refine⟨fun j n h=> ?_,h2,h3⟩
  rw[aW]
  rcases h with ⟨h,_⟩ | h
  ·simp[h]
  ·split
   ·rfl
   ·exact h1 j n h
 | .map e t::r,c,y=>by
  obtain⟨h1,h2,h3⟩:=C8 (ps:=ps) (d:=d) (rs:=r) (c:=c+1) (y:=y.2)
  simp only[gF,ym,pM,AD,LF,ali,Prod.mk.injEq,bM.ob.injEq,reduceCtorEq,amM,amN]
  refine⟨h1,fun j n h=> ?_,h3⟩
  rw[aW]
  rcases h with ⟨h,_⟩ | h
  ·simp[h]
  ·split
   ·rfl
   ·exact h2 j n h
 | .box l::r,c,y=>by
  obtain⟨h1,h2,h3⟩:=C8 (ps:=ps) (d:=d) (rs:=r) (c:=c+1) (y:=y.2)
  obtain⟨g1,g2,g3⟩:=Cn (d:=d) (i:=24+c) (l:=l) (c:=1) (x:=y.1)
  simp only[gF,ym,pM,AD,LF,aky,ali,alh,Prod.mk.injEq,bM.inl.injEq,reduceCtorEq,amM,amN]
  refine⟨fun j n h=> ?_,fun j n h=> ?_,fun k n h=> ?_⟩
  ·rw[dz]
   rcases h with h | h
   ·exact isSome_or (.inl (g1 j n h))
   ·exact isSome_or (.inr (h1 j n h))
  ·rw[dz]
   rcases h with h | h
   ·exact isSome_or (.inl (g2 j n h))
   ·exact isSome_or (.inr (h2 j n h))
  ·rcases h with ⟨h,_⟩ | h | h
   ·subst h;exact⟨rfl,by omega,by simp[aW]⟩
   ·exact absurd h (g3 k n)
   ·obtain⟨e,_,hk⟩:=h3 k n h
    refine⟨e,by omega, ?_⟩
    rw[aW]
    split
    ·rfl
    ·exact hk
theorem QD {d:Nat}:∀ {rs:List RM} {c:Nat} {o:bM} {n:Nat},(o,n)∈gF d c rs→o= .inl d∨NO d o n
 | [],c,o,n,h=>by simp[gF] at h
 | .val t::r,c,o,n,h=>QD (rs:=r) h
 | .row e t::r,c,o,n,h=>by
  simp only[gF,ali,Prod.mk.injEq] at h
  rcases h with ⟨h,h'⟩ | h
  ·subst h;subst h';exact .inr (.inl (by rw[JN];rfl))
  ·exact QD (rs:=r) h
 | .map e t::r,c,o,n,h=>by
  simp only[gF,ali,Prod.mk.injEq] at h
  rcases h with ⟨h,h'⟩ | h
  ·subst h;subst h';exact .inr (.inr (by rw[JN];rfl))
  ·exact QD (rs:=r) h
 | .box l::r,c,o,n,h=>by
  simp only[gF,aky,ali,alh,Prod.mk.injEq] at h
  rcases h with ⟨h,_⟩ | h | h
  ·exact .inl h
  ·exact .inr (IV h)
  ·exact QD (rs:=r) h
end Go.Dn
namespace Go.Dn
variable {β:Type} {X:Cx} {o:Oper} {S:St} {r:β} {C:Fr} {G:Gh} {ρ:Env} {w:World}
theorem Yp {a b j:Nat} (h1:a≤j) (h2:j<b) (c:CV):c.bR j=true∨c.cF j=true∨c.cm j=true→c.DO a b=true:=by
 have hb:∀ i,Nat.beq i j=true→(Nat.ble a i&&Nat.blt i b)=true:=fun i hi=>by
  have:=alV hi
  subst this
  simp only[ajK]
  exact⟨Nat.ble_eq_true_of_le h1,by simpa using h2⟩
 intro h
 cases c<;>simp only[CV.bR,CV.cF,CV.cm,CV.DO] at h ⊢ <;>first
  | (rcases h with h | h | h<;>first | exact hb _ h | cases h)
theorem afr {S:St} {a b j:Nat} (h:S.DO a b=false) (h1:a≤j) (h2:j<b):S.bR j=false∧S.cF j=false∧S.cm j=false:=by
 simp only[St.DO,ajX,aku] at h
 have sv:∀ s,s∈S.tmps→s.bR j=false∧s.cF j=false∧s.cm j=false:=fun s hs=>by
  have hn:=h.1 s hs
  cases s with
  | v a' cs=>
   simp only[SV.DO,akv,amT,amS] at hn
   have key:∀ c,c∈cs→¬ (c.bR j=true∨c.cF j=true∨c.cm j=true):=fun c hc hx=>hn c hc (Yp h1 h2 c hx)
   simp only[SV.bR,SV.cF,SV.cm,aku]
   exact⟨fun c hc e=>key c hc (.inl e),fun c hc e=>key c hc (.inr (.inl e)),fun c hc e=>key c hc (.inr (.inr e))⟩
  | tup l=>
   simp only[SV.DO,akv,amT,amS] at hn
   have key:∀ p,p∈l→∀ c,c∈p.2→¬ (c.bR j=true∨c.cF j=true∨c.cm j=true):=fun p hp c hc hx=>hn p hp c hc (Yp h1 h2 c hx)
   simp only[SV.bR,SV.cF,SV.cm,aku,akv,amT,amS]
   exact⟨fun p hp c hc e=>key p hp c hc (.inl e),fun p hp c hc e=>key p hp c hc (.inr (.inl e)),fun p hp c hc e=>key p hp c hc (.inr (.inr e))⟩
 have bv:∀ p,p∈S.boxes→∀ c,c∈p.2→¬ (c.bR j=true∨c.cF j=true∨c.cm j=true):=fun p hp c hc hx=>by
  have hn:=h.2 p hp
  simp only[akv,amT,amS] at hn
  exact hn c hc (Yp h1 h2 c hx)
 simp only[St.bR,St.cF,St.cm,ajX,aku,akv,amT,amS]
 exact⟨⟨fun s hs=>by simp[(sv s hs).1],fun p hp c hc e=>bv p hp c hc (.inl e)⟩,⟨fun s hs=>by simp[(sv s hs).2.1],fun p hp c hc e=>bv p hp c hc (.inr (.inl e))⟩,⟨fun s hs=>by simp[(sv s hs).2.2],fun p hp c hc e=>bv p hp c hc (.inr (.inr e))⟩⟩
theorem aiH {ρ ρ':Env} (hb:∀ k,S.cZ k=true→ρ'.bx k=ρ.bx k) (hr:∀ k,S.bR k=true→ρ'.rw k=ρ.rw k) (ho:∀ k,S.cF k=true→ρ'.ob k=ρ.ob k) (hs:∀ k,S.cm k=true→ρ'.st k=ρ.st k):S.jA ρ ρ':=by
 have inT:∀ s,s∈S.tmps→∀ c,(∀ f:CV→Bool,f c=true→(match s with | .v _ cs=>cs.any f | .tup l=>l.any fun p=>p.2.any f)=true)→c.jA ρ ρ':=fun s hs' c hc=>
  ⟨fun k hk=>hb k (by
    simp only[St.cZ,ajY,akv];left
    refine⟨s,hs', ?_⟩
    have:=hc (CV.cZ k) hk
    cases s<;>exact this),
   fun k hk=>hr k (by
    simp only[St.bR,ajY,akv];left
    refine⟨s,hs', ?_⟩
    have:=hc (CV.bR k) hk
    cases s<;>exact this),
   fun k hk=>ho k (by
    simp only[St.cF,ajY,akv];left
    refine⟨s,hs', ?_⟩
    have:=hc (CV.cF k) hk
    cases s<;>exact this),
   fun k hk=>hs k (by
    simp only[St.cm,ajY,akv];left
    refine⟨s,hs', ?_⟩
    have:=hc (CV.cm k) hk
    cases s<;>exact this)⟩
 refine⟨fun s hs'=> ?_,fun p hp c hc=>⟨fun k hk=>hb k ?_,fun k hk=>hr k ?_,fun k hk=>ho k ?_,fun k hk=>hs k ?_⟩⟩
 ·cases s with
  | v a cs=>exact fun c hc=>inT _ hs' c fun f hf=>by simp only[akv];exact⟨c,hc,hf⟩
  | tup l=>exact fun p hp c hc=>inT _ hs' c fun f hf=>by simp only[akv];exact⟨p,hp,c,hc,hf⟩
 ·simp only[St.cZ,ajY,akv];exact .inr ⟨p,hp,c,hc,hk⟩
 ·simp only[St.bR,ajY,akv];exact .inr ⟨p,hp,c,hc,hk⟩
 ·simp only[St.cF,ajY,akv];exact .inr ⟨p,hp,c,hc,hk⟩
 ·simp only[St.cm,ajY,akv];exact .inr ⟨p,hp,c,hc,hk⟩
def dB:List (bM×Value)→bM→Option Value
 | [],_=>none
 | (o,n)::r,x=>if o=x then some n else dB r x
theorem Lj {l:List (bM×Value)} {o:bM} {v:Value} (h:dB l o=some v):(o,v)∈l:=by
 induction l with
 | nil=>simp[dB] at h
 | cons p r ih=>
  obtain⟨o',n'⟩:=p
  simp only[dB] at h
  split at h
  ·rename_i e;cases h;subst e;simp
  ·exact alj _ (ih h)
theorem RU {l:List (bM×Value)} {its:List (bM×Nat)} (he:l.map (·.1)=its.map (·.1)) (hd:JP its=false) {o:bM} {v:Value} (h:(o,v)∈l):dB l o=some v:=by
 induction l generalizing its with
 | nil=>simp at h
 | cons p r ih=>
  cases its with
  | nil=>simp at he
  | cons q its=>
   obtain⟨o',v'⟩:=p
   obtain⟨o2,n2⟩:=q
   simp only[alf,List.cons.injEq] at he
   obtain⟨e1,e2⟩:=he
   subst e1
   simp only[JP,ajX] at hd
   simp only[dB]
   rcases ali.1 h with h | h
   ·cases h;simp
   ·split
    ·rename_i e
     subst e
     have hm:o'∈its.map (·.1):=by rw[← e2];exact alp.2 ⟨_,h,rfl⟩
     obtain⟨x,hx,ex⟩:=alp.1 hm
     have:=NX (l:=its) (o:=o') (n:=x.2) (by rw[← ex];exact hx)
     rw[hd.1] at this;cases this
    ·exact ih e2 hd.2 h
theorem Pg {l:List (bM×Value)} {its:List (bM×Nat)} (he:l.map (·.1)=its.map (·.1)) {o:bM} (h:dB l o≠none):∃ n,(o,n)∈its:=by
 cases hv:dB l o with
 | none=>exact absurd hv h
 | some v=>
  have hm:o∈its.map (·.1):=by rw[← he];exact alp.2 ⟨_,Lj hv,rfl⟩
  obtain⟨x,hx,ex⟩:=alp.1 hm
  exact⟨x.2,by rw[← ex];exact hx⟩
def qz:List (bM×Nat)→Nat→Option bM
 | [],_=>none
 | (o,n)::r,x=>if n=x then some o else qz r x
theorem FH {l:List (bM×Nat)} (hd:dup (l.map (·.2))=false) {o:bM} {n:Nat} (h:(o,n)∈l):qz l n=some o:=by
 induction l with
 | nil=>simp at h
 | cons p r ih=>
  obtain⟨o',n'⟩:=p
  rw[alf] at hd
  obtain⟨h1,h2⟩:=NW hd
  simp only[qz]
  rcases ali.1 h with h | h
  ·cases h;simp
  ·split
   ·rename_i e;subst e;exact absurd (alp.2 ⟨(o,n'),h,rfl⟩) h1
   ·exact ih h2 h
theorem tv {α:Type} (f:Nat→Bool):∀ (l:List (Nat×α)) (i:Nat),look (l.filter fun p=>f p.1) i=if f i=true then look l i else none
 | [],i=>by simp[look]
 | (j,y)::r,i=>by
  have ih:=tv f r i
  cases hU:f j with
  | false=>
   have:(List.filter (fun p:Nat×α=>f p.1) ((j,y)::r))=r.filter fun p=>f p.1:=by simp[hU]
   rw[this,ih,aW]
   by_cases e:j=i
   ·subst e;simp[hU]
   ·simp[e]
  | true=>
   have:(List.filter (fun p:Nat×α=>f p.1) ((j,y)::r))=(j,y)::r.filter fun p=>f p.1:=by simp[hU]
   rw[this,aW,aW,ih]
   by_cases e:j=i
   ·subst e;simp[hU]
   ·simp[e]
def K8 (w:World) (v:Value) (i:Nat):Int:=
 match v with
 | .map (some b)=>match w.heap[b]? with
  | some (.map es _)=>((es.toList[i]?).map fun e=>(e.born:Int)).getD 0
  | _=>0
 | _=>0
def SW:Value→Nat
 | .pointer (some ⟨b,_,_⟩)=>b
 | _=>0
theorem Um (S:St) (js:List Nat):∀ (i:Nat) (ps:List PM) (args:List SV),AZ (bE S js) i ps args=AZ S i ps args
 | _,[],_=>rfl
 | i,p::r,l=>by
  have h1:∀ s,tM (bE S js) i p s=tM S i p s:=fun s=>by cases p<;>rfl
  simp only[AZ,Um S js (i+1) r,h1]
theorem agN {d n:Nat} (hd:d<2000) (hn:n<2048):nid d 0 0+n<10000000:=by simp only[nid];omega
theorem Zd {S:St}:∀ {ps:List PM} {args:List SV} {i:Nat},mH ps=true→∃ n,(.ob bT,n)∈AZ S i ps args
 | [],args,i,h=>by simp[mH] at h
 | p::r,args,i,h=>by
  simp only[AZ,alh]
  cases p with
  | ar t=>exact⟨64*i,.inl (by simp[PM.arg,tM])⟩
  | _=>
   obtain⟨n,hn⟩:=Zd (S:=S) (ps:=r) (args:=(bif PM.arg _ then args.tail else args)) (i:=i+1) h
   exact⟨n,.inr hn⟩
theorem Y5 {V:St} {fb:List Nat}:∀ {ps:List PM} {args:List SV} {x:gU ps},vP V fb ps args=some x→mH ps=true→∃ t l,look V.objs bT=some (.ar false t l)
 | [],args,x,h,ha=>by simp[mH] at ha
 | p::r,args,x,h,ha=>by
  simp only[vP] at h
  split at h
  ·rename_i s hs
   split at h
   ·rename_i y hy
    split at h
    ·rename_i z hz
     cases p with
     | ar t=>
      obtain⟨f,hl,hf⟩:=xN (show AW V false t=some y from hy)
      have:=hf rfl
      subst this
      exact⟨_,_,hl⟩
     | _=>exact Y5 hz ha
    ·cases h
   ·cases h
  ·cases h
theorem yY {d i:Nat}:∀ {l:List OT} {c:Nat} {x:qg l} {j:Nat} {q:wN},look (pS d i c l x) j=some q→∃ k v l,q= .map k v l
 | [],c,x,j,q,h=>by simp[pS,look] at h
 | .val _::r,c,x,j,q,h=>yY (l:=r) h
 | .row _ _::r,c,x,j,q,h=>yY (l:=r) h
 | .map k v::r,c,x,j,q,h=>by
  simp only[pS,aW] at h
  split at h
  ·cases h;exact⟨_,_,_,rfl⟩
  ·exact yY (l:=r) h
theorem Ed {ps:List PM} {d:Nat}:∀ {rs:List RM} {c:Nat} {y:dX ps rs} {j:Nat} {q:wN},look (pM ps d rs c y) j=some q→∃ k v l,q= .map k v l
 | [],c,y,j,q,h=>by simp[pM,look] at h
 | .val _::r,c,y,j,q,h=>Ed (rs:=r) h
 | .row _ _::r,c,y,j,q,h=>Ed (rs:=r) h
 | .map k v::r,c,y,j,q,h=>by
  simp only[pM,aW] at h
  split at h
  ·cases h;exact⟨_,_,_,rfl⟩
  ·exact Ed (rs:=r) h
 | .box l::r,c,y,j,q,h=>by
  simp only[pM,dz] at h
  rcases or_some h with h | ⟨_,h⟩
  ·exact yY h
  ·exact Ed (rs:=r) h
theorem uL {d:Nat}:∀ {ps:List PM} {args:List SV} {i:Nat} {y:iN ps} {j:Nat} {q:wN},mH ps=false→look (fV d i ps args y) j=some q→∃ k v l,q= .map k v l
 | [],args,i,y,j,q,_,h=>by simp[fV,look] at h
 | .val _::r,[],i,y,j,q,_,h=>by simp[fV,look] at h
 | .row _ _::r,[],i,y,j,q,_,h=>by simp[fV,look] at h
 | .mrow _ _::r,[],i,y,j,q,_,h=>by simp[fV,look] at h
 | .map _ _::r,[],i,y,j,q,_,h=>by simp[fV,look] at h
 | .box _::r,[],i,y,j,q,_,h=>by simp[fV,look] at h
 | .val _::r,s::t,i,y,j,q,ha,h=>uL (ps:=r) (args:=t) ha h
 | .row _ _::r,s::t,i,y,j,q,ha,h=>uL (ps:=r) (args:=t) ha h
 | .mrow _ _::r,s::t,i,y,j,q,ha,h=>uL (ps:=r) (args:=t) ha h
 | .arR _::r,t,i,y,j,q,ha,h=>uL (d:=d) (ps:=r) (args:=t) (i:=i+1) (y:=y) (j:=j) ha (by cases t<;>exact h)
 | .ar _::r,t,i,y,j,q,ha,h=>by simp[mH] at ha
 | .map k v::r,s::t,i,y,j,q,ha,h=>by
  simp only[fV,dz] at h
  rcases or_some h with h | ⟨_,h⟩
  ·split at h
   ·simp only[aW] at h
    split at h
    ·cases h;exact⟨_,_,_,rfl⟩
    ·simp[look] at h
   ·simp[look] at h
  ·exact uL (ps:=r) (args:=t) ha h
 | .box l::r,s::t,i,y,j,q,ha,h=>by
  simp only[fV,dz] at h
  rcases or_some h with h | ⟨_,h⟩
  ·split at h
   ·exact yY h
   ·simp[look] at h
  ·exact uL (ps:=r) (args:=t) ha h
theorem ags {c:Call} {f:Nat} {args:List SV} {sp:aK} {k:St→Option β} (hX:gw X) (ho:o.op= .call c) (hcal:oA S c=some (f,args)) (hsp:look X.specs f=some sp)
 (h:SB sp S args o.dst k=some r):∃ S',k S'=some r∧jG X.P o S S':=by
 obtain⟨hfun,hbody⟩:=hX f sp (Kt hsp)
 unfold SB at h
 simp only at h
 split at h
 ·cases h
 ·rename_i hc
  simp only[ajY,amU,ajT,ajS] at hc
  obtain⟨⟨⟨⟨⟨⟨⟨⟨⟨⟨⟨⟨hdO,hdI⟩,hdC⟩,hcode⟩,hfbo⟩,hjso⟩,harx⟩,hfresh⟩,howold⟩,hnostp⟩,hflx⟩,hnbx⟩,hdd⟩:=hc
  generalize hits:dn (o.dst.getD 0) 0 sp.ps args++gF (o.dst.getD 0) 0 sp.rs=its at*
  generalize how:AZ S 0 sp.ps args=ow at*
  split at h
  ·rename_i x hx
   obtain⟨y,hy,h⟩:=bind_some h
   refine⟨_,h,fun C G ρ w a Q hM=> ?_⟩
   clear h
   generalize hva:I6 sp.ps args=va at*
   obtain⟨G1,ρ1,G2,hfz,hM1,hle2,hhn2,hagr2,hlent,harok,hG2⟩:=hM.ahS (oO S va) (sU va) (J8 sp.ps)
   obtain⟨vs,hvs,hrun⟩:=AE (S:=S) (w:=w) (G:=G1) (ρ:=ρ1) (a:=a) ho hcal (fun z _=>by
    have:=hM1.tmps.ev z;rw[GB] at this;exact this) hbody
   have hF:mS G2 ρ1 (bE S (oO S va)):=fun j q hj hq=>kM.mono hle2 (hM1.toMem.frozen j q hj hq)
   have hargs:=Sq (ow:=ow) hM1.toMem hle2 hhn2 hF hlent 0 (fun e fz t l hl=>harok e fz t l hl) (fun q hq=>by
    rw[Um,how] at hq
    exact DJ hdO hq) hx hvs
   have howG:∀ b i,gR ρ1 ow b=some i→G2 b=none∧b<w.heap.size:=fun b i hb=>by
    unfold gR at hb
    cases h1:ρ1.own b with
    | none=>rw[h1] at hb;cases hb
    | some o'=>
     rw[h1] at hb
     simp only[amq] at hb
     have hbb:=hM1.owned b o' h1
     refine⟨?_,hbb.2.1⟩
     by_cases e:G2 b=G1 b
     ·rw[e];exact hbb.1
     ·rcases hG2 b e with ⟨k',hk1,hk2⟩ | ⟨hk1,hk2⟩
      ·rw[h1] at hk1
       cases hk1
       simp only[aku] at hfbo
       have hm:k'∈sU va:=by
        simp only[inL,akv] at hk2
        obtain⟨x',hx1,hx2⟩:=hk2
        rw[alV hx2];exact hx1
       have:=hfbo k' hm
       rw[hb] at this;simp at this
      ·rw[h1] at hk2
       cases hk2
       rw[hk1,hb] at harx;simp at harx
   have hcall:=hfun G2 w (gR ρ1 ow) vs x y hagr2 howG hargs hy
   unfold Oper.wp
   rw[hrun]
   refine hcall.mono ?_
   rintro e w' ⟨G',ow',us,hg⟩
   rw[hg.ret]
   have base:∃ Gb ρb Sb,Mod C Gb ρb Sb w a∧Sb.tmps=S.tmps∧Sb.boxes=S.boxes∧Sb.objs=S.objs∧Sb.rows=(if (oa sp.rs&&mI sp.ps)=true then S else bE S (oO S va)).rows∧ρb.bx=ρ1.bx∧ρb.rw=ρ1.rw∧ρb.ob=ρ1.ob∧ρb.st=ρ1.st∧Gb.hnd=G2.hnd∧
    (∀ b o',ρ1.own b=some o'→ρb.own b=some o')∧((oa sp.rs&&mI sp.ps)=true∨∀ b,G2 b=Gb b):=by
    by_cases hfl:(oa sp.rs&&mI sp.ps)=true
    ·exact⟨G,ρ,S,hM,rfl,rfl,rfl,by rw[amQ hfl],hfz.bx.symm,hfz.rw.symm,hfz.ob.symm,hfz.st.symm,(hhn2.trans hfz.hnd).symm,hfz.own,.inl hfl⟩
    ·refine⟨G1,ρ1,_,hM1,rfl,rfl,rfl,by rw[amP hfl],rfl,rfl,rfl,rfl,hhn2.symm,fun _ _ h=>h,.inr fun b=> ?_⟩
     have hfe:(sU va).isEmpty=true∧J8 sp.ps=false:=by
      rcases hflx with h1 | h1
      ·exact absurd h1 hfl
      ·simpa using h1
     cases Classical.em (G2 b=G1 b) with
     | inl e=>exact e
     | inr e=>
      rcases hG2 b e with ⟨k',_,hk2⟩ | ⟨hk1,_⟩
      ·have:sU va=[]:=by simpa using hfe.1
       rw[this] at hk2;simp[inL] at hk2
      ·rw[hfe.2] at hk1;cases hk1
   obtain⟨Gb,ρb,Sb,hMb,eT,eB,eO,eR,ebx,erw,eob,est,ehn,hown1,hflat⟩:=base
   have howN:∀ b o',ρb.own b=some o'→dN ow o'=none→gR ρ1 ow b=none:=fun b o' hb hn=>by
    unfold gR
    cases h1:ρ1.own b with
    | none=>rfl
    | some o2=>
     have:=hown1 b o2 h1
     rw[hb] at this
     cases this
     simpa using hn
   have hownb:∀ b,gR ρ1 ow b≠none→∃ o',ρb.own b=some o':=fun b hb=>by
    unfold gR at hb
    cases h1:ρ1.own b with
    | none=>rw[h1] at hb;exact absurd rfl hb
    | some o'=>exact⟨o',hown1 b o' h1⟩
   have hgb:∀ b,gR ρ1 ow b≠none→Gb b=none:=fun b hb=>by
    obtain⟨o',h1⟩:=hownb b hb
    exact (hMb.owned b o' h1).1
   let G3:Gh:=⟨fun b=>if b<w.heap.size∧gR ρ1 ow b=none then Gb b else G' b,G'.hnd⟩
   have hle3:Gb.le G3:=⟨fun b o' hb=>by
    have h1:=gO (hMb.agr b o' hb)
    have h2:gR ρ1 ow b=none:=by
     cases h3:gR ρ1 ow b with
     | none=>rfl
     | some i=>have:=hgb b (by rw[h3];simp);rw[hb] at this;cases this
    simp only[G3,h1,h2,and_self,amR];exact hb,fun i b hb=>hg.le.hnd i b (by rw[← ehn];exact hb)⟩
   have hagr3:Agr G3 w':=fun b o' hb=>by
    simp only[G3] at hb
    split at hb
    ·rename_i hb'
     rw[(hg.old b hb'.1 hb'.2).1];exact hMb.agr b o' hb
    ·exact hg.agr b o' hb
   have hTr:Trans G' G3 (oa sp.rs&&mI sp.ps):=⟨fun _ _ h=>h,by
    rcases hflat with h1 | h1
    ·exact .inl h1
    ·right
     refine⟨fun b o' hb=> ?_,fun _ _ h=>h⟩
     simp only[G3]
     by_cases hb':b<w.heap.size∧gR ρ1 ow b=none
     ·rw[amQ hb', ← h1, ← (hg.old b hb'.1 hb'.2).2];exact hb
     ·rw[amP hb'];exact hb⟩
   obtain⟨hbk,vals1,hv1,hpt1,hr1⟩:=JW (d:=o.dst.getD 0) (Trans.left hTr) hg.out
   obtain⟨vals2,hv2,hold2,hr2⟩:=CW (d:=o.dst.getD 0) (G:=G1) (ρ:=ρ1) (show G3.hnd=G'.hnd from rfl) (Trans.right hTr) hbk hvs
   generalize hvals:vals2++vals1=vals
   have hvits:vals.map (·.1)=its.map (·.1):=by rw[← hvals, ← hits];simp[hv1,hv2]
   have hmem1:∀ p,p∈vals1→p∈vals:=fun p hp=>by rw[← hvals];simp[hp]
   have hmem2:∀ p,p∈vals2→p∈vals:=fun p hp=>by rw[← hvals];simp[hp]
   let ρ3:Env:=⟨fun i=>match dB vals (.inl i) with | some v=>SW v | none=>ρb.bx i,
    fun i=>(dB vals (.inr i)).getD (ρb.rw i),
    fun b=>match ow' b with | some n=>qz its n | none=>if gR ρ1 ow b=none then ρb.own b else none,
    fun i=>match dB vals (.ob i) with | some (.map (some b))=> .map (some b) | _=>ρb.ob i,
    fun i=>match dB vals (.ob i) with | some v=>K8 w' v | none=>ρb.st i⟩
   have hA3:∀ o v,(o,v)∈vals→Asg ρ3 w' o v:=fun o v hm=>by
    have hl:=RU hvits hdI hm
    cases o with
    | inl k'=>
     have hp:∃ b,v= .pointer (some ⟨b,0,none⟩):=by
      rw[← hvals] at hm
      rcases alh.1 hm with h1 | h1
      ·rcases hold2 _ _ h1 with h2 | ⟨n,_,h2⟩
       ·exact⟨_,h2⟩
       ·rcases h2 with h2 | h2<;>cases h2
      ·exact hpt1 k' v h1
     obtain⟨b,hb⟩:=hp
     show v= .pointer (some ⟨match dB vals (.inl k') with | some v=>SW v | none=>ρb.bx k',0,none⟩)
     rw[hl,hb];rfl
    | inr j=>show (dB vals (.inr j)).getD (ρb.rw j)=v;rw[hl];rfl
    | ob j=>
     intro b hb
     subst hb
     refine⟨?_,fun es clock hw i e' hi=> ?_⟩
     ·show (match dB vals (.ob j) with | some (.map (some b))=>Value.map (some b) | _=>ρb.ob j)=_
      rw[hl]
     ·show (e'.born:Int)=(match dB vals (.ob j) with | some v=>K8 w' v | none=>ρb.st j) i
      rw[hl]
      simp[K8,hw,hi]
   have hO3:∀ o n,(o,n)∈its→∀ b,ow' b=some n→ρ3.own b=some o:=fun o n hm b hb=>by
    show (match ow' b with | some n=>qz its n | none=>_)=_
    rw[hb];exact FH hdC hm
   have hi1:∀ p,p∈gF (o.dst.getD 0) 0 sp.rs→p∈its:=fun p hp=>by rw[← hits];simp[hp]
   have hi2:∀ p,p∈dn (o.dst.getD 0) 0 sp.ps args→p∈its:=fun p hp=>by rw[← hits];simp[hp]
   obtain⟨hxv,hP1⟩:=hr1 ρ3 (fun o v h=>hA3 o v (hmem1 _ h)) (fun o n h=>hO3 o n (hi1 _ h))
   have hP2:=hr2 ρ3 (fun o v h=>hA3 o v (hmem2 _ h)) (fun o n h=>hO3 o n (hi2 _ h))
   have hnew:∀ o' n,(o',n)∈its→NO (o.dst.getD 0) o' n→∀ j,o'= .inr j∨o'= .ob j→S.bR j=false∧S.cF j=false:=fun o' n hm hn j hj=>by
    have hlt:n<2048:=by
     have:=akt.1 hcode (o',n) hm
     simpa using this
    have hj2:j=nid (o.dst.getD 0) 0 0+n:=by
     rcases hn with hn | hn<;>rcases hj with hj | hj<;>rw[hn] at hj<;>cases hj<;>rfl
    have hf:S.DO (nid (o.dst.getD 0) 0 0) (nid (o.dst.getD 0+1) 0 0)=false:=by simpa [acq] using hfresh
    have:=afr (j:=j) hf (by omega) (by rw[hj2];simp only[nid];omega)
    exact⟨this.1,this.2.1⟩
   have hval:∀ o' v,(o',v)∈vals→(Old ρ1 o' v)∨(o'= .inl (o.dst.getD 0)∧0<LF sp.rs)∨∃ n,(o',n)∈its∧NO (o.dst.getD 0) o' n:=fun o' v hm=>by
    rw[← hvals] at hm
    rcases alh.1 hm with h1 | h1
    ·rcases hold2 _ _ h1 with h2 | ⟨n,h2,h3⟩
     ·exact .inl h2
     ·exact .inr (.inr ⟨n,hi2 _ h2,h3⟩)
    ·have hm2:o'∈(gF (o.dst.getD 0) 0 sp.rs).map (·.1):=by rw[← hv1];exact alp.2 ⟨_,h1,rfl⟩
     obtain⟨p,hp,e1⟩:=alp.1 hm2
     obtain⟨p1,p2⟩:=p
     simp only at e1
     subst e1
     rcases QD hp with h2 | h2
     ·subst h2
      exact .inr (.inl ⟨rfl,((C8 (y:=y)).2.2 _ _ hp).2.1⟩)
     ·exact .inr (.inr ⟨p2,hi1 _ hp,h2⟩)
   have hnb:0<LF sp.rs→S.cZ (o.dst.getD 0)=false∧o.dst.getD 0<2000:=fun h0=>by
    have h1:Nat.blt 0 (LF sp.rs)=true:=by simpa using h0
    rw[h1] at hnbx
    simp only[aj0,ajX] at hnbx
    exact⟨hnbx.1,by simpa using hdd⟩
   have sbx:∀ k',S.cZ k'=true∨2000≤k'→ρ3.bx k'=ρb.bx k':=fun k' hk'=>by
    show (match dB vals (.inl k') with | some v=>SW v | none=>ρb.bx k')=_
    cases hl:dB vals (.inl k') with
    | none=>rfl
    | some v=>
     rcases hval _ _ (Lj hl) with h1 | ⟨h1,h2⟩ | ⟨n,_,h1⟩
     ·have h1':v= .pointer (some ⟨ρ1.bx k',0,none⟩):=h1
      rw[h1',ebx];rfl
     ·cases h1
      rcases hk' with hk' | hk'
      ·rw[(hnb h2).1] at hk';cases hk'
      ·exact absurd (hnb h2).2 (Nat.not_lt.2 hk')
     ·rcases h1 with h1 | h1<;>cases h1
   have hsmall:∀ o' n,(o',n)∈its→NO (o.dst.getD 0) o' n→∀ j,o'= .inr j∨o'= .ob j→j<10000000:=fun o' n hm hn j hj=>by
    have hlt:n<2048:=by
     have:=akt.1 hcode (o',n) hm
     simpa using this
    have hd2:o.dst.getD 0<2000:=by simpa using hdd
    have hj2:j=nid (o.dst.getD 0) 0 0+n:=by
     rcases hn with hn | hn<;>rcases hj with hj | hj<;>rw[hn] at hj<;>cases hj<;>rfl
    rw[hj2];exact agN hd2 hlt
   have srw:∀ j,S.bR j=true∨10000000≤j→ρ3.rw j=ρb.rw j:=fun j hj=>by
    show (dB vals (.inr j)).getD (ρb.rw j)=_
    cases hl:dB vals (.inr j) with
    | none=>rfl
    | some v=>
     rcases hval _ _ (Lj hl) with h1 | ⟨h1,_⟩ | ⟨n,h0,h1⟩
     ·have h1':ρ1.rw j=v:=h1
      rw[erw,h1'];rfl
     ·cases h1
     ·rcases hj with hj | hj
      ·have:=(hnew _ _ h0 h1 j (.inl rfl)).1
       rw[hj] at this;cases this
      ·have:=hsmall _ _ h0 h1 j (.inl rfl);omega
   have sob:∀ j,S.cF j=true∨10000000≤j→ρ3.ob j=ρb.ob j:=fun j hj=>by
    show (match dB vals (.ob j) with | some (.map (some b))=>Value.map (some b) | _=>ρb.ob j)=_
    split
    ·rename_i b hl
     rcases hval _ _ (Lj hl) with h1 | ⟨h1,_⟩ | ⟨n,h0,h1⟩
     ·rw[eob,h1 b rfl]
     ·cases h1
     ·rcases hj with hj | hj
      ·have:=(hnew _ _ h0 h1 j (.inr rfl)).2
       rw[hj] at this;cases this
      ·have:=hsmall _ _ h0 h1 j (.inr rfl);omega
    ·rfl
   have inIts:∀ o' v,dB vals o'=some v→∃ n,(o',n)∈its:=fun o' v hl=>Pg hvits (by rw[hl];simp)
   have sst:∀ j,S.cm j=true→ρ3.st j=ρb.st j:=fun j hj=>by
    show (match dB vals (.ob j) with | some v=>K8 w' v | none=>ρb.st j)=_
    cases hl:dB vals (.ob j) with
    | none=>rfl
    | some v=>
     obtain⟨n,hn⟩:=inIts _ _ hl
     have:=akt.1 hnostp _ hn
     simp only[ajU] at this
     rw[hj] at this;cases this
   have hsame:S.jA ρb ρ3:=aiH (fun k' hk'=>sbx k' (.inl hk')) (fun j hj=>srw j (.inl hj)) (fun j hj=>sob j (.inl hj)) sst
   have hkeep:∀ b o',ρb.own b=some o'→gR ρ1 ow b=none→ρ3.own b=some o':=fun b o' hb h1=>by
    have h2:ow' b=none:=by
     cases h3:ow' b with
     | none=>rfl
     | some i=>
      rcases (hg.own b i h3).2.2 with h4 | h4
      ·have:=(hMb.owned b o' hb).2.1;omega
      ·exact absurd h1 h4
    show (match ow' b with | some n=>qz its n | none=>if gR ρ1 ow b=none then ρb.own b else none)=_
    rw[h2]
    simp only[h1,amR];exact hb
   refine⟨G3,ρ3, ?_⟩
   refine { agr:=hagr3,le0:=Gh.le_trans hMb.le0 hle3,old:= ?_,frame:= ?_,size:=al0 hMb.size hg.size,os:=hg.os.trans hMb.os,output:=hg.output.trans hMb.output,pin:=fun k' hk'=>(sbx k' (.inr hk')).trans (hMb.pin k' hk'),pinR:=fun k' hk'=>⟨(srw k' (.inr hk')).trans (hMb.pinR k' hk').1,(sob k' (.inr hk')).trans (hMb.pinR k' hk').2⟩,owned:= ?_,boxes:= ?_,rows:= ?_,objs:= ?_,hndI:=fun hn=> ?_,tmps:= ?_,defers:= ?_ }
   ·intro b hb hB
    have h1:b<w.heap.size:=al2 hb hMb.size
    have h2:gR ρ1 ow b=none:=by
     cases h3:gR ρ1 ow b with
     | none=>rfl
     | some i=>
      obtain⟨o2,h4⟩:=hownb b (by rw[h3];simp)
      rcases (hMb.owned b o2 h4).2.2 with h5 | h5
      ·omega
      ·exact absurd h5 hB
    simp only[G3,h1,h2,and_self,amR];exact hMb.old b hb hB
   ·intro b hb hB
    have h1:b<w.heap.size:=al2 hb hMb.size
    have h2:gR ρ1 ow b=none:=by
     cases h3:gR ρ1 ow b with
     | none=>rfl
     | some i=>
      obtain⟨o2,h4⟩:=hownb b (by rw[h3];simp)
      rcases (hMb.owned b o2 h4).2.2 with h5 | h5
      ·omega
      ·exact absurd h5 hB
    rw[(hg.old b h1 h2).1];exact hMb.frame b hb hB
   ·intro b o' hb
    have hb':(match ow' b with | some n=>qz its n | none=>if gR ρ1 ow b=none then ρb.own b else none)=some o':=hb
    cases h1:ow' b with
    | some i=>
     obtain⟨h2,h3,h4⟩:=hg.own b i h1
     refine⟨?_,h3, ?_⟩
     ·simp only[G3]
      rw[amP]
      ·exact h2
      ·rintro⟨h5,h6⟩
       rcases h4 with h4 | h4
       ·omega
       ·exact h4 h6
     ·rcases h4 with h4 | h4
      ·exact .inl (al0 hMb.size h4)
      ·obtain⟨o2,h5⟩:=hownb b h4
       exact (hMb.owned b o2 h5).2.2
    | none=>
     rw[h1] at hb'
     simp only at hb'
     split at hb'
     ·rename_i h2
      have h3:=hMb.owned b o' hb'
      refine⟨?_,al2 h3.2.1 hg.size,h3.2.2⟩
      simp only[G3,h3.2.1,h2,and_self,amR];exact h3.1
     ·cases hb'
   ·intro k' cs hk'
    simp only[dz] at hk'
    rcases or_some hk' with h1 | ⟨n1,hk'⟩
    ·exact hP1.bx k' cs h1
    ·rcases or_some hk' with h1 | ⟨n2,hk'⟩
     ·exact hP2.bx k' cs h1
     ·rw[tv (fun i=>(dN ow (.inl i)).isNone)] at hk'
      split at hk'
      ·rename_i hn
       have hnv:dB vals (.inl k')=none:=by
        cases hl:dB vals (.inl k') with
        | none=>rfl
        | some v=>
         obtain⟨n,hn⟩:=inIts _ _ hl
         rw[← hits] at hn
         rcases alh.1 hn with h1 | h1
         ·have:=(wg (y:=SO sp.ps sp.rs y)).2.2 k' n h1
          rw[n2] at this;cases this
         ·have:=((C8 (y:=y)).2.2 k' n h1).2.2
          rw[n1] at this;cases this
       have ebk:ρ3.bx k'=ρb.bx k':=by
        show (match dB vals (.inl k') with | some v=>SW v | none=>ρb.bx k')=_
        rw[hnv]
       obtain⟨h2,ws,T,h3,h4⟩:=hMb.boxes k' cs (by rw[eB];exact hk')
       have h5:=howN _ _ h2 (by simpa using hn)
       rw[ebk]
       refine⟨hkeep _ _ h2 h5,ws,T, ?_,bD.EZ (fun c hc v=>bJ.congr hle3 (hsame.boxes (k',cs) (Kt hk') c hc)) h4⟩
       rw[(hg.old _ (gO h3) h5).1];exact h3
      ·cases hk'
   ·intro j q hj
    simp only[dz] at hj
    rcases or_some hj with h1 | ⟨n1,hj⟩
    ·exact hP1.rw j q h1
    ·rcases or_some hj with h1 | ⟨n2,hj⟩
     ·exact hP2.rw j q h1
     ·rw[tv (fun i=>(dN ow (.inr i)).isNone)] at hj
      split at hj
      ·rename_i hn
       have hnv:dB vals (.inr j)=none:=by
        cases hl:dB vals (.inr j) with
        | none=>rfl
        | some v=>
         obtain⟨n,hn⟩:=inIts _ _ hl
         rw[← hits] at hn
         rcases alh.1 hn with h1 | h1
         ·have:=(wg (y:=SO sp.ps sp.rs y)).1 j n h1
          rw[n2] at this;cases this
         ·have:=(C8 (y:=y)).1 j n h1
          rw[n1] at this;cases this
       have erj:ρ3.rw j=ρb.rw j:=by
        show (dB vals (.inr j)).getD (ρb.rw j)=_
        rw[hnv];rfl
       have hrow:=hMb.rows j q (by rw[eR];exact hj)
       have hk1:dK Gb ρb w' j q:=by
        unfold dK at hrow ⊢
        split
        ·rename_i hf;rw[amQ hf] at hrow;exact hrow
        ·rename_i hf
         rw[amP hf] at hrow
         obtain⟨xs,⟨hlen,hor⟩,hl,hb⟩:=hrow
         refine⟨xs,⟨hlen, ?_⟩,hl,hb⟩
         rcases hor with h1 | ⟨g,cap,cur,hv,h0,hgg,rest⟩
         ·exact .inl h1
         ·refine .inr ⟨g,cap,cur,hv,h0, ?_,rest⟩
          have h5:=howN g _ (hb g (by rw[hv];rfl)) (by simpa using hn)
          rw[(hg.old g (gO hgg) h5).1];exact hgg
       exact hk1.congr hle3 erj (fun b hb=>hkeep b _ hb (howN b _ hb (by simpa using hn)))
      ·cases hj
   ·intro j q hj
    simp only[dz] at hj
    rcases or_some hj with h1 | ⟨n1,hj⟩
    ·exact hP1.ob j q h1
    ·rcases or_some hj with h1 | ⟨n2,hj⟩
     ·exact hP2.ob j q h1
     ·rw[tv (fun i=>(dN ow (.ob i)).isNone)] at hj
      split at hj
      ·rename_i hn
       have hn':dN ow (.ob j)=none:=by simpa using hn
       have hnv:dB vals (.ob j)=none:=by
        cases hl:dB vals (.ob j) with
        | none=>rfl
        | some v=>
         obtain⟨n,hn⟩:=inIts _ _ hl
         rw[← hits] at hn
         rcases alh.1 hn with h1 | h1
         ·have:=(wg (y:=SO sp.ps sp.rs y)).2.1 j n h1
          rw[n2] at this;cases this
         ·have:=(C8 (y:=y)).2.1 j n h1
          rw[n1] at this;cases this
       have eoj:ρ3.ob j=ρb.ob j:=by
        show (match dB vals (.ob j) with | some (.map (some b))=>Value.map (some b) | _=>ρb.ob j)=_
        rw[hnv]
       have esj:ρ3.st j=ρb.st j:=by
        show (match dB vals (.ob j) with | some v=>K8 w' v | none=>ρb.st j)=_
        rw[hnv]
       have hobj:=hMb.objs j q (by rw[eO];exact hj)
       cases q with
       | map kk vv l=>
        obtain⟨b,es,clock,h1,h2,h3,h4,h5,h6⟩:=hobj
        have h7:=howN b _ h2 hn'
        exact⟨b,es,clock,by rw[eoj];exact h1,hkeep b _ h2 h7,by rw[(hg.old b (gO h3) h7).1];exact h3,h4.mono fun x y hxy=>hxy.mono hle3,by rw[esj];exact h5,h6⟩
       | ar fz t l=>
        obtain⟨hja,hA⟩:=hobj
        subst hja
        have hna:mH sp.ps=false:=by
         cases hh:mH sp.ps with
         | false=>rfl
         | true=>
          obtain⟨n,hn2⟩:=Zd (S:=S) (args:=args) (i:=0) hh
          rw[how] at hn2
          have:=NX hn2
          rw[hn'] at this;cases this
        have hhn:G3.hnd=Gb.hnd:=(hg.hnd hna).trans ehn.symm
        refine⟨rfl,fun i b hb=>hA.1 i b (by rw[← hhn];exact hb),fun i i' b hb hb'=>hA.2.1 i i' b (by rw[← hhn];exact hb) (by rw[← hhn];exact hb'),fun i z hz=> ?_⟩
        obtain⟨b,ws,T,f1,f2,f3,f4,f5⟩:=hA.2.2 i z hz
        have hob:gR ρ1 ow b=none:=by
         cases hx2:gR ρ1 ow b with
         | none=>rfl
         | some n=>
          cases fz with
          | true=>have:=hgb b (by rw[hx2];simp);rw[f2 rfl] at this;cases this
          | false=>have:=howN b _ (f3 rfl) hn';rw[hx2] at this;cases this
        exact⟨b,ws,T,by rw[hhn];exact f1,fun e'=>hle3 _ _ (f2 e'),fun e'=>hkeep b _ (f3 e') hob,by rw[(hg.old b (gO f4) hob).1];exact f4,bp.mono hle3 t z _ f5⟩
      ·cases hj
   ·obtain⟨q1,q2⟩:=hMb.hndI hn
    have hna:mH sp.ps=false:=by
     cases hh:mH sp.ps with
     | false=>rfl
     | true=>
      obtain⟨t,l,hl⟩:=Y5 hx hh
      exact absurd (show look Sb.objs bT=_ by rw[eO];exact hl) (q2 t l)
    refine⟨(hg.hnd hna).trans (ehn.symm.trans q1),fun t l hl=> ?_⟩
    simp only[dz] at hl
    rcases or_some hl with h1 | ⟨_,hl⟩
    ·obtain⟨_,_,_,e⟩:=Ed h1;cases e
    ·rcases or_some hl with h1 | ⟨_,hl⟩
     ·obtain⟨_,_,_,e⟩:=uL hna h1;cases e
     ·rw[tv (fun i=>(dN ow (.ob i)).isNone)] at hl
      split at hl
      ·exact q2 t l (by rw[eO];exact hl)
      ·cases hl
   ·have hT:kF G3 ρ3 S a:=by
     have h1:kF Gb ρb S a:=by
      have:=hMb.tmps
      unfold kF at this ⊢
      rw[eT] at this;exact this
     exact h1.congr hle3 hsame
    have:=hT.put o.dst (s:=SS (Jn sp.ps (o.dst.getD 0) sp.rs 0 y)) (v:=Jf us) (fun _ _=>VF hxv)
    cases hd:o.dst with
    | none=>rw[hd] at this;exact this
    | some d=>rw[hd] at this;exact this
   ·cases hd:o.dst<;>exact hMb.defers
  ·cases h
theorem Mod.Fe {C:Fr} {G:Gh} {ρ:Env} {S:St} {w:World} {a:Act} (h:Mod C G ρ S w a) (d:Option Tmp):Mod C G ρ (Fe S d) w a:=by
 unfold Dn.Fe
 split
 ·rename_i d
  split
  ·rename_i k _ _
   cases Nat.beq k d with
   | false=>exact h
   | true=>
    refine { h.toMem.XK (S':={ S with tmps:=S.tmps.set d (.v false [.any]) }) rfl rfl rfl with tmps:=⟨by simpa using h.tmps.1,fun i s hi=> ?_⟩,defers:=h.defers }
    have hi':(S.tmps.set d (.v false [.any]))[i]? =some s:=hi
    rw[akW] at hi'
    split at hi'
    ·split at hi'
     ·cases hi';trivial
     ·cases hi'
    ·exact h.tmps.2 i s hi'
  ·exact h
 ·exact h
theorem Jb {k:St→Option β} (hX:gw X) (h:fG X o S k=some r):∃ S',k S'=some r∧jG X.P o S S':=by
 have dflt:iM X o S S (fun x=>k (S.app o.dst x))=some r→∃ S',k S'=some r∧jG X.P o S S':=fun h=>by
  obtain⟨x,hk,hl,hf⟩:=CG hX h
  exact⟨_,hk,.aga hl hf⟩
 cases ho:o.op with
 | store t x y=>
  unfold fG at h
  rw[ho] at h
  simp only at h
  split at h
  ·cases h
  rename_i hd0
  have hd:o.dst=none:=by simpa using hd0
  split at h
  ·rename_i b off ag cs hx hy
   exact agk ho hd hx hy h
  ·rename_i j sz i off ag cs hx hy
   obtain⟨S',h1,h2⟩:=agi (S:=bE S (kK cs)) ho hd (by rw[GB];exact hx) (by rw[GB];exact hy) h
   exact⟨S',h1,h2.freeze _⟩
  ·rename_i i off ag cs hx hy
   obtain⟨S',h1,h2⟩:=ag5 (S:=bE S (kK cs)) ho hd (by rw[GB];exact hx) (by rw[GB];exact hy) h
   exact⟨S',h1,h2.freeze _⟩
  ·cases h
 | mapUpdate t m kx x=>
  unfold fG at h
  rw[ho] at h
  simp only at h
  split at h
  ·cases h
  rename_i hd0
  have hd:o.dst=none:=by simpa using hd0
  split at h
  ·rename_i kt et j ht hm
   split at h
   ·rename_i kk vv l hl
    split at h
    ·rename_i key y hk hy
     split at h
     ·rename_i hc
      simp only[ajK,ajU] at hc
      exact⟨_,h,((ad0 ho hd ht hm hl hk hy hc.1 hc.2).intern _).freeze _⟩
     ·cases h
    ·cases h
   ·cases h
  ·cases h
 | slice t x lo hi mx=>
  unfold fG at h
  rw[ho] at h
  simp only at h
  obtain⟨x,hk,hl,hf⟩:=CG hX h
  exact⟨_,hk,(jG.aga hl hf).freeze _⟩
 | alloc t=>
  unfold fG at h
  rw[ho] at h
  simp only at h
  obtain⟨x,hk,hl,hf⟩:=CG hX h
  exact⟨_,hk,fun C G ρ w a Q hM=>jG.aga hl hf C G ρ w a Q (hM.Fe _)⟩
 | buildSlice t len parts=>
  unfold fG at h
  rw[ho] at h
  simp only at h
  obtain⟨x,hk,hl,hf⟩:=abD ho h
  exact⟨_,hk,((jG.aga hl hf).intern _).freeze _⟩
 | call c=>
  obtain⟨callee,args,argTypes⟩:=c
  by_cases hb:callee= .builtin .append
  ·subst hb
   exact aif ho h
  ·have key:fG X o S k=(match oA S ⟨callee,args,argTypes⟩ with
    | some (f,args)=>match look X.specs f with
     | some sp=>SB sp S args o.dst k
     | none=>none
    | none=>iM X o S S fun x=>k (S.app o.dst x)):=by
    unfold fG
    rw[ho]
    cases callee with
    | builtin b=>cases b<;>first | rfl | exact absurd rfl hb
    | value f=>rfl
    | invoke r m=>rfl
   rw[key] at h
   split at h
   ·rename_i f args' hcal
    split at h
    ·rename_i sp hsp
     exact ags hX ho hcal hsp h
    ·cases h
   ·exact dflt h
 | _=>
  unfold fG at h
  rw[ho] at h
  exact dflt h
end Go.Dn
namespace Go.Dn
variable {β:Type} {X:Cx} {S:St} {r:β} {C:Fr} {G:Gh} {ρ:Env} {w:World}
theorem aiK {a:Act} {d:Nat} {b:Bool} (hT:kF G ρ S a) (h:S.ev (.tmp d)= .v false [.bool b]):S.put (some d) (.v false [.bool b])=S∧a.tmps[d]? =some (.bool b):=by
 have hv:=hT.ev (.tmp d)
 rw[h] at hv
 have hv':a.eval (.tmp d)= .bool b:=hv
 simp only[St.ev] at h
 rw[akK] at h
 cases hs:S.tmps[d]? with
 | none=>rw[hs] at h;cases h
 | some s=>
  rw[hs] at h
  simp only[amr] at h
  subst h
  obtain⟨hlt,he⟩:=akS.1 hs
  constructor
  ·simp only[St.put]
   have:S.tmps.set d (.v false [.bool b])=S.tmps:=by rw[← he];exact List.set_getElem_self hlt
   rw[this]
  ·simp only[Act.eval,ajA] at hv'
   have hlt':d<a.tmps.size:=by rw[hT.1];exact hlt
   rw[ajB hlt'] at hv' ⊢
   simpa using hv'
theorem pz {ops:List Oper} {o:Oper} {a:Act} {g:Option (Nat×Bool×Bool)} (hT:kF G ρ S a) (h:guardOf ops o S=some g):
 match g with
 | none=>Region.wanted o (yielded ops.toArray a.tmps)=true
 | some (d,b,want)=>S.put (some d) (.v false [.bool b])=S∧Region.wanted o (yielded ops.toArray a.tmps)=(b==want):=by
 unfold guardOf at h
 cases hg:o.guard with
 | none=>
  rw[hg] at h
  cases h
  simp[Region.wanted,hg]
 | some p=>
  obtain⟨j,want⟩:=p
  rw[hg] at h
  simp only at h
  split at h
  ·rename_i o' ho'
   split at h
   ·rename_i d hd
    split at h
    ·rename_i b hb
     cases h
     obtain⟨h1,h2⟩:=aiK hT hb
     refine⟨h1, ?_⟩
     have hy:yielded ops.toArray a.tmps j=some b:=by
      simp[yielded,ho',hd,h2]
     simp only[Region.wanted,hg,hy]
     cases b<;>cases want<;>rfl
    ·cases h
   ·cases h
  ·cases h
theorem agU:bW G ρ Bv undef:=⟨[],rfl,rfl⟩
theorem ade {ops:List Oper} {o:Oper} {a:Act} (hT:kF G ρ S a) (h:xj ops o S=true):Region.wanted o (yielded ops.toArray a.tmps)=false:=by
 unfold xj at h
 cases hg:o.guard with
 | none=>rw[hg] at h;cases h
 | some p=>
  obtain⟨j,want⟩:=p
  rw[hg] at h
  simp only at h
  split at h
  ·rename_i o' ho'
   split at h
   ·rename_i d hd
    split at h
    ·rename_i hb
     have hv:=hT.ev (.tmp d)
     rw[hb] at hv
     obtain⟨vs,hv,hn⟩:=hv
     have hn':vs=[]:=hn
     subst hn'
     have hy:yielded ops.toArray a.tmps j=none:=by
      have hv':a.tmps.getD d undef= .tuple #[]:=hv
      simp only[yielded]
      have:(ops.toArray[j]?).bind (fun x=>x.dst)=some d:=by simp[ho',hd]
      rw[this]
      simp only[amq]
      cases hs:a.tmps[d]? with
      | none=>rfl
      | some v=>
       rw[ajA,hs] at hv'
       simp only[amr] at hv'
       subst hv'
       rfl
     simp[Region.wanted,hg,hy]
    ·cases h
   ·cases h
  ·cases h
theorem XN {d:Nat} {b want:Bool} {yes no:St→Option β} (hS:S.put (some d) (.v false [.bool b])=S) (h:fork S d b want yes no=some r):((b==want)=true∧yes S=some r)∨((b==want)=false∧no S=some r):=by
 unfold fork at h
 cases want<;>cases b<;>simp only[amE,amD] at h<;>rw[hS] at h
 ·exact .inl ⟨rfl,h⟩
 ·exact .inr ⟨rfl,h⟩
 ·exact .inr ⟨rfl,h⟩
 ·exact .inl ⟨rfl,h⟩
theorem xZ (hX:gw X) (ops:List Oper):∀ (l:List Oper) {S:St} {k:St→Option β} {r:β},pG X ops l S k=some r→∀ {Q:Exit→Act→World→Prop},
 (∀ S' G ρ w a,k S'=some r→Mod C G ρ S' w a→Q .normal a w)→∀ {G ρ w a},Mod C G ρ S w a→wpList X.P ops.toArray Q l a w
 | [],S,k,r,h,Q,hQ,G,ρ,w,a,hM=>hQ S G ρ w a h hM
 | o::rest,S,k,r,h,Q,hQ,G,ρ,w,a,hM=>by
  have step:fG X o S (fun S=>pG X ops rest S k)=some r→o.wp X.P a w (wpList X.P ops.toArray Q rest) Q:=fun h=>by
   obtain⟨S',h1,h2⟩:=Jb hX h
   have:=h2 C G ρ w a Q hM
   exact Oper.wp_mono (fun a' w' ⟨G',ρ',hM'⟩=>xZ hX ops rest h1 hQ hM') this
  have skip:pG X ops rest (S.put o.dst Bv) k=some r→wpList X.P ops.toArray Q rest (a.put o.dst undef) w:=fun h=>
   xZ hX ops rest h hQ (hM.put o.dst (fun _ _=>agU))
  simp only[pG] at h
  split at h
  ·cases hs:xj ops o S with
   | false=>rw[hs] at h;cases h
   | true=>
    rw[hs] at h
    have hw:=ade hM.tmps hs
    simp only[wpList,hw]
    rw[amP (by simp)];exact skip h
  ·rename_i hg
   have hw:=pz hM.tmps hg
   simp only at hw
   simp only[wpList,hw,amR]
   exact .inl (step h)
  ·rename_i d b want hg
   obtain⟨hS,hw⟩:=pz hM.tmps hg
   simp only[wpList,hw]
   rcases XN hS h with ⟨hb,h⟩ | ⟨hb,h⟩
   ·rw[amQ hb];exact .inl (step h)
   ·rw[amP (by simp[hb])];exact skip h
theorem wp_region_list {P:Program} {id:Nat} {ops:Array Oper} {Q:Exit→Act→World→Prop} {a:Act} {w:World} (h:wpList P ops Q ops.toList a w):(Code.region id ops false).wp P Q a w:=by
 apply wp_region
 have e:=wpOps_eq_wpList (P:=P) (ops:=ops) (Q:=Q) ops.toList 0 (fun j=>by simp)
 have e2:List.range ops.size=List.range' 0 ops.toList.length:=by rw[List.range_eq_range'];simp
 rw[e2,e]
 exact h
def cy (base:Nat):List CK→List Value→List (Nat×Value)
 | .val t::r,vs=>cy base r (vs.drop t.size)
 | .own _ _::r,v::q=>(base,v)::cy (base+1) r q
 | .map _ _::r,v::q=>(base,v)::cy (base+1) r q
 | .ref _ _::r,_::q=>cy base r q
 | .fn _ _::r,_::q=>cy base r q
 | .ar _::r,q=>cy base r q
 | .arF _::r,q=>cy base r q
 | .rowR _::r,_::q=>cy base r q
 | .mapR _::r,_::q=>cy base r q
 | .rowC _ _ _::r,q=>cy base r q
 | .mapC _ _ _::r,q=>cy base r q
 | _,_=>[]
theorem jZ:∀ {cks:List CK} {base:Nat} {vs:List Value} {i:Nat} {v:Value},look (cy base cks vs) i=some v→base≤i∧i<base+cks.length
 | [],base,vs,i,v,h=>by simp[cy,look] at h
 | .val t::r,base,vs,i,v,h=>by
  simp only[cy] at h
  have:=jZ (cks:=r) h;simp;omega
 | .ar t::r,base,vs,i,v,h=>by
  have:look (cy base r vs) i=some v:=by cases vs<;>exact h
  have:=jZ (cks:=r) this;simp;omega
 | .arF t::r,base,vs,i,v,h=>by
  have:look (cy base r vs) i=some v:=by cases vs<;>exact h
  have:=jZ (cks:=r) this;simp;omega
 | .rowC _ _ _::r,base,vs,i,v,h=>by
  have:look (cy base r vs) i=some v:=by cases vs<;>exact h
  have:=jZ (cks:=r) this;simp;omega
 | .mapC _ _ _::r,base,vs,i,v,h=>by
  have:look (cy base r vs) i=some v:=by cases vs<;>exact h
  have:=jZ (cks:=r) this;simp;omega
 | .own _ _::r,base,[],i,v,h=>by simp[cy,look] at h
 | .map _ _::r,base,[],i,v,h=>by simp[cy,look] at h
 | .ref _ _::r,base,[],i,v,h=>by simp[cy,look] at h
 | .fn _ _::r,base,[],i,v,h=>by simp[cy,look] at h
 | .rowR _::r,base,[],i,v,h=>by simp[cy,look] at h
 | .mapR _::r,base,[],i,v,h=>by simp[cy,look] at h
 | .own _ _::r,base,u::q,i,v,h=>by
  simp only[cy,aW] at h
  split at h
  ·simp;omega
  ·have:=jZ h;simp;omega
 | .map _ _::r,base,u::q,i,v,h=>by
  simp only[cy,aW] at h
  split at h
  ·simp;omega
  ·have:=jZ h;simp;omega
 | .ref _ _::r,base,u::q,i,v,h=>by have:=jZ (cks:=r) (vs:=q) h;simp;omega
 | .fn _ _::r,base,u::q,i,v,h=>by have:=jZ (cks:=r) (vs:=q) h;simp;omega
 | .rowR _::r,base,u::q,i,v,h=>by have:=jZ (cks:=r) (vs:=q) h;simp;omega
 | .mapR _::r,base,u::q,i,v,h=>by have:=jZ (cks:=r) (vs:=q) h;simp;omega
theorem ago {t:Ty} {l:List t.den} (h:YE S t=some l):look S.objs bT=some (.ar true t l):=by
 unfold YE at h
 split at h
 ·rename_i ty l' hl
  unfold Eb at h
  split at h
  ·rename_i e
   subst e
   cases h
   exact hl
  ·cases h
 ·cases h
theorem mq {ow:List (bM×Nat)} (hM:Mem C G ρ S w) (ρ':Env) (hbx:ρ'.bx=ρ.bx)
 (hor:∀ j n,dN ow (.inr j)=some n→∀ b,ρ.own b=some (.inr j)→ρ'.own b=some (.inr n))
 (hoo:∀ j n,dN ow (.ob j)=some n→(∀ b,ρ.own b=some (.ob j)→ρ'.own b=some (.ob n))∧ρ'.st n=ρ.st j)
 (hfx:∀ j,(j<gL∨gL+1000≤j)→ρ'.rw j=ρ.rw j∧ρ'.ob j=ρ.ob j):∀ {cks:List CK} {cvs:List CV} {x:eA cks} {vs:List Value} {base:Nat},
 cks.all CK.zb=true→bQ S cks cvs=some x→bD (bJ G ρ) cvs vs→(∀ i v,look (cy base cks vs) i=some v→ρ'.rw i=v∧ρ'.ob i=v)→(∀ p,p∈carried base cks cvs→dN ow p.1=some p.2)→
 bD (bJ G ρ') (qJ base cks x) vs∧(∀ j q,look (jL base cks x) j=some q→dK G ρ' w j q)∧(∀ j q,look (eX base cks x) j=some q→qR G ρ' w j q)
 | [],[],x,vs,base,_,h,hv,_,_=>⟨hv,fun j q hj=>by simp[jL,look] at hj,fun j q hj=>by simp[eX,look] at hj⟩
 | [],_::_,x,vs,base,_,h,hv,_,_=>by simp[bQ] at h
 | .own e t::r,[],x,vs,base,_,h,hv,_,_=>by simp[bQ] at h
 | .map e t::r,[],x,vs,base,_,h,hv,_,_=>by simp[bQ] at h
 | .ref _ _::r,[],x,vs,base,_,h,hv,_,_=>by simp[bQ] at h
 | .rowR _::r,[],x,vs,base,_,h,hv,_,_=>by simp[bQ] at h
 | .mapR _::r,[],x,vs,base,_,h,hv,_,_=>by simp[bQ] at h
 | .fn _ _::r,[],x,vs,base,_,h,hv,_,_=>by simp[bQ] at h
 | .val t::r,cvs,x,vs,base,hfo,h,hv,hval,hcar=>by
  have hfo':r.all CK.zb=true:=by simp only[aks,ajK] at hfo;exact hfo.2
  simp only[bQ] at h
  split at h
  ·rename_i y q hy
   split at h
   ·rename_i z hz
    cases h
    obtain⟨a,b,e,h1,h2⟩:=aeT hM.frozen t cvs y q vs hy hv
    have hr:=DF t hy
    have hlen:=h1.len
    have hb:vs.drop t.size=b:=by rw[e, ← hlen,akD]
    obtain⟨g1,g2,g3⟩:=mq hM ρ' hbx hor hoo hfx (base:=base) hfo' hz h2 (fun i v hi=>hval i v (by simp only[cy,hb];exact hi)) (fun p hp=>hcar p (by simp only[carried, ← hr];exact hp))
    refine⟨?_,g2,g3⟩
    rw[e]
    exact (jk ρ' h1).append g1
   ·cases h
  ·cases h
 | .ref k off::r,c::q,x,vs,base,hfo,h,⟨v,us,e,hc,hq⟩,hval,hcar=>by
  have hfo':r.all CK.zb=true:=by simp only[aks,ajK] at hfo;exact hfo.2
  subst e
  simp only[bQ] at h
  split at h
  ·rename_i k' off'
   replace h:(if (k.beq k'&&off.beq off')=true then bQ S r q else none)=(some x:Option (eA r)):=h
   split at h
   ·rename_i hk
    simp only[ajK] at hk
    have e1:=alV hk.1
    have e2:=alV hk.2
    subst e1;subst e2
    obtain⟨g1,g2,g3⟩:=mq (cks:=r) hM ρ' hbx hor hoo hfx (base:=base) hfo' h hq hval hcar
    exact⟨⟨v,us,rfl,by show v=_;rw[hbx];exact hc,g1⟩,g2,g3⟩
   ·cases h
  ·cases h
 | .fn g ks::r,c::q,x,vs,base,hfo,h,⟨v,us,e,hc,hq⟩,hval,hcar=>by
  have hfo':r.all CK.zb=true:=by simp only[aks,ajK] at hfo;exact hfo.2
  subst e
  simp only[bQ] at h
  split at h
  ·rename_i g' ks'
   replace h:(if (g.beq g'&&ks==ks')=true then bQ S r q else none)=(some x:Option (eA r)):=h
   split at h
   ·rename_i hk
    simp only[ajK] at hk
    have e1:=alV hk.1
    have e2:ks=ks':=by simpa using hk.2
    subst e1;subst e2
    obtain⟨g1,g2,g3⟩:=mq (cks:=r) hM ρ' hbx hor hoo hfx (base:=base) hfo' h hq hval hcar
    exact⟨⟨v,us,rfl,by show v=_;rw[hbx];exact hc,g1⟩,g2,g3⟩
   ·cases h
  ·cases h
 | .ar t::r,q,x,vs,base,hfo,h,hv,hval,hcar=>by
  have hfo':r.all CK.zb=true:=by simp only[aks,ajK] at hfo;exact hfo.2
  simp only[bQ] at h
  split at h
  ·rename_i l y hl hy
   cases h
   obtain⟨f,hlk,hf⟩:=xN hl
   have:=hf rfl
   subst this
   have ec:carried base (.ar t::r) q=(.ob bT,bT)::carried base r q:=by cases q<;>rfl
   have ev:cy base (.ar t::r) vs=cy base r vs:=by cases vs<;>rfl
   rw[ec] at hcar
   rw[ev] at hval
   obtain⟨g1,g2,g3⟩:=mq (cks:=r) hM ρ' hbx hor hoo hfx (base:=base) hfo' hy hv hval (fun p hp=>hcar p (by simp[hp]))
   refine⟨g1,g2,fun j q' hj=> ?_⟩
   simp only[eX,aW] at hj
   split at hj
   ·rename_i ej
    subst ej
    cases hj
    obtain⟨_,h1,h2,h3⟩:=hM.objs bT _ hlk
    have hown:=(hoo bT bT (hcar (.ob bT,bT) (by simp))).1
    refine⟨rfl,h1,h2,fun i z hz=> ?_⟩
    obtain⟨b,ws,T,f1,f2,f3,f4,f5⟩:=h3 i z hz
    exact⟨b,ws,T,f1,nofun,fun _=>hown b (f3 rfl),f4,f5⟩
   ·exact g3 j q' hj
  ·cases h
 | .arF t::r,q,x,vs,base,hfo,h,hv,hval,hcar=>by
  have hfo':r.all CK.zb=true:=by simp only[aks,ajK] at hfo;exact hfo.2
  simp only[bQ] at h
  split at h
  ·rename_i l y hl hy
   cases h
   have hlk:=ago hl
   have ec:carried base (.arF t::r) q=carried base r q:=by cases q<;>rfl
   have ev:cy base (.arF t::r) vs=cy base r vs:=by cases vs<;>rfl
   rw[ec] at hcar
   rw[ev] at hval
   obtain⟨g1,g2,g3⟩:=mq (cks:=r) hM ρ' hbx hor hoo hfx (base:=base) hfo' hy hv hval hcar
   refine⟨g1,g2,fun j q' hj=> ?_⟩
   simp only[eX,aW] at hj
   split at hj
   ·rename_i ej
    subst ej
    cases hj
    obtain⟨_,h1,h2,h3⟩:=hM.objs bT _ hlk
    refine⟨rfl,h1,h2,fun i z hz=> ?_⟩
    obtain⟨b,ws,T,f1,f2,f3,f4,f5⟩:=h3 i z hz
    exact⟨b,ws,T,f1,f2,nofun,f4,f5⟩
   ·exact g3 j q' hj
  ·cases h
 | .own e' t::r,c::q,x,vs,base,hfo,h,⟨v,us,e,hc,hq⟩,hval,hcar=>by
  have hfo':r.all CK.zb=true:=by simp only[aks,ajK] at hfo;exact hfo.2
  subst e
  have hv:ρ'.rw base=v:=(hval base v (by simp[cy,aW])).1
  have hval':∀ i u,look (cy (base+1) r us) i=some u→ρ'.rw i=u∧ρ'.ob i=u:=fun i u hi=>hval i u (by
   simp only[cy,aW]
   rw[amP (by have:=jZ hi;omega)]
   exact hi)
  simp only[bQ] at h
  split at h
  ·rename_i l y hl hy
   cases h
   obtain⟨g1,g2,g3⟩:=mq hM ρ' hbx hor hoo hfx (base:=base+1) hfo' hy hq hval' (fun p hp=>hcar p (by simp[carried,hp]))
   obtain⟨h1,h2⟩:=wh (ow:=ow) (n:=base) hM (Gh.le_refl G) hl hc (fun p hp=>hcar p (by simp[carried,hp]))
   refine⟨⟨v,us,rfl,⟨hv.symm, ?_⟩,g1⟩,fun j q' hj=> ?_,g3⟩
   ·obtain⟨xs,ho,_⟩:=h1
    rcases ho.2 with ⟨e,_⟩ | ⟨g,cap,cur,e,_⟩
    ·exact⟨_,_,_,e⟩
    ·exact⟨_,_,_,e⟩
   ·simp only[jL,aW] at hj
    split at hj
    ·rename_i ej
     subst ej
     cases hj
     unfold dK
     rw[amP (by simp),hv]
     obtain⟨xs,ho,hr⟩:=h1
     refine⟨xs,ho,hr,fun b hb=> ?_⟩
     have hown:=h2 b hb
     unfold gR at hown
     cases h3:ρ.own b with
     | none=>rw[h3] at hown;cases hown
     | some o'=>
      rw[h3] at hown
      simp only[amq] at hown
      have:∃ j,o'= .inr j:=by
       cases c<;>simp only[pL] at hl<;>try cases hl
       case row j0=>
        split at hl
        ·rename_i q0 hq0
         split at hl
         ·cases hl
         ·rename_i hcnd
          simp only[ajY,amU,ajT,ajS] at hcnd
          have hrow:=hM.rows j0 q0 hq0
          unfold dK at hrow
          rw[amP (by simp[hcnd.1])] at hrow
          obtain⟨_,_,_,hob⟩:=hrow
          have hc1:=hc.1
          rw[hc1] at hb
          have:=hob b hb
          rw[h3] at this
          exact⟨j0,by simpa using this⟩
        ·cases hl
       case nils=>
        have hvn:v= .slice none 0 0:=hc
        rw[hvn] at hb;cases hb
      obtain⟨j0,rfl⟩:=this
      exact hor j0 base hown b h3
    ·exact g2 j q' hj
  ·cases h
 | .map kk vv::r,c::q,x,vs,base,hfo,h,⟨v,us,e,hc,hq⟩,hval,hcar=>by
  have hfo':r.all CK.zb=true:=by simp only[aks,ajK] at hfo;exact hfo.2
  subst e
  have hv:ρ'.ob base=v:=(hval base v (by simp[cy,aW])).2
  have hval':∀ i u,look (cy (base+1) r us) i=some u→ρ'.rw i=u∧ρ'.ob i=u:=fun i u hi=>hval i u (by
   simp only[cy,aW]
   rw[amP (by have:=jZ hi;omega)]
   exact hi)
  simp only[bQ] at h
  split at h
  ·rename_i l y hl hy
   cases h
   obtain⟨g1,g2,g3⟩:=mq hM ρ' hbx hor hoo hfx (base:=base+1) hfo' hy hq hval' (fun p hp=>hcar p (by simp[carried,hp]))
   cases c<;>simp only[rV] at hl<;>try cases hl
   case mp j0=>
    split at hl
    ·rename_i k' v' l' hlk
     obtain⟨e1,e2,e3⟩:=O9 hl
     subst e1;subst e2;subst e3
     obtain⟨b,es,clock,f1,f2,f3,f4,f5,f6⟩:=hM.objs j0 _ hlk
     have hlo:=hcar (.ob j0,base) (by simp[carried,sO])
     obtain⟨ho1,ho2⟩:=hoo j0 base hlo
     have hvb:v= .map (some b):=hc.1.trans f1
     refine⟨⟨v,us,rfl,⟨hv.symm,b,hvb⟩,g1⟩,g2,fun j q' hj=> ?_⟩
     simp only[eX,aW] at hj
     split at hj
     ·rename_i ej
      subst ej
      cases hj
      exact⟨b,es,clock,hv.trans hvb,ho1 b f2,f3,f4,by rw[ho2];exact f5,f6⟩
     ·exact g3 j q' hj
    ·cases hl
  ·cases h
 | .rowR j::r,c::q,x,vs,base,hfo,h,⟨v,us,e,hc,hq⟩,hval,hcar=>by
  simp only[aks,ajK] at hfo
  subst e
  simp only[bQ] at h
  split at h
  ·rename_i j'
   replace h:(if j.beq j'=true then bQ S r q else none)=(some x:Option (eA r)):=h
   split at h
   ·rename_i hk
    have e1:=alV hk
    subst e1
    obtain⟨g1,g2,g3⟩:=mq (cks:=r) hM ρ' hbx hor hoo hfx (base:=base) hfo.2 h hq hval hcar
    have hj:=(hfx j (by have:=hfo.1;simp only[CK.zb,ajY] at this;exact this.imp (fun h=>by simpa using h) alX)).1
    exact⟨⟨v,us,rfl,⟨by rw[hj];exact hc.1,hc.2⟩,g1⟩,g2,g3⟩
   ·cases h
  ·cases h
 | .mapR j::r,c::q,x,vs,base,hfo,h,⟨v,us,e,hc,hq⟩,hval,hcar=>by
  simp only[aks,ajK] at hfo
  subst e
  simp only[bQ] at h
  split at h
  ·rename_i j'
   replace h:(if j.beq j'=true then bQ S r q else none)=(some x:Option (eA r)):=h
   split at h
   ·rename_i hk
    have e1:=alV hk
    subst e1
    obtain⟨g1,g2,g3⟩:=mq (cks:=r) hM ρ' hbx hor hoo hfx (base:=base) hfo.2 h hq hval hcar
    have hj:=(hfx j (by have:=hfo.1;simp only[CK.zb,ajY] at this;exact this.imp (fun h=>by simpa using h) alX)).2
    exact⟨⟨v,us,rfl,⟨by rw[hj];exact hc.1,hc.2⟩,g1⟩,g2,g3⟩
   ·cases h
  ·cases h
 | .rowC j e' t::r,q,x,vs,base,hfo,h,hv,hval,hcar=>by
  simp only[aks,ajK] at hfo
  have hj:=(hfx j (by have:=hfo.1;simp only[CK.zb,ajY] at this;exact this.imp (fun h=>by simpa using h) alX)).1
  simp only[bQ] at h
  split at h
  ·rename_i l y hl hy
   cases h
   have ec:carried base (.rowC j e' t::r) q=(.inr j,j)::carried base r q:=by cases q<;>rfl
   have ev:cy base (.rowC j e' t::r) vs=cy base r vs:=by cases vs<;>rfl
   rw[ec] at hcar
   rw[ev] at hval
   obtain⟨g1,g2,g3⟩:=mq (cks:=r) hM ρ' hbx hor hoo hfx (base:=base) hfo.2 hy hv hval (fun p hp=>hcar p (by simp[hp]))
   refine⟨g1,fun i q' hi=> ?_,g3⟩
   simp only[jL,aW] at hi
   split at hi
   ·rename_i ej
    subst ej
    cases hi
    have hlo:=hcar (.inr j,j) (by simp)
    simp only[pL] at hl
    split at hl
    ·rename_i q0 hq0
     split at hl
     ·cases hl
     ·rename_i hc
      simp only[ajY,amU,ajT,ajS] at hc
      obtain⟨et,el⟩:=qI hl
      have hrow:=hM.rows j q0 hq0
      obtain⟨qf,qe,qt,ql⟩:=q0
      dsimp only at et el hc
      subst et;subst el
      have hee:qe=e':=alV hc.2
      subst hee
      unfold dK at hrow ⊢
      rw[amP (by simp[hc.1])] at hrow
      rw[amP (by simp),hj]
      obtain⟨xs,h1,h2,h3⟩:=hrow
      exact⟨xs,h1,h2,fun b hb=>hor j j hlo b (h3 b hb)⟩
    ·cases hl
   ·exact g2 i q' hi
  ·cases h
 | .mapC j kk vv::r,q,x,vs,base,hfo,h,hv,hval,hcar=>by
  simp only[aks,ajK] at hfo
  have hj:=(hfx j (by have:=hfo.1;simp only[CK.zb,ajY] at this;exact this.imp (fun h=>by simpa using h) alX)).2
  simp only[bQ] at h
  split at h
  ·rename_i l y hl hy
   cases h
   have ec:carried base (.mapC j kk vv::r) q=(.ob j,j)::carried base r q:=by cases q<;>rfl
   have ev:cy base (.mapC j kk vv::r) vs=cy base r vs:=by cases vs<;>rfl
   rw[ec] at hcar
   rw[ev] at hval
   obtain⟨g1,g2,g3⟩:=mq (cks:=r) hM ρ' hbx hor hoo hfx (base:=base) hfo.2 hy hv hval (fun p hp=>hcar p (by simp[hp]))
   refine⟨g1,g2,fun i q' hi=> ?_⟩
   simp only[eX,aW] at hi
   split at hi
   ·rename_i ej
    subst ej
    cases hi
    obtain⟨ho1,ho2⟩:=hoo j j (hcar (.ob j,j) (by simp))
    simp only[rV] at hl
    split at hl
    ·rename_i k' v' l' hlk
     obtain⟨e1,e2,e3⟩:=O9 hl
     subst e1;subst e2;subst e3
     obtain⟨b,es,clock,f1,f2,f3,f4,f5,f6⟩:=hM.objs j _ hlk
     exact⟨b,es,clock,by rw[hj];exact f1,ho1 b f2,f3,f4,by rw[ho2];exact f5,f6⟩
    ·cases hl
   ·exact g3 i q' hi
  ·cases h
def yB (a:Act) (p:Nat×CK):List Value:=match p.2.agg with
 | false=>[a.tmps.getD p.1 undef]
 | true=>match a.tmps.getD p.1 undef with
  | .agg vs=>vs.toList
  | _=>[]
def XU (a:Act) (l:List (Nat×CK)):Prop:=∀ p,p∈l→(yB a p).length=p.2.size∧(p.2.agg=true→a.tmps.getD p.1 undef= .agg (yB a p).toArray)
theorem YS {a:Act} (hT:kF G ρ S a):∀ {l:List (Nat×CK)} {cs:List CV},RF S l=some cs→bD (bJ G ρ) cs (l.flatMap (yB a))∧XU a l
 | [],cs,h=>by simp only[RF] at h;cases h;exact⟨rfl,fun p hp=>by cases hp⟩
 | p::r,cs,h=>by
  simp only[RF] at h
  split at h
  ·rename_i ag c hc
   split at h
   ·rename_i l hl
    split at h
    ·rename_i hsz
     cases h
     simp only[ajK,amA,ajY] at hsz
     obtain⟨e1,e2,e3⟩:=hsz
     have hlen:=alV e2
     have:=hT.ev (.tmp p.1)
     simp only[St.ev] at this
     rw[hc] at this
     obtain⟨h1,h2⟩:=YS hT hl
     have key:bD (bJ G ρ) c (yB a p)∧(p.2.agg=true→a.tmps.getD p.1 undef= .agg (yB a p).toArray):=by
      unfold yB
      rw[← e1]
      cases ag with
      | true=>
       obtain⟨vs,ev,hv⟩:=this
       have ev':a.tmps.getD p.1 undef= .agg vs.toArray:=ev
       rw[ev']
       simpa using hv
      | false=>
       have e3':c.length=1:=by
        rcases e3 with e3 | e3
        ·cases e3
        ·rw[hlen];exact alV e3
       match c,e3' with
       | [c],_=>exact⟨⟨_,_,rfl,this,rfl⟩,nofun⟩
     refine⟨by simpa using key.1.append h1,fun q hq=> ?_⟩
     rcases ali.1 hq with rfl | hq
     ·exact⟨by rw[key.1.len];exact hlen,key.2⟩
     ·exact h2 q hq
    ·cases h
   ·cases h
  ·cases h
theorem YR (hM:Mem C G ρ S w):∀ {l:List (Nat×List CK)} {cs:List CV},Qr S l=some cs→∃ vss:List (List Value),bD (bJ G ρ) cs vss.flatten∧
 bD (fun (p:Nat×List CK) vs=>vs.length=qT p.2∧ρ.own (ρ.bx p.1)=some (.inl p.1)∧∃ T,w.heap[ρ.bx p.1]? =some (.cells (List.toArray vs) T (0,0))) l vss
 | [],cs,h=>by simp only[Qr] at h;cases h;exact⟨[],rfl,rfl⟩
 | p::r,cs,h=>by
  simp only[Qr] at h
  split at h
  ·rename_i c hc
   split at h
   ·rename_i hlen
    split at h
    ·rename_i l hl
     cases h
     obtain⟨vss,h1,h2⟩:=YR hM hl
     obtain⟨ho,vs,T,hw,hv⟩:=hM.boxes p.1 c hc
     refine⟨vs::vss,by simpa using hv.append h1,vs,vss,rfl,⟨?_,ho,T,hw⟩,h2⟩
     rw[hv.len];exact alV hlen
    ·cases h
   ·cases h
  ·cases h
theorem KX {a:Act}:∀ {l:List (Nat×CK)} {cs:List CV} {t:List SV},XU a l→bD (bJ G ρ) cs (l.flatMap (yB a))→kF G ρ ⟨t,[],[],[]⟩ a→kF G ρ ⟨cq l cs t,[],[],[]⟩ a
 | [],cs,t,_,h,ht=>ht
 | p::r,cs,t,hk,h,ht=>by
  obtain⟨h1,h2⟩:=hk p alk
  simp only[List.flatMap_cons] at h
  have g1:=h.take p.2.size
  have g2:=h.drop p.2.size
  rw[← h1,alM] at g1
  rw[← h1,akD] at g2
  rw[h1] at g1 g2
  simp only[cq]
  refine KX (fun q hq=>hk q (alj _ hq)) g2 ⟨by simpa using ht.1,fun i s hi=> ?_⟩
  simp only[akW] at hi
  split at hi
  ·rename_i e
   split at hi
   ·cases hi;subst e
    show o5 G ρ p.2.agg (cs.take p.2.size) (a.tmps.getD p.1 undef)
    cases hag:p.2.agg with
    | true=>rw[h2 hag];exact⟨_,rfl,g1⟩
    | false=>
     have e:yB a p=[a.tmps.getD p.1 undef]:=by unfold yB;rw[hag]
     rw[e] at g1
     obtain⟨x,y,e2,g3,g4⟩:∃ x y,cs.take p.2.size=x::y∧bJ G ρ x (a.tmps.getD p.1 undef)∧y=[]:=by
      cases hc:cs.take p.2.size with
      | nil=>rw[hc] at g1;cases g1
      | cons x y=>
       rw[hc] at g1
       obtain⟨v,s,e5,e6,e7⟩:=g1
       cases e5
       cases y with
       | nil=>exact⟨x,[],rfl,e6,rfl⟩
       | cons z y=>obtain⟨_,_,e8,_⟩:=e7;cases e8
     rw[e2,g4];exact g3
   ·cases hi
  ·exact ht.2 i s hi
theorem Zn {R:CV→Value→Prop} {H:Nat→List Value→Prop}:∀ {l:List (Nat×List CK)} {cs:List CV} {vss:List (List Value)},bD R cs vss.flatten→bD (fun (p:Nat×List CK) vs=>vs.length=qT p.2∧H p.1 vs) l vss→
 ∀ k cells,look (QH l cs) k=some cells→∃ vs,H k vs∧bD R cells vs
 | [],cs,vss,_,_,k,cells,hk=>by simp[QH,look] at hk
 | p::r,cs,vss,h,⟨vs,us,e,⟨hl,hH⟩,hr⟩,k,cells,hk=>by
  subst e
  simp only[QH,aW] at hk
  have h1:=h.take (qT p.2)
  have h2:=h.drop (qT p.2)
  simp only[List.flatten_cons] at h1 h2
  rw[← hl,alM] at h1
  rw[← hl,akD] at h2
  split at hk
  ·rename_i ek
   cases hk
   subst ek
   exact⟨vs,hH,by rw[← hl];exact h1⟩
  ·exact Zn (by rw[← hl];exact h2) hr k cells hk
theorem bD.aih {α γ:Type} {R:α→γ→Prop} {l:List α} {a b:List γ} (h:bD R l (a++b)):bD R (l.take a.length) a∧bD R (l.drop a.length) b:=by
 have h1:=h.take a.length
 have h2:=h.drop a.length
 rw[alM] at h1
 rw[akD] at h2
 exact⟨h1,h2⟩
theorem we:∀ (l:List (Nat×CK)) (cs:List CV) (t:List SV),cq l cs t=cq l (cs.take (qT (l.map (·.2)))) t
 | [],cs,t=>rfl
 | p::r,cs,t=>by
  simp only[cq,alf,qT]
  rw[we r,we r ((cs.take _).drop _)]
  congr 1
  ·rw[List.drop_take,alO]
   congr 1
   omega
  ·rw[alO]
   congr 3
   omega
theorem XU.len {a:Act}:∀ {l:List (Nat×CK)},XU a l→(l.flatMap (yB a)).length=qT (l.map (·.2))
 | [],_=>rfl
 | p::r,h=>by
  have ih:=XU.len (l:=r) fun q hq=>h q (alj _ hq)
  simp only[List.flatMap_cons,ak2,alf,qT,ih,(h p alk).1]
theorem kH:∀ {cks:List CK} {cvs:List CV} {x:eA cks} {base:Nat} {t:Ty} {l:List t.den},bQ S cks cvs=some x→look (eX base cks x) bT=some (.ar false t l)→∃ t l,look S.objs bT=some (.ar false t l)
 | [],cvs,x,base,t,l,h,hl=>by simp[eX,look] at hl
 | .val _::r,cvs,x,base,t,l,h,hl=>by
  simp only[bQ] at h
  split at h
  ·split at h
   ·rename_i z hz
    cases h
    exact kH (cks:=r) hz hl
   ·cases h
  ·cases h
 | .own _ _::r,[],x,base,t,l,h,hl=>by simp[bQ] at h
 | .own _ _::r,c::q,x,base,t,l,h,hl=>by
  simp only[bQ] at h
  split at h
  ·rename_i y z hz
   cases h
   exact kH (cks:=r) hz hl
  ·cases h
 | .map _ _::r,[],x,base,t,l,h,hl=>by simp[bQ] at h
 | .map _ _::r,c::q,x,base,t,l,h,hl=>by
  simp only[bQ] at h
  split at h
  ·rename_i y z hz
   cases h
   simp only[eX,aW] at hl
   split at hl
   ·cases hl
   ·exact kH (cks:=r) hz hl
  ·cases h
 | .ref k off::r,[],x,base,t,l,h,hl=>by simp[bQ] at h
 | .ref k off::r,c::q,x,base,t,l,h,hl=>by
  simp only[bQ] at h
  split at h
  ·rename_i k' off'
   replace h:(if (k.beq k'&&off.beq off')=true then bQ S r q else none)=(some x:Option (eA r)):=h
   split at h
   ·exact kH (cks:=r) h hl
   ·cases h
  ·cases h
 | .fn g ks::r,[],x,base,t,l,h,hl=>by simp[bQ] at h
 | .fn g ks::r,c::q,x,base,t,l,h,hl=>by
  simp only[bQ] at h
  split at h
  ·rename_i g' ks'
   replace h:(if (g.beq g'&&ks==ks')=true then bQ S r q else none)=(some x:Option (eA r)):=h
   split at h
   ·exact kH (cks:=r) h hl
   ·cases h
  ·cases h
 | .rowR j::r,[],x,base,t,l,h,hl=>by simp[bQ] at h
 | .rowR j::r,c::q,x,base,t,l,h,hl=>by
  simp only[bQ] at h
  split at h
  ·rename_i j'
   replace h:(if j.beq j'=true then bQ S r q else none)=(some x:Option (eA r)):=h
   split at h
   ·exact kH (cks:=r) h hl
   ·cases h
  ·cases h
 | .mapR j::r,[],x,base,t,l,h,hl=>by simp[bQ] at h
 | .mapR j::r,c::q,x,base,t,l,h,hl=>by
  simp only[bQ] at h
  split at h
  ·rename_i j'
   replace h:(if j.beq j'=true then bQ S r q else none)=(some x:Option (eA r)):=h
   split at h
   ·exact kH (cks:=r) h hl
   ·cases h
  ·cases h
 | .rowC j e t'::r,q,x,base,t,l,h,hl=>by
  simp only[bQ] at h
  split at h
  ·rename_i y z hz
   cases h
   exact kH (cks:=r) hz hl
  ·cases h
 | .mapC j k v::r,q,x,base,t,l,h,hl=>by
  simp only[bQ] at h
  split at h
  ·rename_i y z hz
   cases h
   simp only[eX,aW] at hl
   split at hl
   ·cases hl
   ·exact kH (cks:=r) hz hl
  ·cases h
 | .arF t'::r,q,x,base,t,l,h,hl=>by
  simp only[bQ] at h
  split at h
  ·rename_i y z hz
   cases h
   simp only[eX,aW] at hl
   split at hl
   ·cases hl
   ·exact kH (cks:=r) hz hl
  ·cases h
 | .ar t'::r,q,x,base,t,l,h,hl=>by
  simp only[bQ] at h
  split at h
  ·rename_i y z hy hz
   obtain⟨f,hl,hf⟩:=xN hy
   have:=hf rfl
   subst this
   exact⟨_,_,hl⟩
  ·cases h
theorem ahK {a:Act} {A:Ann} {x:eA A.cks} (hM:Mod C G ρ S w a) (h:aa4 A S=some x):∃ ρ',Mod C G ρ' (head A S.tmps.length x) w a:=by
 unfold aa4 at h
 split at h
 ·rename_i cvs hpl
  split at h
  ·cases h
  ·rename_i hdup
   simp only[ajY,amU,ajT,ajS] at hdup
   obtain⟨⟨⟨hfix,hlen1⟩,hdup'⟩,hcod⟩:=hdup
   have hlen2:A.cks.length<1000:=by simpa using hlen1
   generalize hcar:carried gL A.cks cvs=ow at*
   unfold St.places at hpl
   split at hpl
   ·rename_i ct cb hct hcb
    cases hpl
    obtain⟨hvT,hszT⟩:=YS hM.tmps hct
    obtain⟨vss,hvB,hbs⟩:=YR hM.toMem hcb
    have hvs:=hvT.append hvB
    generalize hvals:cy gL A.cks (A.tmps.flatMap (yB a)++vss.flatten)=hv
    let ρ':Env:=⟨ρ.bx,fun i=>(look hv i).getD (ρ.rw i),
     fun b=>match ρ.own b with | some (.inl k)=>some (.inl k) | some (.inr j)=>(dN ow (.inr j)).map .inr | some (.ob j)=>(dN ow (.ob j)).map .ob | none=>none,
     fun i=>(look hv i).getD (ρ.ob i),
     fun i=>match qz ow i with | some (.ob j)=>ρ.st j | _=>ρ.st i⟩
    have hfxv:∀ j,(j<gL∨gL+1000≤j)→ρ'.rw j=ρ.rw j∧ρ'.ob j=ρ.ob j:=fun j hj=>by
     have:look hv j=none:=by
      cases hl:look hv j with
      | none=>rfl
      | some v=>
       rw[← hvals] at hl
       have:=jZ hl
       omega
     exact⟨by show (look hv j).getD _=_;rw[this];rfl,by show (look hv j).getD _=_;rw[this];rfl⟩
    obtain⟨h1,h2,h2'⟩:=mq (ow:=ow) hM.toMem ρ' rfl (fun j n hl b hb=>by
     show ((match ρ.own b with | some (.inl k)=>some (bM.inl k) | some (.inr j)=>(dN ow (.inr j)).map bM.inr | some (.ob j)=>(dN ow (.ob j)).map bM.ob | none=>none):Option bM)=_
     rw[hb];simp[hl])
     (fun j n hl=>⟨fun b hb=>by
       show ((match ρ.own b with | some (.inl k)=>some (bM.inl k) | some (.inr j)=>(dN ow (.inr j)).map bM.inr | some (.ob j)=>(dN ow (.ob j)).map bM.ob | none=>none):Option bM)=_
       rw[hb];simp[hl],by
       show (match qz ow n with | some (.ob j)=>ρ.st j | _=>ρ.st n)=_
       rw[FH hcod (agK hl)]⟩) hfxv (base:=gL) hfix h hvs (fun i v hi=>by
       rw[hvals] at hi
       exact⟨by show (look hv i).getD _=_;rw[hi];rfl,by show (look hv i).getD _=_;rw[hi];rfl⟩) (fun p hp=>by
       rw[hcar] at hp
       exact DJ hdup' hp)
    obtain⟨h3,h4⟩:=h1.aih
    rw[XU.len hszT] at h3 h4
    refine⟨ρ',{ agr:=hM.agr,le0:=hM.le0,old:=hM.old,frame:=hM.frame,size:=hM.size,os:=hM.os,output:=hM.output,pin:=hM.pin,pinR:=fun k hk=>⟨(hfxv k (by simp only[gL];omega)).1.trans (hM.pinR k hk).1,(hfxv k (by simp only[gL];omega)).2.trans (hM.pinR k hk).2⟩,owned:= ?_,boxes:= ?_,rows:=h2,objs:=h2',hndI:=fun hn=>⟨(hM.hndI hn).1,fun t l hl=>by obtain⟨t',l',h'⟩:=kH h hl;exact (hM.hndI hn).2 t' l' h'⟩,tmps:= ?_,defers:=hM.defers }⟩
    ·intro b o ho
     have ho':(match ρ.own b with | some (.inl k)=>some (.inl k) | some (.inr j)=>(dN ow (.inr j)).map .inr | some (.ob j)=>(dN ow (.ob j)).map .ob | none=>none)=some o:=ho
     cases h5:ρ.own b with
     | none=>rw[h5] at ho';cases ho'
     | some o'=>exact hM.owned b o' h5
    ·intro k cs hk
     obtain⟨vs,⟨h5,T,h6⟩,h7⟩:=Zn (R:=bJ G ρ') (H:=fun k vs=>ρ.own (ρ.bx k)=some (.inl k)∧∃ T,w.heap[ρ.bx k]? =some (.cells (List.toArray vs) T (0,0))) h4 hbs k cs hk
     exact⟨by simp only[ρ',h5],vs,T,h6,h7⟩
    ·have:kF G ρ' ⟨cq A.tmps ((qJ gL A.cks x).take (qT (A.tmps.map (·.2)))) (List.replicate S.tmps.length (.v false [.any])),[],[],[]⟩ a:=
      KX hszT h3 ⟨by simpa using hM.tmps.1,fun i s hi=>by
       simp only[akV] at hi
       split at hi
       ·cases hi;exact trivial
       ·cases hi⟩
     rw[← we] at this
     exact this
   ·cases hpl
 ·cases h
theorem Xy {a:Act} {A:Ann} {x:eA A.cks} (hM:Mod C G ρ S w a) (h:carry A S=some x):∃ G' ρ',Mod C G' ρ' (head A S.tmps.length x) w a:=by
 unfold carry at h
 split at h
 ·rename_i cvs _
  obtain⟨G1,ρ1,_,hM1⟩:=hM.freeze (QV A.cks cvs)
  obtain⟨ρ2,h2⟩:=ahK hM1 h
  exact⟨G1,ρ2,h2⟩
 ·cases h
end Go.Dn
namespace Go.Dn
variable {β:Type} {X:Cx} {C:Fr} {G:Gh} {ρ:Env} {w:World}
def aaV:Option Del→SV
 | some x=>x.sv
 | none=>Bv
def DB:Option Del→Option (List CV)
 | some x=>x.box
 | none=>none
def C5:Option Del→Option qu
 | some x=>x.row
 | none=>none
def GY:Option Del→Option wN
 | some x=>x.obj
 | none=>none
def St.out (S:St) (o:Oper):Option Del→St
 | some x=>S.app o.dst x
 | none=>S.put o.dst Bv
def states:List Oper→St→List (Option Del)→St
 | o::l,S,x::xs=>states l (S.out o x) xs
 | _,S,_=>S
theorem ahE {S:St} {d:Nat} {b:Bool} (h:S.ev (.tmp d)= .v false [.bool b]):S.put (some d) (.v false [.bool b])=S:=by
 simp only[St.ev] at h
 rw[akK] at h
 cases hs:S.tmps[d]? with
 | none=>rw[hs] at h;cases h
 | some s=>
  rw[hs] at h
  simp only[amr] at h
  subst h
  obtain⟨hlt,he⟩:=akS.1 hs
  simp only[St.put]
  have:S.tmps.set d (.v false [.bool b])=S.tmps:=by rw[← he];exact List.set_getElem_self hlt
  rw[this]
theorem abc {ops:List Oper} {o:Oper} {S:St} {d:Nat} {b want:Bool} (h:guardOf ops o S=some (some (d,b,want))):S.ev (.tmp d)= .v false [.bool b]:=by
 unfold guardOf at h
 split at h
 ·cases h
 ·split at h
  ·split at h
   ·split at h
    ·rename_i hb;cases h;exact hb
    ·cases h
   ·cases h
  ·cases h
structure ahm (P:Program) (o:Oper) (S:St) (x:Del):Prop where
 blind:CX o.op=true→eC P o S AJ x∧x.box=none∧x.row=none∧x.obj=none
 make:xK o.op=true→eC P o S AJ x∧x.box=none∧x.obj=none
def K9 (X:Cx) (ops:List Oper) (M:St) (o:Oper) (S:St):Option Del→Prop
 | some x=>(eC X.P o S M x∧ahm X.P o S x)∧(guardOf ops o S=some none∨∃ d b want,guardOf ops o S=some (some (d,b,want))∧(b==want)=true)
 | none=>(∃ d b want,guardOf ops o S=some (some (d,b,want))∧(b==want)=false)∨xj ops o S=true
theorem eC.aff {P:Program} {o:Oper} {S M:St} {x:Del} (h:eC P o S AJ x):eC P o S M x:=
 fun C G ρ S1 w a Q hM hN h1 h2 h3=>h C G ρ S1 w a Q hM ⟨hN.ops,fun k cs hk=>(by cases hk),fun k cs hk=>(by cases hk),fun k cs hk=>(by cases hk)⟩ h1 h2 h3
theorem AO (hX:gw X) {o:Oper} {S M:St} {k:Del→Option β} {r:β} (h:iM X o S M k=some r):∃ x,k x=some r∧eC X.P o S M x∧ahm X.P o S x:=by
 cases hb:CX o.op with
 | false=>
  cases hk:xK o.op with
  | false=>
   obtain⟨x,h1,h2,_⟩:=CG hX h
   exact⟨x,h1,h2,⟨fun h=>(by rw[hb] at h;cases h),fun h=>(by rw[hk] at h;cases h)⟩⟩
  | true=>
   have e:iM X o S AJ (fun x=>bif x.box.isNone&&x.obj.isNone then k x else none)=some r:=by
    obtain⟨dst,op,ty,pos,af,g⟩:=o
    cases op<;>first | exact absurd hk ajQ | exact h
   obtain⟨x,h1,h2,_⟩:=CG hX e
   cases hc:x.box.isNone&&x.obj.isNone with
   | false=>rw[hc] at h1;cases h1
   | true=>
    rw[hc] at h1
    simp only[ajK,ams] at hc
    exact⟨x,h1,h2.aff,⟨fun h=>(by rw[hb] at h;cases h),fun _=>⟨h2,hc⟩⟩⟩
 | true=>
  have e:iM X o S AJ (fun x=>bif x.box.isNone&&(x.row.isNone&&x.obj.isNone) then k x else none)=some r:=by
   obtain⟨dst,op,ty,pos,af,g⟩:=o
   cases op<;>first | exact absurd hb ajQ | exact h
  have hk:xK o.op=false:=by
   revert hb
   cases o.op<;>intro hb<;>first | rfl | exact absurd hb ajQ
  obtain⟨x,h1,h2,_⟩:=CG hX e
  cases hc:x.box.isNone&&(x.row.isNone&&x.obj.isNone) with
  | false=>rw[hc] at h1;cases h1
  | true=>
   rw[hc] at h1
   simp only[ajK,ams] at hc
   exact⟨x,h1,h2.aff,⟨fun _=>⟨h2,hc⟩,fun h=>(by rw[hk] at h;cases h)⟩⟩
theorem Bp (hX:gw X) {ops:List Oper} {M:St}:∀ {l:List Oper} {S:St} {k:St→Option β} {r:β},wm X ops M l S k=some r→
 ∃ outs:List (Option Del),outs.length=l.length∧k (states l S outs)=some r∧∀ i o x,l[i]? =some o→outs[i]? =some x→K9 X ops M o (states (l.take i) S (outs.take i)) x
 | [],S,k,r,h=>⟨[],rfl,h,fun i o x hi=>by simp at hi⟩
 | o::l,S,k,r,h=>by
  have cons:∀ (x:Option Del),K9 X ops M o S x→wm X ops M l (S.out o x) k=some r→
   ∃ outs:List (Option Del),outs.length=(o::l).length∧k (states (o::l) S outs)=some r∧∀ i o' x,(o::l)[i]? =some o'→outs[i]? =some x→K9 X ops M o' (states ((o::l).take i) S (outs.take i)) x:=by
   intro x hx hr
   obtain⟨outs,h1,h2,h3⟩:=Bp hX hr
   refine⟨x::outs,by simp[h1],h2,fun i o' y hi hy=> ?_⟩
   cases i with
   | zero=>
    simp only[akO,Option.some.injEq] at hi hy
    subst hi;subst hy
    exact hx
   | succ i=>
    simp only[akN] at hi hy
    exact h3 i o' y hi hy
  simp only[wm] at h
  split at h
  ·cases hs:xj ops o S with
   | false=>rw[hs] at h;cases h
   | true=>rw[hs] at h;exact cons none (.inr hs) h
  ·rename_i hg
   obtain⟨x,h1,h2⟩:=AO hX h
   exact cons (some x) ⟨h2,.inl hg⟩ h1
  ·rename_i d b want hg
   rcases XN (ahE (abc hg)) h with ⟨hb,h⟩ | ⟨hb,h⟩
   ·obtain⟨x,h1,h2⟩:=AO hX h
    exact cons (some x) ⟨h2,.inr ⟨d,b,want,hg,hb⟩⟩ h1
   ·exact cons none (.inl ⟨d,b,want,hg,hb⟩) h
section
variable {S:St} {o:Oper} {x:Option Del} {d:Nat}
theorem U6 (hd:o.dst=some d):(S.out o x).tmps=S.tmps.set d (aaV x):=by
 cases x<;>simp[St.out,St.app,St.put,hd,aaV]
theorem RH (hd:o.dst=some d) (k:Nat):look (S.out o x).boxes k=if k=d then (DB x).or (look S.boxes k) else look S.boxes k:=by
 cases x with
 | none=>simp[St.out,St.put,hd,DB]
 | some y=>
  simp only[St.out,St.app,hd,DB]
  cases y.box with
  | none=>simp
  | some c=>
   simp only[aW]
   by_cases e:k=d
   ·simp[e]
   ·have:¬ d=k:=fun h=>e h.symm
    simp[e,this]
theorem Vh (hd:o.dst=some d) (k:Nat):look (S.out o x).rows k=if k=d then (C5 x).or (look S.rows k) else look S.rows k:=by
 cases x with
 | none=>simp[St.out,St.put,hd,C5]
 | some y=>
  simp only[St.out,St.app,hd,C5]
  cases y.row with
  | none=>simp
  | some c=>
   simp only[aW]
   by_cases e:k=d
   ·simp[e]
   ·have:¬ d=k:=fun h=>e h.symm
    simp[e,this]
theorem UI (hd:o.dst=some d) (k:Nat):look (S.out o x).objs k=if k=d then (GY x).or (look S.objs k) else look S.objs k:=by
 cases x with
 | none=>simp[St.out,St.put,hd,GY]
 | some y=>
  simp only[St.out,St.app,hd,GY]
  cases y.obj with
  | none=>simp
  | some c=>
   simp only[aW]
   by_cases e:k=d
   ·simp[e]
   ·have:¬ d=k:=fun h=>e h.symm
    simp[e,this]
end
def iK (l:List Oper):List Nat:=l.filterMap (·.dst)
theorem OV:∀ {l:List Oper} {S:St} {outs:List (Option Del)},(states l S outs).tmps.length=S.tmps.length
 | [],S,outs=>by cases outs<;>rfl
 | o::l,S,[]=>rfl
 | o::l,S,x::xs=>by
  simp only[states]
  rw[OV]
  cases x<;>cases hd:o.dst<;>simp[St.out,St.app,St.put,hd]
theorem fR:∀ {l:List Oper} {S:St} {outs:List (Option Del)} {t:Nat},t∉iK l→(states l S outs).tmps[t]? =S.tmps[t]? ∧look (states l S outs).boxes t=look S.boxes t∧look (states l S outs).rows t=look S.rows t∧look (states l S outs).objs t=look S.objs t
 | [],S,outs,t,_=>by cases outs<;>exact⟨rfl,rfl,rfl,rfl⟩
 | o::l,S,[],t,_=>⟨rfl,rfl,rfl,rfl⟩
 | o::l,S,x::xs,t,h=>by
  simp only[states]
  cases hd:o.dst with
  | none=>
   have hl:t∉iK l:=by simpa [iK,hd] using h
   obtain⟨h1,h2,h3,h4⟩:=fR (S:=S.out o x) (outs:=xs) hl
   rw[h1,h2,h3,h4]
   cases x<;>simp[St.out,St.app,St.put,hd]
  | some d=>
   have hl:t≠d∧t∉iK l:=by simpa [iK,hd] using h
   obtain⟨h1,h2,h3,h4⟩:=fR (S:=S.out o x) (outs:=xs) hl.2
   rw[h1,h2,h3,h4,U6 hd,RH hd,Vh hd,UI hd]
   refine⟨akX (fun e=>hl.1 e.symm),by simp[hl.1],by simp[hl.1],by simp[hl.1]⟩
theorem JL:∀ (l:List Oper) (S:St) (outs:List (Option Del)) (i:Nat),outs.length=l.length→states l S outs=states (l.drop i) (states (l.take i) S (outs.take i)) (outs.drop i)
 | l,S,outs,0,_=>by simp only[akF,List.take_zero,states]
 | [],S,outs,i+1,h=>by
  have:outs=[]:=akG (by simpa using h)
  subst this;rfl
 | o::l,S,[],i+1,h=>by simp at h
 | o::l,S,x::xs,i+1,h=>by
  simp only[List.drop_succ_cons,List.take_succ_cons,states]
  exact JL l _ xs i (by simpa using h)
theorem nD {l:List Oper} {i:Nat} {o:Oper} {d:Nat} (h:dup (iK l)=false) (hi:l[i]? =some o) (hd:o.dst=some d):d∉iK (l.drop (i+1))∧d∉iK (l.take i):=by
 induction l generalizing i with
 | nil=>simp at hi
 | cons p l ih=>
  cases i with
  | zero=>
   simp only[akO,Option.some.injEq] at hi
   subst hi
   simp only[iK,List.filterMap_cons,hd] at h
   refine⟨?_,by simp[iK]⟩
   simpa [iK] using (NW h).1
  | succ i=>
   simp only[akN] at hi
   have hm:d∈iK l:=by
    simp only[iK,alm];exact⟨o,alr hi,hd⟩
   cases hp:p.dst with
   | none=>
    have h':dup (iK l)=false:=by simpa [iK,hp] using h
    obtain⟨h1,h2⟩:=ih h' hi
    exact⟨by simpa using h1,by simpa [iK,hp] using h2⟩
   | some dp=>
    have h':dup (dp::iK l)=false:=by simpa [iK,hp] using h
    obtain⟨h3,h4⟩:=NW h'
    obtain⟨h1,h2⟩:=ih h4 hi
    refine⟨by simpa using h1, ?_⟩
    have hne:d≠dp:=fun e=>h3 (e ▸ hm)
    simp only[List.take_succ_cons,iK,List.filterMap_cons,hp,ali,amU]
    exact⟨hne,h2⟩
theorem yj {l:List Oper} {S:St} {outs:List (Option Del)} {i d:Nat} {o:Oper} {x:Option Del} (hl:outs.length=l.length) (hdup:dup (iK l)=false) (hi:l[i]? =some o) (hx:outs[i]? =some x) (hd:o.dst=some d):
 (d<S.tmps.length→(states l S outs).tmps[d]? =some (aaV x))∧look (states l S outs).boxes d=(DB x).or (look S.boxes d)∧look (states l S outs).rows d=(C5 x).or (look S.rows d)∧look (states l S outs).objs d=(GY x).or (look S.objs d):=by
 obtain⟨h1,h2⟩:=nD hdup hi hd
 have e:=JL l S outs i hl
 have hlt:=(akS.1 hi).1
 have hlt':=(akS.1 hx).1
 have e1:l.drop i=o::l.drop (i+1):=by rw[akC hlt,(akS.1 hi).2]
 have e2:outs.drop i=x::outs.drop (i+1):=by rw[akC hlt',(akS.1 hx).2]
 rw[e1,e2] at e
 simp only[states] at e
 rw[e]
 obtain⟨g1,g2,g3,g4⟩:=fR (S:=(states (l.take i) S (outs.take i)).out o x) (outs:=outs.drop (i+1)) h1
 obtain⟨f1,f2,f3,f4⟩:=fR (S:=S) (outs:=outs.take i) h2
 rw[g1,g2,g3,g4,U6 hd,RH hd,Vh hd,UI hd,f2,f3,f4]
 refine⟨fun hlen=> ?_,by simp,by simp,by simp⟩
 rw[akY (by rw[OV];exact hlen)]
end Go.Dn
namespace Go.Dn
variable {β:Type} {X:Cx} {C:Fr} {G:Gh} {ρ:Env} {w:World}
def bA (S Sn:St) (U:Nat→Bool):St:=
 { tmps:=(List.range S.tmps.length).map fun t=>if U t then S.tmps.getD t (.v false [.any]) else Sn.tmps.getD t (.v false [.any]),
   boxes:=Sn.boxes.filter fun p=> !U p.1,rows:=Sn.rows.filter fun p=> !U p.1,objs:=Sn.objs.filter fun p=> !U p.1 }
theorem bO {α:Type} (U:Nat→Bool):∀ (l:List (Nat×α)) (i:Nat),look (l.filter fun p=> !U p.1) i=if U i=true then none else look l i
 | [],i=>by simp[look]
 | (j,y)::r,i=>by
  have ih:=bO U r i
  cases hU:U j with
  | true=>
   have:(List.filter (fun p:Nat×α=> !U p.1) ((j,y)::r))=r.filter fun p=> !U p.1:=by simp[hU]
   rw[this,ih,aW]
   by_cases e:j=i
   ·subst e;simp[hU]
   ·simp[e]
  | false=>
   have:(List.filter (fun p:Nat×α=> !U p.1) ((j,y)::r))=(j,y)::r.filter fun p=> !U p.1:=by simp[hU]
   rw[this,aW,aW,ih]
   by_cases e:j=i
   ·subst e;simp[hU]
   ·simp[e]
theorem fK {S Sn:St} {U:Nat→Bool} {t:Nat}:(bA S Sn U).tmps[t]? =if t<S.tmps.length then some (if U t then S.tmps.getD t (.v false [.any]) else Sn.tmps.getD t (.v false [.any])) else none:=by
 simp only[bA,akT]
 by_cases h:t<S.tmps.length
 ·rw[akU h];simp[h]
 ·rw[akR (by simp;omega)];simp[h]
theorem Mod.equiv {A B:St} {a:Act} (h:Mod C G ρ A w a) (ht:A.tmps=B.tmps) (hb:∀ k cs,look B.boxes k=some cs→look A.boxes k=some cs) (hr:∀ k q,look B.rows k=some q→look A.rows k=some q) (ho:∀ k q,look B.objs k=some q→look A.objs k=some q):Mod C G ρ B w a:=
 { h.toMem.sub hb hr ho with tmps:=by have:=h.tmps;unfold kF at this ⊢;rw[← ht];exact this,defers:=h.defers }
theorem aiL {l:List Nat} {j:Nat}:inL l j=true↔j∈l:=by
 simp only[inL,akv]
 constructor
 ·rintro⟨x,hx,h⟩;rw[alV h];exact hx
 ·intro h;exact⟨j,h,by simp⟩
theorem FU {s:Msk} {j:Nat}:inM s j=s.m.testBit j:=by
 unfold inM Nat.testBit
 rw[show Nat.land (Nat.shiftRight s.m j) 1=(1 &&& (s.m >>> j)) from Nat.and_comm _ _]
 have:(1 &&& (s.m >>> j))=(s.m >>> j) % 2:=by rw[Nat.and_comm];exact Nat.and_one_is_mod _
 rw[this]
 rcases Nat.mod_two_eq_zero_or_one (s.m >>> j) with h | h<;>rw[h]<;>rfl
theorem Pb {acc:List Msk}:∀ {es:List Edge} {j:Nat},j∈ri acc es→∃ e,e∈es∧Region.binds .any e=true∧(j=e.on∨j∈acc.getD e.on m0)
 | [],j,h=>by
  change inM m0 j=true at h
  rw[FU] at h
  simp[m0] at h
 | e::r,j,h=>by
  simp only[ri] at h
  cases hb:Region.binds .any e with
  | false=>
   rw[hb] at h
   obtain⟨e',h1,h2⟩:=Pb h
   exact⟨e',by simp[h1],h2⟩
  | true=>
   rw[hb] at h
   simp only[amE] at h
   change inM _ j=true at h
   rw[FU] at h
   change (((1 <<< e.on) ||| (acc.getD e.on m0).m) ||| (ri acc r).m).testBit j=true at h
   rw[Nat.testBit_or,Nat.testBit_or,ajY,ajY] at h
   rcases h with (h | h) | h
   ·refine⟨e,by simp,hb,.inl ?_⟩
    rw[Nat.one_shiftLeft,Nat.testBit_two_pow] at h
    exact (amV h).symm
   ·exact⟨e,by simp,hb,.inr (by change inM _ j=true;rw[FU];exact h)⟩
   ·have h':j∈ri acc r:=by change inM _ j=true;rw[FU];exact h
    obtain⟨e',h1,h2⟩:=Pb h'
    exact⟨e',by simp[h1],h2⟩
theorem WD:∀ (l:List Oper) (acc:List Msk),(vS l acc).take acc.length=acc∧(vS l acc).length=acc.length+l.length∧
 ∀ i o,l[i]? =some o→(vS l acc).getD (acc.length+i) m0=ri ((vS l acc).take (acc.length+i)) o.after.toList
 | [],acc=>⟨by simp[vS],by simp[vS],fun i o h=>by simp at h⟩
 | p::l,acc=>by
  obtain⟨h1,h2,h3⟩:=WD l (acc++[ri acc p.after.toList])
  simp only[ak2,ak3,ak7,amk] at h1 h2 h3
  simp only[vS]
  have hacc:(vS l (acc++[ri acc p.after.toList])).take acc.length=acc:=by
   have:=congrArg (List.take acc.length) h1
   rw[alO,al8 (by omega)] at this
   simpa using this
  refine⟨hacc,by rw[h2];simp;omega,fun i o hi=> ?_⟩
  cases i with
  | zero=>
   simp only[akO,Option.some.injEq] at hi
   subst hi
   rw[alR,hacc]
   have:(vS l (acc++[ri acc p.after.toList]))[acc.length]? =some (ri acc p.after.toList):=by
    have h4:((vS l (acc++[ri acc p.after.toList])).take (acc.length+1))[acc.length]? =some (ri acc p.after.toList):=by rw[h1];simp
    rw[akZ] at h4
    simpa using h4
   rw[akK,this];rfl
  | succ i=>
   simp only[akN] at hi
   have:=h3 i o hi
   rw[show acc.length+(i+1)=acc.length+1+i by omega]
   exact this
theorem abq {ops:List Oper} {i:Nat} {o:Oper} (hi:ops[i]? =some o) {j:Nat} (h:j∈(deps ops).getD i m0) (hE:n6 ops=true):
 ∃ e,e∈o.after.toList∧Region.binds .any e=true∧e.on<i∧(j=e.on∨j∈(deps ops).getD e.on m0):=by
 obtain⟨_,_,h3⟩:=WD ops []
 have:=h3 i o hi
 simp only[ak7,amk] at this
 rw[deps,this] at h
 obtain⟨e,h4,h5,h6⟩:=Pb h
 have hlt:e.on<i:=by
  simp only[n6,akt] at hE
  have h7:=hE i (by simp;exact (akS.1 hi).1)
  rw[hi] at h7
  simp only[akt] at h7
  have h8:=h7 e h4
  simp only[h5,ajW,ajR] at h8
  exact al2 (al6 _) (alX h8)
 refine⟨e,h4,h5,hlt, ?_⟩
 rcases h6 with h6 | h6
 ·exact .inl h6
 ·right
  rw[akK,akZ] at h6
  rw[amQ hlt] at h6
  rw[deps,akK];exact h6
def x3 (ops:List Oper) (listed:Array Bool):Prop:=∀ i o,ops[i]? =some o→listed.getD i true=true→∀ e,e∈o.after.toList→Region.binds .any e=true→listed.getD e.on false=true
theorem fq {ops:List Oper} {listed:Array Bool} (hE:n6 ops=true) (hc:x3 ops listed):∀ (i:Nat) (o:Oper),ops[i]? =some o→(∀ e,e∈o.after.toList→Region.binds .any e=true→listed.getD e.on false=true)→
 ∀ j,j∈(deps ops).getD i m0→listed.getD j true=true:=by
 intro i
 induction i using Nat.strongRecOn with
 | _ i ih=>
  intro o hi he j hj
  have hT:∀ m,listed.getD m false=true→listed.getD m true=true:=fun m hm=>by
   rw[ajA] at hm ⊢
   cases h:listed[m]? with
   | none=>rfl
   | some b=>rw[h] at hm;simpa using hm
  obtain⟨e,h1,h2,h3,h4⟩:=abq hi hj hE
  have h5:=he e h1 h2
  rcases h4 with rfl | h4
  ·exact hT _ h5
  ·have hlt:e.on<ops.length:=Nat.lt_trans h3 (akS.1 hi).1
   have h6:ops[e.on]? =some ops[e.on]:=akQ hlt
   exact ih e.on h3 _ h6 (fun e' h7 h8=>hc e.on _ h6 (hT _ h5) e' h7 h8) j h4
theorem o9 {s:Msk} {j:Nat}:inM s j=true↔j∈s:=Iff.rfl
theorem WN {t:Nat} {m:Msk}:∀ {l:List (Option Nat)} {j k:Nat},VX t m l j=true→l[k]? =some (some t)→j+k∈m
 | [],_,_,_,h=>by simp at h
 | d::r,j,k,h,hk=>by
  simp only[VX,ajK] at h
  cases k with
  | zero=>
   simp only[akO,Option.some.injEq] at hk
   subst hk
   have:=h.1
   simp only[Nat.beq_refl,ajW,ajR] at this
   exact this
  | succ k=>
   have:=WN h.2 (k:=k) (by simpa using hk)
   rw[show j+(k+1)=j+1+k by omega];exact this
theorem ahc {d:Nat} {c:CV}:c.dU d=inL (afM c) d:=by
 have hc:∀ k:Nat,Nat.beq k d=Nat.beq d k:=fun k=>by
  rw[ajO]
  exact⟨fun h=>by rw[alV h];simp,fun h=>by rw[alV h];simp⟩
 cases c<;>simp[CV.dU,CV.cZ,CV.bR,CV.cF,CV.cm,afM,inL,hc]
theorem qU {a b:List Nat} {d:Nat}:inL (a++b) d=(inL a d||inL b d):=by simp[inL]
theorem acQ {a:Nat} {b:List Nat} {d:Nat}:inL (a::b) d=(Nat.beq d a||inL b d):=by simp[inL]
theorem Ec {d:Nat}:∀ {cs:List CV},cs.any (CV.dU d)=inL (Js cs) d
 | []=>rfl
 | c::r=>by rw[Js,qU, ← Ec, ← ahc];rfl
theorem Zb {d:Nat}:∀ {l:List (Bool×List CV)},(l.any fun p=>p.2.any (CV.dU d))=inL (aaL l) d
 | []=>rfl
 | c::r=>by rw[aaL,qU, ← Zb, ← Ec];rfl
theorem YK {d:Nat}:∀ {s:SV},s.dU d=inL (afR s) d
 | .v _ _=>Ec
 | .tup _=>Zb
theorem Xj {d:Nat}:∀ {l:List SV},l.any (SV.dU d)=inL (VY l) d
 | []=>rfl
 | c::r=>by rw[VY,qU, ← Xj, ← YK];rfl
theorem Zi {d:Nat}:∀ {l:List (Nat×List CV)},inL (aaP l) d=false→(l.any fun p=>p.2.any (CV.dU d))=false∧look l d=none
 | [],_=>⟨rfl,rfl⟩
 | (k,cs)::r,h=>by
  rw[aaP,acQ,qU,ajX,ajX] at h
  obtain⟨h1,h2⟩:=Zi h.2.2
  refine⟨by rw[List.any_cons,h1,Ec,h.2.1];rfl, ?_⟩
  have hk:Nat.beq k d=false:=by
   cases hb:Nat.beq k d with
   | false=>rfl
   | true=>have:=h.1;rw[alV hb] at this;simp at this
  rw[look,hk];exact h2
theorem QY {α:Type} {d:Nat}:∀ {l:List (Nat×α)},inL (WB l) d=false→look l d=none
 | [],_=>rfl
 | (k,cs)::r,h=>by
  rw[WB,acQ,ajX] at h
  have hk:Nat.beq k d=false:=by
   cases hb:Nat.beq k d with
   | false=>rfl
   | true=>have:=h.1;rw[alV hb] at this;simp at this
  rw[look,hk];exact QY h.2
theorem afe {S:St} {d:Nat} (h:inL S.ids d=false):S.dU d=false∧look S.boxes d=none∧look S.rows d=none∧look S.objs d=none:=by
 rw[St.ids,qU,qU,qU] at h
 simp only[ajX] at h
 obtain⟨h1,h2,h3,h4⟩:=h
 obtain⟨h5,h6⟩:=Zi h2
 exact⟨by rw[St.dU,Xj,h1,h5];rfl,h6,QY h3,QY h4⟩
theorem ahU {Sn:St} {d dj:Nat}:Xx Sn d dj=inL (aaS Sn dj) d:=by
 rw[Xx,aaS,qU, ← YK]
 cases look Sn.boxes dj with
 | none=>rfl
 | some cs=>simp only;rw[Ec]
def aX (ops:List Oper) (n:Nat) (listed:Array Bool) (t:Nat):Bool:=(List.range n).any fun i=> !listed.getD i true&&(cn ops i==some t)
theorem ef {ops:List Oper} {n t:Nat} {listed:Array Bool}:aX ops n listed t=true↔∃ i,i<n∧listed.getD i true=false∧cn ops i=some t:=by
 simp only[aX,akv,alv,ajK,ajU,amA]
section
variable {ops:List Oper} {n:Nat} {S Sn:St} {listed:Array Bool} {outs:List (Option Del)}
structure cR (X:Cx) (ops:List Oper) (n:Nat) (S:St) (outs:List (Option Del)) (Sn:St):Prop where
 n_le:n≤ops.length
 dupl:dup (iK (ops.take n))=false
 head:∀ i o,i<n→ops[i]? =some o→o.dst.isSome=true∧∀ t,t∈o.looksAt ops.toArray→∀ j,j<n→cn ops j=some t→j∈(deps ops).getD i m0
 edges:n6 ops=true
 len:outs.length=n
 sn:Sn=states (ops.take n) S outs
 step:∀ i o x,i<n→ops[i]? =some o→outs[i]? =some x→K9 X ops S o (states ((ops.take n).take i) S (outs.take i)) x
 new:∀ i d,i<n→cn ops i=some d→S.dU d=false∧look S.boxes d=none∧look S.rows d=none∧look S.objs d=none∧
  ∀ j dj,j<n→cn ops j=some dj→i≠j→i∉(deps ops).getD j m0→Xx Sn d dj=false
theorem c8 {l:List Oper} {n i:Nat} (h:i<n):(l.take n)[i]? =l[i]? :=ak0 h
theorem l7 {i d:Nat} (h:cn ops i=some d):∃ o,ops[i]? =some o∧o.dst=some d:=by
 unfold cn at h
 cases ho:ops[i]? with
 | none=>rw[ho] at h;cases h
 | some o=>rw[ho] at h;exact⟨o,rfl,h⟩
theorem SE (hE:n6 ops=true):∀ (i:Nat) (o:Oper),ops[i]? =some o→∀ j,j∈(deps ops).getD i m0→j<i:=by
 intro i
 induction i using Nat.strongRecOn with
 | _ i ih=>
  intro o hi j hj
  obtain⟨e,h1,h2,h3,h4⟩:=abq hi hj hE
  rcases h4 with rfl | h4
  ·exact h3
  ·have hlt:e.on<ops.length:=Nat.lt_trans h3 (akS.1 hi).1
   exact Nat.lt_trans (ih e.on h3 _ (akQ hlt) j h4) h3
theorem Bn {i j d:Nat} {o:Oper} (hj:ops[j]? =some o) (hd:o.dst=some d) (hji:j<i):d∈iK (ops.take i):=by
 simp only[iK,alm]
 exact⟨o,alr (by rw[c8 hji];exact hj),hd⟩
theorem cR.uniq (K:cR X ops n S outs Sn) {i j d:Nat} (hi:i<n) (hj:j<n) (hdi:cn ops i=some d) (hdj:cn ops j=some d):i=j:=by
 obtain⟨oi,h1,h2⟩:=l7 hdi
 obtain⟨oj,h3,h4⟩:=l7 hdj
 rcases al7 i j with h | h | h
 ·have:=(nD K.dupl (i:=j) (o:=oj) (d:=d) (by rw[c8 hj];exact h3) h4).2
  exact absurd (Bn (ops:=ops.take n) (i:=j) (j:=i) (by rw[c8 hi];exact h1) h2 h) this
 ·exact h
 ·have:=(nD K.dupl (i:=i) (o:=oi) (d:=d) (by rw[c8 hi];exact h1) h2).2
  exact absurd (Bn (ops:=ops.take n) (i:=i) (j:=j) (by rw[c8 hj];exact h3) h4 h) this
theorem cR.split (K:cR X ops n S outs Sn) (i:Nat):Sn=states ((ops.take n).drop i) (states ((ops.take n).take i) S (outs.take i)) (outs.drop i):=by
 rw[K.sn]
 exact JL _ _ _ i (by rw[K.len,alc,al8 K.n_le])
theorem cR.AX (K:cR X ops n S outs Sn):Sn.tmps.length=S.tmps.length:=by rw[K.sn,OV]
theorem MM {l m:List SV} {t:Nat} (h:l[t]? =m[t]?):l.getD t (.v false [.any])=m.getD t (.v false [.any]):=by
 rw[akK,akK,h]
theorem cR.looks (K:cR X ops n S outs Sn) {i:Nat} {o:Oper} (hin:i<n) (hi:ops[i]? =some o)
 (hcl:∀ j,j∈(deps ops).getD i m0→listed.getD j true=true):∀ t,t∈o.looksAt ops.toArray→
 (bA S Sn (aX ops n listed)).tmps.getD t (.v false [.any])=(states ((ops.take n).take i) S (outs.take i)).tmps.getD t (.v false [.any]):=by
 intro t ht
 have hund:aX ops n listed t=false:=by
  cases hu:aX ops n listed t with
  | false=>rfl
  | true=>
   obtain⟨j,h1,h2,h3⟩:=ef.1 hu
   have:=hcl j ((K.head i o hin hi).2 t ht j h1 h3)
   rw[h2] at this;cases this
 have key:Sn.tmps[t]? =(states ((ops.take n).take i) S (outs.take i)).tmps[t]? :=by
  by_cases hex:∃ j,j<n∧cn ops j=some t
  ·obtain⟨j,h1,h2⟩:=hex
   have hji:=SE K.edges i o hi j ((K.head i o hin hi).2 t ht j h1 h2)
   have hnd:t∉iK ((ops.take n).drop i):=by
    intro hm
    simp only[iK,alm] at hm
    obtain⟨p,hp,hpd⟩:=hm
    obtain⟨m,hm⟩:=alo.1 hp
    rw[akP] at hm
    have hmn:i+m<n:=by
     have:=(akS.1 hm).1
     simp at this;omega
    rw[c8 hmn] at hm
    have:=K.uniq h1 hmn h2 (by unfold cn;rw[hm];exact hpd)
    omega
   rw[K.split i]
   exact (fR hnd).1
  ·have hnd:t∉iK (ops.take n):=by
    intro hm
    simp only[iK,alm] at hm
    obtain⟨p,hp,hpd⟩:=hm
    obtain⟨m,hm⟩:=alo.1 hp
    have hmn:m<n:=by
     have:=(akS.1 hm).1
     simp at this;omega
    rw[c8 hmn] at hm
    exact hex ⟨m,hmn,by unfold cn;rw[hm];exact hpd⟩
   have hnd':t∉iK ((ops.take n).take i):=fun hm=>hnd (by
    simp only[iK,alm] at hm ⊢
    obtain⟨p,hp,hpd⟩:=hm
    exact⟨p,als hp,hpd⟩)
   rw[K.sn,(fR hnd).1,(fR hnd').1]
 rw[← MM key,akK,fK]
 by_cases hlt:t<S.tmps.length
 ·simp[hlt,hund]
 ·rw[amP hlt]
  have:Sn.tmps[t]? =none:=akR (by rw[K.AX];exact Nat.le_of_not_lt hlt)
  rw[akK,this]
theorem cR.evs (K:cR X ops n S outs Sn) {i:Nat} {o:Oper} (hin:i<n) (hi:ops[i]? =some o)
 (hcl:∀ j,j∈(deps ops).getD i m0→listed.getD j true=true):∀ x,x∈o.op.operands→(bA S Sn (aX ops n listed)).ev x=(states ((ops.take n).take i) S (outs.take i)).ev x:=by
 intro x hx
 cases x with
 | tmp t=>
  refine K.looks hin hi hcl t ?_
  simp only[Oper.looksAt,alh,alm]
  exact .inl ⟨.tmp t,by simpa using hx,rfl⟩
 | const v=>rfl
 | global g=>rfl
 | func f=>rfl
theorem cR.guards (K:cR X ops n S outs Sn) {i:Nat} {o:Oper} (hin:i<n) (hi:ops[i]? =some o)
 (hcl:∀ j,j∈(deps ops).getD i m0→listed.getD j true=true):guardOf ops o (bA S Sn (aX ops n listed))=guardOf ops o (states ((ops.take n).take i) S (outs.take i)):=by
 unfold guardOf
 cases hg:o.guard with
 | none=>rfl
 | some p=>
  obtain⟨j,want⟩:=p
  simp only
  cases ho':ops[j]? with
  | none=>rfl
  | some o'=>
   simp only
   cases hd:o'.dst with
   | none=>rfl
   | some d=>
    simp only
    have:(bA S Sn (aX ops n listed)).ev (.tmp d)=(states ((ops.take n).take i) S (outs.take i)).ev (.tmp d):=by
     refine K.looks hin hi hcl d ?_
     simp only[Oper.looksAt,hg,alh]
     right
     simp[ho',hd]
    rw[this]
theorem cR.aiM (K:cR X ops n S outs Sn) {i:Nat} {o:Oper} (hin:i<n) (hi:ops[i]? =some o)
 (hcl:∀ j,j∈(deps ops).getD i m0→listed.getD j true=true):xj ops o (bA S Sn (aX ops n listed))=xj ops o (states ((ops.take n).take i) S (outs.take i)):=by
 unfold xj
 cases hg:o.guard with
 | none=>rfl
 | some p=>
  obtain⟨j,want⟩:=p
  simp only
  cases ho':ops[j]? with
  | none=>rfl
  | some o'=>
   simp only
   cases hd:o'.dst with
   | none=>rfl
   | some d=>
    simp only
    have:(bA S Sn (aX ops n listed)).ev (.tmp d)=(states ((ops.take n).take i) S (outs.take i)).ev (.tmp d):=by
     refine K.looks hin hi hcl d ?_
     simp only[Oper.looksAt,hg,alh]
     right
     simp[ho',hd]
    rw[this]
end
end Go.Dn
