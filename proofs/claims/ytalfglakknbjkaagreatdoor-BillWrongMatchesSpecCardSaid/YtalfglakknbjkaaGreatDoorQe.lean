/-
  Part 4. No condition.
-/
import Derived.Test.YtalfglakknbjkaaGreatDoorQc
set_option linter.all false
namespace Go.Dn
variable {β:Type} {X:Cx} {C:Fr} {G:Gh} {ρ:Env} {w:World}
theorem Dq {p q:Nat→Bool} {i:Nat}:∀ {l:List Nat},l.Nodup→i∈l→p i=true→(∀ j,q j=(p j&&j != i))→l.countP p=l.countP q+1
 | [],_,hi,_,_=>by simp at hi
 | j::l,hn,hi,hp,hq=>by
  rw[List.nodup_cons] at hn
  by_cases e:j=i
  ·subst e
   have h1:q j=false:=by rw[hq];simp
   have h2:l.countP p=l.countP q:=by
    refine List.countP_congr fun m hm=> ?_
    have:m≠j:=fun e=>hn.1 (e ▸ hm)
    rw[hq];simp[this]
   rw[List.countP_cons,List.countP_cons,hp,h1,h2];simp
  ·have hi':i∈l:=by
    rcases ali.1 hi with h | h
    ·exact absurd h.symm e
    ·exact h
   have h1:q j=p j:=by rw[hq];simp[e]
   rw[List.countP_cons,List.countP_cons,h1,Dq hn.2 hi' hp hq]
   omega
theorem Je:∀ {l:List Oper} {S:St} {outs:List (Option Del)} {p:Nat×List CV},p∈(states l S outs).boxes→p∈S.boxes∨∃ (j:Nat) (o:Oper) (x:Option Del) (d:Nat) (c:List CV),l[j]? =some o∧outs[j]? =some x∧o.dst=some d∧DB x=some c∧p=(d,c)
 | [],S,outs,p,h=>by cases outs<;>exact .inl h
 | o::l,S,[],p,h=> .inl h
 | o::l,S,x::xs,p,h=>by
  simp only[states] at h
  rcases Je h with h1 | ⟨j,o',x',d,c,h1,h2,h3⟩
  ·cases x with
   | none=>left;simpa [St.out] using h1
   | some y=>
    cases hd:o.dst with
    | none=>left;simpa [St.out,St.app,hd] using h1
    | some d=>
     cases hb:y.box with
     | none=>left;simpa [St.out,St.app,hd,hb] using h1
     | some c=>
      have h2:p=(d,c)∨p∈S.boxes:=by simpa [St.out,St.app,hd,hb] using h1
      rcases h2 with h2 | h2
      ·exact .inr ⟨0,o,some y,d,c,rfl,rfl,hd,hb,h2⟩
      ·exact .inl h2
  ·exact .inr ⟨j+1,o',x',d,c,by simpa using h1,by simpa using h2,h3⟩
section
variable {ops:List Oper} {n:Nat} {S Sn:St} {listed:Array Bool} {outs:List (Option Del)}
theorem cN {i:Nat} {b:Bool} (h:i<listed.size):(listed.setIfInBounds i true).getD i b=true:=by
 rw[ajA,ajF h];rfl
theorem bH {i j:Nat} {b:Bool} (h:j≠i):(listed.setIfInBounds i true).getD j b=listed.getD j b:=by
 rw[ajA,ajA,ajE (by omega)]
theorem cR.IE (K:cR X ops n S outs Sn) {i d:Nat} (hin:i<n) (hd:cn ops i=some d) (hsz:listed.size=ops.length) (hun:listed.getD i true=false) (t:Nat):
 aX ops n (listed.setIfInBounds i true) t=(aX ops n listed t&&t != d):=by
 have his:i<listed.size:=by rw[hsz];exact al2 hin K.n_le
 rw[ajO,ef,ajK,ef]
 constructor
 ·rintro⟨j,h1,h2,h3⟩
  have hji:j≠i:=fun e=>by subst e;rw[cN his] at h2;cases h2
  rw[bH hji] at h2
  refine⟨⟨j,h1,h2,h3⟩, ?_⟩
  simp only[bne_iff_ne,ne_eq]
  intro e
  subst e
  exact hji (K.uniq h1 hin h3 hd)
 ·rintro⟨⟨j,h1,h2,h3⟩,h4⟩
  have hji:j≠i:=fun e=>by
   subst e
   rw[hd] at h3
   cases h3
   simp at h4
  exact⟨j,h1,by rw[bH hji];exact h2,h3⟩
theorem Kg {S:St} {d:Nat} (h:S.dU d=false):S.cZ d=false∧S.bR d=false∧S.cF d=false∧S.cm d=false:=by
 have cv:∀ c:CV,c.dU d=false→c.cZ d=false∧c.bR d=false∧c.cF d=false∧c.cm d=false:=fun c hc=>by
  simpa [CV.dU] using hc
 have cs:∀ l:List CV,l.any (CV.dU d)=false→l.any (CV.cZ d)=false∧l.any (CV.bR d)=false∧l.any (CV.cF d)=false∧l.any (CV.cm d)=false:=fun l hl=>by
  simp only[aku] at hl ⊢
  exact⟨fun c hc=>by simp[(cv c (by simpa using hl c hc)).1],fun c hc=>by simp[(cv c (by simpa using hl c hc)).2.1],fun c hc=>by simp[(cv c (by simpa using hl c hc)).2.2.1],fun c hc=>by simp[(cv c (by simpa using hl c hc)).2.2.2]⟩
 have sv:∀ s:SV,s.dU d=false→s.cZ d=false∧s.bR d=false∧s.cF d=false∧s.cm d=false:=fun s hs=>by
  cases s with
  | v a l=>exact cs l hs
  | tup l=>
   simp only[SV.dU,aku] at hs
   simp only[SV.cZ,SV.bR,SV.cF,SV.cm,aku]
   exact⟨fun p hp=>by simp[(cs p.2 (by simpa using hs p hp)).1],fun p hp=>by simp[(cs p.2 (by simpa using hs p hp)).2.1],fun p hp=>by simp[(cs p.2 (by simpa using hs p hp)).2.2.1],fun p hp=>by simp[(cs p.2 (by simpa using hs p hp)).2.2.2]⟩
 simp only[St.dU,ajX,aku] at h
 have h1:∀ s,s∈S.tmps→s.dU d=false:=fun s hs=>by simpa using h.1 s hs
 have h2:∀ p,p∈S.boxes→p.2.any (CV.dU d)=false:=fun p hp=>by simpa using h.2 p hp
 simp only[St.cZ,St.bR,St.cF,St.cm,ajX,aku]
 exact⟨⟨fun s hs=>by simp[(sv s (h1 s hs)).1],fun p hp=>by simp[(cs p.2 (h2 p hp)).1]⟩,⟨fun s hs=>by simp[(sv s (h1 s hs)).2.1],fun p hp=>by simp[(cs p.2 (h2 p hp)).2.1]⟩,
  ⟨fun s hs=>by simp[(sv s (h1 s hs)).2.2.1],fun p hp=>by simp[(cs p.2 (h2 p hp)).2.2.1]⟩,⟨fun s hs=>by simp[(sv s (h1 s hs)).2.2.2],fun p hp=>by simp[(cs p.2 (h2 p hp)).2.2.2]⟩⟩
theorem cR.fresh (K:cR X ops n S outs Sn) (hcl:x3 ops listed) {i d:Nat} (hin:i<n) (hd:cn ops i=some d) (hun:listed.getD i true=false):
 (bA S Sn (aX ops n listed)).dU d=false:=by
 obtain⟨n1,n3,n4,n4',n5⟩:=K.new i d hin hd
 have done:∀ j dj,j<n→cn ops j=some dj→aX ops n listed dj=false→Xx Sn d dj=false:=fun j dj hj hdj hu=>by
  have hlj:listed.getD j true=true:=by
   cases h:listed.getD j true with
   | true=>rfl
   | false=>have:=ef.2 ⟨j,hj,h,hdj⟩;rw[hu] at this;cases this
  refine n5 j dj hj hdj (fun e=>by subst e;rw[hun] at hlj;cases hlj) (fun hm=> ?_)
  obtain⟨oj,ho,_⟩:=l7 hdj
  have:=fq K.edges hcl j oj ho (fun e h1 h2=>hcl j oj ho hlj e h1 h2) i hm
  rw[hun] at this;cases this
 simp only[St.dU,ajX,aku] at n1
 have tmpS:∀ t,(S.tmps.getD t (.v false [.any])).dU d=false:=fun t=>by
  rw[akK]
  cases h:S.tmps[t]? with
  | none=>rfl
  | some s=>simpa using n1.1 s (alr h)
 have tmpsOk:∀ s,s∈(bA S Sn (aX ops n listed)).tmps→s.dU d=false:=fun s hs=>by
  simp only[bA,alp,alv] at hs
  obtain⟨t,ht,rfl⟩:=hs
  cases hu:aX ops n listed t with
  | true=>simpa using tmpS t
  | false=>
   simp only[ajP,amO]
   by_cases hex:∃ j,j<n∧cn ops j=some t
   ·obtain⟨j,h1,h2⟩:=hex
    have:=done j t h1 h2 hu
    simp only[Xx,ajX] at this
    exact this.1
   ·have hnd:t∉iK (ops.take n):=by
     intro hm
     simp only[iK,alm] at hm
     obtain⟨p,hp,hpd⟩:=hm
     obtain⟨m,hm⟩:=alo.1 hp
     have hmn:m<n:=by
      have:=(akS.1 hm).1
      simp at this;omega
     rw[c8 hmn] at hm
     exact hex ⟨m,hmn,by unfold cn;rw[hm];exact hpd⟩
    have:Sn.tmps[t]? =S.tmps[t]? :=by rw[K.sn];exact (fR hnd).1
    rw[MM this]
    exact tmpS t
 have boxesOk:∀ p,p∈(bA S Sn (aX ops n listed)).boxes→p.2.any (CV.dU d)=false:=fun p hp=>by
  simp only[bA,List.mem_filter,ajU] at hp
  obtain⟨hp,hu⟩:=hp
  rw[K.sn] at hp
  rcases Je hp with h | ⟨j,o',x',dj,cj,h1,h2,h3,h4,h5⟩
  ·simpa using n1.2 p h
  ·subst h5
   have hjn:j<n:=by
    have:=(akS.1 h1).1
    simp at this;omega
   have hdj:cn ops j=some dj:=by unfold cn;rw[c8 hjn] at h1;rw[h1];exact h3
   have:=done j dj hjn hdj hu
   have hlook:look Sn.boxes dj=some cj:=by
    rw[K.sn,(yj (by rw[K.len,alc,al8 K.n_le]) K.dupl h1 h2 h3).2.1,h4];rfl
   simp only[Xx,hlook,ajX] at this
   exact this.2
 simp only[St.dU,ajX,aku]
 exact⟨fun s hs=>by simp[tmpsOk s hs],fun p hp=>by simp[boxesOk p hp]⟩
theorem cR.next (K:cR X ops n S outs Sn) {i d:Nat} {o:Oper} {x:Option Del} (hin:i<n) (hi:ops[i]? =some o) (hd:o.dst=some d) (hx:outs[i]? =some x) (hsz:listed.size=ops.length) (hun:listed.getD i true=false)
 {a:Act} (hM:Mod C G ρ ((bA S Sn (aX ops n listed)).out o x) w a):Mod C G ρ (bA S Sn (aX ops n (listed.setIfInBounds i true))) w a:=by
 have hdA:cn ops i=some d:=by unfold cn;rw[hi];exact hd
 have hU:=K.IE hin hdA hsz hun
 obtain⟨n1,n3,n4,n4',_⟩:=K.new i d hin hdA
 have hat:=yj (S:=S) (outs:=outs) (by rw[K.len,alc,al8 K.n_le]) K.dupl (i:=i) (o:=o) (x:=x) (by rw[c8 hin];exact hi) hx hd
 rw[← K.sn] at hat
 refine hM.equiv ?_ ?_ ?_ ?_
 ·rw[U6 hd]
  apply akH
  intro t
  rw[akW,fK,fK,hU t]
  by_cases e:d=t
  ·subst e
   have hlen:(bA S Sn (aX ops n listed)).tmps.length=S.tmps.length:=by simp[bA]
   rw[hlen]
   by_cases hlt:d<S.tmps.length
   ·simp only[hlt,amR,amC,ajL,ajP,amO]
    rw[akK,hat.1 hlt];rfl
   ·simp[hlt]
  ·rw[amP e]
   have:(t != d)=true:=by simp only[bne_iff_ne,ne_eq];exact fun h=>e h.symm
   rw[this,ajN]
 ·intro k cs hk
  simp only[bA,bO,hU k] at hk
  rw[RH hd]
  split at hk
  ·cases hk
  ·rename_i hc
   by_cases e:k=d
   ·subst e
    rw[hat.2.1,n3] at hk
    simp only[amR]
    cases hb:DB x with
    | none=>rw[hb] at hk;cases hk
    | some c=>rw[hb] at hk;simpa using hk
   ·rw[amP e]
    simp only[bA,bO]
    rw[amP]
    ·exact hk
    ·intro hu
     apply hc
     simp[hu,e]
 ·intro k q hk
  simp only[bA,bO,hU k] at hk
  rw[Vh hd]
  split at hk
  ·cases hk
  ·rename_i hc
   by_cases e:k=d
   ·subst e
    rw[hat.2.2.1,n4] at hk
    simp only[amR]
    cases hb:C5 x with
    | none=>rw[hb] at hk;cases hk
    | some c=>rw[hb] at hk;simpa using hk
   ·rw[amP e]
    simp only[bA,bO]
    rw[amP]
    ·exact hk
    ·intro hu
     apply hc
     simp[hu,e]
 ·intro k q hk
  simp only[bA,bO,hU k] at hk
  rw[UI hd]
  split at hk
  ·cases hk
  ·rename_i hc
   by_cases e:k=d
   ·subst e
    rw[hat.2.2.2,n4'] at hk
    simp only[amR]
    cases hb:GY x with
    | none=>rw[hb] at hk;cases hk
    | some c=>rw[hb] at hk;simpa using hk
   ·rw[amP e]
    simp only[bA,bO]
    rw[amP]
    ·exact hk
    ·intro hu
     apply hc
     simp[hu,e]
theorem cR.wpOp (K:cR X ops n S outs Sn) {Q:Exit→Act→World→Prop} {K':Act→World→Prop} {a:Act} {i:Nat} {o:Oper} (hin:i<n) (hi:ops[i]? =some o) (hsz:listed.size=ops.length) (hcl:x3 ops listed) (hun:listed.getD i true=false)
 (hed:∀ e,e∈o.after.toList→Region.binds .any e=true→listed.getD e.on false=true)
 (hM:Mod C G ρ (bA S Sn (aX ops n listed)) w a) (hK:∀ G' ρ' w' a',Mod C G' ρ' (bA S Sn (aX ops n (listed.setIfInBounds i true))) w' a'→K' a' w'):Go.wpOp X.P ops.toArray Q i K' a w:=by
 obtain⟨hds,hlk⟩:=K.head i o hin hi
 obtain⟨d,hd⟩:=amt.1 hds
 have hdA:cn ops i=some d:=by unfold cn;rw[hi];exact hd
 have hdeps:=fq K.edges hcl i o hi hed
 obtain⟨x,hx⟩:∃ x,outs[i]? =some x:=⟨outs[i]'(by rw[K.len];exact hin),akQ _⟩
 have hst:=K.step i o x hin hi hx
 have hgd:=K.guards hin hi hdeps
 have hev:=K.evs hin hi hdeps
 unfold Go.wpOp
 have hio:ops.toArray[i]? =some o:=by simpa using hi
 rw[hio]
 simp only
 cases x with
 | none=>
  have hw:Region.wanted o (yielded ops.toArray a.tmps)=false:=by
   rcases hst with ⟨dg,b,want,hg,hb⟩ | hs
   ·have hw:=pz hM.tmps (by rw[hgd];exact hg)
    simp only at hw
    rw[hw.2,hb]
   ·exact ade hM.tmps (by rw[K.aiM hin hi hdeps];exact hs)
  rw[amP (by rw[hw];simp)]
  exact hK G ρ w _ (K.next hin hi hd hx hsz hun (hM.put o.dst (fun _ _=>agU)))
 | some y=>
  obtain⟨⟨hL,_⟩,hg⟩:=hst
  have hwt:Region.wanted o (yielded ops.toArray a.tmps)=true:=by
   rcases hg with hg | ⟨dg,b,want,hg,hb⟩
   ·exact pz hM.tmps (g:=none) (by rw[hgd];exact hg)
   ·have hw:=pz hM.tmps (by rw[hgd];exact hg)
    simp only at hw
    rw[hw.2,hb]
  rw[amQ hwt]
  left
  have hfr:=Kg (K.fresh hcl hin hdA hun)
  have hnear:UH o (states ((ops.take n).take i) S (outs.take i)) S (bA S Sn (aX ops n listed)):=by
   have nolook:∀ k,(look S.boxes k).isSome=true∨(look S.rows k).isSome=true∨(look S.objs k).isSome=true→aX ops n listed k=false∧look Sn.boxes k=look S.boxes k∧look Sn.rows k=look S.rows k∧look Sn.objs k=look S.objs k:=fun k hk=>by
    have hnd:∀ j,j<n→cn ops j≠some k:=fun j hj hdj=>by
     obtain⟨_,m3,m4,m5,_⟩:=K.new j k hj hdj
     rcases hk with hk | hk | hk
     ·rw[m3] at hk;cases hk
     ·rw[m4] at hk;cases hk
     ·rw[m5] at hk;cases hk
    refine⟨?_, ?_⟩
    ·cases hu:aX ops n listed k with
     | false=>rfl
     | true=>obtain⟨j,h1,_,h3⟩:=ef.1 hu;exact absurd h3 (hnd j h1)
    ·have:k∉iK (ops.take n):=fun hm=>by
      simp only[iK,alm] at hm
      obtain⟨p,hp,hpd⟩:=hm
      obtain⟨m,hm⟩:=alo.1 hp
      have hmn:m<n:=by
       have:=(akS.1 hm).1
       simp at this;omega
      rw[c8 hmn] at hm
      exact hnd m hmn (by unfold cn;rw[hm];exact hpd)
     rw[K.sn]
     exact (fR this).2
   refine⟨hev,fun k cs hk=> ?_,fun k q hk=> ?_,fun k q hk=> ?_⟩
   ·obtain⟨h1,h2,_⟩:=nolook k (.inl (by rw[hk];rfl))
    simp only[bA,bO,h1,ajP,amO];rw[h2];exact hk
   ·obtain⟨h1,_,h2,_⟩:=nolook k (.inr (.inl (by rw[hk];rfl)))
    simp only[bA,bO,h1,ajP,amO];rw[h2];exact hk
   ·obtain⟨h1,_,_,h2⟩:=nolook k (.inr (.inr (by rw[hk];rfl)))
    simp only[bA,bO,h1,ajP,amO];rw[h2];exact hk
  have hwp:=hL C G ρ _ w a Q hM hnear (fun d' hd' _=>by rw[hd] at hd';cases hd';exact hfr.1) (fun d' hd' _=>by rw[hd] at hd';cases hd';exact hfr.2.1) (fun d' hd' _=>by rw[hd] at hd';cases hd';exact hfr.2.2)
  refine Oper.wp_mono (fun a' w' h=> ?_) hwp
  obtain⟨G',ρ',hM'⟩:=h
  exact hK G' ρ' w' a' (K.next hin hi hd hx hsz hun hM')
theorem S5 {N:Nat} (hsz:listed.size=N) (hn:n≤N) (h1:∀ i,i<n→listed.getD i true=true) (h2:∀ i,n≤i→i<N→listed.getD i true=false):listed=mask n N:=by
 apply Array.ext_getElem?
 intro i
 simp only[mask,List.getElem?_toArray]
 by_cases c1:i<n
 ·rw[akL (by simpa using c1),List.getElem?_replicate_of_lt c1]
  have:=h1 i c1
  rw[ajA,ajB (by omega)] at this
  rw[ajB (by omega)]
  simpa using this
 ·by_cases c2:i<N
  ·rw[akM (by simpa using c1),List.getElem?_replicate_of_lt (by simp;omega)]
   have:=h2 i (by omega) c2
   rw[ajA,ajB (by omega)] at this
   rw[ajB (by omega)]
   simpa using this
  ·rw[Array.getElem?_eq_none (by omega),akR (by simp;omega)]
theorem cR.any (K:cR X ops n S outs Sn) (hwaits:∀ k,n≤k→k<ops.length→∀ j,j<k→j∈(deps ops).getD k m0) {Q:Exit→Act→World→Prop} (hseq:Region.seqB .any ops.toArray (ops.length - n) n (mask n ops.length)=true)
 (htail:∀ G ρ w a,Mod C G ρ Sn w a→wpList X.P ops.toArray Q (ops.drop n) a w):∀ (u:Nat) (listed:Array Bool) (a:Act) (w:World) (G:Gh) (ρ:Env),listed.size=ops.length→x3 ops listed→
 (∀ k,n≤k→k<ops.length→listed.getD k true=false)→(List.range n).countP (fun i=> !listed.getD i true)=u→Mod C G ρ (bA S Sn (aX ops n listed)) w a→wpAny X.P .any ops.toArray Q (u+(ops.length - n)) listed a w:=by
 intro u
 induction u with
 | zero=>
  intro listed a w G ρ hsz hcl htl hcnt hM
  have hall:∀ i,i<n→listed.getD i true=true:=fun i hi=>by
   rw[akz] at hcnt
   have:=hcnt i (by simpa using hi)
   simpa using this
  have hU:∀ t,aX ops n listed t=false:=fun t=>by
   cases hu:aX ops n listed t with
   | false=>rfl
   | true=>obtain⟨j,h1,h2,_⟩:=ef.1 hu;rw[hall j h1] at h2;cases h2
  have hMn:Mod C G ρ Sn w a:=by
   refine hM.equiv ?_ (fun k cs hk=> ?_) (fun k q hk=> ?_) (fun k q hk=> ?_)
   ·apply akH
    intro t
    rw[fK,hU t]
    by_cases hlt:t<S.tmps.length
    ·have:t<Sn.tmps.length:=by rw[K.AX];exact hlt
     simp[hlt,this]
    ·rw[amP hlt,akR (by rw[K.AX];omega)]
   ·simp only[bA,bO,hU k,ajP,amO];exact hk
   ·simp only[bA,bO,hU k,ajP,amO];exact hk
   ·simp only[bA,bO,hU k,ajP,amO];exact hk
  have hmask:=S5 (n:=n) hsz K.n_le hall htl
  have hl:(ops.drop n).length=ops.length - n:=by simp
  have:=wpAny_of_seq (P:=X.P) (md:= .any) (ops:=ops.toArray) (Q':=Q) (ops.drop n) n listed a w (fun j=>by simp[akP]) (by rw[hl,hmask];exact hseq) (htail G ρ w a hMn)
  rw[hl] at this
  rw[amk]
  exact this
 | succ u ih=>
  intro listed a w G ρ hsz hcl htl hcnt hM
  have hsome:∃ i,i<n∧listed.getD i true=false:=by
   have:0<(List.range n).countP (fun i=> !listed.getD i true):=by omega
   rw[akA] at this
   obtain⟨i,h1,h2⟩:=this
   exact⟨i,by simpa using h1,by simpa using h2⟩
  rw[show u+1+(ops.length - n)=(u+(ops.length - n))+1 by omega]
  refine⟨fun hr=> ?_,fun i hi=> ?_⟩
  ·exfalso
   have hall:∀ i,i<n→listed.getD i true=true:=by
    intro i
    induction i using Nat.strongRecOn with
    | _ i ihi=>
     intro hin
     cases hl:listed.getD i true with
     | true=>rfl
     | false=>
      exfalso
      have hlt:i<ops.length:=al2 hin K.n_le
      have hoi:ops[i]? =some ops[i]:=akQ hlt
      have:i∈Region.ready .any ops.toArray listed:=by
       rw[mem_ready]
       refine⟨hl,ops[i],by simp,fun e he hb=> ?_⟩
       have hE:=K.edges
       simp only[n6,akt] at hE
       have h7:=hE i (by simp;exact hlt)
       rw[hoi] at h7
       simp only[akt] at h7
       have h8:=h7 e (by simpa using he)
       simp only[hb,ajW,ajR] at h8
       have h9:e.on<i:=al2 (al6 _) (alX h8)
       have h10:=ihi e.on h9 (by omega)
       rw[ajA] at h10 ⊢
       rw[ajB (by omega)] at h10 ⊢
       simpa using h10
      rw[hr] at this
      cases this
   obtain⟨i,h1,h2⟩:=hsome
   rw[hall i h1] at h2;cases h2
  ·rw[mem_ready] at hi
   obtain⟨hun,o,hio,hed⟩:=hi
   have hoi:ops[i]? =some o:=by simpa using hio
   have hed':∀ e,e∈o.after.toList→Region.binds .any e=true→listed.getD e.on false=true:=fun e he hb=>hed e (by simpa using he) hb
   by_cases hin:i<n
   ·refine K.wpOp hin hoi hsz hcl hun hed' hM (fun G' ρ' w' a' hM'=>ih (listed.setIfInBounds i true) a' w' G' ρ' (by simpa using hsz) ?_ ?_ ?_ hM')
    ·intro j oj hj hlj e he hb
     by_cases eji:j=i
     ·subst eji
      rw[hoi] at hj
      cases hj
      have:=hed' e he hb
      by_cases e2:e.on=j
      ·rw[e2];exact cN (by rw[hsz];exact al2 hin K.n_le)
      ·rw[bH e2];exact this
     ·rw[bH eji] at hlj
      have:=hcl j oj hj hlj e he hb
      by_cases e2:e.on=i
      ·rw[e2];exact cN (by rw[hsz];exact al2 hin K.n_le)
      ·rw[bH e2];exact this
    ·intro k hk1 hk2
     rw[bH (by omega)]
     exact htl k hk1 hk2
    ·have:=Dq (p:=fun j=> !listed.getD j true) (q:=fun j=> !(listed.setIfInBounds i true).getD j true) (i:=i) (l:=List.range n) alz (by simpa using hin) (by simp[hun]) (fun j=>by
      by_cases e:j=i
      ·subst e;simp only[cN (listed:=listed) (b:=true) (by rw[hsz];exact al2 hin K.n_le)];simp
      ·simp only[bH (listed:=listed) (b:=true) e];simp[e])
     omega
   ·exfalso
    have hlt:i<ops.length:=(akS.1 hoi).1
    obtain⟨m,h1,h2⟩:=hsome
    have hd:=hwaits i (by omega) hlt m (by omega)
    have:=fq K.edges hcl i o hoi hed' m hd
    rw[h2] at this;cases this
theorem cR.of (hn:n≤ops.length) (c2:M6 ops (deps ops) n=true) (c4:n6 ops=true) (h1:outs.length=(ops.take n).length)
 (h3:∀ i o x,(ops.take n)[i]? =some o→outs[i]? =some x→K9 X ops S o (states ((ops.take n).take i) S (outs.take i)) x) (hnew:NA ops n S (states (ops.take n) S outs)=true):cR X ops n S outs (states (ops.take n) S outs):=by
 have hlen:(ops.take n).length=n:=by simp;omega
 simp only[M6,ajK,ajU] at c2
 exact {
  n_le:=hn
  dupl:=c2.1
  head:=fun i o hin hi=>by
   have:=c2.2
   simp only[akt] at this
   have h5:=this i (by simpa using hin)
   rw[hi] at h5
   simp only[ajK,akt] at h5
   refine⟨h5.1,fun t ht j hj hdj=> ?_⟩
   have h6:=WN (h5.2 t ht) (k:=j) (by
    obtain⟨o',ho',hd'⟩:=l7 hdj
    rw[akT,c8 hj,ho',amx,hd'])
   rw[amk] at h6;exact h6
  edges:=c4
  len:=by rw[h1,hlen]
  sn:=rfl
  step:=fun i o x hin hi hx=>h3 i o x (by rw[c8 hin];exact hi) hx
  new:=fun i d hin hd=>by
   simp only[NA,ajK,akt] at hnew
   obtain⟨o',ho',hd'⟩:=l7 hd
   have h5:=hnew.1 o' (alr (by rw[c8 hin];exact ho'))
   rw[hd'] at h5
   simp only[ajU] at h5
   obtain⟨g1,g2,g3,g4⟩:=afe h5
   refine⟨g1,g2,g3,g4,fun j dj hj hdj hij hnd=> ?_⟩
   have h6:=hnew.2 j (by simpa using hj)
   rw[hdj] at h6
   simp only[akt] at h6
   rw[ahU]
   cases hin':inL (aaS (states (ops.take n) S outs) dj) d with
   | false=>rfl
   | true=>
    have h7:=h6 d (aiL.1 hin') i (by simpa using hin)
    rw[hd] at h7
    simp only[ajY,Nat.beq_refl,ajW] at h7
    rcases h7 with h7 | h7 | h7
    ·exact absurd (alV h7) hij
    ·exact absurd (o9.1 h7) hnd
    ·cases h7 }
theorem Pc {m:Nat} (c3:((List.range ops.length).all fun k=>Nat.blt k m||Cs (deps ops) k)=true):∀ k,m≤k→k<ops.length→∀ j,j<k→j∈(deps ops).getD k m0:=fun k hm1 hm2 j hj=>by
 simp only[akt] at c3
 have h5:=c3 k (by simpa using hm2)
 simp only[ajY] at h5
 rcases h5 with h5 | h5
 ·have:k<m:=al2 (al6 _) (alX h5)
  omega
 ·simp only[Cs,akt] at h5
  exact o9.1 (h5 j (by simpa using hj))
theorem Er:x3 ops (Array.replicate ops.toArray.size false):=by
 intro i o hi hl
 have hlt:=(akS.1 hi).1
 rw[ajA,ajD,amQ (by simpa using hlt)] at hl
 cases hl
theorem yN {m:Nat} (hm:m<ops.length) (b:Bool):(Array.replicate ops.toArray.size false).getD m b=false:=by
 rw[ajA,ajD,amQ (by simpa using hm)]
 rfl
theorem Ga {m:Nat} (hm:m≤ops.length):(List.range m).countP (fun i=> !(Array.replicate ops.toArray.size false).getD i true)=m:=by
 have:(List.range m).countP (fun i=> !(Array.replicate ops.toArray.size false).getD i true)=(List.range m).length:=by
  rw[List.countP_eq_length]
  intro i hi
  have hin:i<m:=by simpa using hi
  rw[yN (by omega)];rfl
 rw[this];simp
theorem Lb (hn:n≤ops.length) {a:Act} (hM':Mod C G ρ S w a):Mod C G ρ (bA S (states (ops.take n) S outs) (aX ops n (Array.replicate ops.toArray.size false))) w a:=by
 have hother:∀ t,aX ops n (Array.replicate ops.toArray.size false) t=false→t∉iK (ops.take n):=fun t hu hm=>by
  simp only[iK,alm] at hm
  obtain⟨p,hp,hpd⟩:=hm
  obtain⟨m,hm⟩:=alo.1 hp
  have hmn:m<n:=by
   have:=(akS.1 hm).1
   simp at this;omega
  rw[c8 hmn] at hm
  have:=ef.2 ⟨m,hmn,yN (ops:=ops) (by omega) true,show cn ops m=some t by unfold cn;rw[hm];exact hpd⟩
  rw[hu] at this;cases this
 refine hM'.equiv ?_ (fun k cs hk=> ?_) (fun k q hk=> ?_) (fun k q hk=> ?_)
 ·apply akH
  intro t
  rw[fK]
  by_cases hlt:t<S.tmps.length
  ·rw[amQ hlt,akQ hlt]
   congr 1
   cases hu:aX ops n (Array.replicate ops.toArray.size false) t with
   | true=>simp[hlt]
   | false=>
    have:=(fR (S:=S) (outs:=outs) (hother t hu)).1
    simp only[ajP,amO]
    rw[akK,this,akQ hlt];rfl
  ·rw[amP hlt,akR (by omega)]
 ·simp only[bA,bO] at hk
  split at hk
  ·cases hk
  ·rename_i hu
   rw[(fR (hother k (by simpa using hu))).2.1] at hk;exact hk
 ·simp only[bA,bO] at hk
  split at hk
  ·cases hk
  ·rename_i hu
   rw[(fR (hother k (by simpa using hu))).2.2.1] at hk;exact hk
 ·simp only[bA,bO] at hk
  split at hk
  ·cases hk
  ·rename_i hu
   rw[(fR (hother k (by simpa using hu))).2.2.2] at hk;exact hk
end
end Go.Dn
namespace Go.Dn
variable {β:Type} {X:Cx} {C:Fr} {G:Gh} {ρ:Env} {w:World}
theorem xW {S T:St} {fb:List Nat} (hr:S.rows=T.rows) (hb:S.boxes=T.boxes):∀ (t:Ty) (cs:List CV),jY S fb t cs=jY T fb t cs
 | .int _,_=>rfl
 | .bool,_=>rfl
 | .str,_=>rfl
 | .unit,_=>rfl
 | .pair a b,cs=>by
  simp only[jY]
  rw[xW hr hb a cs]
  cases jY T fb a cs with
  | none=>rfl
  | some p=>simp only[xW hr hb b]
 | .st t,cs=>xW hr hb t cs
 | .slice t,cs=>by
  simp only[jY]
  congr 1
  funext c
  cases c<;>simp only[Xg,hr]
 | .ptr t,cs=>by
  simp only[jY]
  congr 1
  have e:jY S fb t=jY T fb t:=funext (xW hr hb t)
  rw[e]
  funext c
  cases c<;>simp only[Yg,hb]
 | .clo g t,cs=>by
  simp only[jY]
  have e:jY S fb t=jY T fb t:=funext (xW hr hb t)
  rw[e]
 | .hnd,_=>rfl
def St.wt (S:St) (tm:List SV):St:={ S with tmps:=tm }
theorem Wh {o:Oper} {S:St} {k:St→Option β} {r:β} {t:TypeId} {ad x:Operand} (ho:o.op= .store t ad x) (h:fG X o S k=some r):
 ∃ S',k S'=some r∧S'.tmps=S.tmps∧∀ tm,(S.wt tm).ev ad=S.ev ad→(S.wt tm).ev x=S.ev x→fG X o (S.wt tm) some=some (S'.wt tm):=by
 obtain⟨dst,op,ty,pos,af,g⟩:=o
 simp only at ho
 subst ho
 simp only[fG] at h
 split at h
 ·cases h
 ·rename_i hdst
  split at h
  ·rename_i b off a' cs ha hx
   unfold x4 at h
   split at h
   ·rename_i l hl
    split at h
    ·rename_i hc
     split at h
     ·rename_i l' hl'
      refine⟨_,h,rfl,fun tm e1 e2=> ?_⟩
      simp only[fG]
      rw[amP hdst,e1,e2,ha,hx]
      simp only
      unfold x4
      rw[show look (S.wt tm).boxes b=look S.boxes b from rfl,hl]
      simp only
      rw[amQ hc,hl']
      rfl
     ·cases h
    ·cases h
   ·cases h
  ·rename_i j sz i off a' cs ha hx
   unfold ES at h
   split at h
   ·rename_i q hq
    split at h
    ·cases h
    ·rename_i hc
     cases hy:q.l[i]? with
     | none=>rw[hy] at h;cases h
     | some y=>
      rw[hy] at h
      simp only[amq] at h
      split at h
      ·rename_i cs' hcs
       split at h
       ·rename_i y' hy'
        refine⟨_,h,rfl,fun tm e1 e2=> ?_⟩
        simp only[fG]
        rw[amP hdst,e1,e2,ha,hx]
        simp only
        unfold ES
        rw[show look (bE (S.wt tm) (kK cs)).rows j=look (bE S (kK cs)).rows j from rfl,hq]
        simp only
        rw[amP hc,hy]
        simp only[amq,hcs]
        have e3:lz (pack (bE (S.wt tm) (kK cs)) q.t cs')=some y':=by
         rw[← hy'];unfold pack;rw[xW (S:=bE (S.wt tm) (kK cs)) (T:=bE S (kK cs)) rfl rfl]
        rw[e3]
        rfl
       ·cases h
      ·cases h
   ·cases h
  ·rename_i hh off a' cs ha hx
   unfold IT at h
   split at h
   ·rename_i ty' l hq
    split at h
    ·cases h
    ·rename_i hc
     cases hy:l[hh]? with
     | none=>rw[hy] at h;cases h
     | some y=>
      rw[hy] at h
      simp only[amq] at h
      split at h
      ·rename_i cs' hcs
       split at h
       ·rename_i y' hy'
        refine⟨_,h,rfl,fun tm e1 e2=> ?_⟩
        simp only[fG]
        rw[amP hdst,e1,e2,ha,hx]
        simp only
        unfold IT
        rw[show look (bE (S.wt tm) (kK cs)).objs bT=look (bE S (kK cs)).objs bT from rfl,hq]
        simp only
        rw[amP hc,hy]
        simp only[amq,hcs]
        have e3:lz (pack (bE (S.wt tm) (kK cs)) ty' cs')=some y':=by
         rw[← hy'];unfold pack;rw[xW (S:=bE (S.wt tm) (kK cs)) (T:=bE S (kK cs)) rfl rfl]
        rw[e3]
        rfl
       ·cases h
      ·cases h
   ·cases h
  ·cases h
section
variable {ops:List Oper} {m:Nat} {S Sn S':St} {listed:Array Bool} {outs:List (Option Del)} {os:Oper}
theorem cR.afn (K:cR X ops m S outs Sn) {i d:Nat} {o:Oper} (him:i<m) (hi:ops[i]? =some o) (hb:CX o.op=true) (hg:o.guard=none) (hd:o.dst=some d):
 ∃ x:Del,outs[i]? =some (some x)∧eC X.P o (states ((ops.take m).take i) S (outs.take i)) AJ x∧x.box=none∧x.row=none∧x.obj=none∧
  look Sn.boxes d=none∧look Sn.rows d=none∧look Sn.objs d=none:=by
 obtain⟨y,hy⟩:∃ y,outs[i]? =some y:=⟨outs[i]'(by rw[K.len];exact him),akQ _⟩
 have hst:=K.step i o y him hi hy
 cases y with
 | none=>
  rcases hst with ⟨dg,b,want,hgd,_⟩ | hs
  ·simp only[guardOf,hg] at hgd
   cases hgd
  ·simp only[Dn.xj,hg] at hs
   cases hs
 | some x=>
  obtain⟨⟨_,h2⟩,_⟩:=hst
  obtain⟨h3,h4,h5,h6⟩:=h2.1 hb
  have hdA:cn ops i=some d:=by unfold cn;rw[hi];exact hd
  obtain⟨_,n3,n4,n5,_⟩:=K.new i d him hdA
  have hat:=yj (S:=S) (outs:=outs) (by rw[K.len,alc,al8 K.n_le]) K.dupl (i:=i) (o:=o) (x:=some x) (by rw[c8 him];exact hi) hy hd
  rw[← K.sn] at hat
  refine⟨x,hy,h3,h4,h5,h6, ?_, ?_, ?_⟩
  ·rw[hat.2.1,n3];simp[DB,h4]
  ·rw[hat.2.2.1,n4];simp[C5,h5]
  ·rw[hat.2.2.2,n5];simp[GY,h6]
theorem cR.Zc (K:cR X ops m S outs Sn) {i d:Nat} {o:Oper} {x:Option Del} (hin:i<m) (hi:ops[i]? =some o) (hd:o.dst=some d) (hx:outs[i]? =some x) (hsz:listed.size=ops.length) (hun:listed.getD i true=false):
 (bA S Sn (aX ops m (listed.setIfInBounds i true))).tmps=(bA S Sn (aX ops m listed)).tmps.set d (aaV x):=by
 have hdA:cn ops i=some d:=by unfold cn;rw[hi];exact hd
 have hU:=K.IE hin hdA hsz hun
 have hat:=yj (S:=S) (outs:=outs) (by rw[K.len,alc,al8 K.n_le]) K.dupl (i:=i) (o:=o) (x:=x) (by rw[c8 hin];exact hi) hx hd
 rw[← K.sn] at hat
 apply akH
 intro t
 rw[akW,fK,fK,hU t]
 by_cases e:d=t
 ·subst e
  have hlen:(bA S Sn (aX ops m listed)).tmps.length=S.tmps.length:=by simp[bA]
  rw[hlen]
  by_cases hlt:d<S.tmps.length
  ·simp only[hlt,amR,amC,ajL,ajP,amO]
   rw[akK,hat.1 hlt];rfl
  ·simp[hlt]
 ·rw[amP e]
  have:(t != d)=true:=by simp only[bne_iff_ne,ne_eq];exact fun h=>e h.symm
  rw[this,ajN]
theorem O8 {i:Nat} (hi:m≤i) (t:Nat):aX ops m (listed.setIfInBounds i true) t=aX ops m listed t:=by
 rw[ajO,ef,ef]
 constructor
 ·rintro⟨j,h1,h2,h3⟩;rw[bH (by omega)] at h2;exact⟨j,h1,h2,h3⟩
 ·rintro⟨j,h1,h2,h3⟩;exact⟨j,h1,by rw[bH (by omega)];exact h2,h3⟩
def vY (C:Fr) (G:Gh) (ρ:Env) (ops:List Oper) (m:Nat) (S Sn S':St) (listed:Array Bool) (w:World) (a:Act):Prop:=
 if listed.getD m true=true then Mod C G ρ (S'.wt (bA S Sn (aX ops m listed)).tmps) w a else Mod C G ρ (bA S Sn (aX ops m listed)) w a
theorem cR.late (K:cR X ops m S outs Sn) (hm:m<ops.length) (hwaits:∀ k,m+1≤k→k<ops.length→∀ j,j<k→j∈(deps ops).getD k m0) (hos:ops[m]? =some os) (hog:os.guard=none)
 (hblind:∀ i,i<m→i∈(deps ops).getD m m0∨∃ p,ops[i]? =some p∧CX p.op=true∧p.guard=none)
 (hlk:∀ t,t∈os.looksAt ops.toArray→∀ j,j<m→cn ops j=some t→j∈(deps ops).getD m m0)
 (hS':S'.tmps=Sn.tmps∧∀ tm,(∀ x,x∈os.op.operands→(Sn.wt tm).ev x=Sn.ev x)→jG X.P os (Sn.wt tm) (S'.wt tm))
 {Q:Exit→Act→World→Prop} (hseq:Region.seqB .any ops.toArray (ops.length - (m+1)) (m+1) (mask (m+1) ops.length)=true)
 (htail:∀ G ρ w a,Mod C G ρ S' w a→wpList X.P ops.toArray Q (ops.drop (m+1)) a w):∀ (u:Nat) (listed:Array Bool) (a:Act) (w:World) (G:Gh) (ρ:Env),listed.size=ops.length→x3 ops listed→
 (∀ k,m+1≤k→k<ops.length→listed.getD k true=false)→(List.range (m+1)).countP (fun i=> !listed.getD i true)=u→vY C G ρ ops m S Sn S' listed w a→wpAny X.P .any ops.toArray Q (u+(ops.length - (m+1))) listed a w:=by
 intro u
 induction u with
 | zero=>
  intro listed a w G ρ hsz hcl htl hcnt hM
  have hall:∀ i,i<m+1→listed.getD i true=true:=fun i hi=>by
   rw[akz] at hcnt
   have:=hcnt i (by simpa using hi)
   simpa using this
  have hU:∀ t,aX ops m listed t=false:=fun t=>by
   cases hu:aX ops m listed t with
   | false=>rfl
   | true=>obtain⟨j,h1,h2,_⟩:=ef.1 hu;rw[hall j (by omega)] at h2;cases h2
  have hMn:Mod C G ρ S' w a:=by
   unfold vY at hM
   rw[amQ (hall m (by omega))] at hM
   refine hM.equiv ?_ (fun k cs hk=>hk) (fun k q hk=>hk) (fun k q hk=>hk)
   show (bA S Sn (aX ops m listed)).tmps=S'.tmps
   rw[hS'.1]
   apply akH
   intro t
   rw[fK,hU t]
   by_cases hlt:t<S.tmps.length
   ·have:t<Sn.tmps.length:=by rw[K.AX];exact hlt
    simp[hlt,this]
   ·rw[amP hlt,akR (by rw[K.AX];omega)]
  have hmask:=S5 (n:=m+1) hsz (by omega) hall htl
  have hl:(ops.drop (m+1)).length=ops.length - (m+1):=by simp
  have:=wpAny_of_seq (P:=X.P) (md:= .any) (ops:=ops.toArray) (Q':=Q) (ops.drop (m+1)) (m+1) listed a w (fun j=>by simp[akP]) (by rw[hl,hmask];exact hseq) (htail G ρ w a hMn)
  rw[hl] at this
  rw[amk]
  exact this
 | succ u ih=>
  intro listed a w G ρ hsz hcl htl hcnt hM
  have hsome:∃ i,i<m+1∧listed.getD i true=false:=by
   have:0<(List.range (m+1)).countP (fun i=> !listed.getD i true):=by omega
   rw[akA] at this
   obtain⟨i,h1,h2⟩:=this
   exact⟨i,by simpa using h1,by simpa using h2⟩
  rw[show u+1+(ops.length - (m+1))=(u+(ops.length - (m+1)))+1 by omega]
  refine⟨fun hr=> ?_,fun i hi=> ?_⟩
  ·exfalso
   have hall:∀ i,i<m+1→listed.getD i true=true:=by
    intro i
    induction i using Nat.strongRecOn with
    | _ i ihi=>
     intro hin
     cases hl:listed.getD i true with
     | true=>rfl
     | false=>
      exfalso
      have hlt:i<ops.length:=by omega
      have hoi:ops[i]? =some ops[i]:=akQ hlt
      have:i∈Region.ready .any ops.toArray listed:=by
       rw[mem_ready]
       refine⟨hl,ops[i],by simp,fun e he hb=> ?_⟩
       have hE:=K.edges
       simp only[n6,akt] at hE
       have h7:=hE i (by simp;exact hlt)
       rw[hoi] at h7
       simp only[akt] at h7
       have h8:=h7 e (by simpa using he)
       simp only[hb,ajW,ajR] at h8
       have h9:e.on<i:=al2 (al6 _) (alX h8)
       have h10:=ihi e.on h9 (by omega)
       rw[ajA] at h10 ⊢
       rw[ajB (by omega)] at h10 ⊢
       simpa using h10
      rw[hr] at this
      cases this
   obtain⟨i,h1,h2⟩:=hsome
   rw[hall i h1] at h2;cases h2
  ·rw[mem_ready] at hi
   obtain⟨hun,o,hio,hed⟩:=hi
   have hoi:ops[i]? =some o:=by simpa using hio
   have hed':∀ e,e∈o.after.toList→Region.binds .any e=true→listed.getD e.on false=true:=fun e he hb=>hed e (by simpa using he) hb
   have hlt:i<ops.length:=(akS.1 hoi).1
   by_cases hin:i<m+1
   ·-- what the next round asks for
    have cl':x3 ops (listed.setIfInBounds i true):=by
     intro j oj hj hlj e he hb
     by_cases eji:j=i
     ·subst eji
      rw[hoi] at hj
      cases hj
      have:=hed' e he hb
      by_cases e2:e.on=j
      ·rw[e2];exact cN (by omega)
      ·rw[bH e2];exact this
     ·rw[bH eji] at hlj
      have:=hcl j oj hj hlj e he hb
      by_cases e2:e.on=i
      ·rw[e2];exact cN (by omega)
      ·rw[bH e2];exact this
    have tl':∀ k,m+1≤k→k<ops.length→(listed.setIfInBounds i true).getD k true=false:=fun k hk1 hk2=>by
     rw[bH (by omega)];exact htl k hk1 hk2
    have cnt':(List.range (m+1)).countP (fun j=> !(listed.setIfInBounds i true).getD j true)=u:=by
     have:=Dq (p:=fun j=> !listed.getD j true) (q:=fun j=> !(listed.setIfInBounds i true).getD j true) (i:=i) (l:=List.range (m+1)) alz (by simpa using hin) (by simp[hun]) (fun j=>by
      by_cases e:j=i
      ·subst e;simp only[cN (listed:=listed) (b:=true) (by omega:j<listed.size)];simp
      ·simp only[bH (listed:=listed) (b:=true) e];simp[e])
     omega
    have go:∀ G' ρ' w' a',vY C G' ρ' ops m S Sn S' (listed.setIfInBounds i true) w' a'→wpAny X.P .any ops.toArray Q (u+(ops.length - (m+1))) (listed.setIfInBounds i true) a' w':=
     fun G' ρ' w' a' hM'=>ih (listed.setIfInBounds i true) a' w' G' ρ' (by simpa using hsz) cl' tl' cnt' hM'
    by_cases him:i<m
    ·have hmi:(listed.setIfInBounds i true).getD m true=listed.getD m true:=bH (by omega)
     cases hlm:listed.getD m true with
     | false=>
      unfold vY at hM
      rw[hlm,amP (by simp)] at hM
      refine K.wpOp him hoi hsz hcl hun hed' hM (fun G' ρ' w' a' hM'=>go G' ρ' w' a' ?_)
      unfold vY
      rw[hmi,hlm,amP (by simp)]
      exact hM'
     | true=>
      unfold vY at hM
      rw[hlm,amQ rfl] at hM
      have hnd:i∉(deps ops).getD m m0:=fun hmem=>by
       have:=fq K.edges hcl m os hos (fun e h1 h2=>hcl m os hos hlm e h1 h2) i hmem
       rw[hun] at this;cases this
      obtain⟨p,hp,hb,hg⟩:=(hblind i him).resolve_left hnd
      rw[hoi] at hp
      cases hp
      obtain⟨hds,_⟩:=K.head i o him hoi
      obtain⟨d,hd⟩:=amt.1 hds
      obtain⟨x,hx,hL,hx1,hx2,hx3,_⟩:=K.afn him hoi hb hg hd
      have hdeps:=fq K.edges hcl i o hoi hed'
      have hev:=K.evs him hoi hdeps
      unfold Go.wpOp
      rw[hio]
      simp only
      have hwt:Region.wanted o (yielded ops.toArray a.tmps)=true:=pz (g:=none) hM.tmps (by simp[guardOf,hg])
      rw[amQ hwt]
      left
      have hnear:UH o (states ((ops.take m).take i) S (outs.take i)) AJ (S'.wt (bA S Sn (aX ops m listed)).tmps):=
       ⟨fun y hy=>by
         rw[← hev y hy]
         cases y<;>rfl,fun k cs hk=>(by cases hk),fun k cs hk=>(by cases hk),fun k cs hk=>(by cases hk)⟩
      have hwp:=hL C G ρ _ w a Q hM hnear (fun d' _ h=>by rw[hx1] at h;cases h) (fun d' _ h=>by rw[hx2] at h;cases h) (fun d' _ h=>by rw[hx3] at h;cases h)
      refine Oper.wp_mono (fun a' w' h=> ?_) hwp
      obtain⟨G',ρ',hM'⟩:=h
      refine go G' ρ' w' a' ?_
      unfold vY
      rw[hmi,hlm,amQ rfl,K.Zc him hoi hd hx hsz hun]
      have e:x=⟨x.sv,none,none,none⟩:=by cases x;simp only at hx1 hx2 hx3;subst hx1;subst hx2;subst hx3;rfl
      rw[hd,e] at hM'
      exact hM'
    ·have eim:i=m:=by omega
     subst eim
     rw[hos] at hoi
     cases hoi
     have hdeps:=fq K.edges hcl i os hos hed'
     unfold vY at hM
     rw[hun,amP (by simp)] at hM
     have hunb:∀ t,aX ops i listed t=true→look Sn.boxes t=none∧look Sn.rows t=none∧look Sn.objs t=none:=fun t hu=>by
      obtain⟨j,h1,h2,h3⟩:=ef.1 hu
      obtain⟨oj,h4,h5⟩:=l7 h3
      have hnd:j∉(deps ops).getD i m0:=fun hmem=>by
       have:=hdeps j hmem
       rw[h2] at this;cases this
      obtain⟨p,hp,hb,hg⟩:=(hblind j h1).resolve_left hnd
      rw[h4] at hp
      cases hp
      obtain⟨x,_,_,_,_,_,h6⟩:=K.afn h1 h4 hb hg h5
      exact h6
     have hM2:Mod C G ρ (Sn.wt (bA S Sn (aX ops i listed)).tmps) w a:=by
      refine hM.equiv rfl (fun k cs hk=> ?_) (fun k q hk=> ?_) (fun k q hk=> ?_)
      ·simp only[bA,bO]
       cases hu:aX ops i listed k with
       | true=>rw[show look (Sn.wt (bA S Sn (aX ops i listed)).tmps).boxes k=look Sn.boxes k from rfl,(hunb k hu).1] at hk;cases hk
       | false=>exact hk
      ·simp only[bA,bO]
       cases hu:aX ops i listed k with
       | true=>rw[show look (Sn.wt (bA S Sn (aX ops i listed)).tmps).rows k=look Sn.rows k from rfl,(hunb k hu).2.1] at hk;cases hk
       | false=>exact hk
      ·simp only[bA,bO]
       cases hu:aX ops i listed k with
       | true=>rw[show look (Sn.wt (bA S Sn (aX ops i listed)).tmps).objs k=look Sn.objs k from rfl,(hunb k hu).2.2] at hk;cases hk
       | false=>exact hk
     have hev:∀ x,x∈os.op.operands→(Sn.wt (bA S Sn (aX ops i listed)).tmps).ev x=Sn.ev x:=fun x hx=>by
      cases x with
      | tmp t=>
       show (bA S Sn (aX ops i listed)).tmps.getD t (.v false [.any])=Sn.tmps.getD t (.v false [.any])
       have hu:aX ops i listed t=false:=by
        cases hu:aX ops i listed t with
        | false=>rfl
        | true=>
         obtain⟨j,h1,h2,h3⟩:=ef.1 hu
         have:=hdeps j (hlk t (by
          simp only[Oper.looksAt,alh,alm]
          exact .inl ⟨.tmp t,by simpa using hx,rfl⟩) j h1 h3)
         rw[h2] at this;cases this
       rw[akK,fK]
       by_cases hlt:t<S.tmps.length
       ·simp[hlt,hu]
       ·rw[amP hlt]
        have:Sn.tmps[t]? =none:=akR (by rw[K.AX];exact Nat.le_of_not_lt hlt)
        rw[akK,this]
      | const v=>rfl
      | global g=>rfl
      | func f=>rfl
     unfold Go.wpOp
     rw[hio]
     simp only
     have hwt:Region.wanted os (yielded ops.toArray a.tmps)=true:=pz (g:=none) hM2.tmps (by simp[guardOf,hog])
     rw[amQ hwt]
     left
     have hwp:=hS'.2 _ hev C G ρ w a Q hM2
     refine Oper.wp_mono (fun a' w' h=> ?_) hwp
     obtain⟨G',ρ',hM'⟩:=h
     refine go G' ρ' w' a' ?_
     unfold vY
     rw[amQ (cN (by omega))]
     have e:aX ops i (listed.setIfInBounds i true)=aX ops i listed:=funext (O8 (alZ i))
     rw[e]
     exact hM'
   ·exfalso
    obtain⟨j,h1,h2⟩:=hsome
    have hd:=hwaits i (by omega) hlt j (by omega)
    have:=fq K.edges hcl i o hoi hed' j hd
    rw[h2] at this;cases this
end
end Go.Dn
namespace Go.Dn
variable {β:Type} {X:Cx} {C:Fr} {G:Gh} {ρ:Env} {w:World}
theorem agB {o:Oper} {S:St} {k:St→Option β} {r:β} {t:TypeId} {ad x:Operand} {b off:Nat} (ho:o.op= .store t ad x) (hr:S.ev ad= .v false [.ref b off]) (h:fG X o S k=some r):
 ∃ S',k S'=some r∧S'.tmps=S.tmps∧S'.rows=S.rows∧S'.objs=S.objs∧
  ∀ tm rw ob,(⟨tm,S.boxes,rw,ob⟩:St).ev ad=S.ev ad→(⟨tm,S.boxes,rw,ob⟩:St).ev x=S.ev x→fG X o ⟨tm,S.boxes,rw,ob⟩ some=some ⟨tm,S'.boxes,rw,ob⟩:=by
 obtain⟨dst,op,ty,pos,af,g⟩:=o
 simp only at ho
 subst ho
 simp only[fG,hr] at h
 split at h
 ·cases h
 ·rename_i hdst
  split at h
  ·rename_i b' off' a' cs ha hx
   cases ha
   unfold x4 at h
   split at h
   ·rename_i l hl
    split at h
    ·rename_i hc
     split at h
     ·rename_i l' hl'
      refine⟨_,h,rfl,rfl,rfl,fun tm rw ob e1 e2=> ?_⟩
      simp only[fG]
      rw[amP hdst,e1,e2,hr,hx]
      simp only
      unfold x4
      rw[show look (⟨tm,S.boxes,rw,ob⟩:St).boxes b=look S.boxes b from rfl,hl]
      simp only
      rw[amQ hc,hl']
     ·cases h
    ·cases h
   ·cases h
  ·rename_i ha hx;cases ha
  ·rename_i ha hx;cases ha
  ·cases h
section
variable {ops:List Oper} {m:Nat} {S Sn S':St} {listed:Array Bool} {outs:List (Option Del)} {os:Oper}
theorem cR.acR (K:cR X ops m S outs Sn) {i d:Nat} {o:Oper} (him:i<m) (hi:ops[i]? =some o) (hb:(CX o.op||xK o.op)=true) (hg:o.guard=none) (hd:o.dst=some d):
 ∃ x:Del,outs[i]? =some (some x)∧eC X.P o (states ((ops.take m).take i) S (outs.take i)) AJ x∧x.box=none∧x.obj=none∧(x.row.isSome=true→xK o.op=true)∧
  look Sn.boxes d=none∧look Sn.rows d=x.row∧look Sn.objs d=none:=by
 obtain⟨y,hy⟩:∃ y,outs[i]? =some y:=⟨outs[i]'(by rw[K.len];exact him),akQ _⟩
 have hst:=K.step i o y him hi hy
 cases y with
 | none=>
  rcases hst with ⟨dg,b,want,hgd,_⟩ | hs
  ·simp only[guardOf,hg] at hgd
   cases hgd
  ·simp only[Dn.xj,hg] at hs
   cases hs
 | some x=>
  obtain⟨⟨_,h2⟩,_⟩:=hst
  have h3:eC X.P o (states ((ops.take m).take i) S (outs.take i)) AJ x∧x.box=none∧x.obj=none∧(x.row.isSome=true→xK o.op=true):=by
   cases hk:xK o.op with
   | true=>exact⟨(h2.make hk).1,(h2.make hk).2.1,(h2.make hk).2.2,fun _=>rfl⟩
   | false=>
    rw[hk,ajZ] at hb
    obtain⟨g1,g2,g3,g4⟩:=h2.blind hb
    exact⟨g1,g2,g4,fun h=>by rw[g3] at h;cases h⟩
  obtain⟨h3,h4,h6,h7⟩:=h3
  have hdA:cn ops i=some d:=by unfold cn;rw[hi];exact hd
  obtain⟨_,n3,n4,n5,_⟩:=K.new i d him hdA
  have hat:=yj (S:=S) (outs:=outs) (by rw[K.len,alc,al8 K.n_le]) K.dupl (i:=i) (o:=o) (x:=some x) (by rw[c8 him];exact hi) hy hd
  rw[← K.sn] at hat
  refine⟨x,hy,h3,h4,h6,h7, ?_, ?_, ?_⟩
  ·rw[hat.2.1,n3];simp[DB,h4]
  ·rw[hat.2.2.1,n4];simp[C5]
  ·rw[hat.2.2.2,n5];simp[GY,h6]
def mkM (R S':St):St:=⟨R.tmps,S'.boxes,R.rows,R.objs⟩
def rQ (C:Fr) (G:Gh) (ρ:Env) (ops:List Oper) (m:Nat) (S Sn S':St) (listed:Array Bool) (w:World) (a:Act):Prop:=
 if listed.getD m true=true then Mod C G ρ (mkM (bA S Sn (aX ops m listed)) S') w a else Mod C G ρ (bA S Sn (aX ops m listed)) w a
theorem cR.ajp (K:cR X ops m S outs Sn) (hm:m<ops.length) (hwaits:∀ k,m+1≤k→k<ops.length→∀ j,j<k→j∈(deps ops).getD k m0) (hos:ops[m]? =some os) (hog:os.guard=none)
 (hblind:∀ i,i<m→i∈(deps ops).getD m m0∨∃ p,ops[i]? =some p∧(CX p.op||xK p.op)=true∧p.guard=none)
 (hlk:∀ t,t∈os.looksAt ops.toArray→∀ j,j<m→cn ops j=some t→j∈(deps ops).getD m m0)
 (hS':S'.tmps=Sn.tmps∧S'.rows=Sn.rows∧S'.objs=Sn.objs∧∀ tm rw ob,(∀ x,x∈os.op.operands→(⟨tm,Sn.boxes,rw,ob⟩:St).ev x=Sn.ev x)→jG X.P os ⟨tm,Sn.boxes,rw,ob⟩ ⟨tm,S'.boxes,rw,ob⟩)
 (hfr:∀ i d p,i<m→i∉(deps ops).getD m m0→ops[i]? =some p→xK p.op=true→p.dst=some d→(S'.boxes.any fun q=>q.2.any (CV.bR d))=false)
 {Q:Exit→Act→World→Prop} (hseq:Region.seqB .any ops.toArray (ops.length - (m+1)) (m+1) (mask (m+1) ops.length)=true)
 (htail:∀ G ρ w a,Mod C G ρ S' w a→wpList X.P ops.toArray Q (ops.drop (m+1)) a w):∀ (u:Nat) (listed:Array Bool) (a:Act) (w:World) (G:Gh) (ρ:Env),listed.size=ops.length→x3 ops listed→
 (∀ k,m+1≤k→k<ops.length→listed.getD k true=false)→(List.range (m+1)).countP (fun i=> !listed.getD i true)=u→rQ C G ρ ops m S Sn S' listed w a→wpAny X.P .any ops.toArray Q (u+(ops.length - (m+1))) listed a w:=by
 intro u
 induction u with
 | zero=>
  intro listed a w G ρ hsz hcl htl hcnt hM
  have hall:∀ i,i<m+1→listed.getD i true=true:=fun i hi=>by
   rw[akz] at hcnt
   have:=hcnt i (by simpa using hi)
   simpa using this
  have hU:∀ t,aX ops m listed t=false:=fun t=>by
   cases hu:aX ops m listed t with
   | false=>rfl
   | true=>obtain⟨j,h1,h2,_⟩:=ef.1 hu;rw[hall j (by omega)] at h2;cases h2
  have hMn:Mod C G ρ S' w a:=by
   unfold rQ at hM
   rw[amQ (hall m (by omega))] at hM
   refine hM.equiv ?_ (fun k cs hk=>hk) (fun k q hk=> ?_) (fun k q hk=> ?_)
   ·show (bA S Sn (aX ops m listed)).tmps=S'.tmps
    rw[hS'.1]
    apply akH
    intro t
    rw[fK,hU t]
    by_cases hlt:t<S.tmps.length
    ·have:t<Sn.tmps.length:=by rw[K.AX];exact hlt
     simp[hlt,this]
    ·rw[amP hlt,akR (by rw[K.AX];omega)]
   ·show look (bA S Sn (aX ops m listed)).rows k=some q
    rw[hS'.2.1] at hk
    simp only[bA,bO,hU k]
    simpa using hk
   ·show look (bA S Sn (aX ops m listed)).objs k=some q
    rw[hS'.2.2.1] at hk
    simp only[bA,bO,hU k]
    simpa using hk
  have hmask:=S5 (n:=m+1) hsz (by omega) hall htl
  have hl:(ops.drop (m+1)).length=ops.length - (m+1):=by simp
  have:=wpAny_of_seq (P:=X.P) (md:= .any) (ops:=ops.toArray) (Q':=Q) (ops.drop (m+1)) (m+1) listed a w (fun j=>by simp[akP]) (by rw[hl,hmask];exact hseq) (htail G ρ w a hMn)
  rw[hl] at this
  rw[amk]
  exact this
 | succ u ih=>
  intro listed a w G ρ hsz hcl htl hcnt hM
  have hsome:∃ i,i<m+1∧listed.getD i true=false:=by
   have:0<(List.range (m+1)).countP (fun i=> !listed.getD i true):=by omega
   rw[akA] at this
   obtain⟨i,h1,h2⟩:=this
   exact⟨i,by simpa using h1,by simpa using h2⟩
  rw[show u+1+(ops.length - (m+1))=(u+(ops.length - (m+1)))+1 by omega]
  refine⟨fun hr=> ?_,fun i hi=> ?_⟩
  ·exfalso
   have hall:∀ i,i<m+1→listed.getD i true=true:=by
    intro i
    induction i using Nat.strongRecOn with
    | _ i ihi=>
     intro hin
     cases hl:listed.getD i true with
     | true=>rfl
     | false=>
      exfalso
      have hlt:i<ops.length:=by omega
      have hoi:ops[i]? =some ops[i]:=akQ hlt
      have:i∈Region.ready .any ops.toArray listed:=by
       rw[mem_ready]
       refine⟨hl,ops[i],by simp,fun e he hb=> ?_⟩
       have hE:=K.edges
       simp only[n6,akt] at hE
       have h7:=hE i (by simp;exact hlt)
       rw[hoi] at h7
       simp only[akt] at h7
       have h8:=h7 e (by simpa using he)
       simp only[hb,ajW,ajR] at h8
       have h9:e.on<i:=al2 (al6 _) (alX h8)
       have h10:=ihi e.on h9 (by omega)
       rw[ajA] at h10 ⊢
       rw[ajB (by omega)] at h10 ⊢
       simpa using h10
      rw[hr] at this
      cases this
   obtain⟨i,h1,h2⟩:=hsome
   rw[hall i h1] at h2;cases h2
  ·rw[mem_ready] at hi
   obtain⟨hun,o,hio,hed⟩:=hi
   have hoi:ops[i]? =some o:=by simpa using hio
   have hed':∀ e,e∈o.after.toList→Region.binds .any e=true→listed.getD e.on false=true:=fun e he hb=>hed e (by simpa using he) hb
   have hlt:i<ops.length:=(akS.1 hoi).1
   by_cases hin:i<m+1
   ·have cl':x3 ops (listed.setIfInBounds i true):=by
     intro j oj hj hlj e he hb
     by_cases eji:j=i
     ·subst eji
      rw[hoi] at hj
      cases hj
      have:=hed' e he hb
      by_cases e2:e.on=j
      ·rw[e2];exact cN (by omega)
      ·rw[bH e2];exact this
     ·rw[bH eji] at hlj
      have:=hcl j oj hj hlj e he hb
      by_cases e2:e.on=i
      ·rw[e2];exact cN (by omega)
      ·rw[bH e2];exact this
    have tl':∀ k,m+1≤k→k<ops.length→(listed.setIfInBounds i true).getD k true=false:=fun k hk1 hk2=>by
     rw[bH (by omega)];exact htl k hk1 hk2
    have cnt':(List.range (m+1)).countP (fun j=> !(listed.setIfInBounds i true).getD j true)=u:=by
     have:=Dq (p:=fun j=> !listed.getD j true) (q:=fun j=> !(listed.setIfInBounds i true).getD j true) (i:=i) (l:=List.range (m+1)) alz (by simpa using hin) (by simp[hun]) (fun j=>by
      by_cases e:j=i
      ·subst e;simp only[cN (listed:=listed) (b:=true) (by omega:j<listed.size)];simp
      ·simp only[bH (listed:=listed) (b:=true) e];simp[e])
     omega
    have go:∀ G' ρ' w' a',rQ C G' ρ' ops m S Sn S' (listed.setIfInBounds i true) w' a'→wpAny X.P .any ops.toArray Q (u+(ops.length - (m+1))) (listed.setIfInBounds i true) a' w':=
     fun G' ρ' w' a' hM'=>ih (listed.setIfInBounds i true) a' w' G' ρ' (by simpa using hsz) cl' tl' cnt' hM'
    by_cases him:i<m
    ·have hmi:(listed.setIfInBounds i true).getD m true=listed.getD m true:=bH (by omega)
     cases hlm:listed.getD m true with
     | false=>
      unfold rQ at hM
      rw[hlm,amP (by simp)] at hM
      refine K.wpOp him hoi hsz hcl hun hed' hM (fun G' ρ' w' a' hM'=>go G' ρ' w' a' ?_)
      unfold rQ
      rw[hmi,hlm,amP (by simp)]
      exact hM'
     | true=>
      unfold rQ at hM
      rw[hlm,amQ rfl] at hM
      have hnd:i∉(deps ops).getD m m0:=fun hmem=>by
       have:=fq K.edges hcl m os hos (fun e h1 h2=>hcl m os hos hlm e h1 h2) i hmem
       rw[hun] at this;cases this
      obtain⟨p,hp,hb,hg⟩:=(hblind i him).resolve_left hnd
      rw[hoi] at hp
      cases hp
      obtain⟨hds,_⟩:=K.head i o him hoi
      obtain⟨d,hd⟩:=amt.1 hds
      obtain⟨x,hx,hL,hx1,hx3,hx2,hy1,hy2,hy3⟩:=K.acR him hoi hb hg hd
      have hdA:cn ops i=some d:=by unfold cn;rw[hoi];exact hd
      have hdeps:=fq K.edges hcl i o hoi hed'
      have hev:=K.evs him hoi hdeps
      have hfresh:=K.fresh hcl him hdA hun
      have hU:=K.IE him hdA hsz hun
      unfold Go.wpOp
      rw[hio]
      simp only
      have hwt:Region.wanted o (yielded ops.toArray a.tmps)=true:=pz (g:=none) hM.tmps (by simp[guardOf,hg])
      rw[amQ hwt]
      left
      have hnear:UH o (states ((ops.take m).take i) S (outs.take i)) AJ (mkM (bA S Sn (aX ops m listed)) S'):=
       ⟨fun y hy=>by
         rw[← hev y hy]
         cases y<;>rfl,fun k cs hk=>(by cases hk),fun k cs hk=>(by cases hk),fun k cs hk=>(by cases hk)⟩
      have hwp:=hL C G ρ _ w a Q hM hnear (fun d' _ h=>by rw[hx1] at h;cases h) (fun d' hd' h=>by
       rw[hd] at hd';cases hd'
       have h1:=(Kg hfresh).2.1
       simp only[St.bR,ajX] at h1 ⊢
       exact⟨h1.1,hfr i d o him hnd hoi (hx2 h) hd⟩) (fun d' _ h=>by rw[hx3] at h;cases h)
      refine Oper.wp_mono (fun a' w' h=> ?_) hwp
      obtain⟨G',ρ',hM'⟩:=h
      refine go G' ρ' w' a' ?_
      unfold rQ
      rw[hmi,hlm,amQ rfl]
      have e:x=⟨x.sv,none,x.row,none⟩:=by cases x;simp only at hx1 hx3;subst hx1;subst hx3;rfl
      rw[hd,e] at hM'
      refine hM'.equiv ?_ (fun k cs hk=>hk) (fun k q hk=> ?_) (fun k q hk=> ?_)
      ·show (bA S Sn (aX ops m listed)).tmps.set d x.sv=(bA S Sn (aX ops m (listed.setIfInBounds i true))).tmps
       rw[K.Zc him hoi hd hx hsz hun];rfl
      ·replace hk:look (bA S Sn (aX ops m (listed.setIfInBounds i true))).rows k=some q:=hk
       simp only[bA,bO,hU k] at hk
       show look (match x.row with | some r=>(d,r)::(bA S Sn (aX ops m listed)).rows | none=>(bA S Sn (aX ops m listed)).rows) k=some q
       by_cases ek:k=d
       ·subst ek
        simp only[amC,ajL,ajP,amO] at hk
        rw[hy2] at hk
        rw[hk]
        simp only[aW,amR]
       ·have hbne:(k != d)=true:=by simpa using ek
        rw[hbne,ajN] at hk
        have h2:look (bA S Sn (aX ops m listed)).rows k=some q:=by
         simp only[bA,bO];exact hk
        cases x.row with
        | none=>exact h2
        | some r=>
         simp only[aW]
         rw[amP (fun e=>ek e.symm)];exact h2
      ·replace hk:look (bA S Sn (aX ops m (listed.setIfInBounds i true))).objs k=some q:=hk
       simp only[bA,bO,hU k] at hk
       show look (bA S Sn (aX ops m listed)).objs k=some q
       simp only[bA,bO]
       by_cases ek:k=d
       ·subst ek
        simp only[amC,ajL,ajP,amO] at hk
        rw[hy3] at hk;cases hk
       ·have hbne:(k != d)=true:=by simpa using ek
        rw[hbne,ajN] at hk
        exact hk
    ·have eim:i=m:=by omega
     subst eim
     rw[hos] at hoi
     cases hoi
     have hdeps:=fq K.edges hcl i os hos hed'
     unfold rQ at hM
     rw[hun,amP (by simp)] at hM
     have hunb:∀ t,aX ops i listed t=true→look Sn.boxes t=none:=fun t hu=>by
      obtain⟨j,h1,h2,h3⟩:=ef.1 hu
      obtain⟨oj,h4,h5⟩:=l7 h3
      have hnd:j∉(deps ops).getD i m0:=fun hmem=>by
       have:=hdeps j hmem
       rw[h2] at this;cases this
      obtain⟨p,hp,hb,hg⟩:=(hblind j h1).resolve_left hnd
      rw[h4] at hp
      cases hp
      obtain⟨x,_,_,_,_,_,h6,_⟩:=K.acR h1 h4 hb hg h5
      exact h6
     have hM2:Mod C G ρ ⟨(bA S Sn (aX ops i listed)).tmps,Sn.boxes,(bA S Sn (aX ops i listed)).rows,(bA S Sn (aX ops i listed)).objs⟩ w a:=by
      refine hM.equiv rfl (fun k cs hk=> ?_) (fun k q hk=>hk) (fun k q hk=>hk)
      simp only[bA,bO]
      cases hu:aX ops i listed k with
      | true=>rw[show look (⟨(bA S Sn (aX ops i listed)).tmps,Sn.boxes,(bA S Sn (aX ops i listed)).rows,(bA S Sn (aX ops i listed)).objs⟩:St).boxes k=look Sn.boxes k from rfl,hunb k hu] at hk;cases hk
      | false=>exact hk
     have hev:∀ x,x∈os.op.operands→(⟨(bA S Sn (aX ops i listed)).tmps,Sn.boxes,(bA S Sn (aX ops i listed)).rows,(bA S Sn (aX ops i listed)).objs⟩:St).ev x=Sn.ev x:=fun x hx=>by
      cases x with
      | tmp t=>
       show (bA S Sn (aX ops i listed)).tmps.getD t (.v false [.any])=Sn.tmps.getD t (.v false [.any])
       have hu:aX ops i listed t=false:=by
        cases hu:aX ops i listed t with
        | false=>rfl
        | true=>
         obtain⟨j,h1,h2,h3⟩:=ef.1 hu
         have:=hdeps j (hlk t (by
          simp only[Oper.looksAt,alh,alm]
          exact .inl ⟨.tmp t,by simpa using hx,rfl⟩) j h1 h3)
         rw[h2] at this;cases this
       rw[akK,fK]
       by_cases hlt:t<S.tmps.length
       ·simp[hlt,hu]
       ·rw[amP hlt]
        have:Sn.tmps[t]? =none:=akR (by rw[K.AX];exact Nat.le_of_not_lt hlt)
        rw[akK,this]
      | const v=>rfl
      | global g=>rfl
      | func f=>rfl
     unfold Go.wpOp
     rw[hio]
     simp only
     have hwt:Region.wanted os (yielded ops.toArray a.tmps)=true:=pz (g:=none) hM2.tmps (by simp[guardOf,hog])
     rw[amQ hwt]
     left
     have hwp:=hS'.2.2.2 _ _ _ hev C G ρ w a Q hM2
     refine Oper.wp_mono (fun a' w' h=> ?_) hwp
     obtain⟨G',ρ',hM'⟩:=h
     refine go G' ρ' w' a' ?_
     unfold rQ
     rw[amQ (cN (by omega))]
     have e:aX ops i (listed.setIfInBounds i true)=aX ops i listed:=funext (O8 (alZ i))
     rw[e]
     exact hM'
   ·exfalso
    obtain⟨j,h1,h2⟩:=hsome
    have hd:=hwaits i (by omega) hlt j (by omega)
    have:=fq K.edges hcl i o hoi hed' j hd
    rw[h2] at this;cases this
end
end Go.Dn
namespace Go.Dn
variable {β:Type} {X:Cx} {C:Fr} {G:Gh} {ρ:Env} {w:World}
theorem eC.more {P:Program} {o:Oper} {S M N:St} {x:Del} (h:eC P o S M x) (hb:∀ k cs,look M.boxes k=some cs→look N.boxes k=some cs) (hr:∀ k q,look M.rows k=some q→look N.rows k=some q) (ho:∀ k q,look M.objs k=some q→look N.objs k=some q):eC P o S N x:=
 fun C G ρ S1 w a Q hM hN h1 h2 h3=>h C G ρ S1 w a Q hM ⟨hN.ops,fun k cs hk=>hN.boxes k cs (hb k cs hk),fun k cs hk=>hN.rows k cs (hr k cs hk),fun k cs hk=>hN.objs k cs (ho k cs hk)⟩ h1 h2 h3
theorem Gg (t:Touch) (M:St):(∀ k cs,look (ko t M).boxes k=some cs→rI t k=true∧look M.boxes k=some cs)∧(∀ k q,look (ko t M).rows k=some q→t.rt=false∧look M.rows k=some q)∧(∀ k q,look (ko t M).objs k=some q→t.rt=false∧look M.objs k=some q):=by
 refine⟨fun k cs hk=> ?_,fun k q hk=> ?_,fun k q hk=> ?_⟩
 ·simp only[ko] at hk
  rw[tv (fun i=>rI t i)] at hk
  split at hk
  ·rename_i h;exact⟨h,hk⟩
  ·cases hk
 ·simp only[ko] at hk
  cases ht:t.rt with
  | true=>rw[ht] at hk;cases hk
  | false=>rw[ht] at hk;exact⟨rfl,hk⟩
 ·simp only[ko] at hk
  cases ht:t.rt with
  | true=>rw[ht] at hk;cases hk
  | false=>rw[ht] at hk;exact⟨rfl,hk⟩
theorem eC.aiI {P:Program} {o:Oper} {S M:St} {x:Del} {t:Touch} (h:eC P o S (ko t M) x):eC P o S M x:=
 h.more (fun k cs hk=>((Gg t M).1 k cs hk).2) (fun k q hk=>((Gg t M).2.1 k q hk).2) (fun k q hk=>((Gg t M).2.2 k q hk).2)
theorem RN {x:Del} (h:Gp x=true):x.box=none∧x.row=none∧x.obj=none:=by
 simpa [Gp] using h
theorem MH (hX:gw X) {ops:List Oper} {M:St} {tf:Nat→Touch} {dm:Msk}:∀ {l:List Oper} {c:Nat} {S:St} {k:St→Option β} {r:β},vg X ops M (fun i=>ko (tf i) M) dm c l S k=some r→
 ∃ outs:List (Option Del),outs.length=l.length∧k (states l S outs)=some r∧∀ i o x,l[i]? =some o→outs[i]? =some x→K9 X ops M o (states (l.take i) S (outs.take i)) x∧
  (inM dm (c+i)=false→o.guard=none→∃ y,x=some y∧eC X.P o (states (l.take i) S (outs.take i)) (ko (tf (c+i)) M) y∧Gp y=true)
 | [],c,S,k,r,h=>⟨[],rfl,h,fun i o x hi=>by simp at hi⟩
 | o::l,c,S,k,r,h=>by
  have cons:∀ (x:Option Del),K9 X ops M o S x→(inM dm c=false→o.guard=none→∃ y,x=some y∧eC X.P o S (ko (tf c) M) y∧Gp y=true)→vg X ops M (fun i=>ko (tf i) M) dm (c+1) l (S.out o x) k=some r→
   ∃ outs:List (Option Del),outs.length=(o::l).length∧k (states (o::l) S outs)=some r∧∀ i o' x,(o::l)[i]? =some o'→outs[i]? =some x→K9 X ops M o' (states ((o::l).take i) S (outs.take i)) x∧
    (inM dm (c+i)=false→o'.guard=none→∃ y,x=some y∧eC X.P o' (states ((o::l).take i) S (outs.take i)) (ko (tf (c+i)) M) y∧Gp y=true):=by
   intro x hx hx2 hr
   obtain⟨outs,h1,h2,h3⟩:=MH hX hr
   refine⟨x::outs,by simp[h1],h2,fun i o' y hi hy=> ?_⟩
   cases i with
   | zero=>
    simp only[akO,Option.some.injEq] at hi hy
    subst hi;subst hy
    exact⟨hx,hx2⟩
   | succ i=>
    simp only[akN] at hi hy
    have:=h3 i o' y hi hy
    rw[show c+(i+1)=c+1+i by omega]
    exact this
  simp only[vg] at h
  split at h
  ·rename_i hg
   have hgn:o.guard≠none:=fun e=>by simp[guardOf,e] at hg
   cases hs:xj ops o S with
   | false=>rw[hs] at h;cases h
   | true=>rw[hs] at h;exact cons none (.inr hs) (fun _ e=>absurd e hgn) h
  ·rename_i hg
   cases hm:inM dm c with
   | true=>
    rw[hm,amE] at h
    obtain⟨x,h1,h2⟩:=AO hX h
    exact cons (some x) ⟨h2,.inl hg⟩ (fun e=>by rw[hm] at e;cases e) h1
   | false=>
    rw[hm,amD] at h
    obtain⟨x,h1,h2⟩:=AO hX h
    cases hp:Gp x with
    | false=>rw[hp] at h1;cases h1
    | true=>
     rw[hp,amE] at h1
     exact cons (some x) ⟨⟨h2.1.aiI,h2.2⟩,.inl hg⟩ (fun _ _=>⟨x,rfl,h2.1,hp⟩) h1
  ·rename_i d b want hg
   have hgn:o.guard≠none:=fun e=>by simp[guardOf,e] at hg
   rcases XN (ahE (abc hg)) h with ⟨hb,h⟩ | ⟨hb,h⟩
   ·obtain⟨x,h1,h2⟩:=AO hX h
    exact cons (some x) ⟨h2,.inr ⟨d,b,want,hg,hb⟩⟩ (fun _ e=>absurd e hgn) h1
   ·exact cons none (.inl ⟨d,b,want,hg,hb⟩) (fun _ e=>absurd e hgn) h
def Rest (t:Touch) (T T':St):Prop:=(t.rt=false→T'.rows=T.rows∧T'.objs=T.objs)∧∀ k,rI t k=true→look T'.boxes k=look T.boxes k
theorem afs {o:Oper} {S S':St} {t:TypeId} {ad x:Operand} {row:Touch} (ho:o.op= .store t ad x) (ha:XS row (S.ev ad)=true) (h:fG X o S some=some S'):Rest row S S':=by
 obtain⟨dst,op,ty,pos,af,g⟩:=o
 simp only at ho
 subst ho
 simp only[fG] at h
 split at h
 ·cases h
 ·split at h
  ·rename_i b off a' cs ha' hx
   rw[ha'] at ha
   have hrow:rI row b=false:=by simpa [XS] using ha
   unfold x4 at h
   split at h
   ·split at h
    ·split at h
     ·cases h
      refine⟨fun _=>⟨rfl,rfl⟩,fun k hk=> ?_⟩
      simp only[aW]
      rw[amP]
      intro e
      subst e
      rw[hrow] at hk;cases hk
     ·cases h
    ·cases h
   ·cases h
  ·rename_i j sz i off a' cs ha' hx
   rw[ha'] at ha
   have hrow:row.rt=true:=by simpa [XS] using ha
   unfold ES at h
   split at h
   ·split at h
    ·cases h
    ·obtain⟨y,_,h⟩:=bind_some h
     split at h
     ·split at h
      ·cases h;exact⟨fun e=>(by rw[hrow] at e;cases e),fun _ _=>rfl⟩
      ·cases h
     ·cases h
   ·cases h
  ·rename_i hh off a' cs ha' hx
   rw[ha'] at ha
   have hrow:row.rt=true:=by simpa [XS] using ha
   unfold IT at h
   split at h
   ·split at h
    ·cases h
    ·obtain⟨y,_,h⟩:=bind_some h
     split at h
     ·split at h
      ·cases h;exact⟨fun e=>(by rw[hrow] at e;cases e),fun _ _=>rfl⟩
      ·cases h
     ·cases h
   ·cases h
  ·cases h
def VA (tm:List SV):Option Nat→SV→List SV
 | none,_=>tm
 | some d,s=>tm.set d s
def afy (hs:List Nat) (s:SV):Prop:=∀ d,inL hs d=false→s.bR d=false
structure Sg (P:Program) (row:Touch) (hs:List Nat) (o:Oper) (T:St) (sv:SV) (T':St):Prop where
 tmps:T'.tmps=VA T.tmps o.dst sv
 rest:Rest row T T'
 sound:∀ tm,(∀ x,x∈o.op.operands→(T.wt tm).ev x=T.ev x)→(∀ s,s∈tm→s∈T.tmps∨afy hs s)→jG P o (T.wt tm) (T'.wt (VA tm o.dst sv))
theorem ad8 {o:Oper} {S:St} {k:St→Option β} {r:β} {args:Array Operand} {argTypes:Array TypeId} (ho:o.op= .call { callee:= .builtin .append,args,argTypes }) (h:fG X o S k=some r):
 ∃ d S',o.dst=some d∧k S'=some r∧S'.tmps=S.tmps.set d (.v false [.row d])∧S'.boxes=S.boxes∧S.bR d=false∧
  ∀ tm,(∀ x,x∈o.op.operands→(S.wt tm).ev x=S.ev x)→(S.wt tm).bR d=false→fG X o (S.wt tm) some=some (S'.wt (tm.set d (.v false [.row d]))):=by
 obtain⟨dst,op,ty0,pos,af,g⟩:=o
 simp only at ho
 subst ho
 simp only[fG] at h
 split at h
 ·rename_i s x t t' d he hty
  split at h
  ·rename_i e ht
   split at h
   ·rename_i ty zc htyo hzc
    split at h
    ·cases h
    ·rename_i hc
     split at h
     ·rename_i l j l' hsrc hnew
      obtain⟨hchk,h⟩:=pF h
      have hc':=hc
      simp only[ajY,amU,ajT,ajS] at hc'
      refine⟨d,_,rfl,h,rfl,rfl,hc'.1.1.1.1.1,fun tm hev hfr=> ?_⟩
      have hmap:args.toList.map (S.wt tm).ev=args.toList.map S.ev:=ale fun y hy=>hev y (by simpa [Op.operands,Call.operands] using hy)
      simp only[fG]
      rw[hmap,he,hty]
      simp only
      rw[ht]
      simp only
      rw[htyo,hzc]
      simp only
      rw[amP (by
       simp only[ajY,amU,ajT,ajS]
       exact⟨⟨⟨⟨⟨hfr,hc'.1.1.1.1.2⟩,hc'.1.1.1.2⟩,hc'.1.1.2⟩,hc'.1.2⟩,hc'.2⟩)]
      rw[show Wq (S.wt tm) e ty s=Wq S e ty s from rfl,show Q8 (S.wt tm) ty x=Q8 S ty x from rfl,hsrc,hnew]
      simp only
      rw[hchk]
      rfl
     ·cases h
   ·cases h
  ·cases h
 ·cases h
theorem agt {T:St} {tm:List SV} {hs:List Nat} {d:Nat} (h:T.bR d=false) (hd:inL hs d=false) (htm:∀ s,s∈tm→s∈T.tmps∨afy hs s):(T.wt tm).bR d=false:=by
 simp only[St.bR,ajX,aku] at h ⊢
 refine⟨fun s hs'=> ?_,h.2⟩
 rcases htm s hs' with h1 | h1
 ·exact h.1 s h1
 ·simp[h1 d hd]
theorem adm {op:Op} (h:oo op=true):∃ args argTypes,op= .call { callee:= .builtin .append,args,argTypes }:=by
 unfold oo at h
 split at h
 ·exact⟨_,_,rfl⟩
 ·cases h
theorem Nx (hX:gw X) {ops:List Oper} {S0:St} {hs:List Nat}:∀ {l:List Oper} {S:St} {k:St→Option β} {r:β},CF X ops S0 hs l S k=some r→
 ∃ (T:Nat→St) (sv:Nat→SV),T 0=S∧k (T l.length)=some r∧∀ i o,l[i]? =some o→Sg X.P (fI ops S0 [o]) hs o (T i) (sv i) (T (i+1))
 | [],S,k,r,h=>⟨fun _=>S,fun _=>Bv,rfl,h,fun i o hi=>by simp at hi⟩
 | o::l,S,k,r,h=>by
  have cons:∀ (s:SV) (S':St),Sg X.P (fI ops S0 [o]) hs o S s S'→CF X ops S0 hs l S' k=some r→∃ (T:Nat→St) (sv:Nat→SV),T 0=S∧k (T (o::l).length)=some r∧∀ i o',(o::l)[i]? =some o'→Sg X.P (fI ops S0 [o']) hs o' (T i) (sv i) (T (i+1)):=by
   intro s S' hs hr
   obtain⟨T,sv,h1,h2,h3⟩:=Nx hX hr
   refine⟨fun i=>match i with | 0=>S | i+1=>T i,fun i=>match i with | 0=>s | i+1=>sv i,rfl,h2,fun i o' hi=> ?_⟩
   cases i with
   | zero=>
    simp only[akO,Option.some.injEq] at hi
    subst hi
    show Sg X.P (fI ops S0 [o]) _ o S s (T 0)
    rw[h1];exact hs
   | succ i=>exact h3 i o' (by simpa using hi)
  simp only[CF] at h
  split at h
  ·rename_i ad had
   have hst:∃ t x,o.op= .store t ad x:=by
    revert had
    unfold agj
    split
    ·rename_i t a x e;intro h';cases h';exact⟨_,_,e⟩
    ·intro h';cases h'
   obtain⟨t,x,hop⟩:=hst
   cases ha:XS (fI ops S0 [o]) (S.ev ad) with
   | false=>rw[ha] at h;cases h
   | true=>
    rw[ha,amE] at h
    obtain⟨S',h4,h5,h6⟩:=Wh hop h
    have hself:=h6 S.tmps rfl rfl
    have hdst:o.dst=none:=by
     have h7:fG X o S some=some (S'.wt S.tmps):=hself
     cases hd:o.dst with
     | none=>rfl
     | some d=>
      obtain⟨dst,op,ty,pos,af,g⟩:=o
      simp only at hop hd
      subst hop;subst hd
      simp[fG] at h7
    have e:S'.wt S.tmps=S':=by rw[← h5];rfl
    refine cons Bv S' ⟨?_, ?_,fun tm hev _=> ?_⟩ h4
    ·rw[hdst,h5];rfl
    ·rw[e] at hself
     exact afs hop ha hself
    ·have hs:=h6 tm (hev ad (by simp[hop,Op.operands])) (hev x (by simp[hop,Op.operands]))
     obtain⟨S2,e2,hs2⟩:=Jb hX hs
     cases e2
     rw[hdst]
     exact hs2
  ·cases hap:oo o.op with
   | true=>
    rw[hap,amE] at h
    obtain⟨args,argTypes,hop⟩:=adm hap
    cases hd0:o.dst with
    | none=>rw[hd0] at h;simp at h
    | some d0=>
     rw[hd0] at h
     simp only at h
     cases hc:((fI ops S0 [o]).rt&& !inL hs d0) with
     | false=>rw[hc] at h;cases h
     | true=>
      rw[hc,amE] at h
      obtain⟨d,S',hd,h4,h5,h6,h7,h8⟩:=ad8 hop h
      rw[hd0] at hd
      cases hd
      simp only[ajK,ajU] at hc
      refine cons (.v false [.row d0]) S' ⟨?_, ?_,fun tm hev hfr=> ?_⟩ h4
      ·rw[hd0,h5];rfl
      ·exact⟨fun e=>(by rw[hc.1] at e;cases e),fun k _=>by rw[h6]⟩
      ·have hs':=h8 tm hev (agt h7 hc.2 hfr)
       obtain⟨S2,e2,hs2⟩:=Jb hX hs'
       cases e2
       rw[hd0]
       exact hs2
   | false=>
    rw[hap,amD] at h
    obtain⟨x,h1,h2,_⟩:=CG hX h
    cases hp:Gp x with
    | false=>rw[hp] at h1;cases h1
    | true=>
     rw[hp,amE] at h1
     obtain⟨p1,p2,p3⟩:=RN hp
     have e:x=⟨x.sv,none,none,none⟩:=by cases x;simp only at p1 p2 p3;subst p1;subst p2;subst p3;rfl
     have happ:∀ T:St,T.app o.dst x=T.wt (VA T.tmps o.dst x.sv):=fun T=>by
      rw[e];cases o.dst<;>rfl
     refine cons x.sv (S.app o.dst x) ⟨?_, ?_,fun tm hev _=> ?_⟩ h1
     ·rw[happ];rfl
     ·rw[happ];exact⟨fun _=>⟨rfl,rfl⟩,fun _ _=>rfl⟩
     ·intro C G ρ w a Q hM
      have:=h2 C G ρ (S.wt tm) w a Q hM ⟨hev,fun _ _ h=>h,fun _ _ h=>h,fun _ _ h=>h⟩ (fun d' _ h=>by rw[p1] at h;cases h) (fun d' _ h=>by rw[p2] at h;cases h) (fun d' _ h=>by rw[p3] at h;cases h)
      rw[happ] at this ⊢
      exact this
theorem TY {t i:Nat} {m:Msk} {ds:List Msk}:∀ {l:List (Option Nat)} {c:Nat},No t i m ds l c=true→∀ {k:Nat},l[k]? =some (some t)→c+k∈m∨i∈ds.getD (c+k) m0
 | [],_,_,_,h=>by simp at h
 | d::r,c,h,0,hk=>by
  simp only[No,ajK] at h
  have:d=some t:=by simpa using hk
  subst this
  have h1:=h.1
  simp only[Nat.beq_refl,ajW,ajR,ajY] at h1
  exact h1.imp o9.1 o9.1
 | d::r,c,h,k+1,hk=>by
  simp only[No,ajK] at h
  have:=TY h.2 (k:=k) (by simpa using hk)
  rw[show c+(k+1)=c+1+k by omega]
  exact this
section
variable {ops:List Oper} {m n:Nat} {S Sn:St} {listed:Array Bool} {outs:List (Option Del)}
theorem cR.keep (K:cR X ops m S outs Sn):(∀ k cs,look S.boxes k=some cs→look Sn.boxes k=some cs)∧(∀ k q,look S.rows k=some q→look Sn.rows k=some q)∧(∀ k q,look S.objs k=some q→look Sn.objs k=some q):=by
 have nolook:∀ k,(look S.boxes k).isSome=true∨(look S.rows k).isSome=true∨(look S.objs k).isSome=true→look Sn.boxes k=look S.boxes k∧look Sn.rows k=look S.rows k∧look Sn.objs k=look S.objs k:=fun k hk=>by
  have hnd:∀ j,j<m→cn ops j≠some k:=fun j hj hdj=>by
   obtain⟨_,m3,m4,m5,_⟩:=K.new j k hj hdj
   rcases hk with hk | hk | hk
   ·rw[m3] at hk;cases hk
   ·rw[m4] at hk;cases hk
   ·rw[m5] at hk;cases hk
  have:k∉iK (ops.take m):=fun hm=>by
   simp only[iK,alm] at hm
   obtain⟨p,hp,hpd⟩:=hm
   obtain⟨j,hj⟩:=alo.1 hp
   have hmn:j<m:=by
    have:=(akS.1 hj).1
    simp at this;omega
   rw[c8 hmn] at hj
   exact hnd j hmn (by unfold cn;rw[hj];exact hpd)
  rw[K.sn]
  exact (fR this).2
 exact⟨fun k cs hk=>by rw[(nolook k (.inl (by rw[hk];rfl))).1];exact hk,fun k q hk=>by rw[(nolook k (.inr (.inl (by rw[hk];rfl)))).2.1];exact hk,
  fun k q hk=>by rw[(nolook k (.inr (.inr (by rw[hk];rfl)))).2.2];exact hk⟩
def C9 (a b:Touch):Prop:=(b.rt=false→a.rt=false)∧∀ k,rI b k=true→rI a k=true
structure Bu (X:Cx) (ops:List Oper) (m n:Nat) (S:St) (outs:List (Option Del)) (Sn:St) (tf:Nat→Touch) (t1:Oper→Touch) (T:Nat→St) (sv:Nat→SV):Prop where
 lt:m<n
 le:n≤ops.length
 t0:T 0=Sn
 step:∀ c o,m+c<n→ops[m+c]? =some o→Sg X.P (t1 o) S.ids o (T c) (sv c) (T (c+1))
 cover:∀ i c o,i<m→m+c<n→ops[m+c]? =some o→i∉(deps ops).getD (m+c) m0→C9 (t1 o) (tf i)
 late:∀ i o,i<m→ops[i]? =some o→i∉(deps ops).getD m m0→o.guard=none∧∃ y,outs[i]? =some (some y)∧eC X.P o (states ((ops.take m).take i) S (outs.take i)) (ko (tf i) S) y∧Gp y=true
 guard:∀ i o,m≤i→i<n→ops[i]? =some o→o.guard=none
 wait:∀ i j,m≤j→j<i→i<n→j∈(deps ops).getD i m0
 looks:∀ i o,i<n→ops[i]? =some o→∀ t,t∈o.looksAt ops.toArray→∀ j,j<n→cn ops j=some t→j∈(deps ops).getD i m0∨i∈(deps ops).getD j m0
 uniq:∀ i j d,i<n→j<n→cn ops i=some d→cn ops j=some d→i=j
variable {tf:Nat→Touch} {t1:Oper→Touch} {T:Nat→St} {sv:Nat→SV}
theorem Bu.len (Z:Bu X ops m n S outs Sn tf t1 T sv) (K:cR X ops m S outs Sn):∀ c,m+c≤n→(T c).tmps.length=S.tmps.length
 | 0,_=>by rw[Z.t0,K.AX]
 | c+1,h=>by
  have hlt:m+c<ops.length:=by have:=Z.le;omega
  have hs:=(Z.step c _ (by omega) (akQ hlt)).tmps
  rw[hs]
  have:=Z.len K c (by omega)
  cases (ops[m+c]).dst<;>simp[VA,this]
theorem Bu.other (Z:Bu X ops m n S outs Sn tf t1 T sv):∀ c,m+c≤n→∀ t,(∀ j,m≤j→j<m+c→cn ops j≠some t)→(T c).tmps[t]? =Sn.tmps[t]?
 | 0,_,t,_=>by rw[Z.t0]
 | c+1,h,t,ht=>by
  have hlt:m+c<ops.length:=by have:=Z.le;omega
  have hs:=(Z.step c _ (by omega) (akQ hlt)).tmps
  rw[hs, ← Z.other c (by omega) t (fun j h1 h2=>ht j h1 (by omega))]
  cases hd:(ops[m+c]).dst with
  | none=>rfl
  | some d=>
   have hne:d≠t:=fun e=>ht (m+c) (by omega) (by omega) (by unfold cn;rw[akQ hlt];simp[hd,e])
   exact akX hne
theorem Bu.mem (Z:Bu X ops m n S outs Sn tf t1 T sv) {i:Nat} (hi:i<m):∀ c,m+c≤n→(∀ j,m≤j→j<m+c→i∉(deps ops).getD j m0)→Rest (tf i) Sn (T c)
 | 0,_,_=>by rw[Z.t0];exact⟨fun _=>⟨rfl,rfl⟩,fun _ _=>rfl⟩
 | c+1,h,hnd=>by
  have hlt:m+c<ops.length:=by have:=Z.le;omega
  have hs:=(Z.step c _ (by omega) (akQ hlt)).rest
  have hle:=Z.cover i c _ hi (by omega) (akQ hlt) (hnd (m+c) (by omega) (by omega))
  have ih:=Z.mem hi c (by omega) (fun j h1 h2=>hnd j h1 (by omega))
  exact⟨fun e=>⟨(hs.1 (hle.1 e)).1.trans (ih.1 e).1,(hs.1 (hle.1 e)).2.trans (ih.1 e).2⟩,fun k hk=>(hs.2 k (hle.2 k hk)).trans (ih.2 k hk)⟩
theorem Bu.near (Z:Bu X ops m n S outs Sn tf t1 T sv) (K:cR X ops m S outs Sn) {i:Nat} (hi:i<m) (c:Nat) (hc:m+c≤n) (hnd:∀ j,m≤j→j<m+c→i∉(deps ops).getD j m0) {N:St} (h1:N.boxes=(T c).boxes) (h2:N.rows=(T c).rows) (h3:N.objs=(T c).objs):
 (∀ k cs,look (ko (tf i) S).boxes k=some cs→look N.boxes k=some cs)∧(∀ k q,look (ko (tf i) S).rows k=some q→look N.rows k=some q)∧(∀ k q,look (ko (tf i) S).objs k=some q→look N.objs k=some q):=by
 have hm:=Z.mem hi c hc hnd
 obtain⟨k1,k2,k3⟩:=K.keep
 obtain⟨r1,r2,r3⟩:=Gg (tf i) S
 exact⟨fun k cs hk=>by rw[h1,hm.2 k (r1 k cs hk).1];exact k1 k cs (r1 k cs hk).2,fun k q hk=>by rw[h2,(hm.1 (r2 k q hk).1).1];exact k2 k q (r2 k q hk).2,fun k q hk=>by rw[h3,(hm.1 (r3 k q hk).1).2];exact k3 k q (r3 k q hk).2⟩
def Ds (C:Fr) (G:Gh) (ρ:Env) (ops:List Oper) (m:Nat) (S Sn:St) (T:Nat→St) (c:Nat) (listed:Array Bool) (w:World) (a:Act):Prop:=
 if c=0 then Mod C G ρ (bA S Sn (aX ops m listed)) w a else Mod C G ρ ((T c).wt (bA S (T c) (aX ops m listed)).tmps) w a
theorem Bu.started (Z:Bu X ops m n S outs Sn tf t1 T sv) (K:cR X ops m S outs Sn) {c:Nat} {a:Act} (hdone:∀ j,j∈(deps ops).getD m m0→listed.getD j true=true) (hM:Ds C G ρ ops m S Sn T c listed w a):
 Mod C G ρ ((T c).wt (bA S (T c) (aX ops m listed)).tmps) w a:=by
 unfold Ds at hM
 by_cases e:c=0
 ·subst e
  rw[amQ rfl] at hM
  rw[Z.t0]
  have hunb:∀ t,aX ops m listed t=true→look Sn.boxes t=none∧look Sn.rows t=none∧look Sn.objs t=none:=fun t hu=>by
   obtain⟨j,h1,h2,h3⟩:=ef.1 hu
   obtain⟨oj,h4,h5⟩:=l7 h3
   have hnd:j∉(deps ops).getD m m0:=fun hmem=>by
    have:=hdone j hmem
    rw[h2] at this;cases this
   obtain⟨_,y,hy,_,hp⟩:=Z.late j oj h1 h4 hnd
   obtain⟨p1,p2,p3⟩:=RN hp
   obtain⟨_,n3,n4,n5,_⟩:=K.new j t h1 h3
   have hat:=yj (S:=S) (outs:=outs) (by rw[K.len,alc,al8 K.n_le]) K.dupl (i:=j) (o:=oj) (x:=some y) (by rw[c8 h1];exact h4) hy h5
   rw[← K.sn] at hat
   refine⟨?_, ?_, ?_⟩
   ·rw[hat.2.1,n3];simp[DB,p1]
   ·rw[hat.2.2.1,n4];simp[C5,p2]
   ·rw[hat.2.2.2,n5];simp[GY,p3]
  refine hM.equiv rfl (fun k cs hk=> ?_) (fun k q hk=> ?_) (fun k q hk=> ?_)
  ·simp only[bA,bO]
   cases hu:aX ops m listed k with
   | true=>rw[show look (Sn.wt (bA S Sn (aX ops m listed)).tmps).boxes k=look Sn.boxes k from rfl,(hunb k hu).1] at hk;cases hk
   | false=>exact hk
  ·simp only[bA,bO]
   cases hu:aX ops m listed k with
   | true=>rw[show look (Sn.wt (bA S Sn (aX ops m listed)).tmps).rows k=look Sn.rows k from rfl,(hunb k hu).2.1] at hk;cases hk
   | false=>exact hk
  ·simp only[bA,bO]
   cases hu:aX ops m listed k with
   | true=>rw[show look (Sn.wt (bA S Sn (aX ops m listed)).tmps).objs k=look Sn.objs k from rfl,(hunb k hu).2.2] at hk;cases hk
   | false=>exact hk
 ·rw[amP e] at hM;exact hM
theorem cR.spine (K:cR X ops m S outs Sn) (Z:Bu X ops m n S outs Sn tf t1 T sv) (hwaits:∀ k,n≤k→k<ops.length→∀ j,j<k→j∈(deps ops).getD k m0)
 {Q:Exit→Act→World→Prop} (hseq:Region.seqB .any ops.toArray (ops.length - n) n (mask n ops.length)=true)
 (htail:∀ G ρ w a,Mod C G ρ (T (n - m)) w a→wpList X.P ops.toArray Q (ops.drop n) a w):∀ (u c:Nat) (listed:Array Bool) (a:Act) (w:World) (G:Gh) (ρ:Env),m+c≤n→listed.size=ops.length→x3 ops listed→
 (∀ k,m≤k→k<m+c→listed.getD k true=true)→(∀ k,m+c≤k→k<ops.length→listed.getD k true=false)→(List.range n).countP (fun i=> !listed.getD i true)=u→Ds C G ρ ops m S Sn T c listed w a→wpAny X.P .any ops.toArray Q (u+(ops.length - n)) listed a w:=by
 have hmn:=Z.lt
 have hnl:=Z.le
 intro u
 induction u with
 | zero=>
  intro c listed a w G ρ hc hsz hcl hdn htl hcnt hM
  have hall:∀ i,i<n→listed.getD i true=true:=fun i hi=>by
   rw[akz] at hcnt
   have:=hcnt i (by simpa using hi)
   simpa using this
  have ec:c=n - m:=by
   by_cases h:m+c<n
   ·have:=htl (m+c) (alZ _) (by omega)
    rw[hall (m+c) h] at this;cases this
   ·omega
  have hU:∀ t,aX ops m listed t=false:=fun t=>by
   cases hu:aX ops m listed t with
   | false=>rfl
   | true=>obtain⟨j,h1,h2,_⟩:=ef.1 hu;rw[hall j (by omega)] at h2;cases h2
  have hMn:Mod C G ρ (T (n - m)) w a:=by
   unfold Ds at hM
   rw[amP (by omega),ec] at hM
   refine hM.equiv ?_ (fun k cs hk=>hk) (fun k q hk=>hk) (fun k q hk=>hk)
   show (bA S (T (n - m)) (aX ops m listed)).tmps=_
   apply akH
   intro t
   rw[fK,hU t]
   have hl:=Z.len K (n - m) (by omega)
   by_cases hlt:t<S.tmps.length
   ·have:t<(T (n - m)).tmps.length:=by rw[hl];exact hlt
    simp[hlt,this]
   ·rw[amP hlt,akR (by omega)]
  have hmask:=S5 (n:=n) hsz hnl hall (fun i h1 h2=>htl i (by omega) h2)
  have hl:(ops.drop n).length=ops.length - n:=by simp
  have:=wpAny_of_seq (P:=X.P) (md:= .any) (ops:=ops.toArray) (Q':=Q) (ops.drop n) n listed a w (fun j=>by simp[akP]) (by rw[hl,hmask];exact hseq) (htail G ρ w a hMn)
  rw[hl] at this
  rw[amk]
  exact this
 | succ u ih=>
  intro c listed a w G ρ hc hsz hcl hdn htl hcnt hM
  have hsome:∃ i,i<n∧listed.getD i true=false:=by
   have:0<(List.range n).countP (fun i=> !listed.getD i true):=by omega
   rw[akA] at this
   obtain⟨i,h1,h2⟩:=this
   exact⟨i,by simpa using h1,by simpa using h2⟩
  rw[show u+1+(ops.length - n)=(u+(ops.length - n))+1 by omega]
  refine⟨fun hr=> ?_,fun i hi=> ?_⟩
  ·exfalso
   have hall:∀ i,i<n→listed.getD i true=true:=by
    intro i
    induction i using Nat.strongRecOn with
    | _ i ihi=>
     intro hin
     cases hl:listed.getD i true with
     | true=>rfl
     | false=>
      exfalso
      have hlt:i<ops.length:=by omega
      have hoi:ops[i]? =some ops[i]:=akQ hlt
      have:i∈Region.ready .any ops.toArray listed:=by
       rw[mem_ready]
       refine⟨hl,ops[i],by simp,fun e he hb=> ?_⟩
       have hE:=K.edges
       simp only[n6,akt] at hE
       have h7:=hE i (by simp;exact hlt)
       rw[hoi] at h7
       simp only[akt] at h7
       have h8:=h7 e (by simpa using he)
       simp only[hb,ajW,ajR] at h8
       have h9:e.on<i:=al2 (al6 _) (alX h8)
       have h10:=ihi e.on h9 (by omega)
       rw[ajA] at h10 ⊢
       rw[ajB (by omega)] at h10 ⊢
       simpa using h10
      rw[hr] at this
      cases this
   obtain⟨i,h1,h2⟩:=hsome
   rw[hall i h1] at h2;cases h2
  ·rw[mem_ready] at hi
   obtain⟨hun,o,hio,hed⟩:=hi
   have hoi:ops[i]? =some o:=by simpa using hio
   have hed':∀ e,e∈o.after.toList→Region.binds .any e=true→listed.getD e.on false=true:=fun e he hb=>hed e (by simpa using he) hb
   have hlt:i<ops.length:=(akS.1 hoi).1
   have hdeps:=fq K.edges hcl i o hoi hed'
   by_cases hin:i<n
   ·-- what the next round asks for
    have cl':x3 ops (listed.setIfInBounds i true):=by
     intro j oj hj hlj e he hb
     by_cases eji:j=i
     ·subst eji
      rw[hoi] at hj
      cases hj
      have:=hed' e he hb
      by_cases e2:e.on=j
      ·rw[e2];exact cN (by omega)
      ·rw[bH e2];exact this
     ·rw[bH eji] at hlj
      have:=hcl j oj hj hlj e he hb
      by_cases e2:e.on=i
      ·rw[e2];exact cN (by omega)
      ·rw[bH e2];exact this
    have cnt':(List.range n).countP (fun j=> !(listed.setIfInBounds i true).getD j true)=u:=by
     have:=Dq (p:=fun j=> !listed.getD j true) (q:=fun j=> !(listed.setIfInBounds i true).getD j true) (i:=i) (l:=List.range n) alz (by simpa using hin) (by simp[hun]) (fun j=>by
      by_cases e:j=i
      ·subst e;simp only[cN (listed:=listed) (b:=true) (by omega:j<listed.size)];simp
      ·simp only[bH (listed:=listed) (b:=true) e];simp[e])
     omega
    by_cases him:i<m
    ·have dn':∀ k,m≤k→k<m+c→(listed.setIfInBounds i true).getD k true=true:=fun k h1 h2=>by
      rw[bH (by omega)];exact hdn k h1 h2
     have tl':∀ k,m+c≤k→k<ops.length→(listed.setIfInBounds i true).getD k true=false:=fun k h1 h2=>by
      rw[bH (by omega)];exact htl k h1 h2
     have go:∀ G' ρ' w' a',Ds C G' ρ' ops m S Sn T c (listed.setIfInBounds i true) w' a'→wpAny X.P .any ops.toArray Q (u+(ops.length - n)) (listed.setIfInBounds i true) a' w':=
      fun G' ρ' w' a' hM'=>ih c (listed.setIfInBounds i true) a' w' G' ρ' hc (by simpa using hsz) cl' dn' tl' cnt' hM'
     by_cases ec:c=0
     ·unfold Ds at hM
      rw[amQ ec] at hM
      refine K.wpOp him hoi hsz hcl hun hed' hM (fun G' ρ' w' a' hM'=>go G' ρ' w' a' ?_)
      unfold Ds
      rw[amQ ec]
      exact hM'
     ·unfold Ds at hM
      rw[amP ec] at hM
      have hom:ops[m]? =some ops[m]:=akQ (by omega)
      have hlm:=hdn m (alZ m) (by omega)
      have hnd:i∉(deps ops).getD m m0:=fun hmem=>by
       have:=fq K.edges hcl m _ hom (fun e h1 h2=>hcl m _ hom hlm e h1 h2) i hmem
       rw[hun] at this;cases this
      obtain⟨hg,y,hy,hL,hp⟩:=Z.late i o him hoi hnd
      obtain⟨p1,p2,p3⟩:=RN hp
      obtain⟨hds,_⟩:=K.head i o him hoi
      obtain⟨d,hd⟩:=amt.1 hds
      have hdA:cn ops i=some d:=by unfold cn;rw[hoi];exact hd
      have hTlen:=Z.len K c hc
      have hlook:∀ t,t∈o.looksAt ops.toArray→(bA S (T c) (aX ops m listed)).tmps.getD t (.v false [.any])=(bA S Sn (aX ops m listed)).tmps.getD t (.v false [.any]):=fun t ht=>by
       have hno:∀ j,m≤j→j<m+c→cn ops j≠some t:=fun j h1 h2 h3=>by
        rcases Z.looks i o hin hoi t ht j (by omega) h3 with h4 | h4
        ·have:=SE K.edges i o hoi j h4
         omega
        ·have hoj:ops[j]? =some (ops[j]'(by omega)):=akQ (by omega)
         have:=fq K.edges hcl j _ hoj (fun e k1 k2=>hcl j _ hoj (hdn j h1 h2) e k1 k2) i h4
         rw[hun] at this;cases this
       have ho:=Z.other c hc t hno
       rw[akK,akK,fK,fK,MM ho]
      have hev:=K.evs him hoi hdeps
      unfold Go.wpOp
      rw[hio]
      simp only
      have hwt:Region.wanted o (yielded ops.toArray a.tmps)=true:=pz (g:=none) hM.tmps (by simp[guardOf,hg])
      rw[amQ hwt]
      left
      have hndj:∀ j,m≤j→j<m+c→i∉(deps ops).getD j m0:=fun j h1 h2 hmem=>by
       have hoj:ops[j]? =some (ops[j]'(by omega)):=akQ (by omega)
       have:=fq K.edges hcl j _ hoj (fun e k1 k2=>hcl j _ hoj (hdn j h1 h2) e k1 k2) i hmem
       rw[hun] at this;cases this
      obtain⟨r1,r2,r3⟩:=Z.near K him c hc hndj (N:=(T c).wt (bA S (T c) (aX ops m listed)).tmps) rfl rfl rfl
      have hnear:UH o (states ((ops.take m).take i) S (outs.take i)) (ko (tf i) S) ((T c).wt (bA S (T c) (aX ops m listed)).tmps):=
       ⟨fun z hz=>by
         rw[← hev z hz]
         cases z with
         | tmp t=>exact hlook t (by
          simp only[Oper.looksAt,alh,alm]
          exact .inl ⟨.tmp t,by simpa using hz,rfl⟩)
         | const v=>rfl
         | global g=>rfl
         | func f=>rfl,r1,r2,r3⟩
      have hwp:=hL C G ρ _ w a Q hM hnear (fun d' _ h=>by rw[p1] at h;cases h) (fun d' _ h=>by rw[p2] at h;cases h) (fun d' _ h=>by rw[p3] at h;cases h)
      refine Oper.wp_mono (fun a' w' h=> ?_) hwp
      obtain⟨G',ρ',hM'⟩:=h
      refine go G' ρ' w' a' ?_
      unfold Ds
      rw[amP ec]
      have e:y=⟨y.sv,none,none,none⟩:=by cases y;simp only at p1 p2 p3;subst p1;subst p2;subst p3;rfl
      have htm:(bA S (T c) (aX ops m (listed.setIfInBounds i true))).tmps=(bA S (T c) (aX ops m listed)).tmps.set d y.sv:=by
       have hU:=K.IE him hdA hsz hun
       have hat:=yj (S:=S) (outs:=outs) (by rw[K.len,alc,al8 K.n_le]) K.dupl (i:=i) (o:=o) (x:=some y) (by rw[c8 him];exact hoi) hy hd
       rw[← K.sn] at hat
       have ho:=Z.other c hc d (fun j h1 h2 h3=>by have:=Z.uniq i j d hin (by omega) hdA h3;omega)
       apply akH
       intro t
       rw[akW,fK,fK,hU t]
       by_cases e:d=t
       ·subst e
        have hlen:(bA S (T c) (aX ops m listed)).tmps.length=S.tmps.length:=by simp[bA]
        rw[hlen]
        by_cases hlt:d<S.tmps.length
        ·simp only[hlt,amR,amC,ajL,ajP,amO]
         rw[MM ho,akK,hat.1 hlt];rfl
        ·simp[hlt]
       ·rw[amP e]
        have:(t != d)=true:=by simp only[bne_iff_ne,ne_eq];exact fun h=>e h.symm
        rw[this,ajN]
      rw[htm]
      rw[hd,e] at hM'
      exact hM'
    ·-- the next of the stores' row
     have ei:i=m+c:=by
      by_cases h1:i<m+c
      ·have:=hdn i (by omega) h1
       rw[hun] at this;cases this
      ·by_cases h2:m+c<i
       ·have h3:=hdeps (m+c) (Z.wait i (m+c) (by omega) h2 hin)
        have:=htl (m+c) (alZ _) (by omega)
        rw[h3] at this;cases this
       ·omega
     subst ei
     have hdm:∀ j,j∈(deps ops).getD m m0→listed.getD j true=true:=fun j hj=>by
      by_cases ec:c=0
      ·subst ec;exact hdeps j hj
      ·have hom:ops[m]? =some ops[m]:=akQ (by omega)
       have hlm:=hdn m (alZ m) (by omega)
       exact fq K.edges hcl m _ hom (fun e h1 h2=>hcl m _ hom hlm e h1 h2) j hj
     have hM2:=Z.started K hdm hM
     have hstep:=Z.step c o hin hoi
     have hTlen:=Z.len K c hc
     have hTlen':=Z.len K (c+1) (by omega)
     have hog:=Z.guard (m+c) o (by omega) hin hoi
     have hev:∀ x,x∈o.op.operands→((T c).wt (bA S (T c) (aX ops m listed)).tmps).ev x=(T c).ev x:=fun x hx=>by
      cases x with
      | tmp t=>
       show (bA S (T c) (aX ops m listed)).tmps.getD t (.v false [.any])=(T c).tmps.getD t (.v false [.any])
       have hu:aX ops m listed t=false:=by
        cases hu:aX ops m listed t with
        | false=>rfl
        | true=>
         obtain⟨j,h1,h2,h3⟩:=ef.1 hu
         rcases Z.looks (m+c) o hin hoi t (by
          simp only[Oper.looksAt,alh,alm]
          exact .inl ⟨.tmp t,by simpa using hx,rfl⟩) j (by omega) h3 with h4 | h4
         ·have:=hdeps j h4
          rw[h2] at this;cases this
         ·have hoj:ops[j]? =some (ops[j]'(by omega)):=akQ (by omega)
          have:=SE K.edges j _ hoj (m+c) h4
          omega
       rw[akK,fK]
       by_cases hlt:t<S.tmps.length
       ·simp[hlt,hu]
       ·rw[amP hlt]
        have:(T c).tmps[t]? =none:=akR (by rw[hTlen];exact Nat.le_of_not_lt hlt)
        rw[akK,this]
      | const v=>rfl
      | global g=>rfl
      | func f=>rfl
     unfold Go.wpOp
     rw[hio]
     simp only
     have hwt:Region.wanted o (yielded ops.toArray a.tmps)=true:=pz (g:=none) hM2.tmps (by simp[guardOf,hog])
     rw[amQ hwt]
     left
     have hfr:∀ s,s∈(bA S (T c) (aX ops m listed)).tmps→s∈(T c).tmps∨afy S.ids s:=by
      intro s hs
      simp only[bA,alp,alv] at hs
      obtain⟨t,ht,rfl⟩:=hs
      split
      ·right
       intro d hd
       have hmem:S.tmps.getD t (.v false [.any])∈S.tmps:=by
        rw[akK,akQ ht];exact ak1 ht
       have:=(Kg (afe hd).1).2.1
       simp only[St.bR,ajX,aku] at this
       simpa using this.1 _ hmem
      ·left
       rw[akK,akQ (by rw[hTlen];exact ht)];exact ak1 _
     have hwp:=hstep.sound _ hev hfr C G ρ w a Q hM2
     refine Oper.wp_mono (fun a' w' h=> ?_) hwp
     obtain⟨G',ρ',hM'⟩:=h
     refine ih (c+1) (listed.setIfInBounds (m+c) true) a' w' G' ρ' (by omega) (by simpa using hsz) cl' (fun k h1 h2=> ?_) (fun k h1 h2=> ?_) cnt' ?_
     ·by_cases e:k=m+c
      ·subst e;exact cN (by omega)
      ·rw[bH e];exact hdn k h1 (by omega)
     ·rw[bH (by omega)];exact htl k (by omega) h2
     ·unfold Ds
      rw[amP (by omega)]
      have e:aX ops m (listed.setIfInBounds (m+c) true)=aX ops m listed:=funext (O8 (by omega))
      rw[e]
      have htm:(bA S (T (c+1)) (aX ops m listed)).tmps=VA (bA S (T c) (aX ops m listed)).tmps o.dst (sv c):=by
       have ht:=hstep.tmps
       cases hd:o.dst with
       | none=>
        rw[hd] at ht
        simp only[VA] at ht ⊢
        simp only[bA,ht]
       | some d=>
        rw[hd] at ht
        simp only[VA] at ht ⊢
        have hdA:cn ops (m+c)=some d:=by unfold cn;rw[hoi];exact hd
        have hu:aX ops m listed d=false:=by
         cases hu:aX ops m listed d with
         | false=>rfl
         | true=>
          obtain⟨j,h1,_,h3⟩:=ef.1 hu
          have:=Z.uniq j (m+c) d (by omega) hin h3 hdA
          omega
        apply akH
        intro t
        rw[akW,fK,fK]
        by_cases e:d=t
        ·subst e
         have hlen:(bA S (T c) (aX ops m listed)).tmps.length=S.tmps.length:=by simp[bA]
         rw[hlen,hu]
         by_cases hlt:d<S.tmps.length
         ·simp only[hlt,amR,ajP,amO]
          rw[ht,akK,akY (by rw[hTlen];exact hlt)];rfl
         ·simp[hlt]
        ·rw[amP e,ht]
         rw[show ((T c).tmps.set d (sv c)).getD t (.v false [.any])=(T c).tmps.getD t (.v false [.any]) from MM (akX e)]
      rw[htm]
      exact hM'
   ·exfalso
    obtain⟨j,h1,h2⟩:=hsome
    have hd:=hwaits i (by omega) hlt j (by omega)
    have:=hdeps j hd
    rw[h2] at this;cases this
end
theorem Wg (ops:List Oper) (S:St) (o:Oper) (l:List Oper):C9 (fI ops S [o]) (fI ops S (o::l))∧C9 (fI ops S l) (fI ops S (o::l)):=by
 simp only[fI]
 cases agj o.op with
 | some a=>
  dsimp only
  cases WW ops 9 a with
  | true=>exact⟨⟨nofun,fun k _=>by simp[rI,inL]⟩,⟨nofun,fun k h=>h⟩⟩
  | false=>
   simp only[amD]
   cases Nt ops S 9 a with
   | none=>exact⟨⟨nofun,fun k h=>by simp[rI] at h⟩,⟨nofun,fun k h=>by simp[rI] at h⟩⟩
   | some b=>
    refine⟨⟨fun _=>rfl,fun k h=> ?_⟩,⟨fun h=>h,fun k h=> ?_⟩⟩
    ·cases hb:(fI ops S l).bs with
     | none=>simp[rI,hb] at h
     | some q=>simp only[rI,hb,inL,List.any_cons,Bool.not_or,ajK,List.any_nil,ajV,and_true] at h ⊢;exact h.1
    ·cases hb:(fI ops S l).bs with
     | none=>simp[rI,hb] at h
     | some q=>simp only[rI,hb,inL,List.any_cons,Bool.not_or,ajK] at h ⊢;exact h.2
 | none=>
  dsimp only
  cases oo o.op with
  | true=>exact⟨⟨nofun,fun k _=>by simp[rI,inL]⟩,⟨nofun,fun k h=>h⟩⟩
  | false=>exact⟨⟨fun _=>rfl,fun k _=>by simp[rI,inL]⟩,⟨fun h=>h,fun k h=>h⟩⟩
theorem C9.trans {a b c:Touch} (h:C9 a b) (g:C9 b c):C9 a c:=⟨fun e=>h.1 (g.1 e),fun k hk=>h.2 k (g.2 k hk)⟩
theorem YU (ops:List Oper) (S:St) (o:Oper):∀ l:List Oper,o∈l→C9 (fI ops S [o]) (fI ops S l)
 | [],h=>by cases h
 | p::l,h=>by
  rcases ali.1 h with rfl | h
  ·exact (Wg ops S o l).1
  ·exact (YU ops S o l h).trans (Wg ops S p l).2
theorem Sd (hX:gw X) {ops:List Oper} {S:St} {k:St→Option β} {r:β} {m n:Nat} (hchk:NS ops m n=true) (h:OE X ops S k m n=some r) {Q:Exit→Act→World→Prop}
 (hQ:∀ S' G ρ w a,k S'=some r→Mod C G ρ S' w a→Q .normal a w) {a:Act} (hM:Mod C G ρ S w a):
 Go.wpAny X.P .any ops.toArray Q ops.toArray.size (Array.replicate ops.toArray.size false) a { w with drawn:=w.drawn+1 }:=by
 unfold OE at h
 obtain⟨outs,h1,h2,h3⟩:=MH hX h
 split at h2
 ·rename_i hnew
  simp only[NS,ajK] at hchk
  obtain⟨c0,c1,c2,c3,c4,c5,c6⟩:=hchk
  have hmn:m<n:=al2 (al6 _) (alX c0)
  have hn:n≤ops.length:=alX c1
  have K:=cR.of (X:=X) (alY (al2 hmn hn)) c2 c4 h1 (fun i o x hi hx=>(h3 i o x hi hx).1) hnew
  obtain⟨T,sv,t0,h4,h5⟩:=Nx hX h2
  simp only[ae9,ajK,ajU,akt] at c6
  obtain⟨cdup,call⟩:=c6
  have hget:∀ i o,i<n→ops[i]? =some o→(∀ t,t∈o.looksAt ops.toArray→∀ j,j<n→cn ops j=some t→j∈(deps ops).getD i m0∨i∈(deps ops).getD j m0)∧(i∉(deps ops).getD m m0→o.guard=none)∧(m≤i→∀ j,m≤j→j<i→j∈(deps ops).getD i m0):=fun i o hin hi=>by
   have h6:=call i (by simpa using hin)
   rw[hi] at h6
   simp only[ajK,akt,ajY,ams] at h6
   obtain⟨g1,g2,g3⟩:=h6
   refine⟨fun t ht j hj hdj=> ?_,fun hnd=> ?_,fun hmi j hmj hji=> ?_⟩
   ·have h7:=TY (g1 t ht) (k:=j) (by
     obtain⟨o',ho',hd'⟩:=l7 hdj
     rw[akT,c8 hj,ho',amx,hd'])
    rw[amk] at h7;exact h7
   ·rcases g2 with g2 | g2
    ·exact absurd (o9.1 g2) hnd
    ·exact g2
   ·rcases g3 with g3 | g3
    ·have:i<m:=al2 (al6 _) (alX g3)
     omega
    ·rcases g3 j (by simpa using hji) with g4 | g4
     ·have:j<m:=al2 (al6 _) (alX g4)
      omega
     ·exact o9.1 g4
  have hgd:∀ i o,m≤i→i<n→ops[i]? =some o→o.guard=none:=fun i o hmi hin hi=>(hget i o hin hi).2.1 fun hmem=>by
   have:=SE c4 m _ (akQ (show m<ops.length by omega)) i hmem
   omega
  have Z:Bu X ops m n S outs (states (ops.take m) S outs) (fun i=>fI ops S (adt ops m n i)) (fun o=>fI ops S [o]) T sv:={
   lt:=hmn
   le:=hn
   t0:=t0
   step:=fun c o hc hi=>h5 c o (by rw[akP,c8 hc];exact hi)
   cover:=fun i c o him hc hi hnd=>YU ops S o _ (by
    simp only[adt,alm,alv]
    refine⟨m+c,hc, ?_⟩
    have h1:Nat.ble m (m+c)=true:=Nat.ble_eq_true_of_le (by omega)
    have h2:inM ((deps ops).getD (m+c) m0) i=false:=by
     cases h3:inM ((deps ops).getD (m+c) m0) i with
     | false=>rfl
     | true=>exact absurd (o9.1 h3) hnd
    rw[h1,h2]
    exact hi)
   late:=fun i o him hi hnd=>by
    have hg:=(hget i o (by omega) hi).2.1 hnd
    obtain⟨x,hx⟩:∃ x,outs[i]? =some x:=⟨outs[i]'(by rw[K.len];exact him),akQ _⟩
    have h6:=(h3 i o x (by rw[c8 him];exact hi) hx).2 (by
     rw[amk]
     cases hm:inM ((deps ops).getD m m0) i with
     | false=>rfl
     | true=>exact absurd (o9.1 hm) hnd) hg
    rw[amk] at h6
    obtain⟨y,rfl,hL,hp⟩:=h6
    exact⟨hg,y,hx,hL,hp⟩
   guard:=hgd
   wait:=fun i j hmj hji hin=>(hget i _ hin (akQ (show i<ops.length by omega))).2.2 (by omega) j hmj hji
   looks:=fun i o hin hi=>(hget i o hin hi).1
   uniq:=fun i j d hin hjn hdi hdj=>by
    obtain⟨oi,e1,e2⟩:=l7 hdi
    obtain⟨oj,e3,e4⟩:=l7 hdj
    rcases al7 i j with h | h | h
    ·have:=(nD (l:=ops.take n) cdup (i:=j) (o:=oj) (d:=d) (by rw[c8 hjn];exact e3) e4).2
     exact absurd (Bn (ops:=ops.take n) (i:=j) (j:=i) (by rw[c8 hin];exact e1) e2 h) this
    ·exact h
    ·have:=(nD (l:=ops.take n) cdup (i:=i) (o:=oi) (d:=d) (by rw[c8 hin];exact e1) e2).2
     exact absurd (Bn (ops:=ops.take n) (i:=i) (j:=j) (by rw[c8 hjn];exact e3) e4 h) this }
  have hM':=hM.of_heap (w':={ w with drawn:=w.drawn+1 }) rfl rfl rfl
  have hll:((ops.take n).drop m).length=n - m:=by simp;omega
  rw[hll] at h4
  have hsp:=K.spine (C:=C) (Q:=Q) Z (Pc c3) c5 (fun G ρ w a hMn=>xZ hX ops (ops.drop n) h4 hQ hMn) n 0 (Array.replicate ops.toArray.size false) a { w with drawn:=w.drawn+1 } G ρ (by omega) (by simp) Er
   (fun k h1 h2=>by omega) (fun k _ hk2=>yN hk2 true) (Ga hn) (by
     unfold Ds
     rw[amQ rfl]
     exact Lb (alY (al2 hmn hn)) hM')
  rw[show n+(ops.length - n)=ops.toArray.size by simp;omega] at hsp
  exact hsp
 ·cases h2
theorem RE (hX:gw X) {ops:List Oper} {S:St} {k:St→Option β} {els:Option β} {r:β} (h:Ox X ops S k els=some r) {Q:Exit→Act→World→Prop}
 (hQ:∀ S' G ρ w a,k S'=some r→Mod C G ρ S' w a→Q .normal a w) {a:Act} (hM:Mod C G ρ S w a)
 (hels:els=some r→Go.wpAny X.P .any ops.toArray Q ops.toArray.size (Array.replicate ops.toArray.size false) a { w with drawn:=w.drawn+1 }):
 Go.wpAny X.P .any ops.toArray Q ops.toArray.size (Array.replicate ops.toArray.size false) a { w with drawn:=w.drawn+1 }:=by
 unfold Ox at h
 simp only at h
 split at h
 ·rename_i hchk
  generalize Kl (deps ops) ops.length=n at h hchk
  obtain⟨outs,h1,h2,h3⟩:=Bp hX h
  split at h2
  ·rename_i hnew
   simp only[aeY,ajK] at hchk
   obtain⟨⟨⟨⟨⟨c1,c2⟩,c3⟩,c4⟩,c5⟩,_⟩:=hchk
   have hn:n≤ops.length:=alX c1
   have K:=cR.of (X:=X) hn c2 c4 h1 h3 hnew
   have hM':=hM.of_heap (w':={ w with drawn:=w.drawn+1 }) rfl rfl rfl
   have hany:=K.any (C:=C) (Q:=Q) (Pc c3) c5 (fun G ρ w a hMn=>xZ hX ops (ops.drop n) h2 hQ hMn) n (Array.replicate ops.toArray.size false) a { w with drawn:=w.drawn+1 } G ρ (by simp) Er
    (fun m _ hm2=>yN hm2 true) (Ga hn) (Lb hn hM')
   rw[show n+(ops.length - n)=ops.toArray.size by simp;omega] at hany
   exact hany
  ·cases h2
 ·split at h
  ·rename_i hchk
   generalize Kl (deps ops) ops.length - 1=m at h hchk
   obtain⟨outs,h1,h2,h3⟩:=Bp hX h
   split at h2
   ·rename_i hnew
    simp only[ac6,ajK] at hchk
    obtain⟨⟨⟨⟨⟨⟨c1,c2⟩,c3⟩,c4⟩,c5⟩,c6⟩,_⟩:=hchk
    have hm:m<ops.length:=alX c1
    have K:=cR.of (X:=X) (alY hm) c2 c4 h1 h3 hnew
    have hos:ops[m]? =some ops[m]:=akQ hm
    unfold agA at c6
    rw[hos] at c6
    simp only[ajK,ams,akt] at c6
    obtain⟨⟨⟨⟨g1,g2⟩,g3⟩,g4⟩,g5⟩:=c6
    have hst:∃ t ad x,ops[m].op= .store t ad x:=by
     revert g1
     cases ops[m].op<;>intro g1<;>first | exact⟨_,_,_,rfl⟩ | exact absurd g1 ajQ
    obtain⟨ty,ad,x,hop⟩:=hst
    rw[akC hm] at h2
    have h2':fG X ops[m] (states (ops.take m) S outs) (fun S=>pG X ops (ops.drop (m+1)) S k)=some r:=by
     simpa [pG,guardOf,g2] using h2
    obtain⟨S',h4,h5,h6⟩:=Wh hop h2'
    have hM':=hM.of_heap (w':={ w with drawn:=w.drawn+1 }) rfl rfl rfl
    have hlate:=K.late (C:=C) (Q:=Q) hm (Pc c3) hos g2 (fun i him=>by
     have:=g4 i (by simpa using him)
     simp only[ajY] at this
     rcases this with h | h
     ·exact .inl (o9.1 h)
     ·right
      have hoi:ops[i]? =some ops[i]:=akQ (by omega)
      rw[hoi] at h
      simp only[ajK,ams] at h
      exact⟨_,hoi,h⟩)
     (fun t ht j hj hdj=>by
       have:=g5 t (by simpa using ht) j (by simpa using hj)
       rw[amQ (by simp[hdj])] at this
       exact o9.1 this)
     (S':=S') ⟨h5,fun tm hev=>by
       have hs:=h6 tm (hev ad (by simp[hop,Op.operands])) (hev x (by simp[hop,Op.operands]))
       obtain⟨S2,e2,hs2⟩:=Jb hX hs
       cases e2
       exact hs2⟩ c5
     (fun G ρ w a hMn=>xZ hX ops (ops.drop (m+1)) h4 hQ hMn) (m+1) (Array.replicate ops.toArray.size false) a { w with drawn:=w.drawn+1 } G ρ (by simp) Er
     (fun k _ hk2=>yN hk2 true) (Ga hm) (by
       unfold vY
       rw[amP (by rw[yN hm];simp)]
       exact Lb (alY hm) hM')
    rw[show m+1+(ops.length - (m+1))=ops.toArray.size by simp;omega] at hlate
    exact hlate
   ·cases h2
  ·split at h
   ·rename_i hchk
    generalize Kl (deps ops) ops.length - 1=m at h hchk
    obtain⟨outs,h1,h2,h3⟩:=Bp hX h
    split at h2
    ·rename_i hnew
     simp only[adi,ajK] at hchk
     obtain⟨⟨⟨⟨⟨⟨c1,c2⟩,c3⟩,c4⟩,c5⟩,c6⟩,_⟩:=hchk
     have hm:m<ops.length:=alX c1
     have K:=cR.of (X:=X) (alY hm) c2 c4 h1 h3 hnew
     have hos:ops[m]? =some ops[m]:=akQ hm
     unfold aeU at c6
     rw[hos] at c6
     simp only[ajK,ams,akt] at c6
     obtain⟨⟨⟨⟨g1,g2⟩,g3⟩,g4⟩,g5⟩:=c6
     unfold runM at h2
     rw[hos] at h2
     simp only at h2
     split at h2
     ·rename_i ty ad x hop
      split at h2
      ·rename_i b off had
       obtain⟨S',h4,h5,h6,h7,h8⟩:=agB hop had h2
       cases hfc:(RA ops m).all fun d=> !S'.boxes.any fun p=>p.2.any (CV.bR d) with
       | false=>rw[hfc] at h4;cases h4
       | true=>
        rw[hfc,amE] at h4
        simp only[akt,ajU] at hfc
        have hM':=hM.of_heap (w':={ w with drawn:=w.drawn+1 }) rfl rfl rfl
        have hlate:=K.ajp (C:=C) (Q:=Q) hm (Pc c3) hos g2 (fun i him=>by
         have:=g4 i (by simpa using him)
         simp only[ajY] at this
         rcases this with h | h
         ·exact .inl (o9.1 h)
         ·right
          have hoi:ops[i]? =some ops[i]:=akQ (by omega)
          rw[hoi] at h
          simp only[ajK,ams] at h
          exact⟨_,hoi,h⟩)
         (fun t ht j hj hdj=>by
           have:=g5 t (by simpa using ht) j (by simpa using hj)
           rw[amQ (by simp[hdj])] at this
           exact o9.1 this)
         (S':=S') ⟨h5,h6,h7,fun tm rw ob hev=>by
           have hs:=h8 tm rw ob (hev ad (by simp[hop,Op.operands])) (hev x (by simp[hop,Op.operands]))
           obtain⟨S2,e2,hs2⟩:=Jb hX hs
           cases e2
           exact hs2⟩
         (fun i d p him hnd hpi hmk hpd=>hfc d (by
           simp only[RA,alm,alv]
           refine⟨i,him, ?_⟩
           rw[hpi]
           have h9:inM ((deps ops).getD m m0) i=false:=by
            cases h3:inM ((deps ops).getD m m0) i with
            | false=>rfl
            | true=>exact absurd (o9.1 h3) hnd
           simp only[hmk,h9,ajV,ajM,amR]
           exact hpd)) c5
         (fun G ρ w a hMn=>xZ hX ops (ops.drop (m+1)) h4 hQ hMn) (m+1) (Array.replicate ops.toArray.size false) a { w with drawn:=w.drawn+1 } G ρ (by simp) Er
         (fun k _ hk2=>yN hk2 true) (Ga hm) (by
           unfold rQ
           rw[amP (by rw[yN hm];simp)]
           exact Lb (alY hm) hM')
        rw[show m+1+(ops.length - (m+1))=ops.toArray.size by simp;omega] at hlate
        exact hlate
      ·cases h2
     ·cases h2
    ·cases h2
   ·split at h
    ·rename_i hchk
     exact Sd hX hchk h hQ hM
    ·split at h
     ·rename_i hchk
      simp only[ajK] at hchk
      exact Sd hX hchk.1 h hQ hM
     ·exact hels h
end Go.Dn
namespace Go.Dn
structure afK (ops ops':Array Oper) (σ τ:Nat→Nat):Prop where
 size:ops'.size=ops.size
 lt:∀ i,i<ops.size→σ i<ops.size∧τ (σ i)=i
 lt':∀ j,j<ops.size→τ j<ops.size∧σ (τ j)=j
 op:∀ (i:Nat) (o:Oper),ops[i]? =some o→ops'[σ i]? =some (SN σ o)
 guard:∀ (i:Nat) (o:Oper),ops[i]? =some o→o.guard=none
 edge:∀ (i:Nat) (o:Oper),ops[i]? =some o→∀ e:Edge,e∈o.after→e.on<ops.size
theorem afK.wpAny {P:Program} {ops ops':Array Oper} {σ τ:Nat→Nat} (H:afK ops ops' σ τ) {Q:Exit→Act→World→Prop}:∀ (u:Nat) (listed listed':Array Bool) (a:Act) (w:World),listed.size=ops.size→listed'.size=ops.size→
 (∀ i b,i<ops.size→listed'.getD (σ i) b=listed.getD i b)→Go.wpAny P .any ops' Q u listed' a w→Go.wpAny P .any ops Q u listed a w:=by
 have rd:∀ (listed listed':Array Bool),(∀ i b,i<ops.size→listed'.getD (σ i) b=listed.getD i b)→∀ i,i<ops.size→(σ i∈Region.ready .any ops' listed'↔i∈Region.ready .any ops listed):=by
  intro listed listed' hl i hi
  have hoi:ops[i]? =some ops[i]:=ajB hi
  have hop:=H.op i _ hoi
  rw[mem_ready,mem_ready,hl i true hi]
  constructor
  ·rintro⟨h1,o',ho',h2⟩
   refine⟨h1,ops[i],hoi,fun e he hb=> ?_⟩
   rw[hop] at ho'
   cases ho'
   have:=h2 { e with on:=σ e.on } (by simp only[SN,Array.mem_map];exact⟨e,he,rfl⟩) hb
   rw[← hl e.on false (H.edge i _ hoi e he)]
   exact this
  ·rintro⟨h1,o,ho,h2⟩
   refine⟨h1,_,hop,fun e' he' hb=> ?_⟩
   simp only[SN,Array.mem_map] at he'
   obtain⟨e,he,rfl⟩:=he'
   rw[hoi] at ho
   cases ho
   have:=h2 e he hb
   show listed'.getD (σ e.on) false=true
   rw[hl e.on false (H.edge i _ hoi e he)]
   exact this
 have rlt:∀ (ops:Array Oper) (listed:Array Bool) i,i∈Region.ready .any ops listed→i<ops.size:=by
  intro ops listed i hi
  rw[mem_ready] at hi
  obtain⟨_,o,ho,_⟩:=hi
  exact (ajC.1 ho).1
 have emp:∀ (listed listed':Array Bool),(∀ i b,i<ops.size→listed'.getD (σ i) b=listed.getD i b)→(Region.ready .any ops' listed'=[]↔Region.ready .any ops listed=[]):=by
  intro listed listed' hl
  constructor
  ·intro h
   rw[List.eq_nil_iff_forall_not_mem] at h ⊢
   intro i hi
   exact h (σ i) ((rd listed listed' hl i (rlt _ _ i hi)).2 hi)
  ·intro h
   rw[List.eq_nil_iff_forall_not_mem] at h ⊢
   intro j hj
   have hjl:j<ops.size:=by rw[← H.size];exact rlt _ _ j hj
   obtain⟨t1,t2⟩:=H.lt' j hjl
   exact h (τ j) ((rd listed listed' hl (τ j) t1).1 (by rw[t2];exact hj))
 intro u
 induction u with
 | zero=>
  intro listed listed' a w s1 s2 hl h
  exact⟨(emp listed listed' hl).1 h.1,h.2⟩
 | succ u ih=>
  intro listed listed' a w s1 s2 hl h
  refine⟨fun hr=>h.1 ((emp listed listed' hl).2 hr),fun i hi=> ?_⟩
  have hil:=rlt _ _ i hi
  have hoi:ops[i]? =some ops[i]:=ajB hil
  have hop:=H.op i _ hoi
  have hg:=H.guard i _ hoi
  have h1:=h.2 (σ i) ((rd listed listed' hl i hil).2 hi)
  have next:∀ a w,Go.wpAny P .any ops' Q u (listed'.setIfInBounds (σ i) true) a w→Go.wpAny P .any ops Q u (listed.setIfInBounds i true) a w:=by
   intro a w h
   refine ih _ _ a w (by simpa using s1) (by simpa using s2) (fun j b hj=> ?_) h
   by_cases e:j=i
   ·subst e
    rw[cN (by rw[s2];exact (H.lt j hj).1),cN (by omega)]
   ·have hne:σ j≠σ i:=fun e2=>e (by have:=congrArg τ e2;rw[(H.lt j hj).2,(H.lt i hil).2] at this;exact this)
    rw[bH hne,bH e]
    exact hl j b hj
  unfold Go.wpOp at h1 ⊢
  rw[hop] at h1
  rw[hoi]
  simp only at h1 ⊢
  have w1:∀ y,Region.wanted ops[i] y=true:=fun y=>by simp[Region.wanted,hg]
  have w2:∀ y,Region.wanted (SN σ ops[i]) y=true:=fun y=>by simp[Region.wanted,SN,hg]
  rw[amQ (w2 _)] at h1
  rw[amQ (w1 _)]
  rcases h1 with h1 | h1
  ·left
   exact Oper.wp_mono (fun a' w' h'=>next a' w' h') h1
  ·exact .inr h1
theorem abK {ops:List Oper} {p:List Nat} (h:Yz ops p=true):afK ops.toArray (Ns ops p).toArray (posOf p) (fun j=>p.getD j ops.length):=by
 simp only[Yz,ajK,akt,alv,ams] at h
 obtain⟨h1,h2,h3,h4⟩:=h
 have h1':=alV h1
 have lt:∀ {a b:Nat},Nat.blt a b=true→a<b:=fun h=>alX h
 have hlen:(Ns ops p).length=ops.length:=by
  unfold Ns
  split
  ·rfl
  ·rw[ak5,h1']
 refine⟨by simpa using hlen,fun i hi=> ?_,fun j hj=> ?_,fun i o hi=> ?_,fun i o hi=> ?_,fun i o hi e he=> ?_⟩
 ·have hi':i<ops.length:=by simpa using hi
  exact⟨by simpa using lt (h2 i hi').1,alV (h2 i hi').2⟩
 ·have hj':j<ops.length:=by simpa using hj
  exact⟨by simpa using lt (h3 j hj').1,alV (h3 j hj').2⟩
 ·have hi1:ops[i]? =some o:=by simpa using hi
  have hi':i<ops.length:=(akS.1 hi1).1
  have e1:=alV (h2 i hi').2
  have e2:=lt (h2 i hi').1
  have e3:p[posOf p i]? =some i:=by
   have hlt:posOf p i<p.length:=by omega
   rw[akK,akQ hlt] at e1
   rw[akQ hlt]
   exact congrArg some e1
  rw[List.getElem?_toArray]
  unfold Ns
  split
  ·rename_i hn;simp at hi1
  ·rename_i o0 r
   rw[akT,e3,amx,akK,hi1]
   rfl
 ·have hi1:ops[i]? =some o:=by simpa using hi
  exact (h4 o (alr hi1)).1
 ·have hi1:ops[i]? =some o:=by simpa using hi
  simpa using lt ((h4 o (alr hi1)).2 e (by simpa using he))
variable {C:Fr} {G:Gh} {ρ:Env} {X:Cx} {w:World} {β:Type}
theorem afH (hX:gw X) (hmix:X.P.follows .mixedOrders=true) {ops:List Oper} {S:St} {k:St→Option β} {r:β} (h:aeQ X ops S k=some r) {Q:Exit→Act→World→Prop}
 (hQ:∀ S' G ρ w a,k S'=some r→Mod C G ρ S' w a→Q .normal a w) {a:Act} (hM:Mod C G ρ S w a) (id:Nat):(Code.region id ops.toArray true).wp X.P Q a w:=by
 refine wp_region_any hmix ?_
 refine RE hX h hQ hM fun h'=> ?_
 split at h'
 ·rename_i hp
  have H:=abK hp
  have h2:=RE hX h' hQ hM (fun h=>by cases h)
  rw[H.size] at h2
  refine H.wpAny _ _ _ _ _ (by simp) (by simp) (fun i b hi=> ?_) h2
  have:=(H.lt i hi).1
  simp only[ajA,ajD,hi,this,amR]
 ·cases h'
end Go.Dn
