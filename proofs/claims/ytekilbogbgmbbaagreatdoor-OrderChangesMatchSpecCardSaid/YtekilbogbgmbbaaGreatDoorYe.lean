/-
  The executor, its fourth part: regions that draw their order are sound. No condition.
-/
import Derived.Test.YtekilbogbgmbbaaGreatDoorYc
set_option linter.all false
namespace Go.Dn
variable {β:Type} {X:Cx} {C:Fr X.P} {G:Gh} {ρ:Env} {w:World}
theorem vO {p q:Nat->Bool} {i:Nat}:∀ {l:List Nat},l.Nodup->i∈l->p i=true->(∀ j,q j=(p j&&j != i))->l.countP p=l.countP q+1
 | [],_,hi,_,_=>by simp at hi
 | j::l,hn,hi,hp,hq=>by
  rw[List.nodup_cons] at hn
  by_cases e:j=i
  ·subst e
   have h1:q j=false:=by rw[hq];simp
   have h2:l.countP p=l.countP q:=by
    refine List.countP_congr fun m hm=> ?_
    have:m≠j:=fun e=>hn.1 (e ▸ hm)
    rw[hq];simp[this]
   rw[List.countP_cons,List.countP_cons,hp,h1,h2];simp
  ·have hi':i∈l:=by
    rcases aeP.1 hi with h | h
    ·exact absurd h.symm e
    ·exact h
   have h1:q j=p j:=by rw[hq];simp[e]
   rw[List.countP_cons,List.countP_cons,h1,vO hn.2 hi' hp hq]
   omega
theorem Cg:∀ {l:List Oper} {S:St} {outs:List (Option Del)} {p:Nat×List CV},p∈(states l S outs).boxes->p∈S.boxes\/∃ (j:Nat) (o:Oper) (x:Option Del) (d:Nat) (c:List CV),l[j]? =some o/\outs[j]? =some x/\o.dst=some d/\wC x=some c/\p=(d,c)
 | [],S,outs,p,h=>by cases outs<;>exact .inl h
 | o::l,S,[],p,h=> .inl h
 | o::l,S,x::xs,p,h=>by
  simp only[states] at h
  rcases Cg h with h1 | ⟨j,o',x',d,c,h1,h2,h3⟩
  ·cases x with
   | none=>left;simpa [St.out] using h1
   | some y=>
    cases hd:o.dst with
    | none=>left;simpa [St.out,St.app,hd] using h1
    | some d=>
     cases hb:y.box with
     | none=>left;simpa [St.out,St.app,hd,hb] using h1
     | some c=>
      have h2:p=(d,c)\/p∈S.boxes:=by simpa [St.out,St.app,hd,hb] using h1
      rcases h2 with h2 | h2
      ·exact .inr ⟨0,o,some y,d,c,rfl,rfl,hd,hb,h2⟩
      ·exact .inl h2
  ·exact .inr ⟨j+1,o',x',d,c,by simpa using h1,by simpa using h2,h3⟩
section
variable {ops:List Oper} {n:Nat} {S Sn:St} {listed:Array Bool} {outs:List (Option Del)}
theorem cx {i:Nat} {b:Bool} (h:i<listed.size):(listed.setIfInBounds i true).getD i b=true:=by
 rw[acZ,ac5 h];rfl
theorem aQ {i j:Nat} {b:Bool} (h:j≠i):(listed.setIfInBounds i true).getD j b=listed.getD j b:=by
 rw[acZ,acZ,ac4 (by omega)]
theorem cw.xo (K:cw X ops n S outs Sn) {i d:Nat} (hin:i<n) (hd:bT ops i=some d) (hsz:listed.size=ops.length) (hun:listed.getD i true=false) (t:Nat): az ops n (listed.setIfInBounds i true) t=(az ops n listed t&&t != d):=by
 have his:i<listed.size:=by rw[hsz];exact afx hin K.n_le
 rw[adk,cV,adf,cV]
 constructor
 ·rintro⟨j,h1,h2,h3⟩
  have hji:j≠i:=fun e=>by subst e;rw[cx his] at h2;cases h2
  rw[aQ hji] at h2
  refine⟨⟨j,h1,h2,h3⟩, ?_⟩
  simp only[bne_iff_ne,ne_eq]
  intro e
  subst e
  exact hji (K.uniq h1 hin h3 hd)
 ·rintro⟨⟨j,h1,h2,h3⟩,h4⟩
  have hji:j≠i:=fun e=>by
   subst e
   rw[hd] at h3
   cases h3
   simp at h4
  exact⟨j,h1,by rw[aQ hji];exact h2,h3⟩
theorem vY {S:St} {d:Nat} (h:S.dz d=false):S.bU d=false/\S.aZ d=false/\S.bC d=false/\S.bq d=false:=by
 have cv:∀ c:CV,c.dz d=false->c.bU d=false/\c.aZ d=false/\c.bC d=false/\c.bq d=false:=fun c hc=>by
  simpa [CV.dz] using hc
 have cs:∀ l:List CV,l.any (CV.dz d)=false->l.any (CV.bU d)=false/\l.any (CV.aZ d)=false/\l.any (CV.bC d)=false/\l.any (CV.bq d)=false:=fun l hl=>by
  simp only[adR] at hl ⊢
  exact⟨fun c hc=>by simp[(cv c (by simpa using hl c hc)).1],fun c hc=>by simp[(cv c (by simpa using hl c hc)).2.1],fun c hc=>by simp[(cv c (by simpa using hl c hc)).2.2.1],fun c hc=>by simp[(cv c (by simpa using hl c hc)).2.2.2]⟩
 have sv:∀ s:SV,s.dz d=false->s.bU d=false/\s.aZ d=false/\s.bC d=false/\s.bq d=false:=fun s hs=>by
  cases s with
  | v a l=>exact cs l hs
  | tup l=>
   simp only[SV.dz,adR] at hs
   simp only[SV.bU,SV.aZ,SV.bC,SV.bq,adR]
   exact⟨fun p hp=>by simp[(cs p.2 (by simpa using hs p hp)).1],fun p hp=>by simp[(cs p.2 (by simpa using hs p hp)).2.1],fun p hp=>by simp[(cs p.2 (by simpa using hs p hp)).2.2.1],fun p hp=>by simp[(cs p.2 (by simpa using hs p hp)).2.2.2]⟩
 simp only[St.dz,adt,adR] at h
 have h1:∀ s,s∈S.tmps->s.dz d=false:=fun s hs=>by simpa using h.1 s hs
 have h2:∀ p,p∈S.boxes->p.2.any (CV.dz d)=false:=fun p hp=>by simpa using h.2 p hp
 simp only[St.bU,St.aZ,St.bC,St.bq,adt,adR]
 exact⟨⟨fun s hs=>by simp[(sv s (h1 s hs)).1],fun p hp=>by simp[(cs p.2 (h2 p hp)).1]⟩,⟨fun s hs=>by simp[(sv s (h1 s hs)).2.1],fun p hp=>by simp[(cs p.2 (h2 p hp)).2.1]⟩,
  ⟨fun s hs=>by simp[(sv s (h1 s hs)).2.2.1],fun p hp=>by simp[(cs p.2 (h2 p hp)).2.2.1]⟩,⟨fun s hs=>by simp[(sv s (h1 s hs)).2.2.2],fun p hp=>by simp[(cs p.2 (h2 p hp)).2.2.2]⟩⟩
theorem cw.fresh (K:cw X ops n S outs Sn) (hcl:nR ops listed) {i d:Nat} (hin:i<n) (hd:bT ops i=some d) (hun:listed.getD i true=false): (aE S Sn (az ops n listed)).dz d=false:=by
 obtain⟨n1,n3,n4,n4',n5⟩:=K.new i d hin hd
 have done:∀ j dj,j<n->bT ops j=some dj->az ops n listed dj=false->PJ Sn d dj=false:=fun j dj hj hdj hu=>by
  have hlj:listed.getD j true=true:=by
   cases h:listed.getD j true with
   | true=>rfl
   | false=>have:=cV.2 ⟨j,hj,h,hdj⟩;rw[hu] at this;cases this
  refine n5 j dj hj hdj (fun e=>by subst e;rw[hun] at hlj;cases hlj) (fun hm=> ?_)
  obtain⟨oj,ho,_⟩:=ir hdj
  have:=cQ K.edges hcl j oj ho (fun e h1 h2=>hcl j oj ho hlj e h1 h2) i hm
  rw[hun] at this;cases this
 simp only[St.dz,adt,adR] at n1
 have tmpS:∀ t,(S.tmps.getD t (.v false [.any])).dz d=false:=fun t=>by
  rw[aea]
  cases h:S.tmps[t]? with
  | none=>rfl
  | some s=>simpa using n1.1 s (aeW h)
 have tmpsOk:∀ s,s∈(aE S Sn (az ops n listed)).tmps->s.dz d=false:=fun s hs=>by
  simp only[aE,aeV,aeZ] at hs
  obtain⟨t,ht,rfl⟩:=hs
  cases hu:az ops n listed t with
  | true=>simpa using tmpS t
  | false=>
   simp only[adl,agc]
   by_cases hex:∃ j,j<n/\bT ops j=some t
   ·obtain⟨j,h1,h2⟩:=hex
    have:=done j t h1 h2 hu
    simp only[PJ,adt] at this
    exact this.1
   ·have hnd:t∉fm (ops.take n):=by
     intro hm
     simp only[fm,aeT] at hm
     obtain⟨p,hp,hpd⟩:=hm
     obtain⟨m,hm⟩:=aeU.1 hp
     have hmn:m<n:=by
      have:=(aej.1 hm).1
      simp at this;omega
     rw[cH hmn] at hm
     exact hex ⟨m,hmn,by unfold bT;rw[hm];exact hpd⟩
    have:Sn.tmps[t]? =S.tmps[t]? :=by rw[K.sn];exact (er hnd).1
    rw[EG this]
    exact tmpS t
 have boxesOk:∀ p,p∈(aE S Sn (az ops n listed)).boxes->p.2.any (CV.dz d)=false:=fun p hp=>by
  simp only[aE,aeS,adq] at hp
  obtain⟨hp,hu⟩:=hp
  rw[K.sn] at hp
  rcases Cg hp with h | ⟨j,o',x',dj,cj,h1,h2,h3,h4,h5⟩
  ·simpa using n1.2 p h
  ·subst h5
   have hjn:j<n:=by
    have:=(aej.1 h1).1
    simp at this;omega
   have hdj:bT ops j=some dj:=by unfold bT;rw[cH hjn] at h1;rw[h1];exact h3
   have:=done j dj hjn hdj hu
   have hlook:look Sn.boxes dj=some cj:=by
    rw[K.sn,(rZ (by rw[K.len,aeH,afC K.n_le]) K.dupl h1 h2 h3).2.1,h4];rfl
   simp only[PJ,hlook,adt] at this
   exact this.2
 simp only[St.dz,adt,adR]
 exact⟨fun s hs=>by simp[tmpsOk s hs],fun p hp=>by simp[boxesOk p hp]⟩
theorem cw.next (K:cw X ops n S outs Sn) {i d:Nat} {o:Oper} {x:Option Del} (hin:i<n) (hi:ops[i]? =some o) (hd:o.dst=some d) (hx:outs[i]? =some x) (hsz:listed.size=ops.length) (hun:listed.getD i true=false) {a:Act} (hM:Mod C G ρ ((aE S Sn (az ops n listed)).out o x) w a):Mod C G ρ (aE S Sn (az ops n (listed.setIfInBounds i true))) w a:=by
 have hdA:bT ops i=some d:=by unfold bT;rw[hi];exact hd
 have hU:=K.xo hin hdA hsz hun
 obtain⟨n1,n3,n4,n4',_⟩:=K.new i d hin hdA
 have hat:=rZ (S:=S) (outs:=outs) (by rw[K.len,aeH,afC K.n_le]) K.dupl (i:=i) (o:=o) (x:=x) (by rw[cH hin];exact hi) hx hd
 rw[<- K.sn] at hat
 refine hM.equiv ?_ ?_ ?_ ?_
 ·rw[Mo hd]
  apply ad6
  intro t
  rw[aen,ep,ep,hU t]
  by_cases e:d=t
  ·subst e
   have hlen:(aE S Sn (az ops n listed)).tmps.length=S.tmps.length:=by simp[aE]
   rw[hlen]
   by_cases hlt:d<S.tmps.length
   ·simp only[hlt,agf,af0,adg,adl,agc]
    rw[aea,hat.1 hlt];rfl
   ·simp[hlt]
  ·rw[agd e]
   have:(t != d)=true:=by simp only[bne_iff_ne,ne_eq];exact fun h=>e h.symm
   rw[this,adi]
 ·intro k cs hk
  simp only[aE,aO,hU k] at hk
  rw[IX hd]
  split at hk
  ·cases hk
  ·rename_i hc
   by_cases e:k=d
   ·subst e
    rw[hat.2.1,n3] at hk
    simp only[agf]
    cases hb:wC x with
    | none=>rw[hb] at hk;cases hk
    | some c=>rw[hb] at hk;simpa using hk
   ·rw[agd e]
    simp only[aE,aO]
    rw[agd]
    ·exact hk
    ·intro hu
     apply hc
     simp[hu,e]
 ·intro k q hk
  simp only[aE,aO,hU k] at hk
  rw[Mn hd]
  split at hk
  ·cases hk
  ·rename_i hc
   by_cases e:k=d
   ·subst e
    rw[hat.2.2.1,n4] at hk
    simp only[agf]
    cases hb:vB x with
    | none=>rw[hb] at hk;cases hk
    | some c=>rw[hb] at hk;simpa using hk
   ·rw[agd e]
    simp only[aE,aO]
    rw[agd]
    ·exact hk
    ·intro hu
     apply hc
     simp[hu,e]
 ·intro k q hk
  simp only[aE,aO,hU k] at hk
  rw[Mm hd]
  split at hk
  ·cases hk
  ·rename_i hc
   by_cases e:k=d
   ·subst e
    rw[hat.2.2.2,n4'] at hk
    simp only[agf]
    cases hb:zo x with
    | none=>rw[hb] at hk;cases hk
    | some c=>rw[hb] at hk;simpa using hk
   ·rw[agd e]
    simp only[aE,aO]
    rw[agd]
    ·exact hk
    ·intro hu
     apply hc
     simp[hu,e]
theorem cw.wpOp (K:cw X ops n S outs Sn) {Q:Exit->Act->World->Prop} {K':Act->World->Prop} {a:Act} {i:Nat} {o:Oper} (hin:i<n) (hi:ops[i]? =some o) (hsz:listed.size=ops.length) (hcl:nR ops listed) (hun:listed.getD i true=false) (hed:∀ e,e∈o.after.toList->Region.binds .any e=true->listed.getD e.on false=true) (hM:Mod C G ρ (aE S Sn (az ops n listed)) w a) (hK:∀ G' ρ' w' a',Mod C G' ρ' (aE S Sn (az ops n (listed.setIfInBounds i true))) w' a'->K' a' w'):Go.wpOp X.P ops.toArray Q i K' a w:=by
 obtain⟨hds,hlk⟩:=K.head i o hin hi
 obtain⟨d,hd⟩:=afS.1 hds
 have hdA:bT ops i=some d:=by unfold bT;rw[hi];exact hd
 have hdeps:=cQ K.edges hcl i o hi hed
 obtain⟨x,hx⟩:∃ x,outs[i]? =some x:=⟨outs[i]'(by rw[K.len];exact hin),aeh _⟩
 have hst:=K.step i o x hin hi hx
 have hgd:=K.guards hin hi hdeps
 have hev:=K.evs hin hi hdeps
 unfold Go.wpOp
 have hio:ops.toArray[i]? =some o:=by simpa using hi
 rw[hio]
 simp only
 cases x with
 | none=>
  have hw:Region.wanted o (yielded ops.toArray a.tmps)=false:=by
   rcases hst with ⟨dg,b,want,hg,hb⟩ | hs
   ·have hw:=gI hM.tmps (by rw[hgd];exact hg)
    simp only at hw
    rw[hw.2,hb]
   ·exact Gu hM.tmps (by rw[K.abG hin hi hdeps];exact hs)
  rw[agd (by rw[hw];simp)]
  exact hK G ρ w _ (K.next hin hi hd hx hsz hun (hM.put o.dst (fun _ _=>OD)))
 | some y=>
  obtain⟨⟨hL,_⟩,hg⟩:=hst
  have hwt:Region.wanted o (yielded ops.toArray a.tmps)=true:=by
   rcases hg with hg | ⟨dg,b,want,hg,hb⟩
   ·exact gI hM.tmps (g:=none) (by rw[hgd];exact hg)
   ·have hw:=gI hM.tmps (by rw[hgd];exact hg)
    simp only at hw
    rw[hw.2,hb]
  rw[age hwt]
  left
  have hfr:=vY (K.fresh hcl hin hdA hun)
  have hnear:Fe o (states ((ops.take n).take i) S (outs.take i)) S (aE S Sn (az ops n listed)):=by
   have nolook:∀ k,(look S.boxes k).isSome=true\/(look S.rows k).isSome=true\/(look S.objs k).isSome=true->az ops n listed k=false/\look Sn.boxes k=look S.boxes k/\look Sn.rows k=look S.rows k/\look Sn.objs k=look S.objs k:=fun k hk=>by
    have hnd:∀ j,j<n->bT ops j≠some k:=fun j hj hdj=>by
     obtain⟨_,m3,m4,m5,_⟩:=K.new j k hj hdj
     rcases hk with hk | hk | hk
     ·rw[m3] at hk;cases hk
     ·rw[m4] at hk;cases hk
     ·rw[m5] at hk;cases hk
    refine⟨?_, ?_⟩
    ·cases hu:az ops n listed k with
     | false=>rfl
     | true=>obtain⟨j,h1,_,h3⟩:=cV.1 hu;exact absurd h3 (hnd j h1)
    ·have:k∉fm (ops.take n):=fun hm=>by
      simp only[fm,aeT] at hm
      obtain⟨p,hp,hpd⟩:=hm
      obtain⟨m,hm⟩:=aeU.1 hp
      have hmn:m<n:=by
       have:=(aej.1 hm).1
       simp at this;omega
      rw[cH hmn] at hm
      exact hnd m hmn (by unfold bT;rw[hm];exact hpd)
     rw[K.sn]
     exact (er this).2
   refine⟨hev,fun k cs hk=> ?_,fun k q hk=> ?_,fun k q hk=> ?_⟩
   ·obtain⟨h1,h2,_⟩:=nolook k (.inl (by rw[hk];rfl))
    simp only[aE,aO,h1,adl,agc];rw[h2];exact hk
   ·obtain⟨h1,_,h2,_⟩:=nolook k (.inr (.inl (by rw[hk];rfl)))
    simp only[aE,aO,h1,adl,agc];rw[h2];exact hk
   ·obtain⟨h1,_,_,h2⟩:=nolook k (.inr (.inr (by rw[hk];rfl)))
    simp only[aE,aO,h1,adl,agc];rw[h2];exact hk
  have hwp:=hL C G ρ _ w a Q hM hnear (fun d' hd' _=>by rw[hd] at hd';cases hd';exact hfr.1) (fun d' hd' _=>by rw[hd] at hd';cases hd';exact hfr.2.1) (fun d' hd' _=>by rw[hd] at hd';cases hd';exact hfr.2.2)
  refine Oper.wp_mono (fun a' w' h=> ?_) hwp
  obtain⟨G',ρ',hM'⟩:=h
  exact hK G' ρ' w' a' (K.next hin hi hd hx hsz hun hM')
theorem JP {N:Nat} (hsz:listed.size=N) (hn:n<=N) (h1:∀ i,i<n->listed.getD i true=true) (h2:∀ i,n<=i->i<N->listed.getD i true=false):listed=mask n N:=by
 apply Array.ext_getElem?
 intro i
 simp only[mask,aes]
 by_cases c1:i<n
 ·rw[aec (by simpa using c1),List.getElem?_replicate_of_lt c1]
  have:=h1 i c1
  rw[acZ,ac0 (by omega)] at this
  rw[ac0 (by omega)]
  simpa using this
 ·by_cases c2:i<N
  ·rw[aed (by simpa using c1),List.getElem?_replicate_of_lt (by simp;omega)]
   have:=h2 i (by omega) c2
   rw[acZ,ac0 (by omega)] at this
   rw[ac0 (by omega)]
   simpa using this
  ·rw[Array.getElem?_eq_none (by omega),aei (by simp;omega)]
theorem cw.any (K:cw X ops n S outs Sn) (hwaits:∀ k,n<=k->k<ops.length->∀ j,j<k->j∈(deps ops).getD k m0) {Q:Exit->Act->World->Prop} (hseq:Region.seqB .any ops.toArray (ops.length - n) n (mask n ops.length)=true) (htail:∀ G ρ w a,Mod C G ρ Sn w a->wpList X.P ops.toArray Q (ops.drop n) a w):∀ (u:Nat) (listed:Array Bool) (a:Act) (w:World) (G:Gh) (ρ:Env),listed.size=ops.length->nR ops listed-> (∀ k,n<=k->k<ops.length->listed.getD k true=false)->(List.range n).countP (fun i=> !listed.getD i true)=u->Mod C G ρ (aE S Sn (az ops n listed)) w a->wpAny X.P .any ops.toArray Q (u+(ops.length - n)) listed a w:=by
 intro u
 induction u with
 | zero=>
  intro listed a w G ρ hsz hcl htl hcnt hM
  have hall:∀ i,i<n->listed.getD i true=true:=fun i hi=>by
   rw[adW] at hcnt
   have:=hcnt i (by simpa using hi)
   simpa using this
  have hU:∀ t,az ops n listed t=false:=fun t=>by
   cases hu:az ops n listed t with
   | false=>rfl
   | true=>obtain⟨j,h1,h2,_⟩:=cV.1 hu;rw[hall j h1] at h2;cases h2
  have hMn:Mod C G ρ Sn w a:=by
   refine hM.equiv ?_ (fun k cs hk=> ?_) (fun k q hk=> ?_) (fun k q hk=> ?_)
   ·apply ad6
    intro t
    rw[ep,hU t]
    by_cases hlt:t<S.tmps.length
    ·have:t<Sn.tmps.length:=by rw[K.tZ];exact hlt
     simp[hlt,this]
    ·rw[agd hlt,aei (by rw[K.tZ];omega)]
   ·simp only[aE,aO,hU k,adl,agc];exact hk
   ·simp only[aE,aO,hU k,adl,agc];exact hk
   ·simp only[aE,aO,hU k,adl,agc];exact hk
  have hmask:=JP (n:=n) hsz K.n_le hall htl
  have hl:(ops.drop n).length=ops.length - n:=by simp
  have:=wpAny_of_seq (P:=X.P) (md:= .any) (ops:=ops.toArray) (Q':=Q) (ops.drop n) n listed a w (fun j=>by simp[aeg]) (by rw[hl,hmask];exact hseq) (htail G ρ w a hMn)
  rw[hl] at this
  rw[afM]
  exact this
 | succ u ih=>
  intro listed a w G ρ hsz hcl htl hcnt hM
  have hsome:∃ i,i<n/\listed.getD i true=false:=by
   have:0<(List.range n).countP (fun i=> !listed.getD i true):=by omega
   rw[adY] at this
   obtain⟨i,h1,h2⟩:=this
   exact⟨i,by simpa using h1,by simpa using h2⟩
  rw[show u+1+(ops.length - n)=(u+(ops.length - n))+1 by omega]
  refine⟨fun hr=> ?_,fun i hi=> ?_⟩
  ·exfalso
   have hall:∀ i,i<n->listed.getD i true=true:=by
    intro i
    induction i using Nat.strongRecOn with
    | _ i ihi=>
     intro hin
     cases hl:listed.getD i true with
     | true=>rfl
     | false=>
      exfalso
      have hlt:i<ops.length:=afx hin K.n_le
      have hoi:ops[i]? =some ops[i]:=aeh hlt
      have:i∈Region.ready .any ops.toArray listed:=by
       rw[mem_ready]
       refine⟨hl,ops[i],by simp,fun e he hb=> ?_⟩
       have hE:=K.edges
       simp only[gO,adQ] at hE
       have h7:=hE i (by simp;exact hlt)
       rw[hoi] at h7
       simp only[adQ] at h7
       have h8:=h7 e (by simpa using he)
       simp only[hb,ads,adn] at h8
       have h9:e.on<i:=afx (afA _) (afr h8)
       have h10:=ihi e.on h9 (by omega)
       rw[acZ] at h10 ⊢
       rw[ac0 (by omega)] at h10 ⊢
       simpa using h10
      rw[hr] at this
      cases this
   obtain⟨i,h1,h2⟩:=hsome
   rw[hall i h1] at h2;cases h2
  ·rw[mem_ready] at hi
   obtain⟨hun,o,hio,hed⟩:=hi
   have hoi:ops[i]? =some o:=by simpa using hio
   have hed':∀ e,e∈o.after.toList->Region.binds .any e=true->listed.getD e.on false=true:=fun e he hb=>hed e (by simpa using he) hb
   by_cases hin:i<n
   ·refine K.wpOp hin hoi hsz hcl hun hed' hM (fun G' ρ' w' a' hM'=>ih (listed.setIfInBounds i true) a' w' G' ρ' (by simpa using hsz) ?_ ?_ ?_ hM')
    ·intro j oj hj hlj e he hb
     by_cases eji:j=i
     ·subst eji
      rw[hoi] at hj
      cases hj
      have:=hed' e he hb
      by_cases e2:e.on=j
      ·rw[e2];exact cx (by rw[hsz];exact afx hin K.n_le)
      ·rw[aQ e2];exact this
     ·rw[aQ eji] at hlj
      have:=hcl j oj hj hlj e he hb
      by_cases e2:e.on=i
      ·rw[e2];exact cx (by rw[hsz];exact afx hin K.n_le)
      ·rw[aQ e2];exact this
    ·intro k hk1 hk2
     rw[aQ (by omega)]
     exact htl k hk1 hk2
    ·have:=vO (p:=fun j=> !listed.getD j true) (q:=fun j=> !(listed.setIfInBounds i true).getD j true) (i:=i) (l:=List.range n) List.nodup_range (by simpa using hin) (by simp[hun]) (fun j=>by
      by_cases e:j=i
      ·subst e;simp only[cx (listed:=listed) (b:=true) (by rw[hsz];exact afx hin K.n_le)];simp
      ·simp only[aQ (listed:=listed) (b:=true) e];simp[e])
     omega
   ·exfalso
    have hlt:i<ops.length:=(aej.1 hoi).1
    obtain⟨m,h1,h2⟩:=hsome
    have hd:=hwaits i (by omega) hlt m (by omega)
    have:=cQ K.edges hcl i o hoi hed' m hd
    rw[h2] at this;cases this
theorem cw.of (hn:n<=ops.length) (c2:EH ops (deps ops) n=true) (c4:gO ops=true) (h1:outs.length=(ops.take n).length) (h3:∀ i o x,(ops.take n)[i]? =some o->outs[i]? =some x->Cr X ops S o (states ((ops.take n).take i) S (outs.take i)) x) (hnew:zl ops n S (states (ops.take n) S outs)=true):cw X ops n S outs (states (ops.take n) S outs):=by
 have hlen:(ops.take n).length=n:=by simp;omega
 simp only[EH,adf,adq] at c2
 exact {
  n_le:=hn
  dupl:=c2.1
  head:=fun i o hin hi=>by
   have:=c2.2
   simp only[adQ] at this
   have h5:=this i (by simpa using hin)
   rw[hi] at h5
   simp only[adf,adQ] at h5
   refine⟨h5.1,fun t ht j hj hdj=> ?_⟩
   have h6:=Nt (h5.2 t ht) (k:=j) (by
    obtain⟨o',ho',hd'⟩:=ir hdj
    rw[aek,cH hj,ho',afU,hd'])
   rw[afM] at h6;exact h6
  edges:=c4
  len:=by rw[h1,hlen]
  sn:=rfl
  step:=fun i o x hin hi hx=>h3 i o x (by rw[cH hin];exact hi) hx
  new:=fun i d hin hd=>by
   simp only[zl,adf,adQ] at hnew
   obtain⟨o',ho',hd'⟩:=ir hd
   have h5:=hnew.1 o' (aeW (by rw[cH hin];exact ho'))
   rw[hd'] at h5
   simp only[adq] at h5
   obtain⟨g1,g2,g3,g4⟩:=VF h5
   refine⟨g1,g2,g3,g4,fun j dj hj hdj hij hnd=> ?_⟩
   have h6:=hnew.2 j (by simpa using hj)
   rw[hdj] at h6
   simp only[adQ] at h6
   rw[aaF]
   cases hin':inL (Sl (states (ops.take n) S outs) dj) d with
   | false=>rfl
   | true=>
    have h7:=h6 d (VG.1 hin') i (by simpa using hin)
    rw[hd] at h7
    simp only[adu,afn,ads] at h7
    rcases h7 with h7 | h7 | h7
    ·exact absurd (afp h7) hij
    ·exact absurd (gP.1 h7) hnd
    ·cases h7 }
theorem Cl {m:Nat} (c3:((List.range ops.length).all fun k=>Nat.blt k m||vh (deps ops) k)=true):∀ k,m<=k->k<ops.length->∀ j,j<k->j∈(deps ops).getD k m0:=fun k hm1 hm2 j hj=>by
 simp only[adQ] at c3
 have h5:=c3 k (by simpa using hm2)
 simp only[adu] at h5
 rcases h5 with h5 | h5
 ·have:k<m:=afx (afA _) (afr h5)
  omega
 ·simp only[vh,adQ] at h5
  exact gP.1 (h5 j (by simpa using hj))
theorem rY:nR ops (Array.replicate ops.toArray.size false):=by
 intro i o hi hl
 have hlt:=(aej.1 hi).1
 rw[acZ,ac3,age (by simpa using hlt)] at hl
 cases hl
theorem pI {m:Nat} (hm:m<ops.length) (b:Bool):(Array.replicate ops.toArray.size false).getD m b=false:=by
 rw[acZ,ac3,age (by simpa using hm)]
 rfl
theorem uk {m:Nat} (hm:m<=ops.length):(List.range m).countP (fun i=> !(Array.replicate ops.toArray.size false).getD i true)=m:=by
 have:(List.range m).countP (fun i=> !(Array.replicate ops.toArray.size false).getD i true)=(List.range m).length:=by
  rw[List.countP_eq_length]
  intro i hi
  have hin:i<m:=by simpa using hi
  rw[pI (by omega)];rfl
 rw[this];simp
theorem zK (hn:n<=ops.length) {a:Act} (hM':Mod C G ρ S w a):Mod C G ρ (aE S (states (ops.take n) S outs) (az ops n (Array.replicate ops.toArray.size false))) w a:=by
 have hother:∀ t,az ops n (Array.replicate ops.toArray.size false) t=false->t∉fm (ops.take n):=fun t hu hm=>by
  simp only[fm,aeT] at hm
  obtain⟨p,hp,hpd⟩:=hm
  obtain⟨m,hm⟩:=aeU.1 hp
  have hmn:m<n:=by
   have:=(aej.1 hm).1
   simp at this;omega
  rw[cH hmn] at hm
  have:=cV.2 ⟨m,hmn,pI (ops:=ops) (by omega) true,show bT ops m=some t by unfold bT;rw[hm];exact hpd⟩
  rw[hu] at this;cases this
 refine hM'.equiv ?_ (fun k cs hk=> ?_) (fun k q hk=> ?_) (fun k q hk=> ?_)
 ·apply ad6
  intro t
  rw[ep]
  by_cases hlt:t<S.tmps.length
  ·rw[age hlt,aeh hlt]
   congr 1
   cases hu:az ops n (Array.replicate ops.toArray.size false) t with
   | true=>simp[hlt]
   | false=>
    have:=(er (S:=S) (outs:=outs) (hother t hu)).1
    simp only[adl,agc]
    rw[aea,this,aeh hlt];rfl
  ·rw[agd hlt,aei (by omega)]
 ·simp only[aE,aO] at hk
  split at hk
  ·cases hk
  ·rename_i hu
   rw[(er (hother k (by simpa using hu))).2.1] at hk;exact hk
 ·simp only[aE,aO] at hk
  split at hk
  ·cases hk
  ·rename_i hu
   rw[(er (hother k (by simpa using hu))).2.2.1] at hk;exact hk
 ·simp only[aE,aO] at hk
  split at hk
  ·cases hk
  ·rename_i hu
   rw[(er (hother k (by simpa using hu))).2.2.2] at hk;exact hk
end
end Go.Dn
namespace Go.Dn
variable {β:Type} {X:Cx} {C:Fr X.P} {G:Gh} {ρ:Env} {w:World}
theorem oJ {S T:St} {fb:List Nat} (hr:S.rows=T.rows) (hb:S.boxes=T.boxes):∀ (t:Ty) (cs:List CV),fE S fb t cs=fE T fb t cs
 | .int _,_=>rfl
 | .bool,_=>rfl
 | .str,_=>rfl
 | .unit,_=>rfl
 | .pair a b,cs=>by
  simp only[fE]
  rw[oJ hr hb a cs]
  cases fE T fb a cs with
  | none=>rfl
  | some p=>simp only[oJ hr hb b]
 | .st t,cs=>oJ hr hb t cs
 | .slice t,cs=>by
  simp only[fE]
  congr 1
  funext c
  cases c<;>simp only[Od,hr]
 | .ptr t,cs=>by
  simp only[fE]
  congr 1
  have e:fE S fb t=fE T fb t:=funext (oJ hr hb t)
  rw[e]
  funext c
  cases c<;>simp only[PB,hb]
 | .clo g t,cs=>by
  simp only[fE]
  have e:fE S fb t=fE T fb t:=funext (oJ hr hb t)
  rw[e]
 | .hnd,_=>rfl
def St.wt (S:St) (tm:List SV):St:={ S with tmps:=tm }
theorem Oz {o:Oper} {S:St} {k:St->Option β} {r:β} {t:TypeId} {ad x:Operand} (ho:o.op= .store t ad x) (h:cJ X o S k=some r): ∃ S',k S'=some r/\S'.tmps=S.tmps/\∀ tm,(S.wt tm).ev ad=S.ev ad->(S.wt tm).ev x=S.ev x->cJ X o (S.wt tm) some=some (S'.wt tm):=by
 obtain⟨dst,op,ty,pos,af,g⟩:=o
 simp only at ho
 subst ho
 simp only[cJ] at h
 split at h
 ·cases h
 ·rename_i hdst
  split at h
  ·rename_i b off a' cs ha hx
   unfold r0 at h
   split at h
   ·rename_i l hl
    split at h
    ·rename_i hc
     split at h
     ·rename_i l' hl'
      refine⟨_,h,rfl,fun tm e1 e2=> ?_⟩
      simp only[cJ]
      rw[agd hdst,e1,e2,ha,hx]
      simp only
      unfold r0
      rw[show look (S.wt tm).boxes b=look S.boxes b from rfl,hl]
      simp only
      rw[age hc,hl']
      rfl
     ·cases h
    ·cases h
   ·cases h
  ·rename_i j sz i off a' cs ha hx
   unfold yg at h
   split at h
   ·rename_i q hq
    split at h
    ·cases h
    ·rename_i hc
     cases hy:q.l[i]? with
     | none=>rw[hy] at h;cases h
     | some y=>
      rw[hy] at h
      simp only[afO] at h
      split at h
      ·rename_i cs' hcs
       split at h
       ·rename_i y' hy'
        refine⟨_,h,rfl,fun tm e1 e2=> ?_⟩
        simp only[cJ]
        rw[agd hdst,e1,e2,ha,hx]
        simp only
        unfold yg
        rw[show look (aG (S.wt tm) (gy cs)).rows j=look (aG S (gy cs)).rows j from rfl,hq]
        simp only
        rw[agd hc,hy]
        simp only[afO,hcs]
        have e3:gX (pack (aG (S.wt tm) (gy cs)) q.t cs')=some y':=by
         rw[<- hy'];unfold pack;rw[oJ (S:=aG (S.wt tm) (gy cs)) (T:=aG S (gy cs)) rfl rfl]
        rw[e3]
        rfl
       ·cases h
      ·cases h
   ·cases h
  ·rename_i hh off a' cs ha hx
   unfold A7 at h
   split at h
   ·rename_i ty' l hq
    split at h
    ·cases h
    ·rename_i hc
     cases hy:l[hh]? with
     | none=>rw[hy] at h;cases h
     | some y=>
      rw[hy] at h
      simp only[afO] at h
      split at h
      ·rename_i cs' hcs
       split at h
       ·rename_i y' hy'
        refine⟨_,h,rfl,fun tm e1 e2=> ?_⟩
        simp only[cJ]
        rw[agd hdst,e1,e2,ha,hx]
        simp only
        unfold A7
        rw[show look (aG (S.wt tm) (gy cs)).objs bz=look (aG S (gy cs)).objs bz from rfl,hq]
        simp only
        rw[agd hc,hy]
        simp only[afO,hcs]
        have e3:gX (pack (aG (S.wt tm) (gy cs)) ty' cs')=some y':=by
         rw[<- hy'];unfold pack;rw[oJ (S:=aG (S.wt tm) (gy cs)) (T:=aG S (gy cs)) rfl rfl]
        rw[e3]
        rfl
       ·cases h
      ·cases h
   ·cases h
  ·cases h
section
variable {ops:List Oper} {m:Nat} {S Sn S':St} {listed:Array Bool} {outs:List (Option Del)} {os:Oper}
theorem cw.VO (K:cw X ops m S outs Sn) {i d:Nat} {o:Oper} (him:i<m) (hi:ops[i]? =some o) (hb:vo o.op=true) (hg:o.guard=none) (hd:o.dst=some d): ∃ x:Del,outs[i]? =some (some x)/\dx X.P o (states ((ops.take m).take i) S (outs.take i)) rD x/\x.box=none/\x.row=none/\x.obj=none/\ look Sn.boxes d=none/\look Sn.rows d=none/\look Sn.objs d=none:=by
 obtain⟨y,hy⟩:∃ y,outs[i]? =some y:=⟨outs[i]'(by rw[K.len];exact him),aeh _⟩
 have hst:=K.step i o y him hi hy
 cases y with
 | none=>
  rcases hst with ⟨dg,b,want,hgd,_⟩ | hs
  ·simp only[guardOf,hg] at hgd
   cases hgd
  ·simp only[Dn.lW,hg] at hs
   cases hs
 | some x=>
  obtain⟨⟨_,h2⟩,_⟩:=hst
  obtain⟨h3,h4,h5,h6⟩:=h2.1 hb
  have hdA:bT ops i=some d:=by unfold bT;rw[hi];exact hd
  obtain⟨_,n3,n4,n5,_⟩:=K.new i d him hdA
  have hat:=rZ (S:=S) (outs:=outs) (by rw[K.len,aeH,afC K.n_le]) K.dupl (i:=i) (o:=o) (x:=some x) (by rw[cH him];exact hi) hy hd
  rw[<- K.sn] at hat
  refine⟨x,hy,h3,h4,h5,h6, ?_, ?_, ?_⟩
  ·rw[hat.2.1,n3];simp[wC,h4]
  ·rw[hat.2.2.1,n4];simp[vB,h5]
  ·rw[hat.2.2.2,n5];simp[zo,h6]
theorem cw.QE (K:cw X ops m S outs Sn) {i d:Nat} {o:Oper} {x:Option Del} (hin:i<m) (hi:ops[i]? =some o) (hd:o.dst=some d) (hx:outs[i]? =some x) (hsz:listed.size=ops.length) (hun:listed.getD i true=false): (aE S Sn (az ops m (listed.setIfInBounds i true))).tmps=(aE S Sn (az ops m listed)).tmps.set d (Ss x):=by
 have hdA:bT ops i=some d:=by unfold bT;rw[hi];exact hd
 have hU:=K.xo hin hdA hsz hun
 have hat:=rZ (S:=S) (outs:=outs) (by rw[K.len,aeH,afC K.n_le]) K.dupl (i:=i) (o:=o) (x:=x) (by rw[cH hin];exact hi) hx hd
 rw[<- K.sn] at hat
 apply ad6
 intro t
 rw[aen,ep,ep,hU t]
 by_cases e:d=t
 ·subst e
  have hlen:(aE S Sn (az ops m listed)).tmps.length=S.tmps.length:=by simp[aE]
  rw[hlen]
  by_cases hlt:d<S.tmps.length
  ·simp only[hlt,agf,af0,adg,adl,agc]
   rw[aea,hat.1 hlt];rfl
  ·simp[hlt]
 ·rw[agd e]
  have:(t != d)=true:=by simp only[bne_iff_ne,ne_eq];exact fun h=>e h.symm
  rw[this,adi]
theorem Gy {i:Nat} (hi:m<=i) (t:Nat):az ops m (listed.setIfInBounds i true) t=az ops m listed t:=by
 rw[adk,cV,cV]
 constructor
 ·rintro⟨j,h1,h2,h3⟩;rw[aQ (by omega)] at h2;exact⟨j,h1,h2,h3⟩
 ·rintro⟨j,h1,h2,h3⟩;exact⟨j,h1,by rw[aQ (by omega)];exact h2,h3⟩
def qb {P0:Program} (C:Fr P0) (G:Gh) (ρ:Env) (ops:List Oper) (m:Nat) (S Sn S':St) (listed:Array Bool) (w:World) (a:Act):Prop:=
 if listed.getD m true=true then Mod C G ρ (S'.wt (aE S Sn (az ops m listed)).tmps) w a else Mod C G ρ (aE S Sn (az ops m listed)) w a
theorem cw.late (K:cw X ops m S outs Sn) (hm:m<ops.length) (hwaits:∀ k,m+1<=k->k<ops.length->∀ j,j<k->j∈(deps ops).getD k m0) (hos:ops[m]? =some os) (hog:os.guard=none) (hblind:∀ i,i<m->i∈(deps ops).getD m m0\/∃ p,ops[i]? =some p/\vo p.op=true/\p.guard=none) (hlk:∀ t,t∈os.looksAt ops.toArray->∀ j,j<m->bT ops j=some t->j∈(deps ops).getD m m0) (hS':S'.tmps=Sn.tmps/\∀ tm,(∀ x,x∈os.op.operands->(Sn.wt tm).ev x=Sn.ev x)->eU X.P os (Sn.wt tm) (S'.wt tm)) {Q:Exit->Act->World->Prop} (hseq:Region.seqB .any ops.toArray (ops.length - (m+1)) (m+1) (mask (m+1) ops.length)=true) (htail:∀ G ρ w a,Mod C G ρ S' w a->wpList X.P ops.toArray Q (ops.drop (m+1)) a w):∀ (u:Nat) (listed:Array Bool) (a:Act) (w:World) (G:Gh) (ρ:Env),listed.size=ops.length->nR ops listed-> (∀ k,m+1<=k->k<ops.length->listed.getD k true=false)->(List.range (m+1)).countP (fun i=> !listed.getD i true)=u->qb C G ρ ops m S Sn S' listed w a->wpAny X.P .any ops.toArray Q (u+(ops.length - (m+1))) listed a w:=by
 intro u
 induction u with
 | zero=>
  intro listed a w G ρ hsz hcl htl hcnt hM
  have hall:∀ i,i<m+1->listed.getD i true=true:=fun i hi=>by
   rw[adW] at hcnt
   have:=hcnt i (by simpa using hi)
   simpa using this
  have hU:∀ t,az ops m listed t=false:=fun t=>by
   cases hu:az ops m listed t with
   | false=>rfl
   | true=>obtain⟨j,h1,h2,_⟩:=cV.1 hu;rw[hall j (by omega)] at h2;cases h2
  have hMn:Mod C G ρ S' w a:=by
   unfold qb at hM
   rw[age (hall m (by omega))] at hM
   refine hM.equiv ?_ (fun k cs hk=>hk) (fun k q hk=>hk) (fun k q hk=>hk)
   show (aE S Sn (az ops m listed)).tmps=S'.tmps
   rw[hS'.1]
   apply ad6
   intro t
   rw[ep,hU t]
   by_cases hlt:t<S.tmps.length
   ·have:t<Sn.tmps.length:=by rw[K.tZ];exact hlt
    simp[hlt,this]
   ·rw[agd hlt,aei (by rw[K.tZ];omega)]
  have hmask:=JP (n:=m+1) hsz (by omega) hall htl
  have hl:(ops.drop (m+1)).length=ops.length - (m+1):=by simp
  have:=wpAny_of_seq (P:=X.P) (md:= .any) (ops:=ops.toArray) (Q':=Q) (ops.drop (m+1)) (m+1) listed a w (fun j=>by simp[aeg]) (by rw[hl,hmask];exact hseq) (htail G ρ w a hMn)
  rw[hl] at this
  rw[afM]
  exact this
 | succ u ih=>
  intro listed a w G ρ hsz hcl htl hcnt hM
  have hsome:∃ i,i<m+1/\listed.getD i true=false:=by
   have:0<(List.range (m+1)).countP (fun i=> !listed.getD i true):=by omega
   rw[adY] at this
   obtain⟨i,h1,h2⟩:=this
   exact⟨i,by simpa using h1,by simpa using h2⟩
  rw[show u+1+(ops.length - (m+1))=(u+(ops.length - (m+1)))+1 by omega]
  refine⟨fun hr=> ?_,fun i hi=> ?_⟩
  ·exfalso
   have hall:∀ i,i<m+1->listed.getD i true=true:=by
    intro i
    induction i using Nat.strongRecOn with
    | _ i ihi=>
     intro hin
     cases hl:listed.getD i true with
     | true=>rfl
     | false=>
      exfalso
      have hlt:i<ops.length:=by omega
      have hoi:ops[i]? =some ops[i]:=aeh hlt
      have:i∈Region.ready .any ops.toArray listed:=by
       rw[mem_ready]
       refine⟨hl,ops[i],by simp,fun e he hb=> ?_⟩
       have hE:=K.edges
       simp only[gO,adQ] at hE
       have h7:=hE i (by simp;exact hlt)
       rw[hoi] at h7
       simp only[adQ] at h7
       have h8:=h7 e (by simpa using he)
       simp only[hb,ads,adn] at h8
       have h9:e.on<i:=afx (afA _) (afr h8)
       have h10:=ihi e.on h9 (by omega)
       rw[acZ] at h10 ⊢
       rw[ac0 (by omega)] at h10 ⊢
       simpa using h10
      rw[hr] at this
      cases this
   obtain⟨i,h1,h2⟩:=hsome
   rw[hall i h1] at h2;cases h2
  ·rw[mem_ready] at hi
   obtain⟨hun,o,hio,hed⟩:=hi
   have hoi:ops[i]? =some o:=by simpa using hio
   have hed':∀ e,e∈o.after.toList->Region.binds .any e=true->listed.getD e.on false=true:=fun e he hb=>hed e (by simpa using he) hb
   have hlt:i<ops.length:=(aej.1 hoi).1
   by_cases hin:i<m+1
   ·-- what the next round asks for
    have cl':nR ops (listed.setIfInBounds i true):=by
     intro j oj hj hlj e he hb
     by_cases eji:j=i
     ·subst eji
      rw[hoi] at hj
      cases hj
      have:=hed' e he hb
      by_cases e2:e.on=j
      ·rw[e2];exact cx (by omega)
      ·rw[aQ e2];exact this
     ·rw[aQ eji] at hlj
      have:=hcl j oj hj hlj e he hb
      by_cases e2:e.on=i
      ·rw[e2];exact cx (by omega)
      ·rw[aQ e2];exact this
    have tl':∀ k,m+1<=k->k<ops.length->(listed.setIfInBounds i true).getD k true=false:=fun k hk1 hk2=>by
     rw[aQ (by omega)];exact htl k hk1 hk2
    have cnt':(List.range (m+1)).countP (fun j=> !(listed.setIfInBounds i true).getD j true)=u:=by
     have:=vO (p:=fun j=> !listed.getD j true) (q:=fun j=> !(listed.setIfInBounds i true).getD j true) (i:=i) (l:=List.range (m+1)) List.nodup_range (by simpa using hin) (by simp[hun]) (fun j=>by
      by_cases e:j=i
      ·subst e;simp only[cx (listed:=listed) (b:=true) (by omega:j<listed.size)];simp
      ·simp only[aQ (listed:=listed) (b:=true) e];simp[e])
     omega
    have go:∀ G' ρ' w' a',qb C G' ρ' ops m S Sn S' (listed.setIfInBounds i true) w' a'->wpAny X.P .any ops.toArray Q (u+(ops.length - (m+1))) (listed.setIfInBounds i true) a' w':=
     fun G' ρ' w' a' hM'=>ih (listed.setIfInBounds i true) a' w' G' ρ' (by simpa using hsz) cl' tl' cnt' hM'
    by_cases him:i<m
    ·have hmi:(listed.setIfInBounds i true).getD m true=listed.getD m true:=aQ (by omega)
     cases hlm:listed.getD m true with
     | false=>
      unfold qb at hM
      rw[hlm,agd (by simp)] at hM
      refine K.wpOp him hoi hsz hcl hun hed' hM (fun G' ρ' w' a' hM'=>go G' ρ' w' a' ?_)
      unfold qb
      rw[hmi,hlm,agd (by simp)]
      exact hM'
     | true=>
      unfold qb at hM
      rw[hlm,age rfl] at hM
      have hnd:i∉(deps ops).getD m m0:=fun hmem=>by
       have:=cQ K.edges hcl m os hos (fun e h1 h2=>hcl m os hos hlm e h1 h2) i hmem
       rw[hun] at this;cases this
      obtain⟨p,hp,hb,hg⟩:=(hblind i him).resolve_left hnd
      rw[hoi] at hp
      cases hp
      obtain⟨hds,_⟩:=K.head i o him hoi
      obtain⟨d,hd⟩:=afS.1 hds
      obtain⟨x,hx,hL,hx1,hx2,hx3,_⟩:=K.VO him hoi hb hg hd
      have hdeps:=cQ K.edges hcl i o hoi hed'
      have hev:=K.evs him hoi hdeps
      unfold Go.wpOp
      rw[hio]
      simp only
      have hwt:Region.wanted o (yielded ops.toArray a.tmps)=true:=gI (g:=none) hM.tmps (by simp[guardOf,hg])
      rw[age hwt]
      left
      have hnear:Fe o (states ((ops.take m).take i) S (outs.take i)) rD (S'.wt (aE S Sn (az ops m listed)).tmps):=
       ⟨fun y hy=>by
         rw[<- hev y hy]
         cases y<;>rfl,fun k cs hk=>(by cases hk),fun k cs hk=>(by cases hk),fun k cs hk=>(by cases hk)⟩
      have hwp:=hL C G ρ _ w a Q hM hnear (fun d' _ h=>by rw[hx1] at h;cases h) (fun d' _ h=>by rw[hx2] at h;cases h) (fun d' _ h=>by rw[hx3] at h;cases h)
      refine Oper.wp_mono (fun a' w' h=> ?_) hwp
      obtain⟨G',ρ',hM'⟩:=h
      refine go G' ρ' w' a' ?_
      unfold qb
      rw[hmi,hlm,age rfl,K.QE him hoi hd hx hsz hun]
      have e:x=⟨x.sv,none,none,none⟩:=by cases x;simp only at hx1 hx2 hx3;subst hx1;subst hx2;subst hx3;rfl
      rw[hd,e] at hM'
      exact hM'
    ·have eim:i=m:=by omega
     subst eim
     rw[hos] at hoi
     cases hoi
     have hdeps:=cQ K.edges hcl i os hos hed'
     unfold qb at hM
     rw[hun,agd (by simp)] at hM
     have hunb:∀ t,az ops i listed t=true->look Sn.boxes t=none/\look Sn.rows t=none/\look Sn.objs t=none:=fun t hu=>by
      obtain⟨j,h1,h2,h3⟩:=cV.1 hu
      obtain⟨oj,h4,h5⟩:=ir h3
      have hnd:j∉(deps ops).getD i m0:=fun hmem=>by
       have:=hdeps j hmem
       rw[h2] at this;cases this
      obtain⟨p,hp,hb,hg⟩:=(hblind j h1).resolve_left hnd
      rw[h4] at hp
      cases hp
      obtain⟨x,_,_,_,_,_,h6⟩:=K.VO h1 h4 hb hg h5
      exact h6
     have hM2:Mod C G ρ (Sn.wt (aE S Sn (az ops i listed)).tmps) w a:=by
      refine hM.equiv rfl (fun k cs hk=> ?_) (fun k q hk=> ?_) (fun k q hk=> ?_)
      ·simp only[aE,aO]
       cases hu:az ops i listed k with
       | true=>rw[show look (Sn.wt (aE S Sn (az ops i listed)).tmps).boxes k=look Sn.boxes k from rfl,(hunb k hu).1] at hk;cases hk
       | false=>exact hk
      ·simp only[aE,aO]
       cases hu:az ops i listed k with
       | true=>rw[show look (Sn.wt (aE S Sn (az ops i listed)).tmps).rows k=look Sn.rows k from rfl,(hunb k hu).2.1] at hk;cases hk
       | false=>exact hk
      ·simp only[aE,aO]
       cases hu:az ops i listed k with
       | true=>rw[show look (Sn.wt (aE S Sn (az ops i listed)).tmps).objs k=look Sn.objs k from rfl,(hunb k hu).2.2] at hk;cases hk
       | false=>exact hk
     have hev:∀ x,x∈os.op.operands->(Sn.wt (aE S Sn (az ops i listed)).tmps).ev x=Sn.ev x:=fun x hx=>by
      cases x with
      | tmp t=>
       show (aE S Sn (az ops i listed)).tmps.getD t (.v false [.any])=Sn.tmps.getD t (.v false [.any])
       have hu:az ops i listed t=false:=by
        cases hu:az ops i listed t with
        | false=>rfl
        | true=>
         obtain⟨j,h1,h2,h3⟩:=cV.1 hu
         have:=hdeps j (hlk t (by
          simp only[Oper.looksAt,aeM,aeT]
          exact .inl ⟨.tmp t,by simpa using hx,rfl⟩) j h1 h3)
         rw[h2] at this;cases this
       rw[aea,ep]
       by_cases hlt:t<S.tmps.length
       ·simp[hlt,hu]
       ·rw[agd hlt]
        have:Sn.tmps[t]? =none:=aei (by rw[K.tZ];exact Nat.le_of_not_lt hlt)
        rw[aea,this]
      | const v=>rfl
      | global g=>rfl
      | func f=>rfl
     unfold Go.wpOp
     rw[hio]
     simp only
     have hwt:Region.wanted os (yielded ops.toArray a.tmps)=true:=gI (g:=none) hM2.tmps (by simp[guardOf,hog])
     rw[age hwt]
     left
     have hwp:=hS'.2 _ hev C G ρ w a Q hM2
     refine Oper.wp_mono (fun a' w' h=> ?_) hwp
     obtain⟨G',ρ',hM'⟩:=h
     refine go G' ρ' w' a' ?_
     unfold qb
     rw[age (cx (by omega))]
     have e:az ops i (listed.setIfInBounds i true)=az ops i listed:=funext (Gy (aft i))
     rw[e]
     exact hM'
   ·exfalso
    obtain⟨j,h1,h2⟩:=hsome
    have hd:=hwaits i (by omega) hlt j (by omega)
    have:=cQ K.edges hcl i o hoi hed' j hd
    rw[h2] at this;cases this
end
end Go.Dn
namespace Go.Dn
variable {β:Type} {X:Cx} {C:Fr X.P} {G:Gh} {ρ:Env} {w:World}
theorem Zz {o:Oper} {S:St} {k:St->Option β} {r:β} {t:TypeId} {ad x:Operand} {b off:Nat} (ho:o.op= .store t ad x) (hr:S.ev ad= .v false [.ref b off]) (h:cJ X o S k=some r): ∃ S',k S'=some r/\S'.tmps=S.tmps/\S'.rows=S.rows/\S'.objs=S.objs/\ ∀ tm rw ob,(⟨tm,S.boxes,rw,ob⟩:St).ev ad=S.ev ad->(⟨tm,S.boxes,rw,ob⟩:St).ev x=S.ev x->cJ X o ⟨tm,S.boxes,rw,ob⟩ some=some ⟨tm,S'.boxes,rw,ob⟩:=by
 obtain⟨dst,op,ty,pos,af,g⟩:=o
 simp only at ho
 subst ho
 simp only[cJ,hr] at h
 split at h
 ·cases h
 ·rename_i hdst
  split at h
  ·rename_i b' off' a' cs ha hx
   cases ha
   unfold r0 at h
   split at h
   ·rename_i l hl
    split at h
    ·rename_i hc
     split at h
     ·rename_i l' hl'
      refine⟨_,h,rfl,rfl,rfl,fun tm rw ob e1 e2=> ?_⟩
      simp only[cJ]
      rw[agd hdst,e1,e2,hr,hx]
      simp only
      unfold r0
      rw[show look (⟨tm,S.boxes,rw,ob⟩:St).boxes b=look S.boxes b from rfl,hl]
      simp only
      rw[age hc,hl']
     ·cases h
    ·cases h
   ·cases h
  ·rename_i ha hx;cases ha
  ·rename_i ha hx;cases ha
  ·cases h
section
variable {ops:List Oper} {m:Nat} {S Sn S':St} {listed:Array Bool} {outs:List (Option Del)} {os:Oper}
theorem cw.TG (K:cw X ops m S outs Sn) {i d:Nat} {o:Oper} (him:i<m) (hi:ops[i]? =some o) (hb:(vo o.op||rq o.op)=true) (hg:o.guard=none) (hd:o.dst=some d):
 ∃ x:Del,outs[i]? =some (some x)/\dx X.P o (states ((ops.take m).take i) S (outs.take i)) rD x/\x.box=none/\x.obj=none/\(x.row.isSome=true->rq o.op=true)/\
  look Sn.boxes d=none/\look Sn.rows d=x.row/\look Sn.objs d=none:=by
 obtain⟨y,hy⟩:∃ y,outs[i]? =some y:=⟨outs[i]'(by rw[K.len];exact him),aeh _⟩
 have hst:=K.step i o y him hi hy
 cases y with
 | none=>
  rcases hst with ⟨dg,b,want,hgd,_⟩ | hs
  ·simp only[guardOf,hg] at hgd
   cases hgd
  ·simp only[Dn.lW,hg] at hs
   cases hs
 | some x=>
  obtain⟨⟨_,h2⟩,_⟩:=hst
  have h3:dx X.P o (states ((ops.take m).take i) S (outs.take i)) rD x/\x.box=none/\x.obj=none/\(x.row.isSome=true->rq o.op=true):=by
   cases hk:rq o.op with
   | true=>exact⟨(h2.make hk).1,(h2.make hk).2.1,(h2.make hk).2.2,fun _=>rfl⟩
   | false=>
    rw[hk,Bool.or_false] at hb
    obtain⟨g1,g2,g3,g4⟩:=h2.blind hb
    exact⟨g1,g2,g4,fun h=>by rw[g3] at h;cases h⟩
  obtain⟨h3,h4,h6,h7⟩:=h3
  have hdA:bT ops i=some d:=by unfold bT;rw[hi];exact hd
  obtain⟨_,n3,n4,n5,_⟩:=K.new i d him hdA
  have hat:=rZ (S:=S) (outs:=outs) (by rw[K.len,aeH,afC K.n_le]) K.dupl (i:=i) (o:=o) (x:=some x) (by rw[cH him];exact hi) hy hd
  rw[<- K.sn] at hat
  refine⟨x,hy,h3,h4,h6,h7, ?_, ?_, ?_⟩
  ·rw[hat.2.1,n3];simp[wC,h4]
  ·rw[hat.2.2.1,n4];simp[vB]
  ·rw[hat.2.2.2,n5];simp[zo,h6]
def mkM (R S':St):St:=⟨R.tmps,S'.boxes,R.rows,R.objs⟩
def mZ {P0:Program} (C:Fr P0) (G:Gh) (ρ:Env) (ops:List Oper) (m:Nat) (S Sn S':St) (listed:Array Bool) (w:World) (a:Act):Prop:=
 if listed.getD m true=true then Mod C G ρ (mkM (aE S Sn (az ops m listed)) S') w a else Mod C G ρ (aE S Sn (az ops m listed)) w a
theorem cw.acC (K:cw X ops m S outs Sn) (hm:m<ops.length) (hwaits:∀ k,m+1<=k->k<ops.length->∀ j,j<k->j∈(deps ops).getD k m0) (hos:ops[m]? =some os) (hog:os.guard=none)
 (hblind:∀ i,i<m->i∈(deps ops).getD m m0\/∃ p,ops[i]? =some p/\(vo p.op||rq p.op)=true/\p.guard=none)
 (hlk:∀ t,t∈os.looksAt ops.toArray->∀ j,j<m->bT ops j=some t->j∈(deps ops).getD m m0)
 (hS':S'.tmps=Sn.tmps/\S'.rows=Sn.rows/\S'.objs=Sn.objs/\∀ tm rw ob,(∀ x,x∈os.op.operands->(⟨tm,Sn.boxes,rw,ob⟩:St).ev x=Sn.ev x)->eU X.P os ⟨tm,Sn.boxes,rw,ob⟩ ⟨tm,S'.boxes,rw,ob⟩)
 (hfr:∀ i d p,i<m->i∉(deps ops).getD m m0->ops[i]? =some p->rq p.op=true->p.dst=some d->(S'.boxes.any fun q=>q.2.any (CV.aZ d))=false)
 {Q:Exit->Act->World->Prop} (hseq:Region.seqB .any ops.toArray (ops.length - (m+1)) (m+1) (mask (m+1) ops.length)=true)
 (htail:∀ G ρ w a,Mod C G ρ S' w a->wpList X.P ops.toArray Q (ops.drop (m+1)) a w):∀ (u:Nat) (listed:Array Bool) (a:Act) (w:World) (G:Gh) (ρ:Env),listed.size=ops.length->nR ops listed->
 (∀ k,m+1<=k->k<ops.length->listed.getD k true=false)->(List.range (m+1)).countP (fun i=> !listed.getD i true)=u->mZ C G ρ ops m S Sn S' listed w a->wpAny X.P .any ops.toArray Q (u+(ops.length - (m+1))) listed a w:=by
 intro u
 induction u with
 | zero=>
  intro listed a w G ρ hsz hcl htl hcnt hM
  have hall:∀ i,i<m+1->listed.getD i true=true:=fun i hi=>by
   rw[adW] at hcnt
   have:=hcnt i (by simpa using hi)
   simpa using this
  have hU:∀ t,az ops m listed t=false:=fun t=>by
   cases hu:az ops m listed t with
   | false=>rfl
   | true=>obtain⟨j,h1,h2,_⟩:=cV.1 hu;rw[hall j (by omega)] at h2;cases h2
  have hMn:Mod C G ρ S' w a:=by
   unfold mZ at hM
   rw[age (hall m (by omega))] at hM
   refine hM.equiv ?_ (fun k cs hk=>hk) (fun k q hk=> ?_) (fun k q hk=> ?_)
   ·show (aE S Sn (az ops m listed)).tmps=S'.tmps
    rw[hS'.1]
    apply ad6
    intro t
    rw[ep,hU t]
    by_cases hlt:t<S.tmps.length
    ·have:t<Sn.tmps.length:=by rw[K.tZ];exact hlt
     simp[hlt,this]
    ·rw[agd hlt,aei (by rw[K.tZ];omega)]
   ·show look (aE S Sn (az ops m listed)).rows k=some q
    rw[hS'.2.1] at hk
    simp only[aE,aO,hU k]
    simpa using hk
   ·show look (aE S Sn (az ops m listed)).objs k=some q
    rw[hS'.2.2.1] at hk
    simp only[aE,aO,hU k]
    simpa using hk
  have hmask:=JP (n:=m+1) hsz (by omega) hall htl
  have hl:(ops.drop (m+1)).length=ops.length - (m+1):=by simp
  have:=wpAny_of_seq (P:=X.P) (md:= .any) (ops:=ops.toArray) (Q':=Q) (ops.drop (m+1)) (m+1) listed a w (fun j=>by simp[aeg]) (by rw[hl,hmask];exact hseq) (htail G ρ w a hMn)
  rw[hl] at this
  rw[afM]
  exact this
 | succ u ih=>
  intro listed a w G ρ hsz hcl htl hcnt hM
  have hsome:∃ i,i<m+1/\listed.getD i true=false:=by
   have:0<(List.range (m+1)).countP (fun i=> !listed.getD i true):=by omega
   rw[adY] at this
   obtain⟨i,h1,h2⟩:=this
   exact⟨i,by simpa using h1,by simpa using h2⟩
  rw[show u+1+(ops.length - (m+1))=(u+(ops.length - (m+1)))+1 by omega]
  refine⟨fun hr=> ?_,fun i hi=> ?_⟩
  ·exfalso
   have hall:∀ i,i<m+1->listed.getD i true=true:=by
    intro i
    induction i using Nat.strongRecOn with
    | _ i ihi=>
     intro hin
     cases hl:listed.getD i true with
     | true=>rfl
     | false=>
      exfalso
      have hlt:i<ops.length:=by omega
      have hoi:ops[i]? =some ops[i]:=aeh hlt
      have:i∈Region.ready .any ops.toArray listed:=by
       rw[mem_ready]
       refine⟨hl,ops[i],by simp,fun e he hb=> ?_⟩
       have hE:=K.edges
       simp only[gO,adQ] at hE
       have h7:=hE i (by simp;exact hlt)
       rw[hoi] at h7
       simp only[adQ] at h7
       have h8:=h7 e (by simpa using he)
       simp only[hb,ads,adn] at h8
       have h9:e.on<i:=afx (afA _) (afr h8)
       have h10:=ihi e.on h9 (by omega)
       rw[acZ] at h10 ⊢
       rw[ac0 (by omega)] at h10 ⊢
       simpa using h10
      rw[hr] at this
      cases this
   obtain⟨i,h1,h2⟩:=hsome
   rw[hall i h1] at h2;cases h2
  ·rw[mem_ready] at hi
   obtain⟨hun,o,hio,hed⟩:=hi
   have hoi:ops[i]? =some o:=by simpa using hio
   have hed':∀ e,e∈o.after.toList->Region.binds .any e=true->listed.getD e.on false=true:=fun e he hb=>hed e (by simpa using he) hb
   have hlt:i<ops.length:=(aej.1 hoi).1
   by_cases hin:i<m+1
   ·have cl':nR ops (listed.setIfInBounds i true):=by
     intro j oj hj hlj e he hb
     by_cases eji:j=i
     ·subst eji
      rw[hoi] at hj
      cases hj
      have:=hed' e he hb
      by_cases e2:e.on=j
      ·rw[e2];exact cx (by omega)
      ·rw[aQ e2];exact this
     ·rw[aQ eji] at hlj
      have:=hcl j oj hj hlj e he hb
      by_cases e2:e.on=i
      ·rw[e2];exact cx (by omega)
      ·rw[aQ e2];exact this
    have tl':∀ k,m+1<=k->k<ops.length->(listed.setIfInBounds i true).getD k true=false:=fun k hk1 hk2=>by
     rw[aQ (by omega)];exact htl k hk1 hk2
    have cnt':(List.range (m+1)).countP (fun j=> !(listed.setIfInBounds i true).getD j true)=u:=by
     have:=vO (p:=fun j=> !listed.getD j true) (q:=fun j=> !(listed.setIfInBounds i true).getD j true) (i:=i) (l:=List.range (m+1)) List.nodup_range (by simpa using hin) (by simp[hun]) (fun j=>by
      by_cases e:j=i
      ·subst e;simp only[cx (listed:=listed) (b:=true) (by omega:j<listed.size)];simp
      ·simp only[aQ (listed:=listed) (b:=true) e];simp[e])
     omega
    have go:∀ G' ρ' w' a',mZ C G' ρ' ops m S Sn S' (listed.setIfInBounds i true) w' a'->wpAny X.P .any ops.toArray Q (u+(ops.length - (m+1))) (listed.setIfInBounds i true) a' w':=
     fun G' ρ' w' a' hM'=>ih (listed.setIfInBounds i true) a' w' G' ρ' (by simpa using hsz) cl' tl' cnt' hM'
    by_cases him:i<m
    ·have hmi:(listed.setIfInBounds i true).getD m true=listed.getD m true:=aQ (by omega)
     cases hlm:listed.getD m true with
     | false=>
      unfold mZ at hM
      rw[hlm,agd (by simp)] at hM
      refine K.wpOp him hoi hsz hcl hun hed' hM (fun G' ρ' w' a' hM'=>go G' ρ' w' a' ?_)
      unfold mZ
      rw[hmi,hlm,agd (by simp)]
      exact hM'
     | true=>
      unfold mZ at hM
      rw[hlm,age rfl] at hM
      have hnd:i∉(deps ops).getD m m0:=fun hmem=>by
       have:=cQ K.edges hcl m os hos (fun e h1 h2=>hcl m os hos hlm e h1 h2) i hmem
       rw[hun] at this;cases this
      obtain⟨p,hp,hb,hg⟩:=(hblind i him).resolve_left hnd
      rw[hoi] at hp
      cases hp
      obtain⟨hds,_⟩:=K.head i o him hoi
      obtain⟨d,hd⟩:=afS.1 hds
      obtain⟨x,hx,hL,hx1,hx3,hx2,hy1,hy2,hy3⟩:=K.TG him hoi hb hg hd
      have hdA:bT ops i=some d:=by unfold bT;rw[hoi];exact hd
      have hdeps:=cQ K.edges hcl i o hoi hed'
      have hev:=K.evs him hoi hdeps
      have hfresh:=K.fresh hcl him hdA hun
      have hU:=K.xo him hdA hsz hun
      unfold Go.wpOp
      rw[hio]
      simp only
      have hwt:Region.wanted o (yielded ops.toArray a.tmps)=true:=gI (g:=none) hM.tmps (by simp[guardOf,hg])
      rw[age hwt]
      left
      have hnear:Fe o (states ((ops.take m).take i) S (outs.take i)) rD (mkM (aE S Sn (az ops m listed)) S'):=
       ⟨fun y hy=>by
         rw[<- hev y hy]
         cases y<;>rfl,fun k cs hk=>(by cases hk),fun k cs hk=>(by cases hk),fun k cs hk=>(by cases hk)⟩
      have hwp:=hL C G ρ _ w a Q hM hnear (fun d' _ h=>by rw[hx1] at h;cases h) (fun d' hd' h=>by
       rw[hd] at hd';cases hd'
       have h1:=(vY hfresh).2.1
       simp only[St.aZ,adt] at h1 ⊢
       exact⟨h1.1,hfr i d o him hnd hoi (hx2 h) hd⟩) (fun d' _ h=>by rw[hx3] at h;cases h)
      refine Oper.wp_mono (fun a' w' h=> ?_) hwp
      obtain⟨G',ρ',hM'⟩:=h
      refine go G' ρ' w' a' ?_
      unfold mZ
      rw[hmi,hlm,age rfl]
      have e:x=⟨x.sv,none,x.row,none⟩:=by cases x;simp only at hx1 hx3;subst hx1;subst hx3;rfl
      rw[hd,e] at hM'
      refine hM'.equiv ?_ (fun k cs hk=>hk) (fun k q hk=> ?_) (fun k q hk=> ?_)
      ·show (aE S Sn (az ops m listed)).tmps.set d x.sv=(aE S Sn (az ops m (listed.setIfInBounds i true))).tmps
       rw[K.QE him hoi hd hx hsz hun];rfl
      ·replace hk:look (aE S Sn (az ops m (listed.setIfInBounds i true))).rows k=some q:=hk
       simp only[aE,aO,hU k] at hk
       show look (match x.row with | some r=>(d,r)::(aE S Sn (az ops m listed)).rows | none=>(aE S Sn (az ops m listed)).rows) k=some q
       by_cases ek:k=d
       ·subst ek
        simp only[af0,adg,adl,agc] at hk
        rw[hy2] at hk
        rw[hk]
        simp only[ax,agf]
       ·have hbne:(k != d)=true:=by simpa using ek
        rw[hbne,adi] at hk
        have h2:look (aE S Sn (az ops m listed)).rows k=some q:=by
         simp only[aE,aO];exact hk
        cases x.row with
        | none=>exact h2
        | some r=>
         simp only[ax]
         rw[agd (fun e=>ek e.symm)];exact h2
      ·replace hk:look (aE S Sn (az ops m (listed.setIfInBounds i true))).objs k=some q:=hk
       simp only[aE,aO,hU k] at hk
       show look (aE S Sn (az ops m listed)).objs k=some q
       simp only[aE,aO]
       by_cases ek:k=d
       ·subst ek
        simp only[af0,adg,adl,agc] at hk
        rw[hy3] at hk;cases hk
       ·have hbne:(k != d)=true:=by simpa using ek
        rw[hbne,adi] at hk
        exact hk
    ·have eim:i=m:=by omega
     subst eim
     rw[hos] at hoi
     cases hoi
     have hdeps:=cQ K.edges hcl i os hos hed'
     unfold mZ at hM
     rw[hun,agd (by simp)] at hM
     have hunb:∀ t,az ops i listed t=true->look Sn.boxes t=none:=fun t hu=>by
      obtain⟨j,h1,h2,h3⟩:=cV.1 hu
      obtain⟨oj,h4,h5⟩:=ir h3
      have hnd:j∉(deps ops).getD i m0:=fun hmem=>by
       have:=hdeps j hmem
       rw[h2] at this;cases this
      obtain⟨p,hp,hb,hg⟩:=(hblind j h1).resolve_left hnd
      rw[h4] at hp
      cases hp
      obtain⟨x,_,_,_,_,_,h6,_⟩:=K.TG h1 h4 hb hg h5
      exact h6
     have hM2:Mod C G ρ ⟨(aE S Sn (az ops i listed)).tmps,Sn.boxes,(aE S Sn (az ops i listed)).rows,(aE S Sn (az ops i listed)).objs⟩ w a:=by
      refine hM.equiv rfl (fun k cs hk=> ?_) (fun k q hk=>hk) (fun k q hk=>hk)
      simp only[aE,aO]
      cases hu:az ops i listed k with
      | true=>rw[show look (⟨(aE S Sn (az ops i listed)).tmps,Sn.boxes,(aE S Sn (az ops i listed)).rows,(aE S Sn (az ops i listed)).objs⟩:St).boxes k=look Sn.boxes k from rfl,hunb k hu] at hk;cases hk
      | false=>exact hk
     have hev:∀ x,x∈os.op.operands->(⟨(aE S Sn (az ops i listed)).tmps,Sn.boxes,(aE S Sn (az ops i listed)).rows,(aE S Sn (az ops i listed)).objs⟩:St).ev x=Sn.ev x:=fun x hx=>by
      cases x with
      | tmp t=>
       show (aE S Sn (az ops i listed)).tmps.getD t (.v false [.any])=Sn.tmps.getD t (.v false [.any])
       have hu:az ops i listed t=false:=by
        cases hu:az ops i listed t with
        | false=>rfl
        | true=>
         obtain⟨j,h1,h2,h3⟩:=cV.1 hu
         have:=hdeps j (hlk t (by
          simp only[Oper.looksAt,aeM,aeT]
          exact .inl ⟨.tmp t,by simpa using hx,rfl⟩) j h1 h3)
         rw[h2] at this;cases this
       rw[aea,ep]
       by_cases hlt:t<S.tmps.length
       ·simp[hlt,hu]
       ·rw[agd hlt]
        have:Sn.tmps[t]? =none:=aei (by rw[K.tZ];exact Nat.le_of_not_lt hlt)
        rw[aea,this]
      | const v=>rfl
      | global g=>rfl
      | func f=>rfl
     unfold Go.wpOp
     rw[hio]
     simp only
     have hwt:Region.wanted os (yielded ops.toArray a.tmps)=true:=gI (g:=none) hM2.tmps (by simp[guardOf,hog])
     rw[age hwt]
     left
     have hwp:=hS'.2.2.2 _ _ _ hev C G ρ w a Q hM2
     refine Oper.wp_mono (fun a' w' h=> ?_) hwp
     obtain⟨G',ρ',hM'⟩:=h
     refine go G' ρ' w' a' ?_
     unfold mZ
     rw[age (cx (by omega))]
     have e:az ops i (listed.setIfInBounds i true)=az ops i listed:=funext (Gy (aft i))
     rw[e]
     exact hM'
   ·exfalso
    obtain⟨j,h1,h2⟩:=hsome
    have hd:=hwaits i (by omega) hlt j (by omega)
    have:=cQ K.edges hcl i o hoi hed' j hd
    rw[h2] at this;cases this
end
end Go.Dn
namespace Go.Dn
open Go
variable {X:Cx} {β:Type}
def St.wtB (S:St) (tm:List SV) (v:Nat->Bool):St:={ S with tmps:=tm,boxes:=S.boxes.filter fun p=> !v p.1 }
theorem vl {S:St} {tm:List SV} {v:Nat->Bool} (h:∀ k,v k=false):S.wtB tm v=S.wt tm:=by
 have e:S.boxes.filter (fun p=> !v p.1)=S.boxes:=by
  rw[List.filter_eq_self];intro p _;rw[h];rfl
 show ({ S with tmps:=tm,boxes:=S.boxes.filter fun p=> !v p.1 }:St)={ S with tmps:=tm }
 rw[e]
theorem Vt {S T:St} {f g:List Nat} {t:Ty} (h:Sx t=true) (s:SV):iD S f t s=iD T g t s:=by
 cases s with
 | tup l=>cases t<;>first | rfl | cases h
 | v b cs=>cases t<;>first | (cases b<;>rfl) | cases h
theorem Zv {S T:St} {t:Ty} (h:Sx t=true) (cs:List CV):pack S t cs=pack T t cs:=by
 cases t<;>first | rfl | cases h
theorem DX {S T:St}:∀ {l:List OT} {cs:List CV},pY l=true->jw S l cs=jw T l cs
 | [],[],_=>rfl
 | [],_::_,_=>rfl
 | .val t::r,cs,h=>by
  simp only[pY,adf] at h
  simp only[jw]
  rw[Zv (T:=T) h.1]
  cases pack T t cs with
  | none=>rfl
  | some p=>simp only[DX (S:=S) (T:=T) h.2]
 | .row _ _::_,_,h=>by cases h
 | .map _ _::_,_,h=>by cases h
theorem DW {S T:St} {f g:List Nat}:∀ {ps:List PM} {l:List SV},mW ps=true->cW S f ps l=cW T g ps l
 | [],[],_=>rfl
 | [],_::_,_=>rfl
 | .val t::r,l,h=>by
  simp only[mW,adf] at h
  simp only[cW,mh,PM.arg,af2]
  cases l with
  | nil=>rfl
  | cons s q=>
   simp only[aeu,List.tail_cons]
   rw[Vt (T:=T) (g:=g) h.1]
   cases iD T g t s with
   | none=>rfl
   | some p=>simp only[DW (S:=S) (T:=T) (f:=f) (g:=g) h.2]
 | .row _ _::_,_,h=>by cases h
 | .mrow _ _::_,_,h=>by cases h
 | .map _ _::_,_,h=>by cases h
 | .box _::_,_,h=>by cases h
 | .ar _::_,_,h=>by cases h
 | .arR _::_,_,h=>by cases h
theorem K7 {S:St}:∀ {ps:List PM} {i:Nat} {l:List SV},mW ps=true->eD S i ps l=[]
 | [],_,_,_=>rfl
 | .val t::r,i,l,h=>by
  simp only[mW,adf] at h
  simp only[eD,gW]
  rw[K7 h.2]
  split<;>rfl
 | .row _ _::_,_,_,h=>by cases h
 | .mrow _ _::_,_,_,h=>by cases h
 | .map _ _::_,_,_,h=>by cases h
 | .box _::_,_,_,h=>by cases h
 | .ar _::_,_,_,h=>by cases h
 | .arR _::_,_,_,h=>by cases h
theorem K8:∀ {l:List OT} {n:Nat} {cs:List CV},pY l=true->kz n l cs=[]
 | [],_,_,_=>by simp[kz]
 | .val t::r,n,cs,h=>by
  simp only[pY,adf] at h
  simp only[kz]
  exact K8 h.2
 | .row _ _::_,_,_,h=>by cases h
 | .map _ _::_,_,_,h=>by cases h
theorem Ou {d:Nat}:∀ {ps:List PM} {i:Nat} {l:List SV},mW ps=true->cm d i ps l=[]
 | [],_,_,_=>rfl
 | .val t::r,i,s::l,h=>by simp only[cm];exact Ou (by simp only[mW,adf] at h;exact h.2)
 | .val t::r,i,[],h=>rfl
 | .row _ _::_,_,_,h=>by cases h
 | .mrow _ _::_,_,_,h=>by cases h
 | .map _ _::_,_,_,h=>by cases h
 | .box _::_,_,_,h=>by cases h
 | .ar _::_,_,_,h=>by cases h
 | .arR _::_,_,_,h=>by cases h
theorem Ov {d i:Nat}:∀ {l:List OT} {c:Nat},pY l=true->eA d i c l=[]
 | [],_,_=>rfl
 | .val t::r,c,h=>by simp only[eA];exact Ov (by simp only[pY,adf] at h;exact h.2)
 | .row _ _::_,_,h=>by cases h
 | .map _ _::_,_,h=>by cases h
theorem PK {d:Nat}:∀ {ps:List PM} {i:Nat} {l:List SV} {x:eG ps},mW ps=true->cM d i ps l x=[]/\eW d i ps l x=[]/\dh d i ps l x=[]
 | [],_,_,_,_=>⟨rfl,rfl,rfl⟩
 | .val t::r,i,s::l,x,h=>by simp only[cM,eW,dh];exact PK (by simp only[mW,adf] at h;exact h.2)
 | .val t::r,i,[],x,h=>⟨rfl,rfl,rfl⟩
 | .row _ _::_,_,_,_,h=>by cases h
 | .mrow _ _::_,_,_,_,h=>by cases h
 | .map _ _::_,_,_,_,h=>by cases h
 | .box _::_,_,_,_,h=>by cases h
 | .ar _::_,_,_,_,h=>by cases h
 | .arR _::_,_,_,_,h=>by cases h
theorem Wg {d i:Nat}:∀ {l:List OT} {c:Nat} {x:kP l},pY l=true->mQ d i c l x=[]/\jv d i c l x=[]
 | [],_,_,_=>⟨rfl,rfl⟩
 | .val t::r,c,x,h=>by simp only[mQ,jv];exact Wg (by simp only[pY,adf] at h;exact h.2)
 | .row _ _::_,_,_,h=>by cases h
 | .map _ _::_,_,_,h=>by cases h
theorem ZB {ps:List PM} {d:Nat}:∀ {rs:List RM} {c:Nat} {y:dF ps rs},s7 rs=true->mR ps d rs c y=[]/\mS ps d rs c y=[]/\iW ps d rs c y=[]
 | [],_,_,_=>⟨rfl,rfl,rfl⟩
 | .val t::r,c,y,h=>by
  simp only[mR,mS,iW]
  exact ZB h
 | .row _ _::_,_,_,h=>by cases h
 | .map _ _::_,_,_,h=>by cases h
 | .box _::_,_,_,h=>by cases h
theorem Rc {d:Nat}:∀ {rs:List RM} {c:Nat},s7 rs=true->dU d c rs=[]/\xU rs=0
 | [],_,_=>⟨rfl,rfl⟩
 | .val t::r,c,h=>by
  simp only[dU,xU]
  exact Rc h
 | .row _ _::_,_,h=>by cases h
 | .map _ _::_,_,h=>by cases h
 | .box _::_,_,h=>by cases h
theorem FV:∀ {ps:List PM} {q:List SV},mW ps=true->(ux q).isEmpty=true->ux (dY ps q)=[]
 | [],q,_,_=>by cases q<;>rfl
 | .val t::r,[],_,_=>rfl
 | .val t::r,s::q,h,h2=>by
  simp only[mW,adf] at h
  simp only[dY]
  cases s with
  | v g cs=>
   simp only[ux,List.isEmpty_iff,List.append_eq_nil_iff] at h2 ⊢
   exact⟨h2.1,FV h.2 (List.isEmpty_iff.2 h2.2)⟩
  | tup l=>
   simp only[ux] at h2 ⊢
   exact FV h.2 h2
 | .row _ _::_,_,h,_=>by cases h
 | .mrow _ _::_,_,h,_=>by cases h
 | .map _ _::_,_,h,_=>by cases h
 | .box _::_,_,h,_=>by cases h
 | .ar _::_,_,h,_=>by cases h
 | .arR _::_,_,h,_=>by cases h
theorem K6:∀ {l:List OT},pY l=true->mP l=true
 | [],_=>rfl
 | .val t::r,h=>by
  simp only[pY,adf] at h
  simp only[mP,adf]
  obtain⟨ha,hb⟩:=h
  refine⟨?_,K6 hb⟩
  cases t<;>first | rfl | cases ha
 | .row _ _::_,h=>by cases h
 | .map _ _::_,h=>by cases h
theorem KZ:∀ {ps:List PM},mW ps=true->fo ps=true
 | [],_=>rfl
 | .val t::r,h=>by
  simp only[mW,adf] at h
  simp only[fo]
  exact KZ h.2
 | .row _ _::_,h=>by cases h
 | .mrow _ _::_,h=>by cases h
 | .map _ _::_,h=>by cases h
 | .box _::_,h=>by cases h
 | .ar _::_,h=>by cases h
 | .arR _::_,h=>by cases h
def l7 (tm:List SV):Option Nat->SV->List SV
 | none,_=>tm
 | some d,s=>tm.set d s
theorem U8 {α:Type} (p q:α->Bool) (l:List α):(l.filter p).filter q=(l.filter q).filter p:=by
 rw[List.filter_filter,List.filter_filter]
 congr 1
 funext x
 exact Bool.and_comm _ _
theorem acf (tm:List SV) (d:Option Tmp) (s:SV):(match d with | some d=>tm.set d s | none=>tm)=l7 tm d s:=by
 cases d<;>rfl
def Yh (sp:av) (b:Nat) (dd:Nat) (T:St) (d:Option Tmp) (q:List SV) (y:dF sp.ps sp.rs):St:=
 { tmps:=match d with | some d=>T.tmps.set d (yh (tT sp.ps dd sp.rs 0 y)) | none=>T.tmps,
   boxes:=cM dd 0 sp.ps (.v false [.ref b 0]::q) (wD sp.ps sp.rs y)++T.boxes.filter fun p=> !Nat.beq b p.1,rows:=T.rows,objs:=T.objs }
theorem Cu {sp:av} {b:Nat} {q:List SV} {d:Option Tmp} (h1:Ap sp.ps=true) (h2:s7 sp.rs=true) (h3:ff sp.rs=true) (hl:(ux q).isEmpty=true) (T:St) {γ:Type} (k:St->Option γ):
 iJ sp T (.v false [.ref b 0]::q) d k=if !rf (d.getD 0) T|| !Nat.blt (d.getD 0) 2000 then none else
  match cW T [] sp.ps (.v false [.ref b 0]::q) with
  | some x=>(sp.m x).bind fun y=>k (Yh sp b (d.getD 0) T d q y)
  | none=>none:=by
 obtain⟨ps,rs,m⟩:=sp
 simp only at h1 h2 h3
 match ps,m,h1 with
 | .box l::ps,m,h1=>
  simp only[Ap,adf] at h1
  obtain⟨hl1,hp1⟩:=h1
  have hfl:(ff rs&&fo (PM.box l::ps))=true:=by
   simp only[fo,h3,K6 hl1,KZ hp1,adh]
  have hva:dY (PM.box l::ps) (.v false [.ref b 0]::q)=dY ps q:=rfl
  have hlb:=FV hp1 hl
  have hD:gD T (dY ps q)=[]:=by unfold gD;rw[hlb];rfl
  have how:eD T 0 (PM.box l::ps) (.v false [.ref b 0]::q)=[(.inl b,0)]:=by
   simp only[eD,gW,PM.arg,af2,aeu,List.tail_cons,gS,afn,agf,K7 hp1,adU]
   cases look T.boxes b with
   | none=>rfl
   | some cs=>simp only[K8 hl1]
  have hits:cm (d.getD 0) 0 (PM.box l::ps) (.v false [.ref b 0]::q)=[(.inl b,0)]:=by
   simp only[cm,gS,afn,agf,Ov hl1,Ou hp1,adU,Nat.mul_zero]
  obtain⟨hrit,hnb⟩:=Rc (d:=d.getD 0) (rs:=rs) (c:=0) h2
  have hpk:cW (aG T (eF T (dY ps q))) [] (PM.box l::ps) (.v false [.ref b 0]::q)=cW T [] (PM.box l::ps) (.v false [.ref b 0]::q):=by
   simp only[cW,mh,PM.arg,af2,aeu,List.tail_cons,gS,afn,agf]
   rw[show (aG T (eF T (dY ps q))).boxes=T.boxes from rfl]
   cases look T.boxes b with
   | none=>rfl
   | some cs=>simp only[DX (S:=aG T (eF T (dY ps q))) (T:=T) hl1,DW (S:=aG T (eF T (dY ps q))) (T:=T) (f:=[]) (g:=[]) hp1]
  have hb:∀ y,eW (d.getD 0) 0 (PM.box l::ps) (.v false [.ref b 0]::q) y=[]/\dh (d.getD 0) 0 (PM.box l::ps) (.v false [.ref b 0]::q) y=[]:=fun y=>by
   have h5:=PK (d:=d.getD 0) (i:=1) (l:=q) (x:=y.2) hp1
   have h6:=Wg (d:=d.getD 0) (i:=0) (c:=1) (x:=y.1) hl1
   simp only[eW,dh,gS,afn,agf,h6.1,h6.2,afM,h5.2.1,h5.2.2,adU,afV]
  have f1:∀ j,(bI [(aX.inl b,0)] (.inl j)).isNone= !Nat.beq b j:=fun j=>by
   simp only[bI,aX.beq];cases Nat.beq b j<;>rfl
  have f2:∀ j,(bI [(aX.inl b,0)] (.inr j))=none:=fun j=>rfl
  have f3:∀ j,(bI [(aX.inl b,0)] (.ob j))=none:=fun j=>rfl
  have keepF:∀ {α:Type} (l:List α),(l.filter fun _=>(none:Option Nat).isNone)=l:=fun l=>by rw[List.filter_eq_self];intro _ _;rfl
  unfold iJ
  simp only[hva,hD,how,hits,hrit,hnb,hfl,hpk,adU,f1,f2,f3,keepF,agf]
  have e1:∀ l:List Nat,(l.any fun _=>false)=false:=fun l=>by simp
  have e2:(([]:List Nat).any fun k=>(bI [(aX.inl b,0)] (aX.inl k)).isSome)=false:=rfl
  have e3:vS [(aX.inl b,0)]=false:=rfl
  have e4:dup (List.map (fun x=>x.snd) [(aX.inl b,0)])=false:=rfl
  have e5:([(aX.inl b,0)].all fun p=>p.snd.blt 2048)=true:=rfl
  have e6:Xw (d.getD 0) [(aX.inl b,0)]=true:=rfl
  have e7:Mb T [(aX.inl b,0)]=true:=rfl
  have e8:Nat.blt 0 0=false:=rfl
  simp only[e1,e2,e3,e4,e5,e6,e7,e8,Option.isSome_none,ads,Bool.or_false,adn,adg,Bool.true_or,Bool.false_and]
  congr 1
  cases cW T [] (PM.box l::ps) (.v false [.ref b 0]::q) with
  | none=>rfl
  | some x=>
   simp only
   congr 1
   funext y
   obtain⟨v1,v2,v3⟩:=ZB (ps:=PM.box l::ps) (d:=d.getD 0) (c:=0) (y:=y) h2
   obtain⟨w1,w2⟩:=hb (wD (PM.box l::ps) rs y)
   rw[v1,v2,v3,w1,w2]
   rfl
theorem Yf {d:Nat} {sp:List PM} {b:Nat} {q:List SV} {x:eG sp} (h1:Ap sp=true):∃ cs,cM d 0 sp (.v false [.ref b 0]::q) x=[(b,cs)]:=by
 match sp,x,h1 with
 | .box l::ps,x,h1=>
  simp only[Ap,adf] at h1
  refine⟨Gf d 0 1 l x.1, ?_⟩
  simp only[cM,gS,afn,agf,(PK (d:=d) (i:=0+1) (l:=q) (x:=x.2) h1.2).1,adU]
theorem Xz {S:St} {sp:List PM} {b:Nat} {q:List SV} {tm:List SV} {v:Nat->Bool} (h1:Ap sp=true) (hv:v b=false):cW (S.wtB tm v) [] sp (.v false [.ref b 0]::q)=cW S [] sp (.v false [.ref b 0]::q):=by
 match sp,h1 with
 | .box l::ps,h1=>
  simp only[Ap,adf] at h1
  have hl:look (S.wtB tm v).boxes b=look S.boxes b:=by
   show look (S.boxes.filter fun p=> !v p.1) b=_
   rw[aO,hv];rfl
  simp only[cW,mh,PM.arg,af2,aeu,List.tail_cons,gS,afn,agf,hl]
  cases look S.boxes b with
  | none=>rfl
  | some cs=>simp only[DX (S:=S.wtB tm v) (T:=S) h1.1,DW (S:=S.wtB tm v) (T:=S) (f:=[]) (g:=[]) h1.2]
theorem YV {b j:Nat} (h:j≠b):∀ l:List (Nat×List CV),look (l.filter fun p=> !Nat.beq b p.1) j=look l j:=fun l=>by
 rw[aO (fun k=>Nat.beq b k)]
 have:Nat.beq b j=false:=by
  cases e:Nat.beq b j with
  | false=>rfl
  | true=>exact absurd (afp e).symm h
 rw[this];rfl
theorem SI {sp:av} {S:St} {b off:Nat} {q:List SV} {d:Option Tmp} {k:St->Option β} {r:β} (h1:Ap sp.ps=true) (h2:s7 sp.rs=true) (h3:ff sp.rs=true) (hl:(ux q).isEmpty=true) (h:iJ sp S (.v false [.ref b off]::q) d k=some r): ∃ sv S',k S'=some r/\S'.tmps=l7 S.tmps d sv/\S'.rows=S.rows/\S'.objs=S.objs/\(∀ j,j≠b->look S'.boxes j=look S.boxes j)/\S.fB (nid (d.getD 0) 0 0) (nid (d.getD 0+1) 0 0)=false/\ ∀ tm v,v b=false->(S.wtB tm v).fB (nid (d.getD 0) 0 0) (nid (d.getD 0+1) 0 0)=false->iJ sp (S.wtB tm v) (.v false [.ref b off]::q) d some=some (S'.wtB (l7 tm d sv) v):=by
 by_cases ho:off=0
 ·subst ho
  rw[Cu h1 h2 h3 hl] at h
  split at h
  ·cases h
  ·rename_i hc
   simp only[adu,agk,adp,ado] at hc
   have hfr:S.fB (nid (d.getD 0) 0 0) (nid (d.getD 0+1) 0 0)=false:=by simpa [rf] using hc.1
   split at h
   ·rename_i x hx
    obtain⟨y,hy,h⟩:=bind_some h
    refine⟨yh (tT sp.ps (d.getD 0) sp.rs 0 y),_,h, ?_,rfl,rfl,fun j hj=> ?_,hfr,fun tm v hv hfr'=> ?_⟩
    ·cases d<;>rfl
    ·obtain⟨cs,hcs⟩:=Yf (d:=d.getD 0) (b:=b) (q:=q) (x:=wD sp.ps sp.rs y) h1
     show look (cM _ _ _ _ _++_) j=_
     rw[hcs]
     simp only[adV,ae2,ax]
     rw[agd (Ne.symm hj),YV hj]
    ·rw[Cu h1 h2 h3 hl]
     rw[agd (by
      simp only[adu,agk,adp,ado]
      exact⟨by simpa [rf] using hfr',hc.2⟩)]
     have hpk:cW (S.wtB tm v) [] sp.ps (.v false [.ref b 0]::q)=cW S [] sp.ps (.v false [.ref b 0]::q):=by
      exact Xz h1 hv
     rw[hpk,hx]
     simp only
     rw[hy]
     obtain⟨cs,hcs⟩:=Yf (d:=d.getD 0) (b:=b) (q:=q) (x:=wD sp.ps sp.rs y) h1
     simp only[afO,Option.some.injEq,Yh,St.wtB,hcs,acf]
     congr 1
     simp only[adV,ae2,ad8,hv,adr,agf]
     rw[U8]
   ·cases h
 ·exfalso
  have hb:Nat.beq off 0=false:=by
   cases e:Nat.beq off 0 with
   | false=>rfl
   | true=>exact absurd (afp e) ho
  obtain⟨ps,rs,m⟩:=sp
  simp only at h1
  match ps,m,h1,h with
  | .box l::ps,m,h1,h=>
   have hn:∀ (T:St) (f:List Nat),cW T f (PM.box l::ps) (.v false [.ref b off]::q)=none:=fun T f=>by
    simp only[cW,mh,PM.arg,af2,aeu,gS,hb,adl,agc]
   unfold iJ at h
   simp only[hn] at h
   split at h<;>cases h
theorem TM {op:Op} (h:BH X op=true):∃ g sp args argTypes,op= .call { callee:= .value (.func g),args,argTypes }/\look X.keys g=none/\oa X.specs g=[sp]/\Ap sp.ps=true/\s7 sp.rs=true/\ff sp.rs=true:=by
 unfold BH at h
 split at h
 ·rename_i c
  split at h
  ·rename_i g hg
   split at h
   ·rename_i hk
    split at h
    ·rename_i sp hsp
     simp only[adf] at h
     obtain⟨callee,args,argTypes⟩:=c
     simp only at hg
     subst hg
     exact⟨g,sp,args,argTypes,rfl,hk,hsp,h.1,h.2.1,h.2.2⟩
    ·cases h
   ·cases h
  ·cases h
 ·cases h
theorem Y9 {o:Oper} {S:St} {k:St->Option β} {r:β} {sd:List (Nat×List Nat)} {hs:List Nat} {t:Touch} (hop:BH X o.op=true) (hok:NV sd hs t o S=true) (h:cJ X o S k=some r): ∃ b sv S',iO t b=false/\k S'=some r/\S'.tmps=l7 S.tmps o.dst sv/\S'.rows=S.rows/\S'.objs=S.objs/\(∀ j,j≠b->look S'.boxes j=look S.boxes j)/\AV hs (o.dst.getD 0)=true/\ S.fB (nid (o.dst.getD 0) 0 0) (nid (o.dst.getD 0+1) 0 0)=false/\ ∀ tm v,(∀ x,x∈o.op.operands->(S.wt tm).ev x=S.ev x)->(∀ k,v k=true->inU sd k=true)->(S.wtB tm v).fB (nid (o.dst.getD 0) 0 0) (nid (o.dst.getD 0+1) 0 0)=false->cJ X o (S.wtB tm v) some=some (S'.wtB (l7 tm o.dst sv) v):=by
 obtain⟨g,sp,args,argTypes,hop,hk,hsp,h1,h2,h3⟩:=TM hop
 obtain⟨dst,op,ty0,pos,af,gd⟩:=o
 simp only at hop
 subst hop
 simp only[NV] at hok
 split at hok
 ·rename_i b off q hargs
  simp only[adf,adq] at hok
  obtain⟨k1,k2,k3,k4⟩:=hok
  have hcal:∀ T:St,dJ T { callee:= .value (.func g),args,argTypes }=some (g,args.toList.map T.ev++[]):=fun T=>rfl
  simp only[cJ] at h
  rw[hcal] at h
  simp only at h
  rw[hk] at h
  simp only at h
  rw[hsp] at h
  simp only[qZ,adU] at h
  rw[hargs] at h
  obtain⟨sv,S',a1,a2,a3,a4,a5,a6,a7⟩:=SI h1 h2 h3 k3 h
  refine⟨b,sv,S',k1,a1,a2,a3,a4,a5,k4,a6,fun tm v hev hv hfr=> ?_⟩
  have hmap:args.toList.map (S.wtB tm v).ev=args.toList.map S.ev:=aeJ fun y hy=>hev y (by simp[Op.operands,Call.operands];exact .inr (by simpa using hy))
  simp only[cJ]
  rw[hcal]
  simp only
  rw[hk]
  simp only
  rw[hsp]
  simp only[qZ,adU]
  rw[hmap,hargs]
  refine a7 tm v ?_ hfr
  cases hb:v b with
  | false=>rfl
  | true=>have:=hv b hb;rw[k2] at this;cases this
 ·cases hok
theorem Yy {o:Oper} {S M:St} {k:Del->Option β} {r:β} (hb:IA S o.op=true) (h:eo X o S M k=some r): ∃ s,k ⟨s,none,none,none⟩=some r/\∀ (G:Gh) (ρ:Env) (a:Act),(∀ x,x∈o.op.operands->bh G ρ (S.ev x) (a.eval x))->∃ v,(∀ w,(execOp a.eval o).run X.P w= .ok (.value v) w)/\bh G ρ s v:=by
 unfold IA at hb
 split at hb
 ·rename_i t x y u ho
  split at hb
  ·rename_i ka n kb m hx hy
   unfold eo at h
   rw[ho] at h
   simp only[dn,ho,Wu,hx,hy,MR] at h
   split at h
   ·cases h
   ·rename_i hk
    have hk':ka=kb:=by simpa using hk
    subst hk'
    refine⟨_,h,fun G ρ a hop=> ?_⟩
    have h1:=one_cell (hop x (by simp[ho,Op.operands])) hx
    have h2:=one_cell (hop y (by simp[ho,Op.operands])) hy
    refine⟨.int ka (ka.wrap (n+m)),fun w=> ?_,rfl⟩
    simp only[execOp,ho,Sem.run_bind,show a.eval x= .int ka n from h1,show a.eval y= .int ka m from h2,KH,Result.andThen_ok]
    simp[binOp,Op.intArith]
  ·cases hb
 ·cases hb
end Go.Dn
namespace Go.Dn
variable {β:Type} {X:Cx} {C:Fr X.P} {G:Gh} {ρ:Env} {w:World}
theorem dx.more {P:Program} {o:Oper} {S M N:St} {x:Del} (h:dx P o S M x) (hb:∀ k cs,look M.boxes k=some cs->look N.boxes k=some cs) (hr:∀ k q,look M.rows k=some q->look N.rows k=some q) (ho:∀ k q,look M.objs k=some q->look N.objs k=some q):dx P o S N x:=
 fun C G ρ S1 w a Q hM hN h1 h2 h3=>h C G ρ S1 w a Q hM ⟨hN.ops,fun k cs hk=>hN.boxes k cs (hb k cs hk),fun k cs hk=>hN.rows k cs (hr k cs hk),fun k cs hk=>hN.objs k cs (ho k cs hk)⟩ h1 h2 h3
theorem yO (t:Touch) (M:St):(∀ k cs,look (dI t M).boxes k=some cs->iO t k=true/\look M.boxes k=some cs)/\(∀ k q,look (dI t M).rows k=some q->t.rt=false/\look M.rows k=some q)/\(∀ k q,look (dI t M).objs k=some q->t.rt=false/\look M.objs k=some q):=by
 refine⟨fun k cs hk=> ?_,fun k q hk=> ?_,fun k q hk=> ?_⟩
 ·simp only[dI] at hk
  rw[oc (fun i=>iO t i)] at hk
  split at hk
  ·rename_i h;exact⟨h,hk⟩
  ·cases hk
 ·simp only[dI] at hk
  cases ht:t.rt with
  | true=>rw[ht] at hk;cases hk
  | false=>rw[ht] at hk;exact⟨rfl,hk⟩
 ·simp only[dI] at hk
  cases ht:t.rt with
  | true=>rw[ht] at hk;cases hk
  | false=>rw[ht] at hk;exact⟨rfl,hk⟩
theorem dx.VS {P:Program} {o:Oper} {S M:St} {x:Del} {t:Touch} (h:dx P o S (dI t M) x):dx P o S M x:=
 h.more (fun k cs hk=>((yO t M).1 k cs hk).2) (fun k q hk=>((yO t M).2.1 k q hk).2) (fun k q hk=>((yO t M).2.2 k q hk).2)
theorem zw {x:Del} (h:yC x=true):x.box=none/\x.row=none/\x.obj=none:=by
 simpa [yC] using h
theorem ya (hX:bY X) {ops:List Oper} {M:St} {tf:Nat->Touch} {dm:Msk} {lb:Bool}:∀ {l:List Oper} {c:Nat} {S:St} {k:St->Option β} {r:β},gL X ops M (fun i=>dI (tf i) M) dm lb c l S k=some r-> ∃ outs:List (Option Del),outs.length=l.length/\k (states l S outs)=some r/\∀ i o x,l[i]? =some o->outs[i]? =some x->Cr X ops M o (states (l.take i) S (outs.take i)) x/\ (inM dm (c+i)=false->∀ y,x=some y->dx X.P o (states (l.take i) S (outs.take i)) (dI (tf (c+i)) M) y/\wj lb o.op y=true)
 | [],c,S,k,r,h=>⟨[],rfl,h,fun i o x hi=>by simp at hi⟩
 | o::l,c,S,k,r,h=>by
  have cons:∀ (x:Option Del),Cr X ops M o S x->(inM dm c=false->∀ y,x=some y->dx X.P o S (dI (tf c) M) y/\wj lb o.op y=true)->gL X ops M (fun i=>dI (tf i) M) dm lb (c+1) l (S.out o x) k=some r->
   ∃ outs:List (Option Del),outs.length=(o::l).length/\k (states (o::l) S outs)=some r/\∀ i o' x,(o::l)[i]? =some o'->outs[i]? =some x->Cr X ops M o' (states ((o::l).take i) S (outs.take i)) x/\
    (inM dm (c+i)=false->∀ y,x=some y->dx X.P o' (states ((o::l).take i) S (outs.take i)) (dI (tf (c+i)) M) y/\wj lb o'.op y=true):=by
   intro x hx hx2 hr
   obtain⟨outs,h1,h2,h3⟩:=ya hX hr
   refine⟨x::outs,by simp[h1],h2,fun i o' y hi hy=> ?_⟩
   cases i with
   | zero=>
    simp only[aef,Option.some.injEq] at hi hy
    subst hi;subst hy
    exact⟨hx,hx2⟩
   | succ i=>
    simp only[aee] at hi hy
    have:=h3 i o' y hi hy
    rw[show c+(i+1)=c+1+i by omega]
    exact this
  simp only[gL] at h
  split at h
  ·rename_i hg
   cases hs:lW ops o S with
   | false=>rw[hs] at h;cases h
   | true=>rw[hs] at h;exact cons none (.inr hs) (fun _ y e=>by cases e) h
  ·rename_i hg
   cases hm:inM dm c with
   | true=>
    rw[hm,af2] at h
    obtain⟨x,h1,h2⟩:=qg hX h
    exact cons (some x) ⟨h2,.inl hg⟩ (fun e=>by rw[hm] at e;cases e) h1
   | false=>
    rw[hm,af1] at h
    obtain⟨x,h1,h2⟩:=qg hX h
    cases hp:wj lb o.op x with
    | false=>rw[hp] at h1;cases h1
    | true=>
     rw[hp,af2] at h1
     exact cons (some x) ⟨⟨h2.1.VS,h2.2⟩,.inl hg⟩ (fun _ y e=>by cases e;exact⟨h2.1,hp⟩) h1
  ·rename_i d b want hg
   rcases JL (YA (Tw hg)) h with ⟨hb,h⟩ | ⟨hb,h⟩
   ·cases hm:inM dm c with
    | true=>
     rw[hm,af2] at h
     obtain⟨x,h1,h2⟩:=qg hX h
     exact cons (some x) ⟨h2,.inr ⟨d,b,want,hg,hb⟩⟩ (fun e=>by rw[hm] at e;cases e) h1
    | false=>
     rw[hm,af1] at h
     obtain⟨x,h1,h2⟩:=qg hX h
     cases hp:wj lb o.op x with
     | false=>rw[hp] at h1;cases h1
     | true=>
      rw[hp,af2] at h1
      exact cons (some x) ⟨⟨h2.1.VS,h2.2⟩,.inr ⟨d,b,want,hg,hb⟩⟩ (fun _ y e=>by cases e;exact⟨h2.1,hp⟩) h1
   ·exact cons none (.inl ⟨d,b,want,hg,hb⟩) (fun _ y e=>by cases e) h
def Rest (t:Touch) (T T':St):Prop:=(t.rt=false->(∀ k q,look T.rows k=some q->look T'.rows k=some q)/\∀ k q,look T.objs k=some q->look T'.objs k=some q)/\∀ k,iO t k=true->look T'.boxes k=look T.boxes k
theorem XU {o:Oper} {S S':St} {t:TypeId} {ad x:Operand} {row:Touch} (ho:o.op= .store t ad x) (ha:OJ row (S.ev ad)=true) (h:cJ X o S some=some S'):Rest row S S':=by
 obtain⟨dst,op,ty,pos,af,g⟩:=o
 simp only at ho
 subst ho
 simp only[cJ] at h
 split at h
 ·cases h
 ·split at h
  ·rename_i b off a' cs ha' hx
   rw[ha'] at ha
   have hrow:iO row b=false:=by simpa [OJ] using ha
   unfold r0 at h
   split at h
   ·split at h
    ·split at h
     ·cases h
      refine⟨fun _=>⟨fun _ _ h=>h,fun _ _ h=>h⟩,fun k hk=> ?_⟩
      simp only[ax]
      rw[agd]
      intro e
      subst e
      rw[hrow] at hk;cases hk
     ·cases h
    ·cases h
   ·cases h
  ·rename_i j sz i off a' cs ha' hx
   rw[ha'] at ha
   have hrow:row.rt=true:=by simpa [OJ] using ha
   unfold yg at h
   split at h
   ·split at h
    ·cases h
    ·obtain⟨y,_,h⟩:=bind_some h
     split at h
     ·split at h
      ·cases h;exact⟨fun e=>(by rw[hrow] at e;cases e),fun _ _=>rfl⟩
      ·cases h
     ·cases h
   ·cases h
  ·rename_i hh off a' cs ha' hx
   rw[ha'] at ha
   have hrow:row.rt=true:=by simpa [OJ] using ha
   unfold A7 at h
   split at h
   ·split at h
    ·cases h
    ·obtain⟨y,_,h⟩:=bind_some h
     split at h
     ·split at h
      ·cases h;exact⟨fun e=>(by rw[hrow] at e;cases e),fun _ _=>rfl⟩
      ·cases h
     ·cases h
   ·cases h
  ·cases h
def Sh (hs:List Nat) (s:SV):Prop:=∀ d,inL hs d=false->s.aZ d=false/\s.bC d=false/\s.bq d=false
structure Ht (P:Program) (row:Touch) (hs:List Nat) (sd:List (Nat×List Nat)) (e:Bool) (o:Oper) (T:St) (sv:SV) (T':St):Prop where
 tmps:T'.tmps=l7 T.tmps o.dst sv
 rest:Rest row T T'
 sound:∀ tm v,(∀ x,x∈o.op.operands->(T.wt tm).ev x=T.ev x)->(∀ s,s∈tm->s∈T.tmps\/Sh hs s)->(∀ k,v k=true->inU sd k=true)->eU P o (T.wtB tm v) (T'.wtB (l7 tm o.dst sv) v)
 early:e=true->JN o.op=true->T'=T.wt (l7 T.tmps o.dst sv)/\∀ (G:Gh) (ρ:Env) (a:Act),(∀ x,x∈o.op.operands->bh G ρ (T.ev x) (a.eval x))->∃ v,(∀ w,(execOp a.eval o).run P w= .ok (.value v) w)/\bh G ρ sv v
theorem Ux {o:Oper} {S:St} {k:St->Option β} {r:β} {args:Array Operand} {argTypes:Array TypeId} (ho:o.op= .call { callee:= .builtin .append,args,argTypes }) (h:cJ X o S k=some r): ∃ d S',o.dst=some d/\k S'=some r/\S'.tmps=S.tmps.set d (.v false [.row d])/\S'.boxes=S.boxes/\S.aZ d=false/\ ∀ tm,(∀ x,x∈o.op.operands->(S.wt tm).ev x=S.ev x)->(S.wt tm).aZ d=false->cJ X o (S.wt tm) some=some (S'.wt (tm.set d (.v false [.row d]))):=by
 obtain⟨dst,op,ty0,pos,af,g⟩:=o
 simp only at ho
 subst ho
 simp only[cJ] at h
 split at h
 ·rename_i s x t t' d he hty
  split at h
  ·rename_i e ht
   split at h
   ·rename_i ty zc htyo hzc
    split at h
    ·cases h
    ·rename_i hc
     split at h
     ·rename_i l j l' hsrc hnew
      obtain⟨hchk,h⟩:=fF h
      have hc':=hc
      simp only[adu,agk,adp,ado] at hc'
      refine⟨d,_,rfl,h,rfl,rfl,hc'.1.1.1.1.1,fun tm hev hfr=> ?_⟩
      have hmap:args.toList.map (S.wt tm).ev=args.toList.map S.ev:=aeJ fun y hy=>hev y (by simpa [Op.operands,Call.operands] using hy)
      simp only[cJ]
      rw[hmap,he,hty]
      simp only
      rw[ht]
      simp only
      rw[htyo,hzc]
      simp only
      rw[agd (by
       simp only[adu,agk,adp,ado]
       exact⟨⟨⟨⟨⟨hfr,hc'.1.1.1.1.2⟩,hc'.1.1.1.2⟩,hc'.1.1.2⟩,hc'.1.2⟩,hc'.2⟩)]
      rw[show MP (S.wt tm) e ty s=MP S e ty s from rfl,show HE (S.wt tm) ty x=HE S ty x from rfl,hsrc,hnew]
      simp only
      rw[hchk]
      rfl
     ·cases h
   ·cases h
  ·cases h
 ·cases h
theorem Re {T:St} {tm:List SV} {hs:List Nat} {d:Nat} (h:T.aZ d=false) (hd:inL hs d=false) (htm:∀ s,s∈tm->s∈T.tmps\/Sh hs s):(T.wt tm).aZ d=false:=by
 simp only[St.aZ,adt,adR] at h ⊢
 refine⟨fun s hs'=> ?_,h.2⟩
 rcases htm s hs' with h1 | h1
 ·exact h.1 s h1
 ·simp[(h1 d hd).1]
theorem TB {op:Op} (h:uT op=true):∃ args argTypes,op= .call { callee:= .builtin .append,args,argTypes }:=by
 unfold uT at h
 split at h
 ·exact⟨_,_,rfl⟩
 ·cases h
theorem Tg {S:St} {tm:List SV}:∀ l:List Nat,Nn (S.wt tm) l=Nn S l
 | []=>rfl
 | k::r=>by
  simp only[Nn]
  rw[Tg r]
  rfl
theorem HK {S:St} {tm:List SV}:∀ l:List Nat,vp (S.wt tm) l=vp S l
 | []=>rfl
 | k::r=>by
  simp only[vp]
  rw[HK r]
  rfl
theorem TJ {S:St} {tm:List SV} (l:List SV):gD (S.wt tm) l=gD S l:=by
 unfold gD
 rw[Tg]
theorem aal {S:St} {tm:List SV} (l:List SV):eF (S.wt tm) l=eF S l:=by
 unfold eF
 rw[TJ,HK]
theorem Gl {S T:St} {fb:List Nat} (hr:T.rows=S.rows) (hb:T.boxes=S.boxes):∀ {ps:List PM} {l:List SV},jh ps=true->cW T fb ps l=cW S fb ps l
 | [],[],_=>rfl
 | [],_::_,_=>rfl
 | .val t::r,l,h=>by
  simp only[cW,mh]
  have e:∀ s,iD T fb t s=iD S fb t s:=fun s=>by
   have hp:∀ (t:Ty) (cs:List CV),fE T fb t cs=fE S fb t cs:=oJ hr hb
   unfold iD
   simp only[hp]
  simp only[e]
  rw[Gl (ps:=r) hr hb (by simpa [jh] using h)]
 | .row e t::r,l,h=>by
  simp only[cW,mh]
  have e:∀ c,iC T e t c=iC S e t c:=fun c=>by
   unfold iC
   rw[hr]
  simp only[e]
  rw[Gl (ps:=r) hr hb (by simpa [jh] using h)]
 | .mrow _ _::_,_,h=>by cases h
 | .map _ _::_,_,h=>by cases h
 | .box _::_,_,h=>by cases h
 | .ar _::_,_,h=>by cases h
 | .arR _::_,_,h=>by cases h
theorem Gj {S T:St}:∀ {ps:List PM} {i:Nat} {l:List SV},jh ps=true->eD T i ps l=eD S i ps l
 | [],_,_,_=>rfl
 | .val t::r,i,l,h=>by
  simp only[eD,gW]
  rw[Gj (ps:=r) (S:=S) (by simpa [jh] using h)]
 | .row e t::r,i,l,h=>by
  simp only[eD,gW]
  rw[Gj (ps:=r) (S:=S) (by simpa [jh] using h)]
 | .mrow _ _::_,_,_,h=>by cases h
 | .map _ _::_,_,_,h=>by cases h
 | .box _::_,_,_,h=>by cases h
 | .ar _::_,_,_,h=>by cases h
 | .arR _::_,_,_,h=>by cases h
theorem Ae {l l':List (aX×Nat)} {x:aX} (h:bI l x=none) (h':bI l' x=none):bI (l++l') x=none:=by
 induction l with
 | nil=>exact h'
 | cons p r ih=>
  obtain⟨o,n⟩:=p
  simp only[bI,adV] at h ⊢
  cases hb:aX.beq o x with
  | true=>rw[hb] at h;cases h
  | false=>rw[hb] at h;exact ih h
theorem Zi {n k:Nat} {c:CV}:bI (mT n c) (.inl k)=none:=by
 cases c<;>rfl
theorem Gi {S:St} {k:Nat}:∀ {ps:List PM} {i:Nat} {l:List SV},jh ps=true->bI (eD S i ps l) (.inl k)=none
 | [],_,_,_=>rfl
 | .val t::r,i,l,h=>by
  simp only[eD,gW]
  refine Ae ?_ (Gi (by simpa [jh] using h))
  split<;>rfl
 | .row e t::r,i,l,h=>by
  simp only[eD,gW]
  refine Ae ?_ (Gi (by simpa [jh] using h))
  split
  ·split
   ·exact Zi
   ·rfl
  ·rfl
 | .mrow _ _::_,_,_,h=>by cases h
 | .map _ _::_,_,_,h=>by cases h
 | .box _::_,_,_,h=>by cases h
 | .ar _::_,_,_,h=>by cases h
 | .arR _::_,_,_,h=>by cases h
theorem HH {d:Nat}:∀ {ps:List PM} {i:Nat} {l:List SV},jh ps=true->cm d i ps l=[]
 | [],_,_,_=>rfl
 | .val t::r,i,s::l,h=>by simp only[cm];exact HH (by simpa [jh] using h)
 | .val t::r,i,[],h=>rfl
 | .row e t::r,i,s::l,h=>by simp only[cm];exact HH (by simpa [jh] using h)
 | .row e t::r,i,[],h=>rfl
 | .mrow _ _::_,_,_,h=>by cases h
 | .map _ _::_,_,_,h=>by cases h
 | .box _::_,_,_,h=>by cases h
 | .ar _::_,_,_,h=>by cases h
 | .arR _::_,_,_,h=>by cases h
theorem Dm {d:Nat}:∀ {ps:List PM} {i:Nat} {l:List SV} {x:eG ps},jh ps=true->cM d i ps l x=[]
 | [],_,_,_,_=>rfl
 | .val t::r,i,s::l,x,h=>by simp only[cM];exact Dm (by simpa [jh] using h)
 | .val t::r,i,[],x,h=>rfl
 | .row e t::r,i,s::l,x,h=>by simp only[cM];exact Dm (by simpa [jh] using h)
 | .row e t::r,i,[],x,h=>rfl
 | .mrow _ _::_,_,_,_,h=>by cases h
 | .map _ _::_,_,_,_,h=>by cases h
 | .box _::_,_,_,_,h=>by cases h
 | .ar _::_,_,_,_,h=>by cases h
 | .arR _::_,_,_,_,h=>by cases h
theorem KM {S:St} {ps:List PM} {i:Nat} {l:List SV} (h:jh ps=true):∀ b:List (Nat×List CV),(b.filter fun p=>(bI (eD S i ps l) (.inl p.1)).isNone)=b
 | []=>rfl
 | p::r=>by
  rw[ad8,Gi h,KM h r]
  rfl
theorem SJ {sp:av} {S:St} {args:List SV} {d:Nat} {k:St->Option β} {r:β} (h1:jh sp.ps=true) (h2:Xo sp.rs=true) (h:iJ sp S args (some d) k=some r): ∃ S',k S'=some r/\S'.tmps=S.tmps.set d (.v false [.row (nid d 24 0)])/\S'.boxes=S.boxes/\S.fB (nid d 0 0) (nid (d+1) 0 0)=false/\ ∀ tm,(S.wt tm).fB (nid d 0 0) (nid (d+1) 0 0)=false->iJ sp (S.wt tm) args (some d) some=some (S'.wt (tm.set d (.v false [.row (nid d 24 0)]))):=by
 obtain⟨ps,rs,m⟩:=sp
 simp only at h1 h2
 match rs,m,h2,h with
 | [.row e t],m,_,h=>
  unfold iJ at h
  simp only[afP] at h
  split at h
  ·cases h
  ·rename_i hc
   have hc':=hc
   simp only[adu,agk,adp] at hc'
   obtain⟨⟨⟨⟨⟨⟨⟨⟨⟨⟨⟨⟨c1,c2⟩,c3⟩,c4⟩,c5⟩,c6⟩,c7⟩,c8⟩,c9⟩,c10⟩,c11⟩,c12⟩,c13⟩:=hc'
   split at h
   ·rename_i x hx
    obtain⟨y,hy,h⟩:=bind_some h
    have hfr:S.fB (nid d 0 0) (nid (d+1) 0 0)=false:=by simpa [rf] using c8
    refine⟨_,h,rfl, ?_,hfr,fun tm htm=> ?_⟩
    ·show mR ps d [RM.row e t] 0 y++(cM d 0 ps args _++S.boxes.filter _)=S.boxes
     rw[Dm h1,KM h1]
     rfl
    ·unfold iJ
     simp only[afP]
     rw[aal,TJ,Gj (T:=S.wt tm) (S:=S) h1]
     rw[agd (by
      simp only[adu,agk,adp]
      refine⟨⟨⟨⟨⟨⟨⟨⟨⟨⟨⟨⟨c1,c2⟩,c3⟩,c4⟩,c5⟩,c6⟩,c7⟩, ?_⟩,c9⟩, ?_⟩,c11⟩, ?_⟩,c13⟩
      ·simpa [rf] using htm
      ·rw[HH h1];rfl
      ·rfl)]
     rw[show cW (aG (S.wt tm) (eF S (dY ps args))) (gD S (dY ps args)) ps args=cW (aG S (eF S (dY ps args))) (gD S (dY ps args)) ps args from Gl (T:=aG (S.wt tm) (eF S (dY ps args))) (S:=aG S (eF S (dY ps args))) rfl rfl h1]
     rw[hx]
     simp only
     rw[hy]
     simp only[afO]
     congr 1
     cases hfl:(ff [RM.row e t]&&fo ps)<;>rfl
   ·cases h
theorem TN {op:Op} (h:EJ X op=true):∃ g sp args argTypes,op= .call { callee:= .value (.func g),args,argTypes }/\look X.keys g=none/\oa X.specs g=[sp]/\jh sp.ps=true/\Xo sp.rs=true:=by
 unfold EJ at h
 split at h
 ·rename_i c
  split at h
  ·rename_i g hg
   split at h
   ·rename_i hk
    split at h
    ·rename_i sp hsp
     simp only[adf] at h
     obtain⟨callee,args,argTypes⟩:=c
     simp only at hg
     subst hg
     exact⟨g,sp,args,argTypes,rfl,hk,hsp,h.1,h.2.2⟩
    ·cases h
   ·cases h
  ·cases h
 ·cases h
theorem Za {o:Oper} {S:St} {k:St->Option β} {r:β} {d:Nat} (hop:EJ X o.op=true) (hd:o.dst=some d) (h:cJ X o S k=some r): ∃ S',k S'=some r/\S'.tmps=S.tmps.set d (.v false [.row (nid d 24 0)])/\S'.boxes=S.boxes/\S.fB (nid d 0 0) (nid (d+1) 0 0)=false/\ ∀ tm,(∀ x,x∈o.op.operands->(S.wt tm).ev x=S.ev x)->(S.wt tm).fB (nid d 0 0) (nid (d+1) 0 0)=false->cJ X o (S.wt tm) some=some (S'.wt (tm.set d (.v false [.row (nid d 24 0)]))):=by
 obtain⟨g,sp,args,argTypes,hop,hk,hsp,h1,h2⟩:=TN hop
 obtain⟨dst,op,ty0,pos,af,gd⟩:=o
 simp only at hop hd
 subst hop;subst hd
 have hcal:∀ T:St,dJ T { callee:= .value (.func g),args,argTypes }=some (g,args.toList.map T.ev++[]):=fun T=>rfl
 simp only[cJ] at h
 rw[hcal] at h
 simp only at h
 rw[hk] at h
 simp only at h
 rw[hsp] at h
 simp only[qZ] at h
 obtain⟨S',a1,a2,a3,a4,a5⟩:=SJ h1 h2 h
 refine⟨S',a1,a2,a3,a4,fun tm hev hfr=> ?_⟩
 have hmap:args.toList.map (S.wt tm).ev=args.toList.map S.ev:=aeJ fun y hy=>hev y (by simp[Op.operands,Call.operands];exact .inr (by simpa using hy))
 simp only[cJ]
 rw[hcal]
 simp only
 rw[hk]
 simp only
 rw[hsp]
 simp only[qZ]
 rw[hmap]
 exact a5 tm hfr
theorem aaa {a b:Nat} {s:SV} (h:∀ j,a<=j->j<b->s.aZ j=false/\s.bC j=false/\s.bq j=false):s.fB a b=false:=by
 have key:∀ (j:Nat),(Nat.ble a j&&Nat.blt j b)=true->a<=j/\j<b:=fun j hj=>by
  simp only[adf] at hj
  exact⟨afr hj.1,afx (afA _) (afr hj.2)⟩
 have cv:∀ c:CV,c.fB a b=true->∃ j,a<=j/\j<b/\(c.aZ j=true\/c.bC j=true\/c.bq j=true):=fun c hc=>by
  cases c<;>simp only[CV.fB] at hc<;>first
   | cases hc
   | (obtain⟨h1,h2⟩:=key _ hc
      refine⟨_,h1,h2, ?_⟩
      simp[CV.aZ,CV.bC,CV.bq])
 cases hb:s.fB a b with
 | false=>rfl
 | true=>
  exfalso
  cases s with
  | v g cs=>
   simp only[SV.fB,adS] at hb
   obtain⟨c,hc,hi⟩:=hb
   obtain⟨j,h1,h2,h3⟩:=cv c hi
   have h4:=h j h1 h2
   simp only[SV.aZ,SV.bC,SV.bq,adR] at h4
   rcases h3 with h3 | h3 | h3
   ·exact h4.1 c hc h3
   ·exact h4.2.1 c hc h3
   ·exact h4.2.2 c hc h3
  | tup l=>
   simp only[SV.fB,adS] at hb
   obtain⟨p,hp,c,hc,hi⟩:=hb
   obtain⟨j,h1,h2,h3⟩:=cv c hi
   have h4:=h j h1 h2
   simp only[SV.aZ,SV.bC,SV.bq,adR,adS,agi,agh] at h4
   rcases h3 with h3 | h3 | h3
   ·exact h4.1 p hp c hc h3
   ·exact h4.2.1 p hp c hc h3
   ·exact h4.2.2 p hp c hc h3
theorem Wm {T:St} {tm:List SV} {hs:List Nat} {d:Nat} (h:T.fB (nid d 0 0) (nid (d+1) 0 0)=false) (hd:AV hs d=true) (htm:∀ s,s∈tm->s∈T.tmps\/Sh hs s):(T.wt tm).fB (nid d 0 0) (nid (d+1) 0 0)=false:=by
 simp only[St.fB,adt,adR] at h ⊢
 refine⟨fun s hs'=> ?_,h.2⟩
 rcases htm s hs' with h1 | h1
 ·exact h.1 s h1
 ·rw[aaa fun j hj1 hj2=>h1 j (by
   cases hb:inL hs j with
   | false=>rfl
   | true=>
    exfalso
    simp only[inL,adS] at hb
    obtain⟨q,hq,hqj⟩:=hb
    simp only[AV,adQ] at hd
    have this:j=q:=afp hqj
    subst this
    have h2:=hd j hq
    have e1:Nat.ble (nid d 0 0) j=true:=Nat.ble_eq_true_of_le hj1
    have e2:Nat.blt j (nid (d+1) 0 0)=true:=by simpa using hj2
    rw[e1,e2] at h2
    cases h2)]
  simp
theorem aaO {T:St} {tm:List SV} {v:Nat->Bool} {a b:Nat} (h:(T.wt tm).fB a b=false):(T.wtB tm v).fB a b=false:=by
 simp only[St.fB,adt,adR] at h ⊢
 exact⟨h.1,fun p hp=>h.2 p (aeS.1 hp).1⟩
theorem XZ {T:St} {tm:List SV} {v:Nat->Bool} {d:Nat} (h:(T.wt tm).aZ d=false):(T.wtB tm v).aZ d=false:=by
 simp only[St.aZ,adt,adR] at h ⊢
 exact⟨h.1,fun p hp=>h.2 p (aeS.1 hp).1⟩
theorem noU {sd:List (Nat×List Nat)} (h:sd.isEmpty=true) {v:Nat->Bool} (hv:∀ k,v k=true->inU sd k=true):∀ k,v k=false:=fun k=>by
 cases e:v k with
 | false=>rfl
 | true=>have:=hv k e;rw[List.isEmpty_iff.1 h] at this;cases this
theorem ES (hX:bY X) {ops:List Oper} {S0:St} {hs:List Nat} {sd:List (Nat×List Nat)} {e:Bool}:∀ {l:List Oper} {S:St} {k:St->Option β} {r:β},lF X ops S0 hs sd e l S k=some r-> ∃ (T:Nat->St) (sv:Nat->SV),T 0=S/\k (T l.length)=some r/\(∀ i,i<=l.length->CW sd (T i)=true)/\∀ i o,l[i]? =some o->Ht X.P (cN X ops S0 [o]) hs sd e o (T i) (sv i) (T (i+1))
 | [],S,k,r,h=>by
  simp only[lF] at h
  cases hy:CW sd S with
  | false=>rw[hy] at h;cases h
  | true=>
   rw[hy,af2] at h
   exact⟨fun _=>S,fun _=>nP,rfl,h,fun _ _=>hy,fun i o hi=>by simp at hi⟩
 | o::l,S,k,r,h=>by
  simp only[lF] at h
  cases hy:CW sd S with
  | false=>rw[hy] at h;cases h
  | true=>
  rw[hy,af2] at h
  have cons:∀ (s:SV) (S':St),Ht X.P (cN X ops S0 [o]) hs sd e o S s S'->lF X ops S0 hs sd e l S' k=some r->∃ (T:Nat->St) (sv:Nat->SV),T 0=S/\k (T (o::l).length)=some r/\(∀ i,i<=(o::l).length->CW sd (T i)=true)/\∀ i o',(o::l)[i]? =some o'->Ht X.P (cN X ops S0 [o']) hs sd e o' (T i) (sv i) (T (i+1)):=by
   intro s S' hs hr
   obtain⟨T,sv,h1,h2,h4,h3⟩:=ES hX hr
   refine⟨fun i=>match i with | 0=>S | i+1=>T i,fun i=>match i with | 0=>s | i+1=>sv i,rfl,h2,fun i hi=> ?_,fun i o' hi=> ?_⟩
   ·cases i with
    | zero=>exact hy
    | succ i=>exact h4 i (by simpa using hi)
   ·cases i with
    | zero=>
     simp only[aef,Option.some.injEq] at hi
     subst hi
     show Ht X.P (cN X ops S0 [o]) _ _ _ o S s (T 0)
     rw[h1];exact hs
    | succ i=>exact h3 i o' (by simpa using hi)
  split at h
  ·rename_i ad had
   have hst:∃ t x,o.op= .store t ad x:=by
    revert had
    unfold ZH
    split
    ·rename_i t a x e;intro h';cases h';exact⟨_,_,e⟩
    ·intro h';cases h'
   obtain⟨t,x,hop⟩:=hst
   cases ha:(sd.isEmpty&&OJ (cN X ops S0 [o]) (S.ev ad)) with
   | false=>rw[ha] at h;cases h
   | true=>
    rw[ha,af2] at h
    simp only[adf] at ha
    obtain⟨ha0,ha⟩:=ha
    obtain⟨S',h4,h5,h6⟩:=Oz hop h
    have hself:=h6 S.tmps rfl rfl
    have hdst:o.dst=none:=by
     have h7:cJ X o S some=some (S'.wt S.tmps):=hself
     cases hd:o.dst with
     | none=>rfl
     | some d=>
      obtain⟨dst,op,ty,pos,af,g⟩:=o
      simp only at hop hd
      subst hop;subst hd
      simp[cJ] at h7
    have e:S'.wt S.tmps=S':=by rw[<- h5];rfl
    refine cons nP S' ⟨?_, ?_,fun tm v hev _ hv=> ?_,fun _ hb=> ?_⟩ h4
    ·rw[hdst,h5];rfl
    ·rw[e] at hself
     exact XU hop ha hself
    ·rw[vl (noU ha0 hv),vl (noU ha0 hv)]
     have hs:=h6 tm (hev ad (by simp[hop,Op.operands])) (hev x (by simp[hop,Op.operands]))
     obtain⟨S2,e2,hs2⟩:=u6 hX hs
     cases e2
     rw[hdst]
     exact hs2
    ·rw[hop] at hb;cases hb
  ·cases hap:uT o.op with
   | true=>
    rw[hap,af2] at h
    obtain⟨args,argTypes,hop⟩:=TB hap
    cases hd0:o.dst with
    | none=>rw[hd0] at h;simp at h
    | some d0=>
     rw[hd0] at h
     simp only at h
     cases hc:(sd.isEmpty&&((cN X ops S0 [o]).rt&& !inL hs d0)) with
     | false=>rw[hc] at h;cases h
     | true=>
      rw[hc,af2] at h
      obtain⟨d,S',hd,h4,h5,h6,h7,h8⟩:=Ux hop h
      rw[hd0] at hd
      cases hd
      simp only[adf,adq] at hc
      obtain⟨hc0,hc⟩:=hc
      refine cons (.v false [.row d0]) S' ⟨?_, ?_,fun tm v hev hfr hv=> ?_,fun _ hb=> ?_⟩ h4
      ·rw[hd0,h5];rfl
      ·exact⟨fun e=>(by rw[hc.1] at e;cases e),fun k _=>by rw[h6]⟩
      ·rw[vl (noU hc0 hv),vl (noU hc0 hv)]
       have hs':=h8 tm hev (Re h7 hc.2 hfr)
       obtain⟨S2,e2,hs2⟩:=u6 hX hs'
       cases e2
       rw[hd0]
       exact hs2
      ·rw[hop] at hb;cases hb
   | false=>
    rw[hap,af1] at h
    cases hmc:EJ X o.op with
    | true=>
     rw[hmc,af2] at h
     cases hd0:o.dst with
     | none=>rw[hd0] at h;simp at h
     | some d0=>
      rw[hd0] at h
      simp only at h
      cases hc:(sd.isEmpty&&((cN X ops S0 [o]).rt&&AV hs d0)) with
      | false=>rw[hc] at h;cases h
      | true=>
       rw[hc,af2] at h
       obtain⟨S',h4,h5,h6,h7,h8⟩:=Za hmc hd0 h
       simp only[adf] at hc
       obtain⟨hc0,hc⟩:=hc
       refine cons (.v false [.row (nid d0 24 0)]) S' ⟨?_, ?_,fun tm v hev hfr hv=> ?_,fun _ hb=> ?_⟩ h4
       ·rw[hd0,h5];rfl
       ·exact⟨fun e=>(by rw[hc.1] at e;cases e),fun k _=>by rw[h6]⟩
       ·rw[vl (noU hc0 hv),vl (noU hc0 hv)]
        have hs':=h8 tm hev (Wm h7 hc.2 hfr)
        obtain⟨S2,e2,hs2⟩:=u6 hX hs'
        cases e2
        rw[hd0]
        exact hs2
       ·obtain⟨_,_,_,_,hop,_⟩:=TN hmc
        rw[hop] at hb;cases hb
    | false=>
    rw[hmc,af1] at h
    cases hmb:BH X o.op with
    | true=>
     rw[hmb,af2] at h
     cases hc:NV sd hs (cN X ops S0 [o]) o S with
     | false=>rw[hc] at h;cases h
     | true=>
      rw[hc,af2] at h
      obtain⟨b,sv,S',k1,h4,h5,h6,h7,h8,k2,k3,h9⟩:=Y9 hmb hc h
      refine cons sv S' ⟨h5, ?_,fun tm v hev hfr hv=> ?_,fun _ hb=> ?_⟩ h4
      ·exact⟨fun _=>⟨fun k q hk=>(by rw[h6];exact hk),fun k q hk=>(by rw[h7];exact hk)⟩,fun k hk=>h8 k fun e=>by subst e;rw[k1] at hk;cases hk⟩
      ·have hs':=h9 tm v hev hv (aaO (Wm k3 k2 hfr))
       obtain⟨S2,e2,hs2⟩:=u6 hX hs'
       cases e2
       exact hs2
      ·obtain⟨_,_,_,_,hop,_⟩:=TM hmb
       rw[hop] at hb;cases hb
    | false=>
    rw[hmb,af1] at h
    cases hbin:(e&&JN o.op) with
    | true=>
     simp only[adf] at hbin
     obtain⟨he,hbin⟩:=hbin
     subst he
     cases hib:IA S o.op with
     | false=>rw[hbin,hib] at h;cases h
     | true=>
      rw[hbin,hib] at h
      simp only[ads,adg,af1] at h
      obtain⟨s,h1,h2⟩:=Yy hib h
      have h1:lF X ops S0 hs sd true l (S.app o.dst ⟨s,none,none,none⟩) k=some r:=h1
      have happ:∀ T:St,T.app o.dst ⟨s,none,none,none⟩=T.wt (l7 T.tmps o.dst s):=fun T=>by cases o.dst<;>rfl
      refine cons s (S.app o.dst ⟨s,none,none,none⟩) ⟨?_, ?_,fun tm v hev _ hv=> ?_,fun _ _=>⟨happ S,h2⟩⟩ h1
      ·rw[happ];rfl
      ·rw[happ];exact⟨fun _=>⟨fun _ _ h=>h,fun _ _ h=>h⟩,fun _ _=>rfl⟩
      ·intro C G ρ w a Q hM
       obtain⟨vv,hr,hd⟩:=h2 G ρ a (fun x hx=>by rw[<- hev x hx];exact hM.tmps.ev x)
       unfold Oper.wp
       rw[hr w]
       refine⟨G,ρ, ?_⟩
       have:=hM.put o.dst (fun _ _=>hd)
       rw[happ]
       have e3:(S.wtB tm v).put o.dst s=(S.wt (l7 S.tmps o.dst s)).wtB (l7 tm o.dst s) v:=by cases o.dst<;>rfl
       rw[<- e3]
       exact this
    | false=>
    have hb':(e&&(JN o.op&& !IA S o.op))=false:=by
     cases he:e with
     | false=>rfl
     | true=>rw[he,adv] at hbin;rw[hbin];rfl
    rw[hb',af1] at h
    obtain⟨x,h1,h2,h3⟩:=rz hX h
    have hnb:∀ {v:Nat->Bool} {tm:List SV},(∀ k,v k=true->inU sd k=true)->(∀ x,x∈o.op.operands->(S.wt tm).ev x=S.ev x)->Fe o S (noB sd S) (S.wtB tm v):=fun {v tm} hv hev=>
     ⟨hev,fun k cs hk=>by
       simp only[noB] at hk
       rw[aO (fun i=>inU sd i)] at hk
       split at hk
       ·cases hk
       ·rename_i hu
        show look (S.boxes.filter fun p=> !v p.1) k=_
        rw[aO,agd (fun hvk=>hu (hv k hvk))]
        exact hk,fun _ _ h=>h,fun _ _ h=>h⟩
    have hne:e=true->JN o.op=true->False:=fun h1 h2=>by rw[h1,h2] at hbin;cases hbin
    cases hp:yC x with
    | true=>
     rw[hp,Bool.true_or,af2] at h1
     obtain⟨p1,p2,p3⟩:=zw hp
     have ex:x=⟨x.sv,none,none,none⟩:=by cases x;simp only at p1 p2 p3;subst p1;subst p2;subst p3;rfl
     have happ:∀ T:St,T.app o.dst x=T.wt (l7 T.tmps o.dst x.sv):=fun T=>by
      rw[ex];cases o.dst<;>rfl
     refine cons x.sv (S.app o.dst x) ⟨?_, ?_,fun tm v hev _ hv=> ?_,fun h1 h2=>(hne h1 h2).elim⟩ h1
     ·rw[happ];rfl
     ·rw[happ];exact⟨fun _=>⟨fun _ _ h=>h,fun _ _ h=>h⟩,fun _ _=>rfl⟩
     ·intro C G ρ w a Q hM
      have:=h2 C G ρ (S.wtB tm v) w a Q hM (hnb hv hev) (fun d' _ h=>by rw[p1] at h;cases h) (fun d' _ h=>by rw[p2] at h;cases h) (fun d' _ h=>by rw[p3] at h;cases h)
      rw[happ] at this ⊢
      exact this
    | false=>
     cases hr:aaA S hs o.dst x with
     | false=>rw[hp,hr] at h1;cases h1
     | true=>
      rw[hp,hr,adn,af2] at h1
      simp only[aaA,adf,afQ] at hr
      obtain⟨p1,p3,hd⟩:=hr
      cases hd0:o.dst with
      | none=>rw[hd0] at hd;cases hd
      | some d0=>
       rw[hd0] at hd
       simp only[adf,adq,afQ] at hd
       have happ:∀ T:St,(T.app o.dst x).tmps=l7 T.tmps o.dst x.sv/\(T.app o.dst x).boxes=T.boxes/\(T.app o.dst x).objs=T.objs/\(T.app o.dst x).rows=(match x.row with | some r=>(d0,r)::T.rows | none=>T.rows):=fun T=>by
        rw[hd0];simp only[St.app,p1,p3,l7,afV,true_and];rfl
       refine cons x.sv (S.app o.dst x) ⟨(happ S).1, ?_,fun tm v hev hfr hv=> ?_,fun h1 h2=>(hne h1 h2).elim⟩ h1
       ·obtain⟨_,a2,a3,a4⟩:=happ S
        refine⟨fun _=>⟨fun k q hk=> ?_,fun k q hk=>by rw[a3];exact hk⟩,fun _ _=>by rw[a2]⟩
        rw[a4]
        split
        ·rw[ax,agd (fun e=>by subst e;rw[hd.2] at hk;cases hk)];exact hk
        ·exact hk
       ·intro C G ρ w a Q hM
        have h7:=h2 C G ρ (S.wtB tm v) w a Q hM (hnb hv hev) (fun d' _ h=>by rw[p1] at h;cases h) (fun d' hd' hx=>by
         rw[hd0] at hd';cases hd'
         exact XZ (Re ((h3 d0 hd0).2.1 hx) hd.1 hfr)) (fun d' _ h=>by rw[p3] at h;cases h)
        have e4:(S.wtB tm v).app o.dst x=(S.app o.dst x).wtB (l7 tm o.dst x.sv) v:=by
         rw[hd0];simp only[St.app,p1,p3,l7,St.wtB]
        rw[e4] at h7
        exact h7
theorem KE {t i:Nat} {m:Msk} {ds:List Msk}:∀ {l:List (Option Nat)} {c:Nat},Ev t i m ds l c=true->∀ {k:Nat},l[k]? =some (some t)->c+k∈m\/i∈ds.getD (c+k) m0
 | [],_,_,_,h=>by simp at h
 | d::r,c,h,0,hk=>by
  simp only[Ev,adf] at h
  have:d=some t:=by simpa using hk
  subst this
  have h1:=h.1
  simp only[afn,ads,adn,adu] at h1
  exact h1.imp gP.1 gP.1
 | d::r,c,h,k+1,hk=>by
  simp only[Ev,adf] at h
  have:=KE h.2 (k:=k) (by simpa using hk)
  rw[show c+(k+1)=c+1+k by omega]
  exact this
section
variable {ops:List Oper} {m n:Nat} {S Sn:St} {listed:Array Bool} {outs:List (Option Del)}
theorem cw.keep (K:cw X ops m S outs Sn):(∀ k cs,look S.boxes k=some cs->look Sn.boxes k=some cs)/\(∀ k q,look S.rows k=some q->look Sn.rows k=some q)/\(∀ k q,look S.objs k=some q->look Sn.objs k=some q):=by
 have nolook:∀ k,(look S.boxes k).isSome=true\/(look S.rows k).isSome=true\/(look S.objs k).isSome=true->look Sn.boxes k=look S.boxes k/\look Sn.rows k=look S.rows k/\look Sn.objs k=look S.objs k:=fun k hk=>by
  have hnd:∀ j,j<m->bT ops j≠some k:=fun j hj hdj=>by
   obtain⟨_,m3,m4,m5,_⟩:=K.new j k hj hdj
   rcases hk with hk | hk | hk
   ·rw[m3] at hk;cases hk
   ·rw[m4] at hk;cases hk
   ·rw[m5] at hk;cases hk
  have:k∉fm (ops.take m):=fun hm=>by
   simp only[fm,aeT] at hm
   obtain⟨p,hp,hpd⟩:=hm
   obtain⟨j,hj⟩:=aeU.1 hp
   have hmn:j<m:=by
    have:=(aej.1 hj).1
    simp at this;omega
   rw[cH hmn] at hj
   exact hnd j hmn (by unfold bT;rw[hj];exact hpd)
  rw[K.sn]
  exact (er this).2
 exact⟨fun k cs hk=>by rw[(nolook k (.inl (by rw[hk];rfl))).1];exact hk,fun k q hk=>by rw[(nolook k (.inr (.inl (by rw[hk];rfl)))).2.1];exact hk,
  fun k q hk=>by rw[(nolook k (.inr (.inr (by rw[hk];rfl)))).2.2];exact hk⟩
def vm (a b:Touch):Prop:=(b.rt=false->a.rt=false)/\∀ k,iO b k=true->iO a k=true
structure jC (X:Cx) (ops:List Oper) (m n:Nat) (S:St) (outs:List (Option Del)) (Sn:St) (sd:List (Nat×List Nat)) (e:Bool) (tf:Nat->Touch) (t1:Oper->Touch) (T:Nat->St) (sv:Nat->SV):Prop where
 lt:m<n
 le:n<=ops.length
 t0:T 0=Sn
 step:∀ c o,m+c<n->ops[m+c]? =some o->Ht X.P (t1 o) S.ids sd e o (T c) (sv c) (T (c+1))
 cover:∀ i c o,i<m->m+c<n->ops[m+c]? =some o->i∉(deps ops).getD (m+c) m0->vm (t1 o) (tf i)
 late:∀ i o,i<m->ops[i]? =some o->i∉(deps ops).getD m m0->∀ y,outs[i]? =some (some y)->dx X.P o (states ((ops.take m).take i) S (outs.take i)) (dI (tf i) S) y/\wj true o.op y=true
 guard:∀ i o,m<=i->i<n->ops[i]? =some o->o.guard=none
 wait:∀ i j,m<=j->j<i->i<n->j∈(deps ops).getD i m0\/(e=true/\Ew ops (deps ops) m j=true)
 looks:∀ i o,i<n->ops[i]? =some o->∀ t,t∈o.looksAt ops.toArray->∀ j,j<n->bT ops j=some t->j∈(deps ops).getD i m0\/i∈(deps ops).getD j m0
 uniq:∀ i j d,i<n->j<n->bT ops i=some d->bT ops j=some d->i=j
 sds:∀ i o d,i<m->ops[i]? =some o->FO o.op=true->i∉(deps ops).getD m m0->o.dst=some d->∃ q,q∈sd/\q.1=d/\∀ t,inL q.2 t=true->∃ j,j<m/\bT ops j=some t/\(j=i\/i∈(deps ops).getD j m0)
 say:∀ c,m+c<=n->CW sd (T c)=true
 free:∀ c o,m+c<n->ops[m+c]? =some o->∀ d,inU sd d=true->iO (t1 o) d=true
variable {tf:Nat->Touch} {t1:Oper->Touch} {T:Nat->St} {sv:Nat->SV} {sd:List (Nat×List Nat)} {e:Bool}
theorem jC.len (Z:jC X ops m n S outs Sn sd e tf t1 T sv) (K:cw X ops m S outs Sn):∀ c,m+c<=n->(T c).tmps.length=S.tmps.length
 | 0,_=>by rw[Z.t0,K.tZ]
 | c+1,h=>by
  have hlt:m+c<ops.length:=by have:=Z.le;omega
  have hs:=(Z.step c _ (by omega) (aeh hlt)).tmps
  rw[hs]
  have:=Z.len K c (by omega)
  cases (ops[m+c]).dst<;>simp[l7,this]
theorem jC.other (Z:jC X ops m n S outs Sn sd e tf t1 T sv):∀ c,m+c<=n->∀ t,(∀ j,m<=j->j<m+c->bT ops j≠some t)->(T c).tmps[t]? =Sn.tmps[t]?
 | 0,_,t,_=>by rw[Z.t0]
 | c+1,h,t,ht=>by
  have hlt:m+c<ops.length:=by have:=Z.le;omega
  have hs:=(Z.step c _ (by omega) (aeh hlt)).tmps
  rw[hs, <- Z.other c (by omega) t (fun j h1 h2=>ht j h1 (by omega))]
  cases hd:(ops[m+c]).dst with
  | none=>rfl
  | some d=>
   have hne:d≠t:=fun e=>ht (m+c) (by omega) (by omega) (by unfold bT;rw[aeh hlt];simp[hd,e])
   exact aeo hne
theorem jC.ZM (Z:jC X ops m n S outs Sn sd e tf t1 T sv) {d:Nat} (hd:inU sd d=true):∀ c,m+c<=n->look (T c).boxes d=look Sn.boxes d
 | 0,_=>by rw[Z.t0]
 | c+1,h=>by
  have hlt:m+c<ops.length:=by have:=Z.le;omega
  have hs:=(Z.step c _ (by omega) (aeh hlt)).rest
  rw[hs.2 d (Z.free c _ (by omega) (aeh hlt) d hd),Z.ZM hd c (by omega)]
theorem jC.mem (Z:jC X ops m n S outs Sn sd e tf t1 T sv) {i:Nat} (hi:i<m):∀ c,m+c<=n->(∀ j,m<=j->j<m+c->i∉(deps ops).getD j m0)->Rest (tf i) Sn (T c)
 | 0,_,_=>by rw[Z.t0];exact⟨fun _=>⟨fun _ _ h=>h,fun _ _ h=>h⟩,fun _ _=>rfl⟩
 | c+1,h,hnd=>by
  have hlt:m+c<ops.length:=by have:=Z.le;omega
  have hs:=(Z.step c _ (by omega) (aeh hlt)).rest
  have hle:=Z.cover i c _ hi (by omega) (aeh hlt) (hnd (m+c) (by omega) (by omega))
  have ih:=Z.mem hi c (by omega) (fun j h1 h2=>hnd j h1 (by omega))
  exact⟨fun e=>⟨fun k q hk=>(hs.1 (hle.1 e)).1 k q ((ih.1 e).1 k q hk),fun k q hk=>(hs.1 (hle.1 e)).2 k q ((ih.1 e).2 k q hk)⟩,fun k hk=>(hs.2 k (hle.2 k hk)).trans (ih.2 k hk)⟩
theorem jC.near (Z:jC X ops m n S outs Sn sd e tf t1 T sv) (K:cw X ops m S outs Sn) {i:Nat} (hi:i<m) (c:Nat) (hc:m+c<=n) (hnd:∀ j,m<=j->j<m+c->i∉(deps ops).getD j m0): (∀ k cs,look (dI (tf i) S).boxes k=some cs->look (T c).boxes k=some cs/\look S.boxes k=some cs)/\(∀ k q,look (dI (tf i) S).rows k=some q->look (T c).rows k=some q)/\(∀ k q,look (dI (tf i) S).objs k=some q->look (T c).objs k=some q):=by
 have hm:=Z.mem hi c hc hnd
 obtain⟨k1,k2,k3⟩:=K.keep
 obtain⟨r1,r2,r3⟩:=yO (tf i) S
 exact⟨fun k cs hk=>⟨by rw[hm.2 k (r1 k cs hk).1];exact k1 k cs (r1 k cs hk).2,(r1 k cs hk).2⟩,fun k q hk=>(hm.1 (r2 k q hk).1).1 k q (k2 k q (r2 k q hk).2),fun k q hk=>(hm.1 (r3 k q hk).1).2 k q (k3 k q (r3 k q hk).2)⟩
def eS (ops:List Oper) (m:Nat) (sd:List (Nat×List Nat)) (listed:Array Bool) (k:Nat):Bool:=az ops m listed k&&inU sd k
theorem abq {listed:Array Bool} (k:Nat) (h:eS ops m sd listed k=true):inU sd k=true:=by
 simp only[eS,adf] at h;exact h.2
def sF {P0:Program} (C:Fr P0) (G:Gh) (ρ:Env) (ops:List Oper) (m:Nat) (S Sn:St) (sd:List (Nat×List Nat)) (T:Nat->St) (c:Nat) (listed:Array Bool) (w:World) (a:Act):Prop:=
 if c=0 then Mod C G ρ (aE S Sn (az ops m listed)) w a else Mod C G ρ ((T c).wtB (aE S (T c) (az ops m listed)).tmps (eS ops m sd listed)) w a
theorem jC.started (Z:jC X ops m n S outs Sn sd e tf t1 T sv) (K:cw X ops m S outs Sn) {c:Nat} {a:Act} (hdone:∀ j,j∈(deps ops).getD m m0->listed.getD j true=true) (hM:sF C G ρ ops m S Sn sd T c listed w a): Mod C G ρ ((T c).wtB (aE S (T c) (az ops m listed)).tmps (eS ops m sd listed)) w a:=by
 unfold sF at hM
 by_cases ec:c=0
 ·subst ec
  rw[age rfl] at hM
  rw[Z.t0]
  have hunb:∀ t,az ops m listed t=true->(inU sd t=false->look Sn.boxes t=none)/\look Sn.rows t=none/\look Sn.objs t=none:=fun t hu=>by
   obtain⟨j,h1,h2,h3⟩:=cV.1 hu
   obtain⟨oj,h4,h5⟩:=ir h3
   have hnd:j∉(deps ops).getD m m0:=fun hmem=>by
    have:=hdone j hmem
    rw[h2] at this;cases this
   obtain⟨x,hx⟩:∃ x,outs[j]? =some x:=⟨outs[j]'(by rw[K.len];exact h1),aeh _⟩
   have hp:(inU sd t=false->wC x=none)/\vB x=none/\zo x=none:=by
    cases x with
    | none=>exact⟨fun _=>rfl,rfl,rfl⟩
    | some y=>
     have hl:=(Z.late j oj h1 h4 hnd y hx).2
     unfold wj at hl
     cases hal:FO oj.op with
     | true=>
      simp only[hal,adh,af2,adf,afQ] at hl
      refine⟨fun hu=> ?_,hl.1,hl.2⟩
      obtain⟨q,hq1,hq2,_⟩:=Z.sds j oj t h1 h4 hal hnd h5
      have:inU sd t=true:=by
       simp only[inU,adS]
       exact⟨q,hq1,by rw[hq2];exact afn t⟩
      rw[hu] at this;cases this
     | false=>
      simp only[hal,adg,af1] at hl
      obtain⟨p1,p2,p3⟩:=zw hl
      exact⟨fun _=>p1,p2,p3⟩
   obtain⟨_,n3,n4,n5,_⟩:=K.new j t h1 h3
   have hat:=rZ (S:=S) (outs:=outs) (by rw[K.len,aeH,afC K.n_le]) K.dupl (i:=j) (o:=oj) (x:=x) (by rw[cH h1];exact h4) hx h5
   rw[<- K.sn] at hat
   refine⟨fun hu=> ?_, ?_, ?_⟩
   ·rw[hat.2.1,n3,hp.1 hu];rfl
   ·rw[hat.2.2.1,n4,hp.2.1];rfl
   ·rw[hat.2.2.2,n5,hp.2.2];rfl
  refine hM.equiv rfl (fun k cs hk=> ?_) (fun k q hk=> ?_) (fun k q hk=> ?_)
  ·simp only[aE,aO]
   simp only[St.wtB] at hk
   rw[aO] at hk
   split at hk
   ·cases hk
   ·rename_i hv
    cases hu:az ops m listed k with
    | true=>
     have hI:inU sd k=false:=by
      cases hI:inU sd k with
      | false=>rfl
      | true=>exact absurd (by simp only[eS,hu,hI,adh]) hv
     rw[(hunb k hu).1 hI] at hk;cases hk
    | false=>exact hk
  ·simp only[aE,aO]
   cases hu:az ops m listed k with
   | true=>rw[show look ((Sn.wtB (aE S Sn (az ops m listed)).tmps (eS ops m sd listed)).rows) k=look Sn.rows k from rfl,(hunb k hu).2.1] at hk;cases hk
   | false=>exact hk
  ·simp only[aE,aO]
   cases hu:az ops m listed k with
   | true=>rw[show look ((Sn.wtB (aE S Sn (az ops m listed)).tmps (eS ops m sd listed)).objs) k=look Sn.objs k from rfl,(hunb k hu).2.2] at hk;cases hk
   | false=>exact hk
 ·rw[agd ec] at hM;exact hM
theorem jC.evs (Z:jC X ops m n S outs Sn sd e tf t1 T sv) (K:cw X ops m S outs Sn) {c:Nat} {o:Oper} (hin:m+c<n) (hoi:ops[m+c]? =some o) (hdeps:∀ j,j∈(deps ops).getD (m+c) m0->listed.getD j true=true): ∀ x,x∈o.op.operands->((T c).wt (aE S (T c) (az ops m listed)).tmps).ev x=(T c).ev x:=fun x hx=>by
 have hTlen:=Z.len K c (by omega)
 cases x with
 | tmp t=>
  show (aE S (T c) (az ops m listed)).tmps.getD t (.v false [.any])=(T c).tmps.getD t (.v false [.any])
  have hu:az ops m listed t=false:=by
   cases hu:az ops m listed t with
   | false=>rfl
   | true=>
    obtain⟨j,h1,h2,h3⟩:=cV.1 hu
    rcases Z.looks (m+c) o hin hoi t (by
     simp only[Oper.looksAt,aeM,aeT]
     exact .inl ⟨.tmp t,by simpa using hx,rfl⟩) j (by omega) h3 with h4 | h4
    ·have:=hdeps j h4
     rw[h2] at this;cases this
    ·have hoj:ops[j]? =some (ops[j]'(by have:=Z.le;omega)):=aeh (by have:=Z.le;omega)
     have:=JI K.edges j _ hoj (m+c) h4
     omega
  rw[aea,ep]
  by_cases hlt:t<S.tmps.length
  ·simp[hlt,hu]
  ·rw[agd hlt]
   have:(T c).tmps[t]? =none:=aei (by rw[hTlen];exact Nat.le_of_not_lt hlt)
   rw[aea,this]
 | const v=>rfl
 | global g=>rfl
 | func f=>rfl
theorem jC.acz (Z:jC X ops m n S outs Sn sd e tf t1 T sv) (K:cw X ops m S outs Sn) {c:Nat} (hc:m+c<=n): ∀ s,s∈(aE S (T c) (az ops m listed)).tmps->s∈(T c).tmps\/Sh S.ids s:=by
 have hTlen:=Z.len K c hc
 intro s hs
 simp only[aE,aeV,aeZ] at hs
 obtain⟨t,ht,rfl⟩:=hs
 split
 ·right
  intro d hd
  have hmem:S.tmps.getD t (.v false [.any])∈S.tmps:=by
   rw[aea,aeh ht];exact aet ht
  have:=(vY (VF hd).1).2
  simp only[St.aZ,St.bC,St.bq,adt,adR] at this
  exact⟨by simpa using this.1.1 _ hmem,by simpa using this.2.1.1 _ hmem,by simpa using this.2.2.1 _ hmem⟩
 ·left
  rw[aea,aeh (by rw[hTlen];exact ht)];exact aet _
theorem jC.next (Z:jC X ops m n S outs Sn sd e tf t1 T sv) (K:cw X ops m S outs Sn) {c:Nat} {o:Oper} (hin:m+c<n) (hoi:ops[m+c]? =some o): (aE S (T (c+1)) (az ops m (listed.setIfInBounds (m+c) true))).tmps=l7 (aE S (T c) (az ops m listed)).tmps o.dst (sv c)/\eS ops m sd (listed.setIfInBounds (m+c) true)=eS ops m sd listed:=by
 have hTlen:=Z.len K c (by omega)
 have hstep:=Z.step c o hin hoi
 have e:az ops m (listed.setIfInBounds (m+c) true)=az ops m listed:=funext (Gy (by omega))
 refine⟨?_,by unfold eS;rw[e]⟩
 rw[e]
 have ht:=hstep.tmps
 cases hd:o.dst with
 | none=>
  rw[hd] at ht
  simp only[l7] at ht ⊢
  simp only[aE,ht]
 | some d=>
  rw[hd] at ht
  simp only[l7] at ht ⊢
  have hdA:bT ops (m+c)=some d:=by unfold bT;rw[hoi];exact hd
  have hu:az ops m listed d=false:=by
   cases hu:az ops m listed d with
   | false=>rfl
   | true=>
    obtain⟨j,h1,_,h3⟩:=cV.1 hu
    have:=Z.uniq j (m+c) d (by omega) hin h3 hdA
    omega
  apply ad6
  intro t
  rw[aen,ep,ep]
  by_cases e:d=t
  ·subst e
   have hlen:(aE S (T c) (az ops m listed)).tmps.length=S.tmps.length:=by simp[aE]
   rw[hlen,hu]
   by_cases hlt:d<S.tmps.length
   ·simp only[hlt,agf,adl,agc]
    rw[ht,aea,aep (by rw[hTlen];exact hlt)];rfl
   ·simp[hlt]
  ·rw[agd e,ht]
   rw[show ((T c).tmps.set d (sv c)).getD t (.v false [.any])=(T c).tmps.getD t (.v false [.any]) from EG (aeo e)]
theorem M6 {i:Nat} {o:Oper} (hoi:ops[i]? =some o) (hlt:i<listed.size) (hcl:nR ops listed) (hed:∀ e,e∈o.after.toList->Region.binds .any e=true->listed.getD e.on false=true):nR ops (listed.setIfInBounds i true):=by
 intro j oj hj hlj e he hb
 by_cases eji:j=i
 ·subst eji
  rw[hoi] at hj
  cases hj
  have:=hed e he hb
  by_cases e2:e.on=j
  ·rw[e2];exact cx hlt
  ·rw[aQ e2];exact this
 ·rw[aQ eji] at hlj
  have:=hcl j oj hj hlj e he hb
  by_cases e2:e.on=i
  ·rw[e2];exact cx hlt
  ·rw[aQ e2];exact this
theorem count_set {i u:Nat} (hlt:i<listed.size) (hin:i<n) (hun:listed.getD i true=false) (hcnt:(List.range n).countP (fun i=> !listed.getD i true)=u+1):(List.range n).countP (fun j=> !(listed.setIfInBounds i true).getD j true)=u:=by
 have:=vO (p:=fun j=> !listed.getD j true) (q:=fun j=> !(listed.setIfInBounds i true).getD j true) (i:=i) (l:=List.range n) List.nodup_range (by simpa using hin) (by simp[hun]) (fun j=>by
  by_cases e:j=i
  ·subst e;simp only[cx (listed:=listed) (b:=true) hlt];simp
  ·simp only[aQ (listed:=listed) (b:=true) e];simp[e])
 omega
theorem cw.spine (K:cw X ops m S outs Sn) (Z:jC X ops m n S outs Sn sd e tf t1 T sv) (hwaits:∀ k,n<=k->k<ops.length->∀ j,j<k->j∈(deps ops).getD k m0) {Q:Exit->Act->World->Prop} (hn:∀ e a w,Q e a w->e= .normal) (hseq:Region.seqB .any ops.toArray (ops.length - n) n (mask n ops.length)=true) (htail:∀ G ρ w a,Mod C G ρ (T (n - m)) w a->wpList X.P ops.toArray Q (ops.drop n) a w):∀ (u c:Nat) (listed:Array Bool) (a:Act) (w:World) (G:Gh) (ρ:Env),m+c<=n->listed.size=ops.length->nR ops listed-> (∀ k,m<=k->k<m+c->listed.getD k true=true)->(∀ k,m+c<=k->k<ops.length->listed.getD k true=false)->(List.range n).countP (fun i=> !listed.getD i true)=u->sF C G ρ ops m S Sn sd T c listed w a->wpAny X.P .any ops.toArray Q (u+(ops.length - n)) listed a w:=by
 have hmn:=Z.lt
 have hnl:=Z.le
 intro u
 induction u with
 | zero=>
  intro c listed a w G ρ hc hsz hcl hdn htl hcnt hM
  have hall:∀ i,i<n->listed.getD i true=true:=fun i hi=>by
   rw[adW] at hcnt
   have:=hcnt i (by simpa using hi)
   simpa using this
  have ec:c=n - m:=by
   by_cases h:m+c<n
   ·have:=htl (m+c) (aft _) (by omega)
    rw[hall (m+c) h] at this;cases this
   ·omega
  have hU:∀ t,az ops m listed t=false:=fun t=>by
   cases hu:az ops m listed t with
   | false=>rfl
   | true=>obtain⟨j,h1,h2,_⟩:=cV.1 hu;rw[hall j (by omega)] at h2;cases h2
  have hMn:Mod C G ρ (T (n - m)) w a:=by
   unfold sF at hM
   rw[agd (by omega),ec,vl (fun k=>by unfold eS;rw[hU k];rfl)] at hM
   refine hM.equiv ?_ (fun k cs hk=>hk) (fun k q hk=>hk) (fun k q hk=>hk)
   show (aE S (T (n - m)) (az ops m listed)).tmps=_
   apply ad6
   intro t
   rw[ep,hU t]
   have hl:=Z.len K (n - m) (by omega)
   by_cases hlt:t<S.tmps.length
   ·have:t<(T (n - m)).tmps.length:=by rw[hl];exact hlt
    simp[hlt,this]
   ·rw[agd hlt,aei (by omega)]
  have hmask:=JP (n:=n) hsz hnl hall (fun i h1 h2=>htl i (by omega) h2)
  have hl:(ops.drop n).length=ops.length - n:=by simp
  have:=wpAny_of_seq (P:=X.P) (md:= .any) (ops:=ops.toArray) (Q':=Q) (ops.drop n) n listed a w (fun j=>by simp[aeg]) (by rw[hl,hmask];exact hseq) (htail G ρ w a hMn)
  rw[hl] at this
  rw[afM]
  exact this
 | succ u ih=>
  intro c listed a w G ρ hc hsz hcl hdn htl hcnt hM
  have hsome:∃ i,i<n/\listed.getD i true=false:=by
   have:0<(List.range n).countP (fun i=> !listed.getD i true):=by omega
   rw[adY] at this
   obtain⟨i,h1,h2⟩:=this
   exact⟨i,by simpa using h1,by simpa using h2⟩
  rw[show u+1+(ops.length - n)=(u+(ops.length - n))+1 by omega]
  by_cases hE:m+c<n/\e=true/\Ew ops (deps ops) m (m+c)=true
  ·obtain⟨hin,he,hea⟩:=hE
   have hlt:m+c<ops.length:=by omega
   have hoi:ops[m+c]? =some (ops[m+c]):=aeh hlt
   generalize ops[m+c]=o at hoi
   have hun:=htl (m+c) (aft _) hlt
   unfold Ew at hea
   rw[hoi] at hea
   simp only[adf,adQ,afQ] at hea
   obtain⟨g1,g2,g3,g4,g5,g6⟩:=hea
   have hc0:0<c:=by
    have:m<m+c:=afx (afA _) (afr g2)
    omega
   have hT:∀ k,listed.getD k true=true->k<ops.length->listed.getD k false=true:=fun k h1 h2=>by
    rw[acZ] at h1 ⊢
    rw[ac0 (by omega)] at h1 ⊢
    simpa using h1
   have hed':∀ e,e∈o.after.toList->Region.binds .any e=true->listed.getD e.on false=true:=fun ed he hb=>by
    have h1:=g4 ed he
    rw[hb] at h1
    simp only[ads,adn,adu] at h1
    have hprev:=hdn (m+c - 1) (by omega) (by omega)
    rcases h1 with h1 | h1
    ·have:ed.on+1=m+c:=afp h1
     refine hT _ ?_ (by omega)
     rw[show ed.on=m+c - 1 by omega];exact hprev
    ·have hop:ops[m+c - 1]? =some (ops[m+c - 1]'(by omega)):=aeh (by omega)
     have hmem:=gP.1 h1
     have h2:=cQ K.edges hcl (m+c - 1) _ hop (fun e k1 k2=>hcl _ _ hop hprev e k1 k2) ed.on hmem
     have:=JI K.edges _ _ hop _ hmem
     exact hT _ h2 (by omega)
   have hdeps:=cQ K.edges hcl (m+c) o hoi hed'
   have hM2:Mod C G ρ ((T c).wtB (aE S (T c) (az ops m listed)).tmps (eS ops m sd listed)) w a:=by
    unfold sF at hM
    rw[agd (by omega)] at hM
    exact hM
   have hev:=Z.evs K hin hoi hdeps
   have hstep:=Z.step c o hin hoi
   obtain⟨hT1,hval⟩:=hstep.early he g1
   obtain⟨v,hrun,hv⟩:=hval G ρ a (fun x hx=>by rw[<- hev x hx];exact hM2.tmps.ev x)
   have hwt:Region.wanted o (yielded ops.toArray a.tmps)=true:=by simp[Region.wanted,g3]
   refine wpAny_first (i:=m+c) (oi:=o) (v:=v) (by simpa using hoi) (Region.noSelect_spec g5) (fun c a w q=>by cases hn _ _ _ q) _ listed a w (fun k ok hk hne hunk hno=> ?_) ?_ (.inl ⟨hwt,hrun⟩) ?_
   ·refine Region.free_spec (by simpa using hoi) g6 k ok hk hne ?_ hno
    have hkl:k<ops.length:=(aej.1 (show ops[k]? =some ok by simpa using hk)).1
    have:inM ((deps ops).getD (m+c) m0) k=false:=by
     cases h:inM ((deps ops).getD (m+c) m0) k with
     | false=>rfl
     | true=>have:=hdeps k (gP.1 h);rw[hunk] at this;cases this
    rw[acZ]
    simpa [hkl] using this
   ·rw[mem_ready]
    exact⟨hun,o,by simpa using hoi,fun ed he hb=>hed' ed (by simpa using he) hb⟩
   ·refine ih (c+1) (listed.setIfInBounds (m+c) true) (a.put o.dst v) w G ρ (by omega) (by simpa using hsz) (M6 hoi (by omega) hcl hed') (fun k h1 h2=> ?_) (fun k h1 h2=> ?_) (count_set (by omega) hin hun hcnt) ?_
    ·by_cases e:k=m+c
     ·subst e;exact cx (by omega)
     ·rw[aQ e];exact hdn k h1 (by omega)
    ·rw[aQ (by omega)];exact htl k (by omega) h2
    ·unfold sF
     rw[agd (by omega)]
     obtain⟨htm,hlv⟩:=Z.next K (listed:=listed) hin hoi
     rw[htm,hlv,hT1]
     have:=hM2.put o.dst (fun _ _=>hv)
     have e3:((T c).wtB (aE S (T c) (az ops m listed)).tmps (eS ops m sd listed)).put o.dst (sv c)=((T c).wt (l7 (T c).tmps o.dst (sv c))).wtB (l7 (aE S (T c) (az ops m listed)).tmps o.dst (sv c)) (eS ops m sd listed):=by cases o.dst<;>rfl
     rw[<- e3]
     exact this
  refine⟨fun hr=> ?_,fun i hi=> ?_⟩
  ·exfalso
   have hall:∀ i,i<n->listed.getD i true=true:=by
    intro i
    induction i using Nat.strongRecOn with
    | _ i ihi=>
     intro hin
     cases hl:listed.getD i true with
     | true=>rfl
     | false=>
      exfalso
      have hlt:i<ops.length:=by omega
      have hoi:ops[i]? =some ops[i]:=aeh hlt
      have:i∈Region.ready .any ops.toArray listed:=by
       rw[mem_ready]
       refine⟨hl,ops[i],by simp,fun e he hb=> ?_⟩
       have hE:=K.edges
       simp only[gO,adQ] at hE
       have h7:=hE i (by simp;exact hlt)
       rw[hoi] at h7
       simp only[adQ] at h7
       have h8:=h7 e (by simpa using he)
       simp only[hb,ads,adn] at h8
       have h9:e.on<i:=afx (afA _) (afr h8)
       have h10:=ihi e.on h9 (by omega)
       rw[acZ] at h10 ⊢
       rw[ac0 (by omega)] at h10 ⊢
       simpa using h10
      rw[hr] at this
      cases this
   obtain⟨i,h1,h2⟩:=hsome
   rw[hall i h1] at h2;cases h2
  ·rw[mem_ready] at hi
   obtain⟨hun,o,hio,hed⟩:=hi
   have hoi:ops[i]? =some o:=by simpa using hio
   have hed':∀ e,e∈o.after.toList->Region.binds .any e=true->listed.getD e.on false=true:=fun e he hb=>hed e (by simpa using he) hb
   have hlt:i<ops.length:=(aej.1 hoi).1
   have hdeps:=cQ K.edges hcl i o hoi hed'
   by_cases hin:i<n
   ·-- what the next round asks for
    have cl':nR ops (listed.setIfInBounds i true):=M6 hoi (by omega) hcl hed'
    have cnt':(List.range n).countP (fun j=> !(listed.setIfInBounds i true).getD j true)=u:=count_set (by omega) hin hun hcnt
    by_cases him:i<m
    ·have dn':∀ k,m<=k->k<m+c->(listed.setIfInBounds i true).getD k true=true:=fun k h1 h2=>by
      rw[aQ (by omega)];exact hdn k h1 h2
     have tl':∀ k,m+c<=k->k<ops.length->(listed.setIfInBounds i true).getD k true=false:=fun k h1 h2=>by
      rw[aQ (by omega)];exact htl k h1 h2
     have go:∀ G' ρ' w' a',sF C G' ρ' ops m S Sn sd T c (listed.setIfInBounds i true) w' a'->wpAny X.P .any ops.toArray Q (u+(ops.length - n)) (listed.setIfInBounds i true) a' w':=
      fun G' ρ' w' a' hM'=>ih c (listed.setIfInBounds i true) a' w' G' ρ' hc (by simpa using hsz) cl' dn' tl' cnt' hM'
     by_cases ec:c=0
     ·unfold sF at hM
      rw[age ec] at hM
      refine K.wpOp him hoi hsz hcl hun hed' hM (fun G' ρ' w' a' hM'=>go G' ρ' w' a' ?_)
      unfold sF
      rw[age ec]
      exact hM'
     ·unfold sF at hM
      rw[agd ec] at hM
      have hom:ops[m]? =some ops[m]:=aeh (by omega)
      have hlm:=hdn m (aft m) (by omega)
      have hnd:i∉(deps ops).getD m m0:=fun hmem=>by
       have:=cQ K.edges hcl m _ hom (fun e h1 h2=>hcl m _ hom hlm e h1 h2) i hmem
       rw[hun] at this;cases this
      obtain⟨x,hx⟩:∃ x,outs[i]? =some x:=⟨outs[i]'(by rw[K.len];exact him),aeh _⟩
      have hst:=K.step i o x him hoi hx
      obtain⟨hds,_⟩:=K.head i o him hoi
      obtain⟨d,hd⟩:=afS.1 hds
      have hdA:bT ops i=some d:=by unfold bT;rw[hoi];exact hd
      have hTlen:=Z.len K c hc
      have hlook:∀ t,t∈o.looksAt ops.toArray->(aE S (T c) (az ops m listed)).tmps.getD t (.v false [.any])=(aE S Sn (az ops m listed)).tmps.getD t (.v false [.any]):=fun t ht=>by
       have hno:∀ j,m<=j->j<m+c->bT ops j≠some t:=fun j h1 h2 h3=>by
        rcases Z.looks i o hin hoi t ht j (by omega) h3 with h4 | h4
        ·have:=JI K.edges i o hoi j h4
         omega
        ·have hoj:ops[j]? =some (ops[j]'(by omega)):=aeh (by omega)
         have:=cQ K.edges hcl j _ hoj (fun e k1 k2=>hcl j _ hoj (hdn j h1 h2) e k1 k2) i h4
         rw[hun] at this;cases this
       have ho:=Z.other c hc t hno
       rw[aea,aea,ep,ep,EG ho]
      have hev:=K.evs him hoi hdeps
      have hgev:∀ j want o' d,o.guard=some (j,want)->ops[j]? =some o'->o'.dst=some d->((T c).wtB (aE S (T c) (az ops m listed)).tmps (eS ops m sd listed)).ev (.tmp d)=(states ((ops.take m).take i) S (outs.take i)).ev (.tmp d):=fun j want o' d hg ho' hd'=>by
       have hl:d∈o.looksAt ops.toArray:=by
        simp only[Oper.looksAt,hg,aeM]
        right
        simp[ho',hd']
       have h1:=hlook d hl
       have h2:=K.looks him hoi hdeps d hl
       exact Eq.trans h1 h2
      have hgd:guardOf ops o ((T c).wtB (aE S (T c) (az ops m listed)).tmps (eS ops m sd listed))=guardOf ops o (states ((ops.take m).take i) S (outs.take i)):=by
       unfold guardOf
       cases hg:o.guard with
       | none=>rfl
       | some p=>
        obtain⟨j,want⟩:=p
        simp only
        cases ho':ops[j]? with
        | none=>rfl
        | some o'=>
         simp only
         cases hd':o'.dst with
         | none=>rfl
         | some d'=>
          simp only
          rw[hgev j want o' d' hg ho' hd']
      have hsk:lW ops o ((T c).wtB (aE S (T c) (az ops m listed)).tmps (eS ops m sd listed))=lW ops o (states ((ops.take m).take i) S (outs.take i)):=by
       unfold lW
       cases hg:o.guard with
       | none=>rfl
       | some p=>
        obtain⟨j,want⟩:=p
        simp only
        cases ho':ops[j]? with
        | none=>rfl
        | some o'=>
         simp only
         cases hd':o'.dst with
         | none=>rfl
         | some d'=>
          simp only
          rw[hgev j want o' d' hg ho' hd']
      have hnokey:∀ k cs,look S.boxes k=some cs->az ops m listed k=false:=fun k cs hk=>by
       cases hu:az ops m listed k with
       | false=>rfl
       | true=>
        obtain⟨j,h1,_,h3⟩:=cV.1 hu
        rw[(K.new j k h1 h3).2.1] at hk;cases hk
      have hlv':∀ t,eS ops m sd (listed.setIfInBounds i true) t=(eS ops m sd listed t&&t != d):=fun t=>by
       unfold eS
       rw[K.xo him hdA hsz hun t]
       cases az ops m listed t<;>cases inU sd t<;>cases (t != d)<;>rfl
      have fin:∀ (s:SV) (B:St) G' ρ' w' a',(∀ hlt:d<S.tmps.length,Sn.tmps[d]? =some s)->B.tmps=(aE S (T c) (az ops m listed)).tmps.set d s->(∀ k cs,look ((T c).boxes.filter fun p=> !eS ops m sd (listed.setIfInBounds i true) p.1) k=some cs->look B.boxes k=some cs)->B.rows=(T c).rows->B.objs=(T c).objs->
       Mod C G' ρ' B w' a'->wpAny X.P .any ops.toArray Q (u+(ops.length - n)) (listed.setIfInBounds i true) a' w':=fun s B G' ρ' w' a' hsn hB1 hB2 hB3 hB4 hM'=>by
       refine go G' ρ' w' a' ?_
       unfold sF
       rw[agd ec]
       have htm:(aE S (T c) (az ops m (listed.setIfInBounds i true))).tmps=(aE S (T c) (az ops m listed)).tmps.set d s:=by
        have hU:=K.xo him hdA hsz hun
        have ho:=Z.other c hc d (fun j h1 h2 h3=>by have:=Z.uniq i j d hin (by omega) hdA h3;omega)
        apply ad6
        intro t
        rw[aen,ep,ep,hU t]
        by_cases e:d=t
        ·subst e
         have hlen:(aE S (T c) (az ops m listed)).tmps.length=S.tmps.length:=by simp[aE]
         rw[hlen]
         by_cases hlt:d<S.tmps.length
         ·simp only[hlt,agf,af0,adg,adl,agc]
          rw[EG ho,aea,hsn hlt];rfl
         ·simp[hlt]
        ·rw[agd e]
         have:(t != d)=true:=by simp only[bne_iff_ne,ne_eq];exact fun h=>e h.symm
         rw[this,adi]
       refine hM'.equiv ?_ hB2 (fun k q hk=>by rw[hB3];exact hk) (fun k q hk=>by rw[hB4];exact hk)
       show B.tmps=(aE S (T c) (az ops m (listed.setIfInBounds i true))).tmps
       rw[htm];exact hB1
      have hat:=rZ (S:=S) (outs:=outs) (by rw[K.len,aeH,afC K.n_le]) K.dupl (i:=i) (o:=o) (x:=x) (by rw[cH him];exact hoi) hx hd
      rw[<- K.sn] at hat
      unfold Go.wpOp
      rw[hio]
      simp only
      cases x with
      | none=>
       have hw:Region.wanted o (yielded ops.toArray a.tmps)=false:=by
        rcases hst with ⟨dg,b,want,hg,hb⟩ | hs
        ·have hw:=gI hM.tmps (by rw[hgd];exact hg)
         simp only at hw
         rw[hw.2,hb]
        ·exact Gu hM.tmps (by rw[hsk];exact hs)
       rw[agd (by rw[hw];simp)]
       have:=hM.put o.dst (s:=nP) (fun _ _=>OD)
       rw[hd] at this ⊢
       refine fin nP (((T c).wtB (aE S (T c) (az ops m listed)).tmps (eS ops m sd listed)).put (some d) nP) G ρ w _ (fun hlt=>hat.1 hlt) rfl (fun k cs hk=> ?_) rfl rfl this
       rw[aO] at hk
       show look ((T c).boxes.filter fun p=> !eS ops m sd listed p.1) k=some cs
       rw[aO]
       split at hk
       ·cases hk
       ·rename_i hv
        rw[hlv'] at hv
        by_cases ek:k=d
        ·subst ek
         cases hI:inU sd k with
         | false=>rw[agd (by unfold eS;rw[hI];simp)];exact hk
         | true=>
          rw[Z.ZM hI c hc,hat.2.1,(K.new i k him hdA).2.1] at hk
          cases hk
        ·rw[agd (fun h=>hv (by rw[h];simp[ek]))];exact hk
      | some y=>
       obtain⟨_,hg⟩:=hst
       obtain⟨hL,hp⟩:=Z.late i o him hoi hnd y hx
       have hwt:Region.wanted o (yielded ops.toArray a.tmps)=true:=by
        rcases hg with hg | ⟨dg,b,want,hg,hb⟩
        ·exact gI hM.tmps (g:=none) (by rw[hgd];exact hg)
        ·have hw:=gI hM.tmps (by rw[hgd];exact hg)
         simp only at hw
         rw[hw.2,hb]
       rw[age hwt]
       left
       have hndj:∀ j,m<=j->j<m+c->i∉(deps ops).getD j m0:=fun j h1 h2 hmem=>by
        have hoj:ops[j]? =some (ops[j]'(by omega)):=aeh (by omega)
        have:=cQ K.edges hcl j _ hoj (fun e k1 k2=>hcl j _ hoj (hdn j h1 h2) e k1 k2) i hmem
        rw[hun] at this;cases this
       obtain⟨r1,r2,r3⟩:=Z.near K him c hc hndj
       have hnear:Fe o (states ((ops.take m).take i) S (outs.take i)) (dI (tf i) S) ((T c).wtB (aE S (T c) (az ops m listed)).tmps (eS ops m sd listed)):=
        ⟨fun z hz=>by
          rw[<- hev z hz]
          cases z with
          | tmp t=>exact hlook t (by
           simp only[Oper.looksAt,aeM,aeT]
           exact .inl ⟨.tmp t,by simpa using hz,rfl⟩)
          | const v=>rfl
          | global g=>rfl
          | func f=>rfl,fun k cs hk=>by
           obtain⟨h1,h2⟩:=r1 k cs hk
           show look ((T c).boxes.filter fun p=> !eS ops m sd listed p.1) k=some cs
           rw[aO,agd (by unfold eS;rw[hnokey k cs h2];simp)]
           exact h1,r2,r3⟩
       have hp':y.row=none/\y.obj=none/\(y.box.isSome=true->FO o.op=true):=by
        unfold wj at hp
        cases hal:FO o.op with
        | true=>
         simp only[hal,adh,af2,adf,afQ] at hp
         exact⟨hp.1,hp.2,fun _=>rfl⟩
        | false=>
         simp only[hal,adg,af1] at hp
         obtain⟨p1,p2,p3⟩:=zw hp
         exact⟨p2,p3,fun h=>by rw[p1] at h;cases h⟩
       obtain⟨p2,p3,p1⟩:=hp'
       have hquiet:FO o.op=true->((T c).wtB (aE S (T c) (az ops m listed)).tmps (eS ops m sd listed)).bU d=false/\inU sd d=true:=fun hal=>by
        obtain⟨q,hq1,hq2,hq3⟩:=Z.sds i o d him hoi hal hnd hd
        have hs:=Z.say c hc
        simp only[CW,adQ,adf,adq,adu] at hs
        obtain⟨hs1,hs2⟩:=hs q hq1
        rw[hq2] at hs1 hs2
        refine⟨?_, ?_⟩
        ·simp only[St.bU,adt,adR]
         refine⟨fun s hs'=> ?_,fun p hp2=> ?_⟩
         ·simp only[St.wtB,aE,aeV,aeZ] at hs'
          obtain⟨t,ht,rfl⟩:=hs'
          split
          ·have hmem:S.tmps.getD t (.v false [.any])∈S.tmps:=by
            rw[aea,aeh ht];exact aet ht
           have:=(vY (K.new i d him hdA).1).1
           simp only[St.bU,adt,adR] at this
           exact this.1 _ hmem
          ·rename_i hu
           rcases hs2 t (by rw[aeZ,hTlen];exact ht) with h1 | h1
           ·obtain⟨j,hj1,hj2,hj3⟩:=hq3 t h1
            exfalso
            apply hu
            refine cV.2 ⟨j,hj1, ?_,hj2⟩
            rcases hj3 with rfl | hj3
            ·exact hun
            ·cases hl:listed.getD j true with
             | false=>rfl
             | true=>
              have hoj:ops[j]? =some (ops[j]'(by omega)):=aeh (by omega)
              have:=cQ K.edges hcl j _ hoj (fun e k1 k2=>hcl j _ hoj hl e k1 k2) i hj3
              rw[hun] at this;cases this
           ·rw[h1];simp
         ·have:=hs1 p (aeS.1 hp2).1
          rw[this];simp
        ·simp only[inU,adS]
         exact⟨q,hq1,by rw[hq2];exact afn d⟩
       have hwp:=hL C G ρ _ w a Q hM hnear (fun d' hd' h=>by rw[hd] at hd';cases hd';exact (hquiet (p1 h)).1) (fun d' _ h=>by rw[p2] at h;cases h) (fun d' _ h=>by rw[p3] at h;cases h)
       refine Oper.wp_mono (fun a' w' h=> ?_) hwp
       obtain⟨G',ρ',hM'⟩:=h
       rw[hd] at hM'
       refine fin y.sv _ G' ρ' w' a' (fun hlt=>hat.1 hlt) rfl (fun k cs hk=> ?_) (by simp only[St.app,p2];rfl) (by simp only[St.app,p3];rfl) hM'
       have hbase:k≠d\/inU sd d=false->look ((T c).boxes.filter fun p=> !eS ops m sd listed p.1) k=some cs:=fun hor=>by
        rw[aO] at hk
        rw[aO]
        split at hk
        ·cases hk
        ·rename_i hv
         rw[hlv'] at hv
         by_cases ek:k=d
         ·subst ek
          have hI:=hor.resolve_left (fun h=>h rfl)
          rw[agd (by unfold eS;rw[hI];simp)];exact hk
         ·rw[agd (fun h=>hv (by rw[h];simp[ek]))];exact hk
       have hdk:inU sd d=true->look ((T c).boxes.filter fun p=> !eS ops m sd (listed.setIfInBounds i true) p.1) d=y.box:=fun hI=>by
        rw[aO,agd (by rw[hlv'];simp),Z.ZM hI c hc,hat.2.1,(K.new i d him hdA).2.1]
        show y.box.or none=y.box
        cases y.box<;>rfl
       cases hyb:y.box with
       | none=>
        simp only[St.app,hyb]
        refine hbase ?_
        by_cases ek:k=d
        ·subst ek
         right
         cases hI:inU sd k with
         | false=>rfl
         | true=>rw[hdk hI,hyb] at hk;cases hk
        ·exact .inl ek
       | some cs'=>
        simp only[St.app,hyb,ax]
        by_cases ek:d=k
        ·subst ek
         rw[hdk (hquiet (p1 (by rw[hyb];rfl))).2,hyb] at hk
         rw[age rfl]
         exact hk
        ·rw[agd ek]
         exact hbase (.inl (Ne.symm ek))
    ·-- the next of the stores' row
     have ei:i=m+c:=by
      by_cases h1:i<m+c
      ·have:=hdn i (by omega) h1
       rw[hun] at this;cases this
      ·by_cases h2:m+c<i
       ·rcases Z.wait i (m+c) (by omega) h2 hin with h3 | h3
        ·have h3:=hdeps (m+c) h3
         have:=htl (m+c) (aft _) (by omega)
         rw[h3] at this;cases this
        ·exact absurd ⟨by omega,h3⟩ hE
       ·omega
     subst ei
     have hdm:∀ j,j∈(deps ops).getD m m0->listed.getD j true=true:=fun j hj=>by
      by_cases ec:c=0
      ·subst ec;exact hdeps j hj
      ·have hom:ops[m]? =some ops[m]:=aeh (by omega)
       have hlm:=hdn m (aft m) (by omega)
       exact cQ K.edges hcl m _ hom (fun e h1 h2=>hcl m _ hom hlm e h1 h2) j hj
     have hM2:=Z.started K hdm hM
     have hstep:=Z.step c o hin hoi
     have hTlen:=Z.len K c hc
     have hTlen':=Z.len K (c+1) (by omega)
     have hog:=Z.guard (m+c) o (by omega) hin hoi
     have hev:=Z.evs K hin hoi hdeps
     unfold Go.wpOp
     rw[hio]
     simp only
     have hwt:Region.wanted o (yielded ops.toArray a.tmps)=true:=gI (g:=none) hM2.tmps (by simp[guardOf,hog])
     rw[age hwt]
     left
     have hfr:=Z.acz K (listed:=listed) hc
     have hwp:=hstep.sound _ _ hev hfr abq C G ρ w a Q hM2
     refine Oper.wp_mono (fun a' w' h=> ?_) hwp
     obtain⟨G',ρ',hM'⟩:=h
     refine ih (c+1) (listed.setIfInBounds (m+c) true) a' w' G' ρ' (by omega) (by simpa using hsz) cl' (fun k h1 h2=> ?_) (fun k h1 h2=> ?_) cnt' ?_
     ·by_cases e:k=m+c
      ·subst e;exact cx (by omega)
      ·rw[aQ e];exact hdn k h1 (by omega)
     ·rw[aQ (by omega)];exact htl k (by omega) h2
     ·unfold sF
      rw[agd (by omega)]
      obtain⟨htm,hlv⟩:=Z.next K (listed:=listed) hin hoi
      rw[htm,hlv]
      exact hM'
   ·exfalso
    obtain⟨j,h1,h2⟩:=hsome
    have hd:=hwaits i (by omega) hlt j (by omega)
    have:=hdeps j hd
    rw[h2] at this;cases this
end
theorem OC (X:Cx) (ops:List Oper) (S:St) (o:Oper) (l:List Oper):vm (cN X ops S [o]) (cN X ops S (o::l))/\vm (cN X ops S l) (cN X ops S (o::l)):=by
 simp only[cN]
 cases adX X o.op with
 | some a=>
  dsimp only
  cases MF ops 9 a with
  | true=>exact⟨⟨nofun,fun k _=>by simp[iO,inL]⟩,⟨nofun,fun k h=>h⟩⟩
  | false=>
   simp only[af1]
   cases Eb ops S 9 a with
   | none=>exact⟨⟨nofun,fun k h=>by simp[iO] at h⟩,⟨nofun,fun k h=>by simp[iO] at h⟩⟩
   | some b=>
    refine⟨⟨fun _=>rfl,fun k h=> ?_⟩,⟨fun h=>h,fun k h=> ?_⟩⟩
    ·cases hb:(cN X ops S l).bs with
     | none=>simp[iO,hb] at h
     | some q=>simp only[iO,hb,inL,List.any_cons,Bool.not_or,adf,List.any_nil,adr,afW] at h ⊢;exact h.1
    ·cases hb:(cN X ops S l).bs with
     | none=>simp[iO,hb] at h
     | some q=>simp only[iO,hb,inL,List.any_cons,Bool.not_or,adf] at h ⊢;exact h.2
 | none=>
  dsimp only
  cases isApp X o.op with
  | true=>exact⟨⟨nofun,fun k _=>by simp[iO,inL]⟩,⟨nofun,fun k h=>h⟩⟩
  | false=>exact⟨⟨fun _=>rfl,fun k _=>by simp[iO,inL]⟩,⟨fun h=>h,fun k h=>h⟩⟩
theorem vm.trans {a b c:Touch} (h:vm a b) (g:vm b c):vm a c:=⟨fun e=>h.1 (g.1 e),fun k hk=>h.2 k (g.2 k hk)⟩
theorem Ju (X:Cx) (ops:List Oper) (S:St) (o:Oper):∀ l:List Oper,o∈l->vm (cN X ops S [o]) (cN X ops S l)
 | [],h=>by cases h
 | p::l,h=>by
  rcases aeP.1 h with rfl | h
  ·exact (OC X ops S o l).1
  ·exact (Ju X ops S o l h).trans (OC X ops S p l).2
theorem Jg (hX:bY X) {ops:List Oper} {S:St} {k:St->Option β} {r:β} {m n:Nat} (hchk:xP ops m n=true) (h:Gs X ops S k m n=some r) {Q:Exit->Act->World->Prop} (hn:∀ e a w,Q e a w->e= .normal) (hQ:∀ S' G ρ w a,k S'=some r->Mod C G ρ S' w a->Q .normal a w) {a:Act} (hM:Mod C G ρ S w a): Go.wpAny X.P .any ops.toArray Q ops.toArray.size (Array.replicate ops.toArray.size false) a { w with drawn:=w.drawn+1 }:=by
 unfold Gs at h
 simp only at h
 cases hfu:WY (cN X ops S ((ops.take n).drop m)) (NR ops m) with
 | false=>rw[hfu] at h;cases h
 | true=>
 rw[hfu,af2] at h
 obtain⟨outs,h1,h2,h3⟩:=ya hX h
 split at h2
 ·rename_i hnew
  simp only[xP,adf] at hchk
  obtain⟨c0,c1,c2,c3,c4,c5,c6⟩:=hchk
  have hmn:m<n:=afx (afA _) (afr c0)
  have hnl:n<=ops.length:=afr c1
  have K:=cw.of (X:=X) (afs (afx hmn hnl)) c2 c4 h1 (fun i o x hi hx=>(h3 i o x hi hx).1) hnew
  obtain⟨T,sv,t0,h4,hsay,h5⟩:=ES hX h2
  simp only[Wi,adf,adq,adQ] at c6
  obtain⟨cdup,call⟩:=c6
  have hget:∀ i o,i<n->ops[i]? =some o->(∀ t,t∈o.looksAt ops.toArray->∀ j,j<n->bT ops j=some t->j∈(deps ops).getD i m0\/i∈(deps ops).getD j m0)/\(m<=i->o.guard=none)/\(m<=i->∀ j,m<=j->j<i->j∈(deps ops).getD i m0\/Ew ops (deps ops) m j=true):=fun i o hin hi=>by
   have h6:=call i (by simpa using hin)
   rw[hi] at h6
   simp only[adf,adQ,adu,afQ] at h6
   obtain⟨g1,g2,g3⟩:=h6
   refine⟨fun t ht j hj hdj=> ?_,fun hmi=> ?_,fun hmi j hmj hji=> ?_⟩
   ·have h7:=KE (g1 t ht) (k:=j) (by
     obtain⟨o',ho',hd'⟩:=ir hdj
     rw[aek,cH hj,ho',afU,hd'])
    rw[afM] at h7;exact h7
   ·rcases g2 with g2 | g2
    ·have:i<m:=afx (afA _) (afr g2)
     omega
    ·exact g2
   ·rcases g3 with g3 | g3
    ·have:i<m:=afx (afA _) (afr g3)
     omega
    ·rcases g3 j (by simpa using hji) with g4 | g4
     ·have:j<m:=afx (afA _) (afr g4)
      omega
     ·rcases g4 with g4 | g4
      ·exact .inl (gP.1 g4)
      ·exact .inr g4
  have hgd:∀ i o,m<=i->i<n->ops[i]? =some o->o.guard=none:=fun i o hmi hin hi=>(hget i o hin hi).2.1 hmi
  have hlen:((ops.take n).drop m).length=n - m:=by simp;omega
  have Z:jC X ops m n S outs (states (ops.take m) S outs) (NR ops m) (!Sz (deps ops) m n) (fun i=>cN X ops S (TH ops m n i)) (fun o=>cN X ops S [o]) T sv:={
   lt:=hmn
   le:=hnl
   t0:=t0
   step:=fun c o hc hi=>h5 c o (by rw[aeg,cH hc];exact hi)
   cover:=fun i c o him hc hi hnd=>Ju X ops S o _ (by
    simp only[TH,aeT,aeZ]
    refine⟨m+c,hc, ?_⟩
    have h1:Nat.ble m (m+c)=true:=Nat.ble_eq_true_of_le (by omega)
    have h2:inM ((deps ops).getD (m+c) m0) i=false:=by
     cases h3:inM ((deps ops).getD (m+c) m0) i with
     | false=>rfl
     | true=>exact absurd (gP.1 h3) hnd
    rw[h1,h2]
    exact hi)
   late:=fun i o him hi hnd y hy=>by
    have h6:=(h3 i o (some y) (by rw[cH him];exact hi) hy).2 (by
     rw[afM]
     cases hm:inM ((deps ops).getD m m0) i with
     | false=>rfl
     | true=>exact absurd (gP.1 hm) hnd) y rfl
    rw[afM] at h6
    exact h6
   guard:=hgd
   wait:=fun i j hmj hji hin=>by
    cases ht:Sz (deps ops) m n with
    | true=>
     simp only[Sz,adQ] at ht
     have h6:=ht i (by simpa using hin)
     simp only[adu,adQ] at h6
     rcases h6 with h6 | h6
     ·have:i<m:=afx (afA _) (afr h6)
      omega
     ·rcases h6 j (by simpa using hji) with h7 | h7
      ·have:j<m:=afx (afA _) (afr h7)
       omega
      ·exact .inl (gP.1 h7)
    | false=>exact ((hget i _ hin (aeh (show i<ops.length by omega))).2.2 (by omega) j hmj hji).imp id fun h=>⟨rfl,h⟩
   looks:=fun i o hin hi=>(hget i o hin hi).1
   uniq:=fun i j d hin hjn hdi hdj=>by
    obtain⟨oi,e1,e2⟩:=ir hdi
    obtain⟨oj,e3,e4⟩:=ir hdj
    rcases afB i j with h | h | h
    ·have:=(jm (l:=ops.take n) cdup (i:=j) (o:=oj) (d:=d) (by rw[cH hjn];exact e3) e4).2
     exact absurd (uy (ops:=ops.take n) (i:=j) (j:=i) (by rw[cH hin];exact e1) e2 h) this
    ·exact h
    ·have:=(jm (l:=ops.take n) cdup (i:=i) (o:=oi) (d:=d) (by rw[cH hin];exact e1) e2).2
     exact absurd (uy (ops:=ops.take n) (i:=i) (j:=j) (by rw[cH hjn];exact e3) e4 h) this
   sds:=fun i o d him hi hal hnd hd=>⟨(d,(List.range m).filterMap fun j=>bif Nat.beq j i||inM ((deps ops).getD j m0) i then bT ops j else none),by
    simp only[NR,aeT,aeZ]
    refine⟨i,him, ?_⟩
    have h2:inM ((deps ops).getD m m0) i=false:=by
     cases h3:inM ((deps ops).getD m m0) i with
     | false=>rfl
     | true=>exact absurd (gP.1 h3) hnd
    rw[hi]
    simp only[hal,h2,adr,adh,af2,hd],rfl,fun t ht=>by
    have ht:=VG.1 ht
    simp only[aeT,aeZ] at ht
    obtain⟨j,hj,ht⟩:=ht
    cases hb:(Nat.beq j i||inM ((deps ops).getD j m0) i) with
    | false=>rw[hb] at ht;cases ht
    | true=>
     rw[hb,af2] at ht
     refine⟨j,hj,ht, ?_⟩
     simp only[adu] at hb
     exact hb.imp afp gP.1⟩
   say:=fun c hc=>hsay c (by rw[hlen];omega)
   free:=fun c o hc hi d hd=>by
    simp only[inU,adS] at hd
    obtain⟨q,hq,hqd⟩:=hd
    simp only[WY,adQ] at hfu
    have h6:=hfu q hq
    rw[afp hqd] at h6
    refine (Ju X ops S o _ ?_).2 d h6
    rw[aeU]
    exact⟨c,by rw[aeg,cH hc];exact hi⟩ }
  have hM':=hM.of_heap (w':={ w with drawn:=w.drawn+1 }) rfl rfl rfl
  have hll:((ops.take n).drop m).length=n - m:=by simp;omega
  rw[hll] at h4
  have hsp:=K.spine (C:=C) (Q:=Q) Z (Cl c3) hn c5 (fun G ρ w a hMn=>rN hX ops (ops.drop n) h4 hQ hMn) n 0 (Array.replicate ops.toArray.size false) a { w with drawn:=w.drawn+1 } G ρ (by omega) (by simp) rY
   (fun k h1 h2=>by omega) (fun k _ hk2=>pI hk2 true) (uk hnl) (by
     unfold sF
     rw[age rfl]
     exact zK (afs (afx hmn hnl)) hM')
  rw[show n+(ops.length - n)=ops.toArray.size by simp;omega] at hsp
  exact hsp
 ·cases h2
theorem B6 (hX:bY X) {ops:List Oper} {S:St} {k:St->Option β} {els:Option β} {r:β} (h:u5 X ops S k els=some r) {Q:Exit->Act->World->Prop} (hn:∀ e a w,Q e a w->e= .normal) (hQ:∀ S' G ρ w a,k S'=some r->Mod C G ρ S' w a->Q .normal a w) {a:Act} (hM:Mod C G ρ S w a) (hels:els=some r->Go.wpAny X.P .any ops.toArray Q ops.toArray.size (Array.replicate ops.toArray.size false) a { w with drawn:=w.drawn+1 }): Go.wpAny X.P .any ops.toArray Q ops.toArray.size (Array.replicate ops.toArray.size false) a { w with drawn:=w.drawn+1 }:=by
 unfold u5 at h
 simp only at h
 split at h
 ·rename_i hchk
  generalize yf (deps ops) ops.length=n at h hchk
  obtain⟨outs,h1,h2,h3⟩:=uH hX h
  split at h2
  ·rename_i hnew
   simp only[AU,adf] at hchk
   obtain⟨⟨⟨⟨⟨c1,c2⟩,c3⟩,c4⟩,c5⟩,_⟩:=hchk
   have hnl:n<=ops.length:=afr c1
   have K:=cw.of (X:=X) hnl c2 c4 h1 h3 hnew
   have hM':=hM.of_heap (w':={ w with drawn:=w.drawn+1 }) rfl rfl rfl
   have hany:=K.any (C:=C) (Q:=Q) (Cl c3) c5 (fun G ρ w a hMn=>rN hX ops (ops.drop n) h2 hQ hMn) n (Array.replicate ops.toArray.size false) a { w with drawn:=w.drawn+1 } G ρ (by simp) rY
    (fun m _ hm2=>pI hm2 true) (uk hnl) (zK hnl hM')
   rw[show n+(ops.length - n)=ops.toArray.size by simp;omega] at hany
   exact hany
  ·cases h2
 ·split at h
  ·rename_i hchk
   generalize yf (deps ops) ops.length - 1=m at h hchk
   obtain⟨outs,h1,h2,h3⟩:=uH hX h
   split at h2
   ·rename_i hnew
    simp only[LR,adf] at hchk
    obtain⟨⟨⟨⟨⟨⟨c1,c2⟩,c3⟩,c4⟩,c5⟩,c6⟩,_⟩:=hchk
    have hm:m<ops.length:=afr c1
    have K:=cw.of (X:=X) (afs hm) c2 c4 h1 h3 hnew
    have hos:ops[m]? =some ops[m]:=aeh hm
    unfold YP at c6
    rw[hos] at c6
    simp only[adf,afQ,adQ] at c6
    obtain⟨⟨⟨⟨g1,g2⟩,g3⟩,g4⟩,g5⟩:=c6
    have hst:∃ t ad x,ops[m].op= .store t ad x:=by
     revert g1
     cases ops[m].op<;>intro g1<;>first | exact⟨_,_,_,rfl⟩ | exact absurd g1 adm
    obtain⟨ty,ad,x,hop⟩:=hst
    rw[ad0 hm] at h2
    have h2':cJ X ops[m] (states (ops.take m) S outs) (fun S=>lD X ops (ops.drop (m+1)) S k)=some r:=by
     simpa [lD,guardOf,g2] using h2
    obtain⟨S',h4,h5,h6⟩:=Oz hop h2'
    have hM':=hM.of_heap (w':={ w with drawn:=w.drawn+1 }) rfl rfl rfl
    have hlate:=K.late (C:=C) (Q:=Q) hm (Cl c3) hos g2 (fun i him=>by
     have:=g4 i (by simpa using him)
     simp only[adu] at this
     rcases this with h | h
     ·exact .inl (gP.1 h)
     ·right
      have hoi:ops[i]? =some ops[i]:=aeh (by omega)
      rw[hoi] at h
      simp only[adf,afQ] at h
      exact⟨_,hoi,h⟩)
     (fun t ht j hj hdj=>by
       have:=g5 t (by simpa using ht) j (by simpa using hj)
       rw[age (by simp[hdj])] at this
       exact gP.1 this)
     (S':=S') ⟨h5,fun tm hev=>by
       have hs:=h6 tm (hev ad (by simp[hop,Op.operands])) (hev x (by simp[hop,Op.operands]))
       obtain⟨S2,e2,hs2⟩:=u6 hX hs
       cases e2
       exact hs2⟩ c5
     (fun G ρ w a hMn=>rN hX ops (ops.drop (m+1)) h4 hQ hMn) (m+1) (Array.replicate ops.toArray.size false) a { w with drawn:=w.drawn+1 } G ρ (by simp) rY
     (fun k _ hk2=>pI hk2 true) (uk hm) (by
       unfold qb
       rw[agd (by rw[pI hm];simp)]
       exact zK (afs hm) hM')
    rw[show m+1+(ops.length - (m+1))=ops.toArray.size by simp;omega] at hlate
    exact hlate
   ·cases h2
  ·split at h
   ·rename_i hchk
    generalize yf (deps ops) ops.length - 1=m at h hchk
    obtain⟨outs,h1,h2,h3⟩:=uH hX h
    split at h2
    ·rename_i hnew
     simp only[LS,adf] at hchk
     obtain⟨⟨⟨⟨⟨⟨c1,c2⟩,c3⟩,c4⟩,c5⟩,c6⟩,_⟩:=hchk
     have hm:m<ops.length:=afr c1
     have K:=cw.of (X:=X) (afs hm) c2 c4 h1 h3 hnew
     have hos:ops[m]? =some ops[m]:=aeh hm
     unfold VN at c6
     rw[hos] at c6
     simp only[adf,afQ,adQ] at c6
     obtain⟨⟨⟨⟨g1,g2⟩,g3⟩,g4⟩,g5⟩:=c6
     unfold runM at h2
     rw[hos] at h2
     simp only at h2
     split at h2
     ·rename_i ty ad x hop
      split at h2
      ·rename_i b off had
       obtain⟨S',h4,h5,h6,h7,h8⟩:=Zz hop had h2
       cases hfc:(II ops m).all fun d=> !S'.boxes.any fun p=>p.2.any (CV.aZ d) with
       | false=>rw[hfc] at h4;cases h4
       | true=>
        rw[hfc,af2] at h4
        simp only[adQ,adq] at hfc
        have hM':=hM.of_heap (w':={ w with drawn:=w.drawn+1 }) rfl rfl rfl
        have hlate:=K.acC (C:=C) (Q:=Q) hm (Cl c3) hos g2 (fun i him=>by
         have:=g4 i (by simpa using him)
         simp only[adu] at this
         rcases this with h | h
         ·exact .inl (gP.1 h)
         ·right
          have hoi:ops[i]? =some ops[i]:=aeh (by omega)
          rw[hoi] at h
          simp only[adf,afQ] at h
          exact⟨_,hoi,h⟩)
         (fun t ht j hj hdj=>by
           have:=g5 t (by simpa using ht) j (by simpa using hj)
           rw[age (by simp[hdj])] at this
           exact gP.1 this)
         (S':=S') ⟨h5,h6,h7,fun tm rw ob hev=>by
           have hs:=h8 tm rw ob (hev ad (by simp[hop,Op.operands])) (hev x (by simp[hop,Op.operands]))
           obtain⟨S2,e2,hs2⟩:=u6 hX hs
           cases e2
           exact hs2⟩
         (fun i d p him hnd hpi hmk hpd=>hfc d (by
           simp only[II,aeT,aeZ]
           refine⟨i,him, ?_⟩
           rw[hpi]
           have h9:inM ((deps ops).getD m m0) i=false:=by
            cases h3:inM ((deps ops).getD m m0) i with
            | false=>rfl
            | true=>exact absurd (gP.1 h3) hnd
           simp only[hmk,h9,adr,adh,agf]
           exact hpd)) c5
         (fun G ρ w a hMn=>rN hX ops (ops.drop (m+1)) h4 hQ hMn) (m+1) (Array.replicate ops.toArray.size false) a { w with drawn:=w.drawn+1 } G ρ (by simp) rY
         (fun k _ hk2=>pI hk2 true) (uk hm) (by
           unfold mZ
           rw[agd (by rw[pI hm];simp)]
           exact zK (afs hm) hM')
        rw[show m+1+(ops.length - (m+1))=ops.toArray.size by simp;omega] at hlate
        exact hlate
      ·cases h2
     ·cases h2
    ·cases h2
   ·split at h
    ·rename_i hchk
     exact Jg hX hchk h hn hQ hM
    ·split at h
     ·rename_i hchk
      simp only[adf] at hchk
      exact Jg hX hchk.1 h hn hQ hM
     ·exact hels h
end Go.Dn
namespace Go.Dn
variable {P:Program}
theorem aaN {o:Oper} {a:Act} {w w':World} {v:Value} {K:Act->World->Prop} {Q:Exit->Act->World->Prop} (hr:(execOp a.eval o).run P w= .ok (.value v) w') (hK:K (a.put o.dst v) w'):o.wp P a w K Q:=by
 unfold Oper.wp
 rw[hr]
 exact hK
theorem GC (xs:Array MapEntry) (p:MapEntry->Bool):xs.findIdx? p=xs.toList.findIdx? p:=by
 cases xs
 simp
theorem GD {α:Type} (f:α->α) (a:α):∀ l:List α,(l++[a]).modify l.length f=l++[f a]
 | []=>rfl
 | b::r=>by simp[List.modify_succ_cons,GD f a r]
theorem Fy {α:Type}:∀ (l:List α) (j:Nat) (a:α),l[j]? =some a->l.set j a=l
 | [],_,_,h=>by simp at h
 | b::r,0,a,h=>by simp at h;simp[h]
 | b::r,j+1,a,h=>by simp at h;simp[Fy r j a h]
theorem vU {α:Type} (f:α->α):∀ (l:List α) (j:Nat) (a:α),l[j]? =some a->l.modify j f=l.set j (f a)
 | [],_,_,h=>by simp at h
 | b::r,0,a,h=>by simp at h;simp[h]
 | b::r,j+1,a,h=>by simp at h;simp[List.modify_succ_cons,vU f r j a h]
theorem Xl {k v:Ty} {a:k.den} {l:List (k.den×v.den)} {z:v.den} (h:∀ p,p∈l->k.beq a p.1=false):(eH (l++[(a,z)]) a).getD z=z:=by
 unfold eH
 rw[List.find?_append,List.find?_eq_none.2 (by intro p hp;simp[h p hp])]
 simp only[Option.none_or,List.find?_cons,List.find?_nil]
 cases k.beq a a<;>rfl
theorem find_born:∀ {l:List MapEntry},l.Pairwise (fun a b=>a.born<b.born)->∀ {i:Nat} {e:MapEntry},l[i]? =some e->l.findIdx? (fun x=>((x.born:Nat):Int)==((e.born:Nat):Int))=some i
 | [],_,i,e,h=>by simp at h
 | a::r,hp,0,e,h=>by
  simp only[aef,Option.some.injEq] at h
  subst h
  simp[List.findIdx?_cons]
 | a::r,hp,i+1,e,h=>by
  simp only[aee] at h
  rw[ae5] at hp
  have hne:=hp.1 e (aeW h)
  have hb:(((a.born:Nat):Int)==((e.born:Nat):Int))=false:=by
   simp only[afX,ne_eq,Int.natCast_inj]
   omega
  rw[List.findIdx?_cons,hb]
  simp[find_born hp.2 h]
def Vw (P:Program) (G:Gh) (kk vv:Ty) (l:List (kk.den×vv.den)) (key:kk.den) (b:Nat) (es:Array MapEntry) (clock st:Nat):Prop:=
 ∀ (t:TypeId) (w2:World) (val:Value) (y:vv.den),w2.heap[b]? =some (.map es clock)->bX G vv y val->
  ∃ es':Array MapEntry,(Instr.entryStore t (.map (some b)) (goInt st) val).run P w2= .ok () { w2 with heap:=w2.heap.setIfInBounds b (.map es' clock) }/\aF (qp G kk vv) (lq l key y) es'.toList/\
   es'.toList.map (·.born)=es.toList.map (·.born)
theorem Uf {t kt et:TypeId} {kk vv:Ty} {key:kk.den} {z:vv.den} {l:List (kk.den×vv.den)} {kv:Value} {b:Nat} {es:Array MapEntry} {clock:Nat} {G:Gh} {w:World} (ht:P.underlying t=some (.map kt et)) (hchk:fy P kt kk=true) (hz:yq P et vv=some z) (hk:bX G kk key kv) (hb:w.heap[b]? =some (.map es clock)) (hl:aF (qp G kk vv) l es.toList) (h1:∀ (i:Nat) (e:MapEntry),es.toList[i]? =some e->e.born<clock) (h2:es.toList.Pairwise (fun a b=>a.born<b.born)): ∃ (l1:List (kk.den×vv.den)) (es1:Array MapEntry) (clock1 st:Nat) (v0:Value),(Instr.mapEntry t (.map (some b)) kv).run P w= .ok (.tuple #[v0,goInt st]) { w with heap:=w.heap.setIfInBounds b (.map es1 clock1) }/\aF (qp G kk vv) l1 es1.toList/\ (eH l1 key).getD z=(eH l key).getD z/\(∀ (i:Nat) (e:MapEntry),es1.toList[i]? =some e->e.born<clock1)/\es1.toList.Pairwise (fun a b=>a.born<b.born)/\Vw P G kk vv l key b es1 clock1 st:=by
 obtain⟨iz,zv,hiz,hzi,hzr,hzv⟩:=AR hz
 obtain⟨fr,hf1,hf2⟩:=Ay (w:=w) hchk hk hl
 have hg:=hf2.get
 have hset:=fun y=>hf2.set (y:vv.den)
 cases hf2 with
 | no hn=>
  simp only at hg hset
  have hpw:(es.push ⟨kv,zv,clock⟩).toList.Pairwise (fun a b=>a.born<b.born):=by
   rw[ada,ae4]
   refine⟨h2,by simp,fun a ha b' hb'=> ?_⟩
   rcases ae0.1 hb' with rfl
   obtain⟨i,hi⟩:=aeU.1 ha
   exact h1 i a hi
  refine⟨l++[(key,z)],es.push ⟨kv,zv,clock⟩,clock+1,clock,zv, ?_, ?_, ?_, ?_,hpw, ?_⟩
  ·simp[Instr.mapEntry,run_underlying ht,kH hb,kR hchk hk,hf1,hzr,s8 _ hb]
  ·rw[ada]
   exact hl.append ⟨_,_,rfl,⟨hk,hzv G⟩,rfl⟩
  ·rw[hg,Xl hn];rfl
  ·intro i e hi
   rw[ada,aeb] at hi
   split at hi
   ·have:=h1 i e hi;omega
   ·simp only[List.getElem?_singleton] at hi
    split at hi
    ·cases hi;simp
    ·cases hi
  ·intro t2 w2 val y hw2 hy
   have hidx:(es.push ⟨kv,zv,clock⟩).findIdx? (fun e=>((e.born:Nat):Int)==((clock:Nat):Int))=some es.size:=by
    have:=find_born hpw (i:=es.size) (e:=⟨kv,zv,clock⟩) (by simp)
    simpa [GC] using this
   have hmod:(es.push ⟨kv,zv,clock⟩).modify es.size (fun e=>{ e with val:=val })=es.push ⟨kv,val,clock⟩:=by
    apply Array.ext'
    rw[Array.toList_modify,ada,ada, <- ac6,GD]
   refine⟨es.push ⟨kv,val,clock⟩, ?_, ?_, ?_⟩
   ·simp[Instr.entryStore,kH hw2,asInt,asIntOf,goInt,hidx,hmod,s8 _ hw2]
   ·rw[hset,ada]
    exact hl.append ⟨_,_,rfl,⟨hk,hy⟩,rfl⟩
   ·simp
 | yes i p e hp he hbq hne=>
  simp only at hg hset
  obtain⟨e',he',hr⟩:=hl.get hp
  rw[he] at he'
  cases he'
  have hkey:e.key=kv:=by
   have:=Qu hchk hbq
   subst this
   exact KX hchk hr.1 hk
  have hgi:es[i]? =some e:=by simpa using he
  have hsame:es.modify i (fun e=>{ e with key:=kv })=es:=by
   apply Array.ext'
   rw[Array.toList_modify,vU _ _ _ _ he]
   have:({ e with key:=kv }:MapEntry)=e:=by rw[<- hkey]
   rw[this]
   exact Fy _ _ _ he
  have hkt:(Instr.keyThatStays (((es[i]?).map (·.key)).getD kv) kv).run P w= .ok kv w:=by
   simp[Instr.keyThatStays,hgi,hkey,sameBits_self hchk hk]
  rw[hgi] at hkt
  refine⟨l,es,clock,e.born,e.val, ?_,hl,rfl,h1,h2, ?_⟩
  ·simp only[Instr.mapEntry,Sem.run_bind,run_underlying ht,Result.andThen_ok,kH hb,kR hchk hk,hf1,hkt,hsame,s8 _ hb,hgi]
   rfl
  ·intro t2 w2 val y hw2 hy
   have hidx:es.findIdx? (fun x=>((x.born:Nat):Int)==((e.born:Nat):Int))=some i:=by
    rw[GC]
    exact find_born h2 he
   have hml:(es.modify i fun e=>{ e with val:=val }).toList=es.toList.set i { e with val:=val }:=by
    rw[Array.toList_modify,vU _ _ _ _ he]
   refine⟨es.modify i fun e=>{ e with val:=val }, ?_, ?_, ?_⟩
   ·simp[Instr.entryStore,kH hw2,asInt,asIntOf,goInt,hidx,s8 _ hw2]
   ·rw[hset,hml]
    refine hl.setAt ⟨?_,hy⟩ i
    show bX G kk key e.key
    rw[hkey];exact hk
   ·rw[hml,List.map_set]
    have hlt:i<(es.toList.map (·.born)).length:=by
     have:=(aej.1 he).1
     simpa using this
    have:(es.toList.map (·.born))[i]? =some e.born:=by rw[aek,he];rfl
    exact Fy _ _ _ this
variable {X:Cx}
theorem KJ {a:Act} {d t:Nat} {v:Value} (h:t≠d):(a.put (some d) v).eval (.tmp t)=a.eval (.tmp t):=
 Act.eval_put fun e he hx=>by cases he;cases hx;exact h rfl
theorem RD {a:Act} {d:Nat} {v:Value} (h:d<a.tmps.size):(a.put (some d) v).eval (.tmp d)=v:=by
 simp[Act.eval,Act.put,h]
def St.obj (S:St) (j:Nat) (q:nS):St:={ S with objs:=(j,q)::S.objs }
structure Wn (X:Cx) (ops:List Oper) (o2 o4 o5 o6 o7:Oper) (t kt et:TypeId) (m x d2 d4 d5 d6 j b:Nat) (kk vv:Ty) (l:List (kk.den×vv.den)) (key:kk.den) (z y:vv.den) (kv:Value) (s4:SV) (S:St):Prop where
 i2:ops.toArray[2]? =some o2
 i4:ops.toArray[4]? =some o4
 i5:ops.toArray[5]? =some o5
 i6:ops.toArray[6]? =some o6
 i7:ops.toArray[7]? =some o7
 g2:o2.guard=none
 g4:o4.guard=none
 g5:o5.guard=none
 g6:o6.guard=none
 g7:o7.guard=none
 p2:o2.op= .lookup t (.tmp m) (.tmp x) false
 p5:o5.op= .mapEntry t (.tmp m) (.tmp x)
 p6:o6.op= .extract (.tmp d5) 1
 p7:∃ t',o7.op= .entryStore t' (.tmp m) (.tmp d6) (.tmp d4)
 e2:o2.dst=some d2
 e4:o4.dst=some d4
 e5:o5.dst=some d5
 e6:o6.dst=some d6
 e7:o7.dst=none
 ne:m≠d2/\m≠d4/\m≠d5/\m≠d6/\x≠d2/\x≠d4/\x≠d5/\x≠d6
 nd:d2≠d4/\d2≠d5/\d2≠d6/\d4≠d5/\d4≠d6/\d5≠d6
 ord:abY ops=true
 ht:X.P.underlying t=some (.map kt et)
 hchk:fy X.P kt kk=true
 hz:yq X.P et vv=some z
 q4:gv X.P o4 (S.put (some d2) (l8 vv ((eH l key).getD z))) rD s4
 stp:∀ T,T=S\/T=S.put (some d2) (l8 vv ((eH l key).getD z))\/T=(S.put (some d2) (l8 vv ((eH l key).getD z))).put (some d4) s4->T.bq j=false
 any:∀ T,T=S\/T=S.put (some d2) (l8 vv ((eH l key).getD z))\/T=(S.put (some d2) (l8 vv ((eH l key).getD z))).put (some d4) s4->T.tmps.set d5 (.v false [.any])=T.tmps/\T.tmps.set d6 (.v false [.any])=T.tmps
 lt5:d5<S.tmps.length
 lt6:d6<S.tmps.length
 hobj:look S.objs j=some (.map kk vv l)
 pk:iD ((S.put (some d2) (l8 vv ((eH l key).getD z))).put (some d4) s4) [] vv (((S.put (some d2) (l8 vv ((eH l key).getD z))).put (some d4) s4).ev (.tmp d4))=some y
variable {ops:List Oper} {o2 o4 o5 o6 o7:Oper} {t kt et:TypeId} {m x d2 d4 d5 d6 j b:Nat} {kk vv:Ty} {l:List (kk.den×vv.den)} {key:kk.den} {z y:vv.den} {kv:Value} {s4:SV} {S:St} {C:Fr X.P}
structure acN (C:Fr X.P) (G:Gh) (m x j b:Nat) (kk:Ty) (key:kk.den) (kv:Value) (T:St) (a:Act) (w:World):Prop where
 mod:∃ ρ,Mod C G ρ T w a/\ρ.ob j= .map (some b)
 hm:a.eval (.tmp m)= .map (some b)
 hx:a.eval (.tmp x)=kv
 hk:bX G kk key kv
structure Inv1 (C:Fr X.P) (G:Gh) (m x j b:Nat) (kk vv:Ty) (l:List (kk.den×vv.den)) (key:kk.den) (z:vv.den) (kv:Value) (st:Value->Act->Prop) (T:St) (a:Act) (w:World):Prop where
 mod:∃ ρ l1 es clock s,Mod C G ρ (T.obj j (.map kk vv l1)) w a/\ρ.ob j= .map (some b)/\w.heap[b]? =some (.map es clock)/\(eH l1 key).getD z=(eH l key).getD z/\Vw X.P G kk vv l key b es clock s/\st (goInt s) a
 hm:a.eval (.tmp m)= .map (some b)
 hx:a.eval (.tmp x)=kv
 hk:bX G kk key kv
def acL (d5:Nat) (s:Value) (a:Act):Prop:=∃ v0,a.eval (.tmp d5)= .tuple #[v0,s]
def acJ (d6:Nat) (s:Value) (a:Act):Prop:=a.eval (.tmp d6)=s
section
variable {G:Gh} {a:Act} {w:World} {K:Act->World->Prop} {Q:Exit->Act->World->Prop} {T:St}
theorem Wn.entry (E:Wn X ops o2 o4 o5 o6 o7 t kt et m x d2 d4 d5 d6 j b kk vv l key z y kv s4 S) (hT:T=S\/T=S.put (some d2) (l8 vv ((eH l key).getD z))\/T=(S.put (some d2) (l8 vv ((eH l key).getD z))).put (some d4) s4) (h:acN C G m x j b kk key kv T a w) (hK:∀ a w,Inv1 C G m x j b kk vv l key z kv (acL d5) T a w->K a w):o5.wp X.P a w K Q:=by
 obtain⟨⟨ρ,hM,hb⟩,hm,hx,hk⟩:=h
 have hobj:look T.objs j=some (.map kk vv l):=by
  rcases hT with e | e | e<;>subst e<;>exact E.hobj
 obtain⟨b',es,clock,h2,h3,h4,h5,h6,h7⟩:=hM.objs j _ hobj
 rw[hb] at h2
 cases h2
 obtain⟨l1,es1,clock1,s,v0,hrun,g1,g2,g3,g4,g5⟩:=Uf (w:=w) E.ht E.hchk E.hz hk h4 h5 (fun i e hi=>(h6 i e hi).2) h7
 have hlen:T.tmps.length=S.tmps.length:=by
  rcases hT with e | e | e<;>subst e<;>simp[St.put]
 refine aaN (v:= .tuple #[v0,goInt s]) (w':={ w with heap:=w.heap.setIfInBounds b (.map es1 clock1) }) ?_ (hK _ _ ?_)
 ·simp only[execOp,E.p5,hm,hx,Sem.run_bind,hrun,Result.andThen_ok,Sem.run_pure]
 ·have hM2:=hM.setObj (j:=j) (b:=b) (q:= .map kk vv l1) (st:=fun i=>((es1.toList[i]?).map fun e=>(e.born:Int)).getD 0) (.inl (E.stp T hT)) h3 (fun t l _ e=>by cases e) (w':={ w with heap:=w.heap.setIfInBounds b (.map es1 clock1) }) Grow.setObj
   ⟨b,es1,clock1,hb,h3,by rw[ac5 (bf h4)],g1,fun i e hi=>⟨by simp only[agf,hi,afU,afP],g3 i e hi⟩,g4⟩
  have hM3:=hM2.put (some d5) (s:= .v false [.any]) (v:= .tuple #[v0,goInt s]) (fun _ _=>trivial)
  have hst:({ T with objs:=(j,nS.map kk vv l1)::T.objs }:St).put (some d5) (.v false [.any])=T.obj j (.map kk vv l1):=by
   show (⟨T.tmps.set d5 (.v false [.any]),_,_,_⟩:St)=_
   rw[(E.any T hT).1]
   rfl
  rw[hst] at hM3
  rw[E.e5]
  refine⟨⟨_,l1,es1,clock1,s,hM3,hb,by rw[ac5 (bf h4)],g2,g5,v0,RD ?_⟩, ?_, ?_,hk⟩
  ·rw[hM.tmps.1,hlen];exact E.lt5
  ·rw[KJ E.ne.2.2.1];exact hm
  ·rw[KJ E.ne.2.2.2.2.2.2.1];exact hx
theorem Wn.store (E:Wn X ops o2 o4 o5 o6 o7 t kt et m x d2 d4 d5 d6 j b kk vv l key z y kv s4 S) (h:Inv1 C G m x j b kk vv l key z kv (acJ d6) ((S.put (some d2) (l8 vv ((eH l key).getD z))).put (some d4) s4) a w) (hK:∀ ρ a w,Mod C G ρ (((S.put (some d2) (l8 vv ((eH l key).getD z))).put (some d4) s4).obj j (.map kk vv (lq l key y))) w a->K a w):o7.wp X.P a w K Q:=by
 obtain⟨⟨ρ,l1,es1,clock1,s,hM,hb,hw,g2,g5,hs⟩,hm,hx,hk⟩:=h
 obtain⟨t',p7⟩:=E.p7
 obtain⟨b',es,clock,h2,h3,h4,h5,h6,h7⟩:=hM.objs j (.map kk vv l1) (by simp[St.obj,ax])
 rw[hb] at h2
 cases h2
 rw[hw] at h4
 cases h4
 have hy:bX G vv y (a.eval (.tmp d4)):=kS (ρ:=ρ) (S:=(S.put (some d2) (l8 vv ((eH l key).getD z))).put (some d4) s4) hM.toMem.frozen (ld.nil _ _ _) E.pk (hM.tmps.ev (.tmp d4))
 obtain⟨es',hrun,f1,f2⟩:=g5 t' w _ y hw hy
 have hbn:∀ (i:Nat) (e:MapEntry),es'.toList[i]? =some e->∃ e1,es1.toList[i]? =some e1/\e1.born=e.born:=fun i e hi=>by
  have h1:=congrArg (fun l=>l[i]?) f2
  simp only[aek,hi,afU] at h1
  cases he:es1.toList[i]? with
  | none=>rw[he] at h1;cases h1
  | some e1=>rw[he] at h1;simp only[afU,Option.some.injEq] at h1;exact⟨e1,rfl,h1.symm⟩
 have hM2:=hM.setObj (j:=j) (b:=b) (q:= .map kk vv (lq l key y)) (st:=ρ.st j) (.inr rfl) h3 (fun t l _ e=>by cases e) (w':={ w with heap:=w.heap.setIfInBounds b (.map es' clock1) }) Grow.setObj
  ⟨b,es',clock1,hb,h3,by rw[ac5 (bf hw)],f1,fun i e hi=>by
    obtain⟨e1,k1,k2⟩:=hbn i e hi
    obtain⟨k3,k4⟩:=h6 i e1 k1
    refine⟨?_,by omega⟩
    simp only[agf]
    rw[<- k2];exact k3,by
    have:(es'.toList.map (·.born)).Pairwise (fun a b=>a<b):=by
     rw[f2,ae7];exact h7
    rwa [ae7] at this⟩
 unfold Oper.wp
 simp only[execOp,p7,hm,show a.eval (.tmp d6)=goInt s from hs,Sem.run_bind,hrun,Result.andThen_ok,Sem.run_pure]
 simp only[Oper.upon,E.e7,Act.put]
 refine hK _ _ _ ({ hM2.toMem.sub (M:=((S.put (some d2) (l8 vv ((eH l key).getD z))).put (some d4) s4).obj j (.map kk vv (lq l key y))) (fun _ _ h=>h) (fun _ _ h=>h) (fun i q hi=> ?_) with tmps:=hM2.tmps,defers:=hM2.defers })
 simp only[St.obj,ax] at hi ⊢
 split at hi
 ·rename_i e;rw[age e];exact hi
 ·rename_i e;rw[agd e,agd e];exact hi
end
section
variable {G:Gh} {Q:Exit->Act->World->Prop}
end
variable {G:Gh} {ρ:Env} {w:World} {β:Type}
end Go.Dn
namespace Go.Dn
structure Wo (ops ops':Array Oper) (σ τ:Nat->Nat):Prop where
 size:ops'.size=ops.size
 lt:∀ i,i<ops.size->σ i<ops.size/\τ (σ i)=i
 lt':∀ j,j<ops.size->τ j<ops.size/\σ (τ j)=j
 op:∀ (i:Nat) (o:Oper),ops[i]? =some o->ops'[σ i]? =some (JY σ o)
 guard:∀ (i:Nat) (o:Oper),ops[i]? =some o->o.guard=none
 edge:∀ (i:Nat) (o:Oper),ops[i]? =some o->∀ e:Edge,e∈o.after->e.on<ops.size
theorem Wo.wpAny {P:Program} {ops ops':Array Oper} {σ τ:Nat->Nat} (H:Wo ops ops' σ τ) {Q:Exit->Act->World->Prop}:∀ (u:Nat) (listed listed':Array Bool) (a:Act) (w:World),listed.size=ops.size->listed'.size=ops.size-> (∀ i b,i<ops.size->listed'.getD (σ i) b=listed.getD i b)->Go.wpAny P .any ops' Q u listed' a w->Go.wpAny P .any ops Q u listed a w:=by
 have rd:∀ (listed listed':Array Bool),(∀ i b,i<ops.size->listed'.getD (σ i) b=listed.getD i b)->∀ i,i<ops.size->(σ i∈Region.ready .any ops' listed'↔i∈Region.ready .any ops listed):=by
  intro listed listed' hl i hi
  have hoi:ops[i]? =some ops[i]:=ac0 hi
  have hop:=H.op i _ hoi
  rw[mem_ready,mem_ready,hl i true hi]
  constructor
  ·rintro⟨h1,o',ho',h2⟩
   refine⟨h1,ops[i],hoi,fun e he hb=> ?_⟩
   rw[hop] at ho'
   cases ho'
   have:=h2 { e with on:=σ e.on } (by simp only[JY,Array.mem_map];exact⟨e,he,rfl⟩) hb
   rw[<- hl e.on false (H.edge i _ hoi e he)]
   exact this
  ·rintro⟨h1,o,ho,h2⟩
   refine⟨h1,_,hop,fun e' he' hb=> ?_⟩
   simp only[JY,Array.mem_map] at he'
   obtain⟨e,he,rfl⟩:=he'
   rw[hoi] at ho
   cases ho
   have:=h2 e he hb
   show listed'.getD (σ e.on) false=true
   rw[hl e.on false (H.edge i _ hoi e he)]
   exact this
 have rlt:∀ (ops:Array Oper) (listed:Array Bool) i,i∈Region.ready .any ops listed->i<ops.size:=by
  intro ops listed i hi
  rw[mem_ready] at hi
  obtain⟨_,o,ho,_⟩:=hi
  exact (ac1.1 ho).1
 have emp:∀ (listed listed':Array Bool),(∀ i b,i<ops.size->listed'.getD (σ i) b=listed.getD i b)->(Region.ready .any ops' listed'=[]↔Region.ready .any ops listed=[]):=by
  intro listed listed' hl
  constructor
  ·intro h
   rw[ad4] at h ⊢
   intro i hi
   exact h (σ i) ((rd listed listed' hl i (rlt _ _ i hi)).2 hi)
  ·intro h
   rw[ad4] at h ⊢
   intro j hj
   have hjl:j<ops.size:=by rw[<- H.size];exact rlt _ _ j hj
   obtain⟨t1,t2⟩:=H.lt' j hjl
   exact h (τ j) ((rd listed listed' hl (τ j) t1).1 (by rw[t2];exact hj))
 intro u
 induction u with
 | zero=>
  intro listed listed' a w s1 s2 hl h
  exact⟨(emp listed listed' hl).1 h.1,h.2⟩
 | succ u ih=>
  intro listed listed' a w s1 s2 hl h
  refine⟨fun hr=>h.1 ((emp listed listed' hl).2 hr),fun i hi=> ?_⟩
  have hil:=rlt _ _ i hi
  have hoi:ops[i]? =some ops[i]:=ac0 hil
  have hop:=H.op i _ hoi
  have hg:=H.guard i _ hoi
  have h1:=h.2 (σ i) ((rd listed listed' hl i hil).2 hi)
  have next:∀ a w,Go.wpAny P .any ops' Q u (listed'.setIfInBounds (σ i) true) a w->Go.wpAny P .any ops Q u (listed.setIfInBounds i true) a w:=by
   intro a w h
   refine ih _ _ a w (by simpa using s1) (by simpa using s2) (fun j b hj=> ?_) h
   by_cases e:j=i
   ·subst e
    rw[cx (by rw[s2];exact (H.lt j hj).1),cx (by omega)]
   ·have hne:σ j≠σ i:=fun e2=>e (by have:=congrArg τ e2;rw[(H.lt j hj).2,(H.lt i hil).2] at this;exact this)
    rw[aQ hne,aQ e]
    exact hl j b hj
  unfold Go.wpOp at h1 ⊢
  rw[hop] at h1
  rw[hoi]
  simp only at h1 ⊢
  have w1:∀ y,Region.wanted ops[i] y=true:=fun y=>by simp[Region.wanted,hg]
  have w2:∀ y,Region.wanted (JY σ ops[i]) y=true:=fun y=>by simp[Region.wanted,JY,hg]
  rw[age (w2 _)] at h1
  rw[age (w1 _)]
  rcases h1 with h1 | h1
  ·left
   exact Oper.wp_mono (fun a' w' h'=>next a' w' h') h1
  ·exact .inr h1
theorem T6 {ops:List Oper} {p:List Nat} (h:A6 ops p=true):Wo ops.toArray (vC ops p).toArray (posOf p) (fun j=>p.getD j ops.length):=by
 simp only[A6,adf,adQ,aeZ,afQ] at h
 obtain⟨h1,h2,h3,h4⟩:=h
 have h1':=afp h1
 have lt:∀ {a b:Nat},Nat.blt a b=true->a<b:=fun h=>afr h
 have hlen:(vC ops p).length=ops.length:=by
  unfold vC
  split
  ·rfl
  ·rw[aeA,h1']
 refine⟨by simpa using hlen,fun i hi=> ?_,fun j hj=> ?_,fun i o hi=> ?_,fun i o hi=> ?_,fun i o hi e he=> ?_⟩
 ·have hi':i<ops.length:=by simpa using hi
  exact⟨by simpa using lt (h2 i hi').1,afp (h2 i hi').2⟩
 ·have hj':j<ops.length:=by simpa using hj
  exact⟨by simpa using lt (h3 j hj').1,afp (h3 j hj').2⟩
 ·have hi1:ops[i]? =some o:=by simpa using hi
  have hi':i<ops.length:=(aej.1 hi1).1
  have e1:=afp (h2 i hi').2
  have e2:=lt (h2 i hi').1
  have e3:p[posOf p i]? =some i:=by
   have hlt:posOf p i<p.length:=by omega
   rw[aea,aeh hlt] at e1
   rw[aeh hlt]
   exact congrArg some e1
  rw[aes]
  unfold vC
  split
  ·rename_i hn;simp at hi1
  ·rename_i o0 r
   rw[aek,e3,afU,aea,hi1]
   rfl
 ·have hi1:ops[i]? =some o:=by simpa using hi
  exact (h4 o (aeW hi1)).1
 ·have hi1:ops[i]? =some o:=by simpa using hi
  simpa using lt ((h4 o (aeW hi1)).2 e (by simpa using he))
theorem acV {P:Program} {o:Oper} {a:Act} {w:World} {K:Act->World->Prop} {Q Q':Exit->Act->World->Prop} (h:∀ e a w,Q' e a w->Q e a w) (hh:o.wp P a w K Q'):o.wp P a w K Q:=by
 unfold Oper.wp at*
 generalize (execOp a.eval o).run P w=r at*
 cases r with
 | ok n w'=>
  cases n<;>simp only[Oper.upon] at hh ⊢ <;>first
   | exact hh
   | exact Calls.mono hh (fun e w'' he=>by
    cases e with
    | returned v=>exact he
    | panicked c=>exact h _ _ _ he
    | outgrown=>obtain⟨a,w,q⟩:=he;exact⟨a,w,h _ _ _ q⟩)
 | halt x w'=>cases x<;>simp only[Oper.upon] at hh ⊢ <;>first | exact hh | exact h _ _ _ hh
theorem acr {P:Program} {ops:Array Oper} {i:Nat} {K:Act->World->Prop} {Q Q':Exit->Act->World->Prop} (h:∀ e a w,Q' e a w->Q e a w) {a:Act} {w:World} (hh:Go.wpOp P ops Q' i K a w):Go.wpOp P ops Q i K a w:=by
 unfold Go.wpOp at*
 split
 ·rename_i ho
  simpa [ho] using hh
 ·rename_i o ho
  simp only[ho] at hh
  split
  ·rename_i hw
   simp only[hw,agf] at hh
   exact hh.imp (acV h) fun ⟨h1,a,w,q⟩=>⟨h1,a,w,h _ _ _ q⟩
  ·rename_i hw
   simpa [hw] using hh
theorem Wl {P:Program} {ops:Array Oper} {Q Q':Exit->Act->World->Prop} (h:∀ e a w,Q' e a w->Q e a w):∀ (u:Nat) (listed:Array Bool) (a:Act) (w:World),Go.wpAny P .any ops Q' u listed a w->Go.wpAny P .any ops Q u listed a w
 | 0,_,_,_,hh=>⟨hh.1,h _ _ _ hh.2⟩
 | u+1,_,_,_,hh=>⟨fun hr=>h _ _ _ (hh.1 hr),fun i hi=>wpOp_mono (fun a' w' h'=>Wl h u _ a' w' h') (acr h (hh.2 i hi))⟩
theorem ZI {P:Program} {o0:Oper} {r:List Oper} {Q:Exit->Act->World->Prop} (hg:∀ o,o∈o0::r->o.guard=none):∀ (u:Nat) (listed:Array Bool) (a:Act) (w:World),listed.getD 0 false=true-> Go.wpAny P .any (o0::r.map xK).toArray Q u listed a w->Go.wpAny P .any (o0::r).toArray Q u listed a w:=by
 have get:∀ (i:Nat) (o:Oper),(o0::r)[i]? =some o->(o0::r.map xK)[i]? =some (if i=0 then o else xK o):=fun i o hi=>by
  cases i with
  | zero=>simpa using hi
  | succ i=>
   rw[aee] at hi ⊢
   rw[aek,hi,agd (by omega)];rfl
 have rd:∀ (listed:Array Bool),listed.getD 0 false=true->∀ i,i∈Region.ready .any (o0::r.map xK).toArray listed↔i∈Region.ready .any (o0::r).toArray listed:=fun listed h0 i=>by
  rw[mem_ready,mem_ready]
  constructor
  ·rintro⟨h1,o',ho',h2⟩
   have hlt:i<(o0::r).length:=by
    have:=(aej.1 (show (o0::r.map xK)[i]? =some o' by simpa using ho')).1
    simpa using this
   have hoi:(o0::r)[i]? =some (o0::r)[i]:=aeh hlt
   have hop:=get i _ hoi
   refine⟨h1,(o0::r)[i],by rw[aes];exact hoi,fun e he hb=>h2 e ?_ hb⟩
   rw[aes,hop] at ho'
   cases ho'
   split
   ·exact he
   ·exact Array.mem_push.2 (.inl he)
  ·rintro⟨h1,o,ho,h2⟩
   have hoi:(o0::r)[i]? =some o:=by simpa using ho
   refine⟨h1,_,by rw[aes];exact get i o hoi,fun e he hb=> ?_⟩
   split at he
   ·exact h2 e he hb
   ·rcases Array.mem_push.1 he with he | he
    ·exact h2 e he hb
    ·subst he;exact h0
 have emp:∀ (listed:Array Bool),listed.getD 0 false=true->(Region.ready .any (o0::r.map xK).toArray listed=[]↔Region.ready .any (o0::r).toArray listed=[]):=fun listed h0=>by
  constructor<;>intro h<;>rw[ad4] at h ⊢ <;>intro i hi
  ·exact h i ((rd listed h0 i).2 hi)
  ·exact h i ((rd listed h0 i).1 hi)
 intro u
 induction u with
 | zero=>intro listed a w h0 h;exact⟨(emp listed h0).1 h.1,h.2⟩
 | succ u ih=>
  intro listed a w h0 h
  refine⟨fun hr=>h.1 ((emp listed h0).2 hr),fun i hi=> ?_⟩
  have h1:=h.2 i ((rd listed h0 i).2 hi)
  obtain⟨_,o,ho,_⟩:=mem_ready.1 hi
  have hoi:(o0::r)[i]? =some o:=by simpa using ho
  have hop:(o0::r.map xK).toArray[i]? =some (if i=0 then o else xK o):=by rw[aes];exact get i o hoi
  have hgo:=hg o (aeW hoi)
  have next:∀ a w,Go.wpAny P .any (o0::r.map xK).toArray Q u (listed.setIfInBounds i true) a w->Go.wpAny P .any (o0::r).toArray Q u (listed.setIfInBounds i true) a w:=fun a w h=>ih _ a w (getD_set_true h0) h
  unfold Go.wpOp at h1 ⊢
  rw[hop] at h1
  rw[ho]
  simp only at h1 ⊢
  have w1:∀ y,Region.wanted o y=true:=fun y=>by simp[Region.wanted,hgo]
  have w2:∀ y,Region.wanted (if i=0 then o else xK o) y=true:=fun y=>by split<;>simp[Region.wanted,xK,hgo]
  rw[age (w2 _)] at h1
  rw[age (w1 _)]
  rcases h1 with h1 | h1
  ·left
   have h2:o.wp P a w (Go.wpAny P .any (o0::r.map xK).toArray Q u (listed.setIfInBounds i true)) Q:=by split at h1<;>exact h1
   exact Oper.wp_mono (fun a' w' h'=>next a' w' h') h2
  ·right
   have h2:o.asks P a w:=by
    have:=h1.1
    split at this<;>exact this
   exact⟨h2,h1.2⟩
theorem Zb {P:Program} {ops:List Oper} (h:Xp ops=true) {Q:Exit->Act->World->Prop} (hQ:∀ e a w,Q e a w->e= .normal) {a:Act} {w:World} (hh:Go.wpAny P .any (JR ops).toArray Q ops.length (Array.replicate ops.length false) a w):Go.wpAny P .any ops.toArray Q ops.length (Array.replicate ops.length false) a w:=by
 match ops,h with
 | o0::r,h=>
  simp only[Xp,adf,adQ,afQ] at h
  obtain⟨hm,hg,haf,hd,hs,hf⟩:=h
  obtain⟨x,hx⟩:∃ x,o0.op= .move x:=by
   split at hm
   ·rename_i x hx;exact⟨x,hx⟩
   ·cases hm
  have hg0:=hg o0 (by simp)
  have hrun:∀ w,(execOp a.eval o0).run P w= .ok (.value (a.eval x)) w:=fun w=>by simp[execOp,hx]
  have w1:∀ y,Region.wanted o0 y=true:=fun y=>by simp[Region.wanted,hg0]
  have hr0:∀ (l:List Oper),0∈Region.ready .any (o0::l).toArray (Array.replicate (r.length+1) false):=fun l=>by
   rw[mem_ready]
   refine⟨by simp,o0,by simp,fun e he=> ?_⟩
   rw[Array.isEmpty_iff.1 haf] at he
   simp at he
  have h1:=hh.2 0 (hr0 _)
  unfold Go.wpOp at h1
  rw[show (JR (o0::r)).toArray[0]? =some o0 by simp[JR]] at h1
  simp only at h1
  rw[age (w1 _)] at h1
  rcases h1 with h1 | ⟨_,a',w',h1⟩
  ·unfold Oper.wp at h1
   rw[hrun] at h1
   have h2:=ZI hg r.length _ _ _ (by simp) h1
   refine wpAny_take (by simp) hs hf (by simpa using hr0 r) (fun c a w q=>by cases hQ _ _ _ q) (.inl ⟨w1 _,hrun⟩) h2
  ·cases hQ _ _ _ h1
theorem IN (o:Oper):wq o={ o with after:=(wq o).after }:=by
 unfold wq
 split<;>rfl
theorem YX {o:Oper} {e:Edge} (h:e∈(wq o).after):e∈o.after:=by
 unfold wq at h
 split at h
 ·have:e∈(o.after.toList.filter fun e=> !YW e):=by simpa using h
  simpa using (aeS.1 this).1
 ·exact h
theorem Xm {P:Program} {ops:List Oper} {Q:Exit->Act->World->Prop} (hE:gO ops=true) (hg:∀ o,o∈ops->o.guard=none):∀ (u:Nat) (listed:Array Bool) (a:Act) (w:World),listed.size=ops.length-> Go.wpAny P .any (kr ops).toArray Q u listed a w->Go.wpAny P .any ops.toArray Q u listed a w:=by
 have rd:∀ (listed:Array Bool) i,i∈Region.ready .any ops.toArray listed->i∈Region.ready .any (kr ops).toArray listed:=fun listed i h=>by
  rw[mem_ready] at h ⊢
  obtain⟨h1,o,ho,h2⟩:=h
  have hoi:ops[i]? =some o:=by simpa using ho
  exact⟨h1,wq o,by simp[kr,hoi],fun e he hb=>h2 e (YX he) hb⟩
 have emp:∀ (listed:Array Bool),listed.size=ops.length->Region.ready .any ops.toArray listed=[]->Region.ready .any (kr ops).toArray listed=[]:=fun listed hsz hr=>by
  have hall:∀ i,i<ops.length->listed.getD i true=true:=by
   intro i
   induction i using Nat.strongRecOn with
   | _ i ihi=>
    intro hlt
    cases hl:listed.getD i true with
    | true=>rfl
    | false=>
     exfalso
     have hoi:ops[i]? =some ops[i]:=aeh hlt
     have:i∈Region.ready .any ops.toArray listed:=by
      rw[mem_ready]
      refine⟨hl,ops[i],by simp,fun e he hb=> ?_⟩
      have hE:=hE
      simp only[gO,adQ] at hE
      have h7:=hE i (by simp;exact hlt)
      rw[hoi] at h7
      simp only[adQ] at h7
      have h8:=h7 e (by simpa using he)
      simp only[hb,ads,adn] at h8
      have h9:e.on<i:=afx (afA _) (afr h8)
      have h10:=ihi e.on h9 (by omega)
      rw[acZ] at h10 ⊢
      rw[ac0 (by omega)] at h10 ⊢
      simpa using h10
     rw[hr] at this
     cases this
  rw[ad4]
  intro i hi
  rw[mem_ready] at hi
  obtain⟨h1,o,ho,_⟩:=hi
  have hlt:i<ops.length:=by
   have:=(aej.1 (show (kr ops)[i]? =some o by simpa using ho)).1
   simpa [kr] using this
  rw[hall i hlt] at h1
  cases h1
 intro u
 induction u with
 | zero=>
  intro listed a w hsz h
  refine⟨?_,h.2⟩
  rw[ad4]
  intro i hi
  have:=rd listed i hi
  rw[h.1] at this;cases this
 | succ u ih=>
  intro listed a w hsz h
  refine⟨fun hr=>h.1 (emp listed hsz hr),fun i hi=> ?_⟩
  have h1:=h.2 i (rd listed i hi)
  obtain⟨_,o,ho,_⟩:=mem_ready.1 hi
  have hoi:ops[i]? =some o:=by simpa using ho
  have hop:(kr ops).toArray[i]? =some (wq o):=by simp[kr,hoi]
  have hgo:=hg o (aeW hoi)
  have next:∀ a w,Go.wpAny P .any (kr ops).toArray Q u (listed.setIfInBounds i true) a w->Go.wpAny P .any ops.toArray Q u (listed.setIfInBounds i true) a w:=fun a w h=>ih _ a w (by simpa using hsz) h
  unfold Go.wpOp at h1 ⊢
  rw[hop] at h1
  rw[ho]
  simp only at h1 ⊢
  have w1:∀ y,Region.wanted o y=true:=fun y=>by simp[Region.wanted,hgo]
  have w2:∀ y,Region.wanted (wq o) y=true:=fun y=>by rw[IN];simp[Region.wanted,hgo]
  rw[age (w2 _)] at h1
  rw[age (w1 _)]
  rcases h1 with h1 | h1
  ·left
   have h2:o.wp P a w (Go.wpAny P .any (kr ops).toArray Q u (listed.setIfInBounds i true)) Q:=by rw[IN] at h1;exact h1
   exact Oper.wp_mono (fun a' w' h'=>next a' w' h') h2
  ·right
   have h2:o.asks P a w:=by
    have:=h1.1
    rw[IN] at this
    exact this
   exact⟨h2,h1.2⟩
variable {X:Cx} {C:Fr X.P} {G:Gh} {ρ:Env} {w:World} {β:Type}
theorem XM (hX:bY X) (hmix:X.P.follows .mixedOrders=true) {ops:List Oper} {S:St} {k:St->Option β} {r:β} (h:PI X ops S k=some r) {Q:Exit->Act->World->Prop} (hQ:∀ S' G ρ w a,k S'=some r->Mod C G ρ S' w a->Q .normal a w) {a:Act} (hM:Mod C G ρ S w a) (id:Nat):(Code.region id ops.toArray true).wp X.P Q a w:=by
 refine wp_region_any hmix ?_
 unfold PI at h
 let Q':Exit->Act->World->Prop:=fun e a w=>e= .normal/\Q .normal a w
 have hn:∀ e a w,Q' e a w->e= .normal:=fun _ _ _ q=>q.1
 have hQ':∀ S' G ρ w a,k S'=some r->Mod C G ρ S' w a->Q' .normal a w:=fun S' G ρ w a hk hm=>⟨rfl,hQ S' G ρ w a hk hm⟩
 refine Wl (Q':=Q') (fun e a w q=>by obtain⟨e1,q⟩:=q;subst e1;exact q) _ _ _ _ ?_
 split at h
 ·rename_i hc
  rw[adf] at hc
  have h3:=B6 (Q:=Q') hX h hn hQ' hM (fun h=>by cases h)
  have hl:(JR ops).toArray.size=ops.length:=by cases ops<;>simp[JR]
  rw[hl] at h3
  have h4:=Zb hc.2 (Q:=Q') (fun e a w q=>q.1) h3
  simpa using h4
 have perm:∀ {o2:List Oper},A6 o2 (oY (isApp X) o2)=true->u5 X (vC o2 (oY (isApp X) o2)) S k none=some r->
  Go.wpAny X.P .any o2.toArray Q' o2.toArray.size (Array.replicate o2.toArray.size false) a { w with drawn:=w.drawn+1 }:=fun {o2} hp h'=>by
  have H:=T6 hp
  have h2:=B6 hX h' hn hQ' hM (fun h=>by cases h)
  rw[H.size] at h2
  refine H.wpAny _ _ _ _ _ (by simp) (by simp) (fun i b hi=> ?_) h2
  have:=(H.lt i hi).1
  simp only[acZ,ac3,hi,this,agf]
 refine B6 hX h hn hQ' hM fun h'=> ?_
 split at h'
 ·rename_i hp
  split at h'
  ·exact perm hp h'
  ·split at h'
   ·rename_i hl
    rw[adf] at hl
    have h2:=perm hl.2 h'
    have hs:(kr ops).toArray.size=ops.toArray.size:=by simp[kr]
    rw[hs] at h2
    refine Xm hl.1 (fun o ho=> ?_) _ _ _ _ (by simp) h2
    have hp':=hp
    simp only[A6,adf,adQ,afQ] at hp'
    exact (hp'.2.2.2 o ho).1
   ·cases h'
 ·cases h'
end Go.Dn
namespace Go.Dn
variable {X:Cx} {C:Fr X.P} {G:Gh} {ρ:Env} {w:World} {β:Type}
structure qA (ops:List Oper) (S S':St):Prop where
 boxes:S'.boxes=S.boxes
 rows:S'.rows=S.rows
 objs:S'.objs=S.objs
 len:S'.tmps.length=S.tmps.length
 tmp:∀ t,(∀ o,o∈ops->o.dst≠some t)->S'.tmps[t]? =S.tmps[t]?
theorem qA.refl (ops:List Oper) (S:St):qA ops S S:=⟨rfl,rfl,rfl,rfl,fun _ _=>rfl⟩
theorem qA.put {ops:List Oper} {S S':St} (h:qA ops S S') {o:Oper} (ho:o∈ops) (s:SV):qA ops S (S'.put o.dst s):=by
 cases hd:o.dst with
 | none=>exact h
 | some d=>
  refine⟨h.boxes,h.rows,h.objs,by simp[St.put,h.len],fun t ht=> ?_⟩
  have hne:d≠t:=fun e=>ht o ho (by rw[hd,e])
  simp only[St.put]
  rw[aeo hne]
  exact h.tmp t ht
theorem qA.app {ops:List Oper} {S S':St} (h:qA ops S S') {o:Oper} (ho:o∈ops) {x:Del} (hp:yC x=true):qA ops S (S'.app o.dst x):=by
 obtain⟨p1,p2,p3⟩:=zw hp
 have e:x=⟨x.sv,none,none,none⟩:=by cases x;simp only at p1 p2 p3;subst p1;subst p2;subst p3;rfl
 rw[e,St.Eg]
 exact h.put ho _
theorem XL (S:St):(dI qh S).boxes=S.boxes/\(dI qh S).rows=S.rows/\(dI qh S).objs=S.objs:=by
 refine⟨?_,rfl,rfl⟩
 simp only[dI]
 exact List.filter_eq_self.2 fun p _=>by simp[iO,qh,inL]
theorem Zd (i:Nat):inM m0 i=false:=by simp[inM,m0];rfl
theorem Mv (hX:bY X) {ops:List Oper} {M:St}:∀ {l:List Oper} {c:Nat} {S:St} {k:St->Option β} {r:β},(∀ o,o∈l->o∈ops)->gL X ops M (fun _=>dI qh M) m0 false c l S k=some r->qA ops M S->∀ {Q:Exit->Act->World->Prop}, (∀ S' G ρ w a,k S'=some r->qA ops M S'->Mod C G ρ S' w a->Q .normal a w)->∀ {G ρ w a},Mod C G ρ S w a->wpList X.P ops.toArray Q l a w
 | [],c,S,k,r,hl,h,hJ,Q,hQ,G,ρ,w,a,hM=>hQ S G ρ w a h hJ hM
 | o::rest,c,S,k,r,hl,h,hJ,Q,hQ,G,ρ,w,a,hM=>by
  have hmem:o∈ops:=hl o (by simp)
  have hl':∀ o,o∈rest->o∈ops:=fun o ho=>hl o (by simp[ho])
  have step:(eo X o S (dI qh M) fun x=>bif yC x then gL X ops M (fun _=>dI qh M) m0 false (c+1) rest (S.app o.dst x) k else none)=some r->o.wp X.P a w (wpList X.P ops.toArray Q rest) Q:=fun h=>by
   obtain⟨x,h1,h2,_⟩:=rz hX h
   cases hp:yC x with
   | false=>rw[hp] at h1;cases h1
   | true=>
    rw[hp,af2] at h1
    obtain⟨p1,p2,p3⟩:=zw hp
    obtain⟨e1,e2,e3⟩:=XL M
    have:=h2 C G ρ S w a Q hM ⟨fun _ _=>rfl,fun k cs hk=>by rw[hJ.boxes, <- e1];exact hk,fun k cs hk=>by rw[hJ.rows, <- e2];exact hk,fun k cs hk=>by rw[hJ.objs, <- e3];exact hk⟩
     (fun d _ h=>by rw[p1] at h;cases h) (fun d _ h=>by rw[p2] at h;cases h) (fun d _ h=>by rw[p3] at h;cases h)
    exact Oper.wp_mono (fun a' w' ⟨G',ρ',hM'⟩=>Mv hX hl' h1 (hJ.app hmem hp) hQ hM') this
  have skip:gL X ops M (fun _=>dI qh M) m0 false (c+1) rest (S.put o.dst nP) k=some r->wpList X.P ops.toArray Q rest (a.put o.dst undef) w:=fun h=>
   Mv hX hl' h (hJ.put hmem _) hQ (hM.put o.dst (fun _ _=>OD))
  simp only[gL,Zd,af1] at h
  split at h
  ·cases hs:lW ops o S with
   | false=>rw[hs] at h;cases h
   | true=>
    rw[hs] at h
    have hw:=Gu hM.tmps hs
    simp only[wpList,hw]
    rw[agd (by simp)];exact skip h
  ·rename_i hg
   have hw:=gI hM.tmps hg
   simp only at hw
   simp only[wpList,hw,agf]
   exact .inl (step h)
  ·rename_i d b want hg
   obtain⟨hS,hw⟩:=gI hM.tmps hg
   rcases JL hS h with ⟨hb,h⟩ | ⟨hb,h⟩
   ·rw[hb] at hw
    simp only[wpList,hw,agf]
    exact .inl (step h)
   ·rw[hb] at hw
    simp only[wpList,hw]
    rw[agd (by simp)];exact skip h
theorem Lj {ops:List Oper} {M:St}:∀ {l:List Oper} {S:St} {outs:List (Option Del)},(∀ o,o∈l->o∈ops)->qA ops M S->(∀ y,some y∈outs->yC y=true)->qA ops M (states l S outs)
 | [],S,outs,_,h,_=>by cases outs<;>exact h
 | o::l,S,[],_,h,_=>h
 | o::l,S,x::xs,hl,h,hp=>by
  simp only[states]
  refine Lj (fun o ho=>hl o (by simp[ho])) ?_ (fun y hy=>hp y (by simp[hy]))
  cases x with
  | none=>exact h.put (hl o (by simp)) _
  | some y=>exact h.app (hl o (by simp)) (hp y (by simp))
theorem abB (hX:bY X) (hmix:X.P.follows .mixedOrders=true) {ops:List Oper} {dr:Bool} {S:St} {k:St->Option β} {r:β} (h:XK X ops dr S k=some r) {Q:Exit->Act->World->Prop} (hQ:∀ S' G ρ w a,k S'=some r->qA ops S S'->Mod C G ρ S' w a->Q .normal a w) {a:Act} (hM:Mod C G ρ S w a) (id:Nat):(Code.region id ops.toArray dr).wp X.P Q a w:=by
 cases dr with
 | false=>
  simp only[XK,af1,XN] at h
  refine wp_region_list ?_
  have:=Mv hX (fun _ h=>h) h (.refl ops S) (Q:=Q) hQ hM
  simpa using this
 | true=>
  simp only[XK,af2] at h
  cases hchk:(AU ops ops.length&& !(ops.any fun o=>uT o.op)) with
  | false=>rw[hchk] at h;cases h
  | true=>
   rw[hchk,af2] at h
   unfold XN at h
   obtain⟨outs,h1,h2,h3⟩:=ya (tf:=fun _=>qh) hX h
   cases hnew:zl ops ops.length S (states ops S outs) with
   | false=>rw[hnew] at h2;cases h2
   | true=>
    rw[hnew,af2] at h2
    have htk:ops.take ops.length=ops:=afg
    simp only[AU,adf] at hchk
    obtain⟨⟨⟨⟨⟨c1,c2⟩,c3⟩,c4⟩,c5⟩,_⟩:=hchk
    have K:=cw.of (X:=X) (ops:=ops) (n:=ops.length) (S:=S) (outs:=outs) (aft _) c2 c4 (by rw[htk];exact h1) (fun i o x hi hx=>by
     rw[htk] at hi ⊢
     exact (h3 i o x hi hx).1) (by rw[htk];exact hnew)
    rw[htk] at K
    have hpure:∀ y,some y∈outs->yC y=true:=fun y hy=>by
     obtain⟨i,hi⟩:=aeU.1 hy
     have hlt:i<outs.length:=(aej.1 hi).1
     have hlt':i<ops.length:=by rw[<- h1];exact hlt
     exact ((h3 i _ (some y) (aeh hlt') hi).2 (Zd _) y rfl).2
    have hJ:=Lj (ops:=ops) (M:=S) (outs:=outs) (fun _ h=>h) (.refl ops S) hpure
    refine wp_region_any hmix ?_
    have hM':=hM.of_heap (w':={ w with drawn:=w.drawn+1 }) rfl rfl rfl
    have hany:=K.any (C:=C) (Q:=Q) (Cl c3) c5 (fun G ρ w a hMn=>by
     rw[List.drop_length]
     exact hQ _ G ρ w a h2 hJ hMn) ops.length (Array.replicate ops.toArray.size false) a { w with drawn:=w.drawn+1 } G ρ (by simp) rY
     (fun m _ hm2=>pI hm2 true) (uk (aft _)) (by
       have:=zK (X:=X) (C:=C) (ops:=ops) (n:=ops.length) (S:=S) (outs:=outs) (aft _) hM'
       rw[htk] at this
       exact this)
    rw[show ops.length+(ops.length - ops.length)=ops.toArray.size by simp] at hany
    exact hany
theorem Dl:∀ (l:List Oper) (T:List SV),(sG l T).length=T.length
 | [],_=>rfl
 | o::r,T=>by
  simp only[sG]
  rw[Dl r]
  cases o.dst<;>simp
theorem Kx:∀ (l:List Oper) (T:List SV) (t:Nat) (s:SV),(sG l T)[t]? =some s->s= .v false [.any]\/((∀ o,o∈l->o.dst≠some t)/\T[t]? =some s)
 | [],T,t,s,h=> .inr ⟨(fun _ h'=>nomatch h'),h⟩
 | o::r,T,t,s,h=>by
  simp only[sG] at h
  rcases Kx r _ t s h with h1 | ⟨h1,h2⟩
  ·exact .inl h1
  ·cases hd:o.dst with
   | none=>
    rw[hd] at h2
    refine .inr ⟨fun o' ho=> ?_,h2⟩
    rcases aeP.1 ho with e | e
    ·subst e;rw[hd];exact nofun
    ·exact h1 o' e
   | some d=>
    rw[hd] at h2
    simp only[aen] at h2
    by_cases e:d=t
    ·subst e
     rw[age rfl] at h2
     split at h2
     ·cases h2;exact .inl rfl
     ·cases h2
    ·rw[agd e] at h2
     refine .inr ⟨fun o' ho=> ?_,h2⟩
     rcases aeP.1 ho with e' | e'
     ·subst e';rw[hd];intro h;cases h;exact e rfl
     ·exact h1 o' e'
theorem Mc:∀ (l:List (Nat×Ty)) (v:Pt l) (T:List SV),(FR l v T).length=T.length
 | [],_,_=>rfl
 | p::r,v,T=>by simp[FR,Mc r]
theorem VL {S':St} {ρ:Env} {a:Act} (hF:ic G ρ S') (hT:fV G ρ S' a):∀ (l:List (Nat×Ty)) (v:Pt l) (T:List SV),NN S' l=some v->T.length=S'.tmps.length->(∀ (i:Nat) (s:SV),T[i]? =some s->bh G ρ s (a.tmps.getD i undef))-> ∀ (i:Nat) (s:SV),(FR l v T)[i]? =some s->bh G ρ s (a.tmps.getD i undef)
 | [],_,T,_,_,h,i,s,hi=>h i s hi
 | p::r,v,T,hv,hl,h,i,s,hi=>by
  simp only[NN] at hv
  split at hv
  ·rename_i x hx
   split at hv
   ·rename_i y hy
    cases hv
    simp only[FR,aen] at hi
    by_cases e:p.1=i
    ·subst e
     rw[age rfl] at hi
     split at hi
     ·rename_i hlt
      cases hi
      rw[Mc,hl] at hlt
      have hd:=hT.2 p.1 _ (aeh hlt)
      have:bh G ρ (S'.tmps.getD p.1 (.v false [.any])) (a.tmps.getD p.1 undef):=by
       rw[aea,aeh hlt];exact hd
      exact EZ ρ (kS hF (ld.nil _ _ _) hx this)
     ·cases hi
    ·rw[agd e] at hi
     exact VL hF hT r y T hy hl h i s hi
   ·cases hv
  ·cases hv
theorem YI {S S':St} {ops:List Oper} {l:List (Nat×Ty)} {v:Pt l} {a:Act} (hJ:qA ops S S') (hv:NN S' l=some v) (hM:Mod C G ρ S' w a):Mod C G ρ { S with tmps:=FR l v (sG ops S.tmps) } w a:=by
 have h0:Mem C G ρ { S with tmps:=FR l v (sG ops S.tmps) } w:=hM.toMem.JS (by rw[hJ.boxes]) (by rw[hJ.rows]) (by rw[hJ.objs])
 refine { h0 with tmps:=⟨?_, ?_⟩,defers:=hM.defers }
 ·show a.tmps.size=(FR l v (sG ops S.tmps)).length
  rw[Mc,Dl, <- hJ.len];exact hM.tmps.1
 ·refine VL hM.toMem.frozen hM.tmps l v _ hv (by rw[Dl,hJ.len]) (fun i s hi=> ?_)
  rcases Kx ops S.tmps i s hi with e | ⟨h1,h2⟩
  ·subst e;trivial
  ·exact hM.tmps.2 i s (by rw[hJ.tmp i h1];exact h2)
end Go.Dn
