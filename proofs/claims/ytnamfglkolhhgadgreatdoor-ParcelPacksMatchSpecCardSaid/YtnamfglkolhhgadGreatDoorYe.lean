/-
  The executor, its fourth part: regions that draw their order are sound. No condition.
-/
import Derived.Test.YtnamfglkolhhgadGreatDoorYc
set_option linter.all false
namespace Go.Dn
variable {β:Type} {X:Cx} {C:Fr X.P} {G:Gh} {ρ:Env} {w:World}
theorem Aq {p q:Nat→Bool} {i:Nat}:∀ {l:List Nat},l.Nodup→i∈l→p i=true→(∀ j,q j=(p j&&j != i))→l.countP p=l.countP q+1
 | [],_,hi,_,_=>by simp at hi
 | j::l,hn,hi,hp,hq=>by
  rw[aix] at hn
  by_cases e:j=i
  ·subst e
   have h1:q j=false:=by rw[hq];simp
   have h2:l.countP p=l.countP q:=by
    refine List.countP_congr fun m hm=> ?_
    have:m≠j:=fun e=>hn.1 (e ▸ hm)
    rw[hq];simp[this]
   rw[List.countP_cons,List.countP_cons,hp,h1,h2];simp
  ·have hi':i∈l:=by
    rcases aij.1 hi with h | h
    ·exact absurd h.symm e
    ·exact h
   have h1:q j=p j:=by rw[hq];simp[e]
   rw[List.countP_cons,List.countP_cons,h1,Aq hn.2 hi' hp hq]
   omega
theorem FO:∀ {l:List Oper} {S:St} {outs:List (Option Del)} {p:Nat×List CV},p∈(states l S outs).boxes→p∈S.boxes∨∃ (j:Nat) (o:Oper) (x:Option Del) (d:Nat) (c:List CV),l[j]? =some o∧outs[j]? =some x∧o.dst=some d∧AM x=some c∧p=(d,c)
 | [],S,outs,p,h=>by cases outs<;>exact .inl h
 | o::l,S,[],p,h=> .inl h
 | o::l,S,x::xs,p,h=>by
  simp only[states] at h
  rcases FO h with h1 | ⟨j,o',x',d,c,h1,h2,h3⟩
  ·cases x with
   | none=>left;simpa [St.out] using h1
   | some y=>
    cases hd:o.dst with
    | none=>left;simpa [St.out,St.app,hd] using h1
    | some d=>
     cases hb:y.box with
     | none=>left;simpa [St.out,St.app,hd,hb] using h1
     | some c=>
      have h2:p=(d,c)∨p∈S.boxes:=by simpa [St.out,St.app,hd,hb] using h1
      rcases h2 with h2 | h2
      ·exact .inr ⟨0,o,some y,d,c,rfl,rfl,hd,hb,h2⟩
      ·exact .inl h2
  ·exact .inr ⟨j+1,o',x',d,c,by simpa using h1,by simpa using h2,h3⟩
section
variable {ops:List Oper} {n:Nat} {S Sn:St} {listed:Array Bool} {outs:List (Option Del)}
theorem cg {i:Nat} {b:Bool} (h:i<listed.size):(listed.setIfInBounds i true).getD i b=true:=by
 rw[agm,agu h];rfl
theorem bn {i j:Nat} {b:Bool} (h:j≠i):(listed.setIfInBounds i true).getD j b=listed.getD j b:=by
 rw[agm,agm,agt (by omega)]
theorem cm.Es (K:cm X ops n S outs Sn) {i d:Nat} (hin:i<n) (hd:bS ops i=some d) (hsz:listed.size=ops.length) (hun:listed.getD i true=false) (t:Nat):
 aJ ops n (listed.setIfInBounds i true) t=(aJ ops n listed t&&t != d):=by
 have his:i<listed.size:=by rw[hsz];exact ai3 hin K.n_le
 rw[agH,dA,agE,dA]
 constructor
 ·rintro⟨j,h1,h2,h3⟩
  have hji:j≠i:=fun e=>by subst e;rw[cg his] at h2;cases h2
  rw[bn hji] at h2
  refine⟨⟨j,h1,h2,h3⟩, ?_⟩
  simp only[bne_iff_ne,ne_eq]
  intro e
  subst e
  exact hji (K.uniq h1 hin h3 hd)
 ·rintro⟨⟨j,h1,h2,h3⟩,h4⟩
  have hji:j≠i:=fun e=>by
   subst e
   rw[hd] at h3
   cases h3
   simp at h4
  exact⟨j,h1,by rw[bn hji];exact h2,h3⟩
theorem EU {S:St} {d:Nat} (h:S.dw d=false):S.bY d=false∧S.bq d=false∧S.bH d=false∧S.bw d=false:=by
 have cv:∀ c:CV,c.dw d=false→c.bY d=false∧c.bq d=false∧c.bH d=false∧c.bw d=false:=fun c hc=>by
  simpa [CV.dw] using hc
 have cs:∀ l:List CV,l.any (CV.dw d)=false→l.any (CV.bY d)=false∧l.any (CV.bq d)=false∧l.any (CV.bH d)=false∧l.any (CV.bw d)=false:=fun l hl=>by
  simp only[ahi] at hl ⊢
  exact⟨fun c hc=>by simp[(cv c (by simpa using hl c hc)).1],fun c hc=>by simp[(cv c (by simpa using hl c hc)).2.1],fun c hc=>by simp[(cv c (by simpa using hl c hc)).2.2.1],fun c hc=>by simp[(cv c (by simpa using hl c hc)).2.2.2]⟩
 have sv:∀ s:SV,s.dw d=false→s.bY d=false∧s.bq d=false∧s.bH d=false∧s.bw d=false:=fun s hs=>by
  cases s with
  | v a l=>exact cs l hs
  | tup l=>
   simp only[SV.dw,ahi] at hs
   simp only[SV.bY,SV.bq,SV.bH,SV.bw,ahi]
   exact⟨fun p hp=>by simp[(cs p.2 (by simpa using hs p hp)).1],fun p hp=>by simp[(cs p.2 (by simpa using hs p hp)).2.1],fun p hp=>by simp[(cs p.2 (by simpa using hs p hp)).2.2.1],fun p hp=>by simp[(cs p.2 (by simpa using hs p hp)).2.2.2]⟩
 simp only[St.dw,agQ,ahi] at h
 have h1:∀ s,s∈S.tmps→s.dw d=false:=fun s hs=>by simpa using h.1 s hs
 have h2:∀ p,p∈S.boxes→p.2.any (CV.dw d)=false:=fun p hp=>by simpa using h.2 p hp
 simp only[St.bY,St.bq,St.bH,St.bw,agQ,ahi]
 exact⟨⟨fun s hs=>by simp[(sv s (h1 s hs)).1],fun p hp=>by simp[(cs p.2 (h2 p hp)).1]⟩,⟨fun s hs=>by simp[(sv s (h1 s hs)).2.1],fun p hp=>by simp[(cs p.2 (h2 p hp)).2.1]⟩,
  ⟨fun s hs=>by simp[(sv s (h1 s hs)).2.2.1],fun p hp=>by simp[(cs p.2 (h2 p hp)).2.2.1]⟩,⟨fun s hs=>by simp[(sv s (h1 s hs)).2.2.2],fun p hp=>by simp[(cs p.2 (h2 p hp)).2.2.2]⟩⟩
theorem cm.fresh (K:cm X ops n S outs Sn) (hcl:vh ops listed) {i d:Nat} (hin:i<n) (hd:bS ops i=some d) (hun:listed.getD i true=false):
 (aT S Sn (aJ ops n listed)).dw d=false:=by
 obtain⟨n1,n3,n4,n4',n5⟩:=K.new i d hin hd
 have done:∀ j dj,j<n→bS ops j=some dj→aJ ops n listed dj=false→Ui Sn d dj=false:=fun j dj hj hdj hu=>by
  have hlj:listed.getD j true=true:=by
   cases h:listed.getD j true with
   | true=>rfl
   | false=>have:=dA.2 ⟨j,hj,h,hdj⟩;rw[hu] at this;cases this
  refine n5 j dj hj hdj (fun e=>by subst e;rw[hun] at hlj;cases hlj) (fun hm=> ?_)
  obtain⟨oj,ho,_⟩:=jR hdj
  have:=eC K.edges hcl j oj ho (fun e h1 h2=>hcl j oj ho hlj e h1 h2) i hm
  rw[hun] at this;cases this
 simp only[St.dw,agQ,ahi] at n1
 have tmpS:∀ t,(S.tmps.getD t (.v false [.any])).dw d=false:=fun t=>by
  rw[ahH]
  cases h:S.tmps[t]? with
  | none=>rfl
  | some s=>simpa using n1.1 s (air h)
 have tmpsOk:∀ s,s∈(aT S Sn (aJ ops n listed)).tmps→s.dw d=false:=fun s hs=>by
  simp only[aT,aip,aiu] at hs
  obtain⟨t,ht,rfl⟩:=hs
  cases hu:aJ ops n listed t with
  | true=>simpa using tmpS t
  | false=>
   simp only[agI,ajO]
   by_cases hex:∃ j,j<n∧bS ops j=some t
   ·obtain⟨j,h1,h2⟩:=hex
    have:=done j t h1 h2 hu
    simp only[Ui,agQ] at this
    exact this.1
   ·have hnd:t∉gP (ops.take n):=by
     intro hm
     simp only[gP,aim] at hm
     obtain⟨p,hp,hpd⟩:=hm
     obtain⟨m,hm⟩:=aio.1 hp
     have hmn:m<n:=by
      have:=(ahQ.1 hm).1
      simp at this;omega
     rw[cB hmn] at hm
     exact hex ⟨m,hmn,by unfold bS;rw[hm];exact hpd⟩
    have:Sn.tmps[t]? =S.tmps[t]? :=by rw[K.sn];exact (fD hnd).1
    rw[Ih this]
    exact tmpS t
 have boxesOk:∀ p,p∈(aT S Sn (aJ ops n listed)).boxes→p.2.any (CV.dw d)=false:=fun p hp=>by
  simp only[aT,List.mem_filter,agN] at hp
  obtain⟨hp,hu⟩:=hp
  rw[K.sn] at hp
  rcases FO hp with h | ⟨j,o',x',dj,cj,h1,h2,h3,h4,h5⟩
  ·simpa using n1.2 p h
  ·subst h5
   have hjn:j<n:=by
    have:=(ahQ.1 h1).1
    simp at this;omega
   have hdj:bS ops j=some dj:=by unfold bS;rw[cB hjn] at h1;rw[h1];exact h3
   have:=done j dj hjn hdj hu
   have hlook:look Sn.boxes dj=some cj:=by
    rw[K.sn,(wm (by rw[K.len,aia,aja K.n_le]) K.dupl h1 h2 h3).2.1,h4];rfl
   simp only[Ui,hlook,agQ] at this
   exact this.2
 simp only[St.dw,agQ,ahi]
 exact⟨fun s hs=>by simp[tmpsOk s hs],fun p hp=>by simp[boxesOk p hp]⟩
theorem cm.next (K:cm X ops n S outs Sn) {i d:Nat} {o:Oper} {x:Option Del} (hin:i<n) (hi:ops[i]? =some o) (hd:o.dst=some d) (hx:outs[i]? =some x) (hsz:listed.size=ops.length) (hun:listed.getD i true=false)
 {a:Act} (hM:Mod C G ρ ((aT S Sn (aJ ops n listed)).out o x) w a):Mod C G ρ (aT S Sn (aJ ops n (listed.setIfInBounds i true))) w a:=by
 have hdA:bS ops i=some d:=by unfold bS;rw[hi];exact hd
 have hU:=K.Es hin hdA hsz hun
 obtain⟨n1,n3,n4,n4',_⟩:=K.new i d hin hdA
 have hat:=wm (S:=S) (outs:=outs) (by rw[K.len,aia,aja K.n_le]) K.dupl (i:=i) (o:=o) (x:=x) (by rw[cB hin];exact hi) hx hd
 rw[← K.sn] at hat
 refine hM.equiv ?_ ?_ ?_ ?_
 ·rw[P4 hd]
  apply ahy
  intro t
  rw[ahT,eU,eU,hU t]
  by_cases e:d=t
  ·subst e
   have hlen:(aT S Sn (aJ ops n listed)).tmps.length=S.tmps.length:=by simp[aT]
   rw[hlen]
   by_cases hlt:d<S.tmps.length
   ·simp only[hlt,ajR,ajC,agF,agI,ajO]
    rw[ahH,hat.1 hlt];rfl
   ·simp[hlt]
  ·rw[ajP e]
   have:(t != d)=true:=by simp only[bne_iff_ne,ne_eq];exact fun h=>e h.symm
   rw[this,agG]
 ·intro k cs hk
  simp only[aT,bF,hU k] at hk
  rw[MH hd]
  split at hk
  ·cases hk
  ·rename_i hc
   by_cases e:k=d
   ·subst e
    rw[hat.2.1,n3] at hk
    simp only[ajR]
    cases hb:AM x with
    | none=>rw[hb] at hk;cases hk
    | some c=>rw[hb] at hk;simpa using hk
   ·rw[ajP e]
    simp only[aT,bF]
    rw[ajP]
    ·exact hk
    ·intro hu
     apply hc
     simp[hu,e]
 ·intro k q hk
  simp only[aT,bF,hU k] at hk
  rw[PZ hd]
  split at hk
  ·cases hk
  ·rename_i hc
   by_cases e:k=d
   ·subst e
    rw[hat.2.2.1,n4] at hk
    simp only[ajR]
    cases hb:z8 x with
    | none=>rw[hb] at hk;cases hk
    | some c=>rw[hb] at hk;simpa using hk
   ·rw[ajP e]
    simp only[aT,bF]
    rw[ajP]
    ·exact hk
    ·intro hu
     apply hc
     simp[hu,e]
 ·intro k q hk
  simp only[aT,bF,hU k] at hk
  rw[PY hd]
  split at hk
  ·cases hk
  ·rename_i hc
   by_cases e:k=d
   ·subst e
    rw[hat.2.2.2,n4'] at hk
    simp only[ajR]
    cases hb:DA x with
    | none=>rw[hb] at hk;cases hk
    | some c=>rw[hb] at hk;simpa using hk
   ·rw[ajP e]
    simp only[aT,bF]
    rw[ajP]
    ·exact hk
    ·intro hu
     apply hc
     simp[hu,e]
theorem cm.wpOp (K:cm X ops n S outs Sn) {Q:Exit→Act→World→Prop} {K':Act→World→Prop} {a:Act} {i:Nat} {o:Oper} (hin:i<n) (hi:ops[i]? =some o) (hsz:listed.size=ops.length) (hcl:vh ops listed) (hun:listed.getD i true=false)
 (hed:∀ e,e∈o.after.toList→Region.binds .any e=true→listed.getD e.on false=true)
 (hM:Mod C G ρ (aT S Sn (aJ ops n listed)) w a) (hK:∀ G' ρ' w' a',Mod C G' ρ' (aT S Sn (aJ ops n (listed.setIfInBounds i true))) w' a'→K' a' w'):Go.wpOp X.P ops.toArray Q i K' a w:=by
 obtain⟨hds,hlk⟩:=K.head i o hin hi
 obtain⟨d,hd⟩:=ajt.1 hds
 have hdA:bS ops i=some d:=by unfold bS;rw[hi];exact hd
 have hdeps:=eC K.edges hcl i o hi hed
 obtain⟨x,hx⟩:∃ x,outs[i]? =some x:=⟨outs[i]'(by rw[K.len];exact hin),ahO _⟩
 have hst:=K.step i o x hin hi hx
 have hgd:=K.guards hin hi hdeps
 have hev:=K.evs hin hi hdeps
 unfold Go.wpOp
 have hio:ops.toArray[i]? =some o:=by simpa using hi
 rw[hio]
 simp only
 cases x with
 | none=>
  have hw:Region.wanted o (yielded ops.toArray a.tmps)=false:=by
   rcases hst with ⟨dg,b,want,hg,hb⟩ | hs
   ·have hw:=jh hM.tmps (by rw[hgd];exact hg)
    simp only at hw
    rw[hw.2,hb]
   ·exact Ka hM.tmps (by rw[K.ae5 hin hi hdeps];exact hs)
  rw[ajP (by rw[hw];simp)]
  exact hK G ρ w _ (K.next hin hi hd hx hsz hun (hM.put o.dst (fun _ _=>Sk)))
 | some y=>
  obtain⟨⟨hL,_⟩,hg⟩:=hst
  have hwt:Region.wanted o (yielded ops.toArray a.tmps)=true:=by
   rcases hg with hg | ⟨dg,b,want,hg,hb⟩
   ·exact jh hM.tmps (g:=none) (by rw[hgd];exact hg)
   ·have hw:=jh hM.tmps (by rw[hgd];exact hg)
    simp only at hw
    rw[hw.2,hb]
  rw[ajQ hwt]
  left
  have hfr:=EU (K.fresh hcl hin hdA hun)
  have hnear:Lg o (states ((ops.take n).take i) S (outs.take i)) S (aT S Sn (aJ ops n listed)):=by
   have nolook:∀ k,(look S.boxes k).isSome=true∨(look S.rows k).isSome=true∨(look S.objs k).isSome=true→aJ ops n listed k=false∧look Sn.boxes k=look S.boxes k∧look Sn.rows k=look S.rows k∧look Sn.objs k=look S.objs k:=fun k hk=>by
    have hnd:∀ j,j<n→bS ops j≠some k:=fun j hj hdj=>by
     obtain⟨_,m3,m4,m5,_⟩:=K.new j k hj hdj
     rcases hk with hk | hk | hk
     ·rw[m3] at hk;cases hk
     ·rw[m4] at hk;cases hk
     ·rw[m5] at hk;cases hk
    refine⟨?_, ?_⟩
    ·cases hu:aJ ops n listed k with
     | false=>rfl
     | true=>obtain⟨j,h1,_,h3⟩:=dA.1 hu;exact absurd h3 (hnd j h1)
    ·have:k∉gP (ops.take n):=fun hm=>by
      simp only[gP,aim] at hm
      obtain⟨p,hp,hpd⟩:=hm
      obtain⟨m,hm⟩:=aio.1 hp
      have hmn:m<n:=by
       have:=(ahQ.1 hm).1
       simp at this;omega
      rw[cB hmn] at hm
      exact hnd m hmn (by unfold bS;rw[hm];exact hpd)
     rw[K.sn]
     exact (fD this).2
   refine⟨hev,fun k cs hk=> ?_,fun k q hk=> ?_,fun k q hk=> ?_⟩
   ·obtain⟨h1,h2,_⟩:=nolook k (.inl (by rw[hk];rfl))
    simp only[aT,bF,h1,agI,ajO];rw[h2];exact hk
   ·obtain⟨h1,_,h2,_⟩:=nolook k (.inr (.inl (by rw[hk];rfl)))
    simp only[aT,bF,h1,agI,ajO];rw[h2];exact hk
   ·obtain⟨h1,_,_,h2⟩:=nolook k (.inr (.inr (by rw[hk];rfl)))
    simp only[aT,bF,h1,agI,ajO];rw[h2];exact hk
  have hwp:=hL C G ρ _ w a Q hM hnear (fun d' hd' _=>by rw[hd] at hd';cases hd';exact hfr.1) (fun d' hd' _=>by rw[hd] at hd';cases hd';exact hfr.2.1) (fun d' hd' _=>by rw[hd] at hd';cases hd';exact hfr.2.2)
  refine Oper.wp_mono (fun a' w' h=> ?_) hwp
  obtain⟨G',ρ',hM'⟩:=h
  exact hK G' ρ' w' a' (K.next hin hi hd hx hsz hun hM')
theorem Nr {N:Nat} (hsz:listed.size=N) (hn:n≤N) (h1:∀ i,i<n→listed.getD i true=true) (h2:∀ i,n≤i→i<N→listed.getD i true=false):listed=mask n N:=by
 apply Array.ext_getElem?
 intro i
 simp only[mask,ahY]
 by_cases c1:i<n
 ·rw[ahJ (by simpa using c1),List.getElem?_replicate_of_lt c1]
  have:=h1 i c1
  rw[agm,agn (by omega)] at this
  rw[agn (by omega)]
  simpa using this
 ·by_cases c2:i<N
  ·rw[ahK (by simpa using c1),List.getElem?_replicate_of_lt (by simp;omega)]
   have:=h2 i (by omega) c2
   rw[agm,agn (by omega)] at this
   rw[agn (by omega)]
   simpa using this
  ·rw[ago (by omega),ahP (by simp;omega)]
theorem cm.any (K:cm X ops n S outs Sn) (hwaits:∀ k,n≤k→k<ops.length→∀ j,j<k→j∈(deps ops).getD k m0) {Q:Exit→Act→World→Prop} (hseq:Region.seqB .any ops.toArray (ops.length - n) n (mask n ops.length)=true)
 (htail:∀ G ρ w a,Mod C G ρ Sn w a→wpList X.P ops.toArray Q (ops.drop n) a w):∀ (u:Nat) (listed:Array Bool) (a:Act) (w:World) (G:Gh) (ρ:Env),listed.size=ops.length→vh ops listed→
 (∀ k,n≤k→k<ops.length→listed.getD k true=false)→(List.range n).countP (fun i=> !listed.getD i true)=u→Mod C G ρ (aT S Sn (aJ ops n listed)) w a→wpAny X.P .any ops.toArray Q (u+(ops.length - n)) listed a w:=by
 intro u
 induction u with
 | zero=>
  intro listed a w G ρ hsz hcl htl hcnt hM
  have hall:∀ i,i<n→listed.getD i true=true:=fun i hi=>by
   rw[ahn] at hcnt
   have:=hcnt i (by simpa using hi)
   simpa using this
  have hU:∀ t,aJ ops n listed t=false:=fun t=>by
   cases hu:aJ ops n listed t with
   | false=>rfl
   | true=>obtain⟨j,h1,h2,_⟩:=dA.1 hu;rw[hall j h1] at h2;cases h2
  have hMn:Mod C G ρ Sn w a:=by
   refine hM.equiv ?_ (fun k cs hk=> ?_) (fun k q hk=> ?_) (fun k q hk=> ?_)
   ·apply ahy
    intro t
    rw[eU,hU t]
    by_cases hlt:t<S.tmps.length
    ·have:t<Sn.tmps.length:=by rw[K.yh];exact hlt
     simp[hlt,this]
    ·rw[ajP hlt,ahP (by rw[K.yh];omega)]
   ·simp only[aT,bF,hU k,agI,ajO];exact hk
   ·simp only[aT,bF,hU k,agI,ajO];exact hk
   ·simp only[aT,bF,hU k,agI,ajO];exact hk
  have hmask:=Nr (n:=n) hsz K.n_le hall htl
  have hl:(ops.drop n).length=ops.length - n:=by simp
  have:=wpAny_of_seq (P:=X.P) (md:= .any) (ops:=ops.toArray) (Q':=Q) (ops.drop n) n listed a w (fun j=>by simp[ahN]) (by rw[hl,hmask];exact hseq) (htail G ρ w a hMn)
  rw[hl] at this
  rw[ajn]
  exact this
 | succ u ih=>
  intro listed a w G ρ hsz hcl htl hcnt hM
  have hsome:∃ i,i<n∧listed.getD i true=false:=by
   have:0<(List.range n).countP (fun i=> !listed.getD i true):=by omega
   rw[aho] at this
   obtain⟨i,h1,h2⟩:=this
   exact⟨i,by simpa using h1,by simpa using h2⟩
  rw[show u+1+(ops.length - n)=(u+(ops.length - n))+1 by omega]
  refine⟨fun hr=> ?_,fun i hi=> ?_⟩
  ·exfalso
   have hall:∀ i,i<n→listed.getD i true=true:=by
    intro i
    induction i using Nat.strongRecOn with
    | _ i ihi=>
     intro hin
     cases hl:listed.getD i true with
     | true=>rfl
     | false=>
      exfalso
      have hlt:i<ops.length:=ai3 hin K.n_le
      have hoi:ops[i]? =some ops[i]:=ahO hlt
      have:i∈Region.ready .any ops.toArray listed:=by
       rw[mem_ready]
       refine⟨hl,ops[i],by simp,fun e he hb=> ?_⟩
       have hE:=K.edges
       simp only[mg,ahg] at hE
       have h7:=hE i (by simp;exact hlt)
       rw[hoi] at h7
       simp only[ahg] at h7
       have h8:=h7 e (by simpa using he)
       simp only[hb,agP,agK] at h8
       have h9:e.on<i:=ai3 (ai7 _) (aiY h8)
       have h10:=ihi e.on h9 (by omega)
       rw[agm] at h10 ⊢
       rw[agn (by omega)] at h10 ⊢
       simpa using h10
      rw[hr] at this
      cases this
   obtain⟨i,h1,h2⟩:=hsome
   rw[hall i h1] at h2;cases h2
  ·rw[mem_ready] at hi
   obtain⟨hun,o,hio,hed⟩:=hi
   have hoi:ops[i]? =some o:=by simpa using hio
   have hed':∀ e,e∈o.after.toList→Region.binds .any e=true→listed.getD e.on false=true:=fun e he hb=>hed e (by simpa using he) hb
   by_cases hin:i<n
   ·refine K.wpOp hin hoi hsz hcl hun hed' hM (fun G' ρ' w' a' hM'=>ih (listed.setIfInBounds i true) a' w' G' ρ' (by simpa using hsz) ?_ ?_ ?_ hM')
    ·intro j oj hj hlj e he hb
     by_cases eji:j=i
     ·subst eji
      rw[hoi] at hj
      cases hj
      have:=hed' e he hb
      by_cases e2:e.on=j
      ·rw[e2];exact cg (by rw[hsz];exact ai3 hin K.n_le)
      ·rw[bn e2];exact this
     ·rw[bn eji] at hlj
      have:=hcl j oj hj hlj e he hb
      by_cases e2:e.on=i
      ·rw[e2];exact cg (by rw[hsz];exact ai3 hin K.n_le)
      ·rw[bn e2];exact this
    ·intro k hk1 hk2
     rw[bn (by omega)]
     exact htl k hk1 hk2
    ·have:=Aq (p:=fun j=> !listed.getD j true) (q:=fun j=> !(listed.setIfInBounds i true).getD j true) (i:=i) (l:=List.range n) aiy (by simpa using hin) (by simp[hun]) (fun j=>by
      by_cases e:j=i
      ·subst e;simp only[cg (listed:=listed) (b:=true) (by rw[hsz];exact ai3 hin K.n_le)];simp
      ·simp only[bn (listed:=listed) (b:=true) e];simp[e])
     omega
   ·exfalso
    have hlt:i<ops.length:=(ahQ.1 hoi).1
    obtain⟨m,h1,h2⟩:=hsome
    have hd:=hwaits i (by omega) hlt m (by omega)
    have:=eC K.edges hcl i o hoi hed' m hd
    rw[h2] at this;cases this
theorem cm.of (hn:n≤ops.length) (c2:Iq ops (deps ops) n=true) (c4:mg ops=true) (h1:outs.length=(ops.take n).length)
 (h3:∀ i o x,(ops.take n)[i]? =some o→outs[i]? =some x→Gg X ops S o (states ((ops.take n).take i) S (outs.take i)) x) (hnew:Dl ops n S (states (ops.take n) S outs)=true):cm X ops n S outs (states (ops.take n) S outs):=by
 have hlen:(ops.take n).length=n:=by simp;omega
 simp only[Iq,agE,agN] at c2
 exact {
  n_le:=hn
  dupl:=c2.1
  head:=fun i o hin hi=>by
   have:=c2.2
   simp only[ahg] at this
   have h5:=this i (by simpa using hin)
   rw[hi] at h5
   simp only[agE,ahg] at h5
   refine⟨h5.1,fun t ht j hj hdj=> ?_⟩
   have h6:=Rc (h5.2 t ht) (k:=j) (by
    obtain⟨o',ho',hd'⟩:=jR hdj
    rw[ahR,cB hj,ho',ajv,hd'])
   rw[ajn] at h6;exact h6
  edges:=c4
  len:=by rw[h1,hlen]
  sn:=rfl
  step:=fun i o x hin hi hx=>h3 i o x (by rw[cB hin];exact hi) hx
  new:=fun i d hin hd=>by
   simp only[Dl,agE,ahg] at hnew
   obtain⟨o',ho',hd'⟩:=jR hd
   have h5:=hnew.1 o' (air (by rw[cB hin];exact ho'))
   rw[hd'] at h5
   simp only[agN] at h5
   obtain⟨g1,g2,g3,g4⟩:=ZY h5
   refine⟨g1,g2,g3,g4,fun j dj hj hdj hij hnd=> ?_⟩
   have h6:=hnew.2 j (by simpa using hj)
   rw[hdj] at h6
   simp only[ahg] at h6
   rw[aec]
   cases hin':inL (Wn (states (ops.take n) S outs) dj) d with
   | false=>rfl
   | true=>
    have h7:=h6 d (aeH.1 hin') i (by simpa using hin)
    rw[hd] at h7
    simp only[agR,Nat.beq_refl,agP] at h7
    rcases h7 with h7 | h7 | h7
    ·exact absurd (aiW h7) hij
    ·exact absurd (ot.1 h7) hnd
    ·cases h7 }
theorem FV {m:Nat} (c3:((List.range ops.length).all fun k=>Nat.blt k m||zK (deps ops) k)=true):∀ k,m≤k→k<ops.length→∀ j,j<k→j∈(deps ops).getD k m0:=fun k hm1 hm2 j hj=>by
 simp only[ahg] at c3
 have h5:=c3 k (by simpa using hm2)
 simp only[agR] at h5
 rcases h5 with h5 | h5
 ·have:k<m:=ai3 (ai7 _) (aiY h5)
  omega
 ·simp only[zK,ahg] at h5
  exact ot.1 (h5 j (by simpa using hj))
theorem wk:vh ops (Array.replicate ops.toArray.size false):=by
 intro i o hi hl
 have hlt:=(ahQ.1 hi).1
 rw[agm,ags,ajQ (by simpa using hlt)] at hl
 cases hl
theorem sV {m:Nat} (hm:m<ops.length) (b:Bool):(Array.replicate ops.toArray.size false).getD m b=false:=by
 rw[agm,ags,ajQ (by simpa using hm)]
 rfl
theorem yj {m:Nat} (hm:m≤ops.length):(List.range m).countP (fun i=> !(Array.replicate ops.toArray.size false).getD i true)=m:=by
 have:(List.range m).countP (fun i=> !(Array.replicate ops.toArray.size false).getD i true)=(List.range m).length:=by
  rw[List.countP_eq_length]
  intro i hi
  have hin:i<m:=by simpa using hi
  rw[sV (by omega)];rfl
 rw[this];simp
theorem DI (hn:n≤ops.length) {a:Act} (hM':Mod C G ρ S w a):Mod C G ρ (aT S (states (ops.take n) S outs) (aJ ops n (Array.replicate ops.toArray.size false))) w a:=by
 have hother:∀ t,aJ ops n (Array.replicate ops.toArray.size false) t=false→t∉gP (ops.take n):=fun t hu hm=>by
  simp only[gP,aim] at hm
  obtain⟨p,hp,hpd⟩:=hm
  obtain⟨m,hm⟩:=aio.1 hp
  have hmn:m<n:=by
   have:=(ahQ.1 hm).1
   simp at this;omega
  rw[cB hmn] at hm
  have:=dA.2 ⟨m,hmn,sV (ops:=ops) (by omega) true,show bS ops m=some t by unfold bS;rw[hm];exact hpd⟩
  rw[hu] at this;cases this
 refine hM'.equiv ?_ (fun k cs hk=> ?_) (fun k q hk=> ?_) (fun k q hk=> ?_)
 ·apply ahy
  intro t
  rw[eU]
  by_cases hlt:t<S.tmps.length
  ·rw[ajQ hlt,ahO hlt]
   congr 1
   cases hu:aJ ops n (Array.replicate ops.toArray.size false) t with
   | true=>simp[hlt]
   | false=>
    have:=(fD (S:=S) (outs:=outs) (hother t hu)).1
    simp only[agI,ajO]
    rw[ahH,this,ahO hlt];rfl
  ·rw[ajP hlt,ahP (by omega)]
 ·simp only[aT,bF] at hk
  split at hk
  ·cases hk
  ·rename_i hu
   rw[(fD (hother k (by simpa using hu))).2.1] at hk;exact hk
 ·simp only[aT,bF] at hk
  split at hk
  ·cases hk
  ·rename_i hu
   rw[(fD (hother k (by simpa using hu))).2.2.1] at hk;exact hk
 ·simp only[aT,bF] at hk
  split at hk
  ·cases hk
  ·rename_i hu
   rw[(fD (hother k (by simpa using hu))).2.2.2] at hk;exact hk
end
end Go.Dn
namespace Go.Dn
variable {β:Type} {X:Cx} {C:Fr X.P} {G:Gh} {ρ:Env} {w:World}
theorem rT {S T:St} {fb:List Nat} (hr:S.rows=T.rows) (hb:S.boxes=T.boxes):∀ (t:Ty) (cs:List CV),gW S fb t cs=gW T fb t cs
 | .int _,_=>rfl
 | .bool,_=>rfl
 | .str,_=>rfl
 | .unit,_=>rfl
 | .pair a b,cs=>by
  simp only[gW]
  rw[rT hr hb a cs]
  cases gW T fb a cs with
  | none=>rfl
  | some p=>simp only[rT hr hb b]
 | .st t,cs=>rT hr hb t cs
 | .slice t,cs=>by
  simp only[gW]
  congr 1
  funext c
  cases c<;>simp only[RZ,hr]
 | .ptr t,cs=>by
  simp only[gW]
  congr 1
  have e:gW S fb t=gW T fb t:=funext (rT hr hb t)
  rw[e]
  funext c
  cases c<;>simp only[T7,hb]
 | .clo g t,cs=>by
  simp only[gW]
  have e:gW S fb t=gW T fb t:=funext (rT hr hb t)
  rw[e]
 | .hnd,_=>rfl
def St.wt (S:St) (tm:List SV):St:={ S with tmps:=tm }
theorem Sg {o:Oper} {S:St} {k:St→Option β} {r:β} {t:TypeId} {ad x:Operand} (ho:o.op= .store t ad x) (h:cV X o S k=some r):
 ∃ S',k S'=some r∧S'.tmps=S.tmps∧∀ tm,(S.wt tm).ev ad=S.ev ad→(S.wt tm).ev x=S.ev x→cV X o (S.wt tm) some=some (S'.wt tm):=by
 obtain⟨dst,op,ty,pos,af,g⟩:=o
 simp only at ho
 subst ho
 simp only[cV] at h
 split at h
 ·cases h
 ·rename_i hdst
  split at h
  ·rename_i b off a' cs ha hx
   unfold wo at h
   split at h
   ·rename_i l hl
    split at h
    ·rename_i hc
     split at h
     ·rename_i l' hl'
      refine⟨_,h,rfl,fun tm e1 e2=> ?_⟩
      simp only[cV]
      rw[ajP hdst,e1,e2,ha,hx]
      simp only
      unfold wo
      rw[show look (S.wt tm).boxes b=look S.boxes b from rfl,hl]
      simp only
      rw[ajQ hc,hl']
      rfl
     ·cases h
    ·cases h
   ·cases h
  ·rename_i j sz i off a' cs ha hx
   unfold Co at h
   split at h
   ·rename_i q hq
    split at h
    ·cases h
    ·rename_i hc
     cases hy:q.l[i]? with
     | none=>rw[hy] at h;cases h
     | some y=>
      rw[hy] at h
      simp only[ajq] at h
      split at h
      ·rename_i cs' hcs
       split at h
       ·rename_i y' hy'
        refine⟨_,h,rfl,fun tm e1 e2=> ?_⟩
        simp only[cV]
        rw[ajP hdst,e1,e2,ha,hx]
        simp only
        unfold Co
        rw[show look (aX (S.wt tm) (ja cs)).rows j=look (aX S (ja cs)).rows j from rfl,hq]
        simp only
        rw[ajP hc,hy]
        simp only[ajq,hcs]
        have e3:jF (pack (aX (S.wt tm) (ja cs)) q.t cs')=some y':=by
         rw[← hy'];unfold pack;rw[rT (S:=aX (S.wt tm) (ja cs)) (T:=aX S (ja cs)) rfl rfl]
        rw[e3]
        rfl
       ·cases h
      ·cases h
   ·cases h
  ·rename_i hh off a' cs ha hx
   unfold EE at h
   split at h
   ·rename_i ty' l hq
    split at h
    ·cases h
    ·rename_i hc
     cases hy:l[hh]? with
     | none=>rw[hy] at h;cases h
     | some y=>
      rw[hy] at h
      simp only[ajq] at h
      split at h
      ·rename_i cs' hcs
       split at h
       ·rename_i y' hy'
        refine⟨_,h,rfl,fun tm e1 e2=> ?_⟩
        simp only[cV]
        rw[ajP hdst,e1,e2,ha,hx]
        simp only
        unfold EE
        rw[show look (aX (S.wt tm) (ja cs)).objs bG=look (aX S (ja cs)).objs bG from rfl,hq]
        simp only
        rw[ajP hc,hy]
        simp only[ajq,hcs]
        have e3:jF (pack (aX (S.wt tm) (ja cs)) ty' cs')=some y':=by
         rw[← hy'];unfold pack;rw[rT (S:=aX (S.wt tm) (ja cs)) (T:=aX S (ja cs)) rfl rfl]
        rw[e3]
        rfl
       ·cases h
      ·cases h
   ·cases h
  ·cases h
section
variable {ops:List Oper} {m:Nat} {S Sn S':St} {listed:Array Bool} {outs:List (Option Del)} {os:Oper}
theorem cm.Z5 (K:cm X ops m S outs Sn) {i d:Nat} {o:Oper} (him:i<m) (hi:ops[i]? =some o) (hb:zR o.op=true) (hg:o.guard=none) (hd:o.dst=some d):
 ∃ x:Del,outs[i]? =some (some x)∧dn X.P o (states ((ops.take m).take i) S (outs.take i)) mG x∧x.box=none∧x.row=none∧x.obj=none∧
  look Sn.boxes d=none∧look Sn.rows d=none∧look Sn.objs d=none:=by
 obtain⟨y,hy⟩:∃ y,outs[i]? =some y:=⟨outs[i]'(by rw[K.len];exact him),ahO _⟩
 have hst:=K.step i o y him hi hy
 cases y with
 | none=>
  rcases hst with ⟨dg,b,want,hgd,_⟩ | hs
  ·simp only[guardOf,hg] at hgd
   cases hgd
  ·simp only[Dn.nX,hg] at hs
   cases hs
 | some x=>
  obtain⟨⟨_,h2⟩,_⟩:=hst
  obtain⟨h3,h4,h5,h6⟩:=h2.1 hb
  have hdA:bS ops i=some d:=by unfold bS;rw[hi];exact hd
  obtain⟨_,n3,n4,n5,_⟩:=K.new i d him hdA
  have hat:=wm (S:=S) (outs:=outs) (by rw[K.len,aia,aja K.n_le]) K.dupl (i:=i) (o:=o) (x:=some x) (by rw[cB him];exact hi) hy hd
  rw[← K.sn] at hat
  refine⟨x,hy,h3,h4,h5,h6, ?_, ?_, ?_⟩
  ·rw[hat.2.1,n3];simp[AM,h4]
  ·rw[hat.2.2.1,n4];simp[z8,h5]
  ·rw[hat.2.2.2,n5];simp[DA,h6]
theorem cm.UW (K:cm X ops m S outs Sn) {i d:Nat} {o:Oper} {x:Option Del} (hin:i<m) (hi:ops[i]? =some o) (hd:o.dst=some d) (hx:outs[i]? =some x) (hsz:listed.size=ops.length) (hun:listed.getD i true=false):
 (aT S Sn (aJ ops m (listed.setIfInBounds i true))).tmps=(aT S Sn (aJ ops m listed)).tmps.set d (Ws x):=by
 have hdA:bS ops i=some d:=by unfold bS;rw[hi];exact hd
 have hU:=K.Es hin hdA hsz hun
 have hat:=wm (S:=S) (outs:=outs) (by rw[K.len,aia,aja K.n_le]) K.dupl (i:=i) (o:=o) (x:=x) (by rw[cB hin];exact hi) hx hd
 rw[← K.sn] at hat
 apply ahy
 intro t
 rw[ahT,eU,eU,hU t]
 by_cases e:d=t
 ·subst e
  have hlen:(aT S Sn (aJ ops m listed)).tmps.length=S.tmps.length:=by simp[aT]
  rw[hlen]
  by_cases hlt:d<S.tmps.length
  ·simp only[hlt,ajR,ajC,agF,agI,ajO]
   rw[ahH,hat.1 hlt];rfl
  ·simp[hlt]
 ·rw[ajP e]
  have:(t != d)=true:=by simp only[bne_iff_ne,ne_eq];exact fun h=>e h.symm
  rw[this,agG]
theorem Kj {i:Nat} (hi:m≤i) (t:Nat):aJ ops m (listed.setIfInBounds i true) t=aJ ops m listed t:=by
 rw[agH,dA,dA]
 constructor
 ·rintro⟨j,h1,h2,h3⟩;rw[bn (by omega)] at h2;exact⟨j,h1,h2,h3⟩
 ·rintro⟨j,h1,h2,h3⟩;exact⟨j,h1,by rw[bn (by omega)];exact h2,h3⟩
def tZ {P0:Program} (C:Fr P0) (G:Gh) (ρ:Env) (ops:List Oper) (m:Nat) (S Sn S':St) (listed:Array Bool) (w:World) (a:Act):Prop:=
 if listed.getD m true=true then Mod C G ρ (S'.wt (aT S Sn (aJ ops m listed)).tmps) w a else Mod C G ρ (aT S Sn (aJ ops m listed)) w a
theorem cm.late (K:cm X ops m S outs Sn) (hm:m<ops.length) (hwaits:∀ k,m+1≤k→k<ops.length→∀ j,j<k→j∈(deps ops).getD k m0) (hos:ops[m]? =some os) (hog:os.guard=none)
 (hblind:∀ i,i<m→i∈(deps ops).getD m m0∨∃ p,ops[i]? =some p∧zR p.op=true∧p.guard=none)
 (hlk:∀ t,t∈os.looksAt ops.toArray→∀ j,j<m→bS ops j=some t→j∈(deps ops).getD m m0)
 (hS':S'.tmps=Sn.tmps∧∀ tm,(∀ x,x∈os.op.operands→(Sn.wt tm).ev x=Sn.ev x)→fU X.P os (Sn.wt tm) (S'.wt tm))
 {Q:Exit→Act→World→Prop} (hseq:Region.seqB .any ops.toArray (ops.length - (m+1)) (m+1) (mask (m+1) ops.length)=true)
 (htail:∀ G ρ w a,Mod C G ρ S' w a→wpList X.P ops.toArray Q (ops.drop (m+1)) a w):∀ (u:Nat) (listed:Array Bool) (a:Act) (w:World) (G:Gh) (ρ:Env),listed.size=ops.length→vh ops listed→
 (∀ k,m+1≤k→k<ops.length→listed.getD k true=false)→(List.range (m+1)).countP (fun i=> !listed.getD i true)=u→tZ C G ρ ops m S Sn S' listed w a→wpAny X.P .any ops.toArray Q (u+(ops.length - (m+1))) listed a w:=by
 intro u
 induction u with
 | zero=>
  intro listed a w G ρ hsz hcl htl hcnt hM
  have hall:∀ i,i<m+1→listed.getD i true=true:=fun i hi=>by
   rw[ahn] at hcnt
   have:=hcnt i (by simpa using hi)
   simpa using this
  have hU:∀ t,aJ ops m listed t=false:=fun t=>by
   cases hu:aJ ops m listed t with
   | false=>rfl
   | true=>obtain⟨j,h1,h2,_⟩:=dA.1 hu;rw[hall j (by omega)] at h2;cases h2
  have hMn:Mod C G ρ S' w a:=by
   unfold tZ at hM
   rw[ajQ (hall m (by omega))] at hM
   refine hM.equiv ?_ (fun k cs hk=>hk) (fun k q hk=>hk) (fun k q hk=>hk)
   show (aT S Sn (aJ ops m listed)).tmps=S'.tmps
   rw[hS'.1]
   apply ahy
   intro t
   rw[eU,hU t]
   by_cases hlt:t<S.tmps.length
   ·have:t<Sn.tmps.length:=by rw[K.yh];exact hlt
    simp[hlt,this]
   ·rw[ajP hlt,ahP (by rw[K.yh];omega)]
  have hmask:=Nr (n:=m+1) hsz (by omega) hall htl
  have hl:(ops.drop (m+1)).length=ops.length - (m+1):=by simp
  have:=wpAny_of_seq (P:=X.P) (md:= .any) (ops:=ops.toArray) (Q':=Q) (ops.drop (m+1)) (m+1) listed a w (fun j=>by simp[ahN]) (by rw[hl,hmask];exact hseq) (htail G ρ w a hMn)
  rw[hl] at this
  rw[ajn]
  exact this
 | succ u ih=>
  intro listed a w G ρ hsz hcl htl hcnt hM
  have hsome:∃ i,i<m+1∧listed.getD i true=false:=by
   have:0<(List.range (m+1)).countP (fun i=> !listed.getD i true):=by omega
   rw[aho] at this
   obtain⟨i,h1,h2⟩:=this
   exact⟨i,by simpa using h1,by simpa using h2⟩
  rw[show u+1+(ops.length - (m+1))=(u+(ops.length - (m+1)))+1 by omega]
  refine⟨fun hr=> ?_,fun i hi=> ?_⟩
  ·exfalso
   have hall:∀ i,i<m+1→listed.getD i true=true:=by
    intro i
    induction i using Nat.strongRecOn with
    | _ i ihi=>
     intro hin
     cases hl:listed.getD i true with
     | true=>rfl
     | false=>
      exfalso
      have hlt:i<ops.length:=by omega
      have hoi:ops[i]? =some ops[i]:=ahO hlt
      have:i∈Region.ready .any ops.toArray listed:=by
       rw[mem_ready]
       refine⟨hl,ops[i],by simp,fun e he hb=> ?_⟩
       have hE:=K.edges
       simp only[mg,ahg] at hE
       have h7:=hE i (by simp;exact hlt)
       rw[hoi] at h7
       simp only[ahg] at h7
       have h8:=h7 e (by simpa using he)
       simp only[hb,agP,agK] at h8
       have h9:e.on<i:=ai3 (ai7 _) (aiY h8)
       have h10:=ihi e.on h9 (by omega)
       rw[agm] at h10 ⊢
       rw[agn (by omega)] at h10 ⊢
       simpa using h10
      rw[hr] at this
      cases this
   obtain⟨i,h1,h2⟩:=hsome
   rw[hall i h1] at h2;cases h2
  ·rw[mem_ready] at hi
   obtain⟨hun,o,hio,hed⟩:=hi
   have hoi:ops[i]? =some o:=by simpa using hio
   have hed':∀ e,e∈o.after.toList→Region.binds .any e=true→listed.getD e.on false=true:=fun e he hb=>hed e (by simpa using he) hb
   have hlt:i<ops.length:=(ahQ.1 hoi).1
   by_cases hin:i<m+1
   ·-- what the next round asks for
    have cl':vh ops (listed.setIfInBounds i true):=by
     intro j oj hj hlj e he hb
     by_cases eji:j=i
     ·subst eji
      rw[hoi] at hj
      cases hj
      have:=hed' e he hb
      by_cases e2:e.on=j
      ·rw[e2];exact cg (by omega)
      ·rw[bn e2];exact this
     ·rw[bn eji] at hlj
      have:=hcl j oj hj hlj e he hb
      by_cases e2:e.on=i
      ·rw[e2];exact cg (by omega)
      ·rw[bn e2];exact this
    have tl':∀ k,m+1≤k→k<ops.length→(listed.setIfInBounds i true).getD k true=false:=fun k hk1 hk2=>by
     rw[bn (by omega)];exact htl k hk1 hk2
    have cnt':(List.range (m+1)).countP (fun j=> !(listed.setIfInBounds i true).getD j true)=u:=by
     have:=Aq (p:=fun j=> !listed.getD j true) (q:=fun j=> !(listed.setIfInBounds i true).getD j true) (i:=i) (l:=List.range (m+1)) aiy (by simpa using hin) (by simp[hun]) (fun j=>by
      by_cases e:j=i
      ·subst e;simp only[cg (listed:=listed) (b:=true) (by omega:j<listed.size)];simp
      ·simp only[bn (listed:=listed) (b:=true) e];simp[e])
     omega
    have go:∀ G' ρ' w' a',tZ C G' ρ' ops m S Sn S' (listed.setIfInBounds i true) w' a'→wpAny X.P .any ops.toArray Q (u+(ops.length - (m+1))) (listed.setIfInBounds i true) a' w':=
     fun G' ρ' w' a' hM'=>ih (listed.setIfInBounds i true) a' w' G' ρ' (by simpa using hsz) cl' tl' cnt' hM'
    by_cases him:i<m
    ·have hmi:(listed.setIfInBounds i true).getD m true=listed.getD m true:=bn (by omega)
     cases hlm:listed.getD m true with
     | false=>
      unfold tZ at hM
      rw[hlm,ajP (by simp)] at hM
      refine K.wpOp him hoi hsz hcl hun hed' hM (fun G' ρ' w' a' hM'=>go G' ρ' w' a' ?_)
      unfold tZ
      rw[hmi,hlm,ajP (by simp)]
      exact hM'
     | true=>
      unfold tZ at hM
      rw[hlm,ajQ rfl] at hM
      have hnd:i∉(deps ops).getD m m0:=fun hmem=>by
       have:=eC K.edges hcl m os hos (fun e h1 h2=>hcl m os hos hlm e h1 h2) i hmem
       rw[hun] at this;cases this
      obtain⟨p,hp,hb,hg⟩:=(hblind i him).resolve_left hnd
      rw[hoi] at hp
      cases hp
      obtain⟨hds,_⟩:=K.head i o him hoi
      obtain⟨d,hd⟩:=ajt.1 hds
      obtain⟨x,hx,hL,hx1,hx2,hx3,_⟩:=K.Z5 him hoi hb hg hd
      have hdeps:=eC K.edges hcl i o hoi hed'
      have hev:=K.evs him hoi hdeps
      unfold Go.wpOp
      rw[hio]
      simp only
      have hwt:Region.wanted o (yielded ops.toArray a.tmps)=true:=jh (g:=none) hM.tmps (by simp[guardOf,hg])
      rw[ajQ hwt]
      left
      have hnear:Lg o (states ((ops.take m).take i) S (outs.take i)) mG (S'.wt (aT S Sn (aJ ops m listed)).tmps):=
       ⟨fun y hy=>by
         rw[← hev y hy]
         cases y<;>rfl,fun k cs hk=>(by cases hk),fun k cs hk=>(by cases hk),fun k cs hk=>(by cases hk)⟩
      have hwp:=hL C G ρ _ w a Q hM hnear (fun d' _ h=>by rw[hx1] at h;cases h) (fun d' _ h=>by rw[hx2] at h;cases h) (fun d' _ h=>by rw[hx3] at h;cases h)
      refine Oper.wp_mono (fun a' w' h=> ?_) hwp
      obtain⟨G',ρ',hM'⟩:=h
      refine go G' ρ' w' a' ?_
      unfold tZ
      rw[hmi,hlm,ajQ rfl,K.UW him hoi hd hx hsz hun]
      have e:x=⟨x.sv,none,none,none⟩:=by cases x;simp only at hx1 hx2 hx3;subst hx1;subst hx2;subst hx3;rfl
      rw[hd,e] at hM'
      exact hM'
    ·have eim:i=m:=by omega
     subst eim
     rw[hos] at hoi
     cases hoi
     have hdeps:=eC K.edges hcl i os hos hed'
     unfold tZ at hM
     rw[hun,ajP (by simp)] at hM
     have hunb:∀ t,aJ ops i listed t=true→look Sn.boxes t=none∧look Sn.rows t=none∧look Sn.objs t=none:=fun t hu=>by
      obtain⟨j,h1,h2,h3⟩:=dA.1 hu
      obtain⟨oj,h4,h5⟩:=jR h3
      have hnd:j∉(deps ops).getD i m0:=fun hmem=>by
       have:=hdeps j hmem
       rw[h2] at this;cases this
      obtain⟨p,hp,hb,hg⟩:=(hblind j h1).resolve_left hnd
      rw[h4] at hp
      cases hp
      obtain⟨x,_,_,_,_,_,h6⟩:=K.Z5 h1 h4 hb hg h5
      exact h6
     have hM2:Mod C G ρ (Sn.wt (aT S Sn (aJ ops i listed)).tmps) w a:=by
      refine hM.equiv rfl (fun k cs hk=> ?_) (fun k q hk=> ?_) (fun k q hk=> ?_)
      ·simp only[aT,bF]
       cases hu:aJ ops i listed k with
       | true=>rw[show look (Sn.wt (aT S Sn (aJ ops i listed)).tmps).boxes k=look Sn.boxes k from rfl,(hunb k hu).1] at hk;cases hk
       | false=>exact hk
      ·simp only[aT,bF]
       cases hu:aJ ops i listed k with
       | true=>rw[show look (Sn.wt (aT S Sn (aJ ops i listed)).tmps).rows k=look Sn.rows k from rfl,(hunb k hu).2.1] at hk;cases hk
       | false=>exact hk
      ·simp only[aT,bF]
       cases hu:aJ ops i listed k with
       | true=>rw[show look (Sn.wt (aT S Sn (aJ ops i listed)).tmps).objs k=look Sn.objs k from rfl,(hunb k hu).2.2] at hk;cases hk
       | false=>exact hk
     have hev:∀ x,x∈os.op.operands→(Sn.wt (aT S Sn (aJ ops i listed)).tmps).ev x=Sn.ev x:=fun x hx=>by
      cases x with
      | tmp t=>
       show (aT S Sn (aJ ops i listed)).tmps.getD t (.v false [.any])=Sn.tmps.getD t (.v false [.any])
       have hu:aJ ops i listed t=false:=by
        cases hu:aJ ops i listed t with
        | false=>rfl
        | true=>
         obtain⟨j,h1,h2,h3⟩:=dA.1 hu
         have:=hdeps j (hlk t (by
          simp only[Oper.looksAt,aii,aim]
          exact .inl ⟨.tmp t,by simpa using hx,rfl⟩) j h1 h3)
         rw[h2] at this;cases this
       rw[ahH,eU]
       by_cases hlt:t<S.tmps.length
       ·simp[hlt,hu]
       ·rw[ajP hlt]
        have:Sn.tmps[t]? =none:=ahP (by rw[K.yh];exact Nat.le_of_not_lt hlt)
        rw[ahH,this]
      | const v=>rfl
      | global g=>rfl
      | func f=>rfl
     unfold Go.wpOp
     rw[hio]
     simp only
     have hwt:Region.wanted os (yielded ops.toArray a.tmps)=true:=jh (g:=none) hM2.tmps (by simp[guardOf,hog])
     rw[ajQ hwt]
     left
     have hwp:=hS'.2 _ hev C G ρ w a Q hM2
     refine Oper.wp_mono (fun a' w' h=> ?_) hwp
     obtain⟨G',ρ',hM'⟩:=h
     refine go G' ρ' w' a' ?_
     unfold tZ
     rw[ajQ (cg (by omega))]
     have e:aJ ops i (listed.setIfInBounds i true)=aJ ops i listed:=funext (Kj (ai0 i))
     rw[e]
     exact hM'
   ·exfalso
    obtain⟨j,h1,h2⟩:=hsome
    have hd:=hwaits i (by omega) hlt j (by omega)
    have:=eC K.edges hcl i o hoi hed' j hd
    rw[h2] at this;cases this
end
end Go.Dn
namespace Go.Dn
variable {β:Type} {X:Cx} {C:Fr X.P} {G:Gh} {ρ:Env} {w:World}
theorem adl {o:Oper} {S:St} {k:St→Option β} {r:β} {t:TypeId} {ad x:Operand} {b off:Nat} (ho:o.op= .store t ad x) (hr:S.ev ad= .v false [.ref b off]) (h:cV X o S k=some r):
 ∃ S',k S'=some r∧S'.tmps=S.tmps∧S'.rows=S.rows∧S'.objs=S.objs∧
  ∀ tm rw ob,(⟨tm,S.boxes,rw,ob⟩:St).ev ad=S.ev ad→(⟨tm,S.boxes,rw,ob⟩:St).ev x=S.ev x→cV X o ⟨tm,S.boxes,rw,ob⟩ some=some ⟨tm,S'.boxes,rw,ob⟩:=by
 obtain⟨dst,op,ty,pos,af,g⟩:=o
 simp only at ho
 subst ho
 simp only[cV,hr] at h
 split at h
 ·cases h
 ·rename_i hdst
  split at h
  ·rename_i b' off' a' cs ha hx
   cases ha
   unfold wo at h
   split at h
   ·rename_i l hl
    split at h
    ·rename_i hc
     split at h
     ·rename_i l' hl'
      refine⟨_,h,rfl,rfl,rfl,fun tm rw ob e1 e2=> ?_⟩
      simp only[cV]
      rw[ajP hdst,e1,e2,hr,hx]
      simp only
      unfold wo
      rw[show look (⟨tm,S.boxes,rw,ob⟩:St).boxes b=look S.boxes b from rfl,hl]
      simp only
      rw[ajQ hc,hl']
     ·cases h
    ·cases h
   ·cases h
  ·rename_i ha hx;cases ha
  ·rename_i ha hx;cases ha
  ·cases h
section
variable {ops:List Oper} {m:Nat} {S Sn S':St} {listed:Array Bool} {outs:List (Option Del)} {os:Oper}
theorem cm.XN (K:cm X ops m S outs Sn) {i d:Nat} {o:Oper} (him:i<m) (hi:ops[i]? =some o) (hb:(zR o.op||vr o.op)=true) (hg:o.guard=none) (hd:o.dst=some d):
 ∃ x:Del,outs[i]? =some (some x)∧dn X.P o (states ((ops.take m).take i) S (outs.take i)) mG x∧x.box=none∧x.obj=none∧(x.row.isSome=true→vr o.op=true)∧
  look Sn.boxes d=none∧look Sn.rows d=x.row∧look Sn.objs d=none:=by
 obtain⟨y,hy⟩:∃ y,outs[i]? =some y:=⟨outs[i]'(by rw[K.len];exact him),ahO _⟩
 have hst:=K.step i o y him hi hy
 cases y with
 | none=>
  rcases hst with ⟨dg,b,want,hgd,_⟩ | hs
  ·simp only[guardOf,hg] at hgd
   cases hgd
  ·simp only[Dn.nX,hg] at hs
   cases hs
 | some x=>
  obtain⟨⟨_,h2⟩,_⟩:=hst
  have h3:dn X.P o (states ((ops.take m).take i) S (outs.take i)) mG x∧x.box=none∧x.obj=none∧(x.row.isSome=true→vr o.op=true):=by
   cases hk:vr o.op with
   | true=>exact⟨(h2.make hk).1,(h2.make hk).2.1,(h2.make hk).2.2,fun _=>rfl⟩
   | false=>
    rw[hk,agS] at hb
    obtain⟨g1,g2,g3,g4⟩:=h2.blind hb
    exact⟨g1,g2,g4,fun h=>by rw[g3] at h;cases h⟩
  obtain⟨h3,h4,h6,h7⟩:=h3
  have hdA:bS ops i=some d:=by unfold bS;rw[hi];exact hd
  obtain⟨_,n3,n4,n5,_⟩:=K.new i d him hdA
  have hat:=wm (S:=S) (outs:=outs) (by rw[K.len,aia,aja K.n_le]) K.dupl (i:=i) (o:=o) (x:=some x) (by rw[cB him];exact hi) hy hd
  rw[← K.sn] at hat
  refine⟨x,hy,h3,h4,h6,h7, ?_, ?_, ?_⟩
  ·rw[hat.2.1,n3];simp[AM,h4]
  ·rw[hat.2.2.1,n4];simp[z8]
  ·rw[hat.2.2.2,n5];simp[DA,h6]
def mkM (R S':St):St:=⟨R.tmps,S'.boxes,R.rows,R.objs⟩
def p9 {P0:Program} (C:Fr P0) (G:Gh) (ρ:Env) (ops:List Oper) (m:Nat) (S Sn S':St) (listed:Array Bool) (w:World) (a:Act):Prop:=
 if listed.getD m true=true then Mod C G ρ (mkM (aT S Sn (aJ ops m listed)) S') w a else Mod C G ρ (aT S Sn (aJ ops m listed)) w a
theorem cm.afU (K:cm X ops m S outs Sn) (hm:m<ops.length) (hwaits:∀ k,m+1≤k→k<ops.length→∀ j,j<k→j∈(deps ops).getD k m0) (hos:ops[m]? =some os) (hog:os.guard=none)
 (hblind:∀ i,i<m→i∈(deps ops).getD m m0∨∃ p,ops[i]? =some p∧(zR p.op||vr p.op)=true∧p.guard=none)
 (hlk:∀ t,t∈os.looksAt ops.toArray→∀ j,j<m→bS ops j=some t→j∈(deps ops).getD m m0)
 (hS':S'.tmps=Sn.tmps∧S'.rows=Sn.rows∧S'.objs=Sn.objs∧∀ tm rw ob,(∀ x,x∈os.op.operands→(⟨tm,Sn.boxes,rw,ob⟩:St).ev x=Sn.ev x)→fU X.P os ⟨tm,Sn.boxes,rw,ob⟩ ⟨tm,S'.boxes,rw,ob⟩)
 (hfr:∀ i d p,i<m→i∉(deps ops).getD m m0→ops[i]? =some p→vr p.op=true→p.dst=some d→(S'.boxes.any fun q=>q.2.any (CV.bq d))=false)
 {Q:Exit→Act→World→Prop} (hseq:Region.seqB .any ops.toArray (ops.length - (m+1)) (m+1) (mask (m+1) ops.length)=true)
 (htail:∀ G ρ w a,Mod C G ρ S' w a→wpList X.P ops.toArray Q (ops.drop (m+1)) a w):∀ (u:Nat) (listed:Array Bool) (a:Act) (w:World) (G:Gh) (ρ:Env),listed.size=ops.length→vh ops listed→
 (∀ k,m+1≤k→k<ops.length→listed.getD k true=false)→(List.range (m+1)).countP (fun i=> !listed.getD i true)=u→p9 C G ρ ops m S Sn S' listed w a→wpAny X.P .any ops.toArray Q (u+(ops.length - (m+1))) listed a w:=by
 intro u
 induction u with
 | zero=>
  intro listed a w G ρ hsz hcl htl hcnt hM
  have hall:∀ i,i<m+1→listed.getD i true=true:=fun i hi=>by
   rw[ahn] at hcnt
   have:=hcnt i (by simpa using hi)
   simpa using this
  have hU:∀ t,aJ ops m listed t=false:=fun t=>by
   cases hu:aJ ops m listed t with
   | false=>rfl
   | true=>obtain⟨j,h1,h2,_⟩:=dA.1 hu;rw[hall j (by omega)] at h2;cases h2
  have hMn:Mod C G ρ S' w a:=by
   unfold p9 at hM
   rw[ajQ (hall m (by omega))] at hM
   refine hM.equiv ?_ (fun k cs hk=>hk) (fun k q hk=> ?_) (fun k q hk=> ?_)
   ·show (aT S Sn (aJ ops m listed)).tmps=S'.tmps
    rw[hS'.1]
    apply ahy
    intro t
    rw[eU,hU t]
    by_cases hlt:t<S.tmps.length
    ·have:t<Sn.tmps.length:=by rw[K.yh];exact hlt
     simp[hlt,this]
    ·rw[ajP hlt,ahP (by rw[K.yh];omega)]
   ·show look (aT S Sn (aJ ops m listed)).rows k=some q
    rw[hS'.2.1] at hk
    simp only[aT,bF,hU k]
    simpa using hk
   ·show look (aT S Sn (aJ ops m listed)).objs k=some q
    rw[hS'.2.2.1] at hk
    simp only[aT,bF,hU k]
    simpa using hk
  have hmask:=Nr (n:=m+1) hsz (by omega) hall htl
  have hl:(ops.drop (m+1)).length=ops.length - (m+1):=by simp
  have:=wpAny_of_seq (P:=X.P) (md:= .any) (ops:=ops.toArray) (Q':=Q) (ops.drop (m+1)) (m+1) listed a w (fun j=>by simp[ahN]) (by rw[hl,hmask];exact hseq) (htail G ρ w a hMn)
  rw[hl] at this
  rw[ajn]
  exact this
 | succ u ih=>
  intro listed a w G ρ hsz hcl htl hcnt hM
  have hsome:∃ i,i<m+1∧listed.getD i true=false:=by
   have:0<(List.range (m+1)).countP (fun i=> !listed.getD i true):=by omega
   rw[aho] at this
   obtain⟨i,h1,h2⟩:=this
   exact⟨i,by simpa using h1,by simpa using h2⟩
  rw[show u+1+(ops.length - (m+1))=(u+(ops.length - (m+1)))+1 by omega]
  refine⟨fun hr=> ?_,fun i hi=> ?_⟩
  ·exfalso
   have hall:∀ i,i<m+1→listed.getD i true=true:=by
    intro i
    induction i using Nat.strongRecOn with
    | _ i ihi=>
     intro hin
     cases hl:listed.getD i true with
     | true=>rfl
     | false=>
      exfalso
      have hlt:i<ops.length:=by omega
      have hoi:ops[i]? =some ops[i]:=ahO hlt
      have:i∈Region.ready .any ops.toArray listed:=by
       rw[mem_ready]
       refine⟨hl,ops[i],by simp,fun e he hb=> ?_⟩
       have hE:=K.edges
       simp only[mg,ahg] at hE
       have h7:=hE i (by simp;exact hlt)
       rw[hoi] at h7
       simp only[ahg] at h7
       have h8:=h7 e (by simpa using he)
       simp only[hb,agP,agK] at h8
       have h9:e.on<i:=ai3 (ai7 _) (aiY h8)
       have h10:=ihi e.on h9 (by omega)
       rw[agm] at h10 ⊢
       rw[agn (by omega)] at h10 ⊢
       simpa using h10
      rw[hr] at this
      cases this
   obtain⟨i,h1,h2⟩:=hsome
   rw[hall i h1] at h2;cases h2
  ·rw[mem_ready] at hi
   obtain⟨hun,o,hio,hed⟩:=hi
   have hoi:ops[i]? =some o:=by simpa using hio
   have hed':∀ e,e∈o.after.toList→Region.binds .any e=true→listed.getD e.on false=true:=fun e he hb=>hed e (by simpa using he) hb
   have hlt:i<ops.length:=(ahQ.1 hoi).1
   by_cases hin:i<m+1
   ·have cl':vh ops (listed.setIfInBounds i true):=by
     intro j oj hj hlj e he hb
     by_cases eji:j=i
     ·subst eji
      rw[hoi] at hj
      cases hj
      have:=hed' e he hb
      by_cases e2:e.on=j
      ·rw[e2];exact cg (by omega)
      ·rw[bn e2];exact this
     ·rw[bn eji] at hlj
      have:=hcl j oj hj hlj e he hb
      by_cases e2:e.on=i
      ·rw[e2];exact cg (by omega)
      ·rw[bn e2];exact this
    have tl':∀ k,m+1≤k→k<ops.length→(listed.setIfInBounds i true).getD k true=false:=fun k hk1 hk2=>by
     rw[bn (by omega)];exact htl k hk1 hk2
    have cnt':(List.range (m+1)).countP (fun j=> !(listed.setIfInBounds i true).getD j true)=u:=by
     have:=Aq (p:=fun j=> !listed.getD j true) (q:=fun j=> !(listed.setIfInBounds i true).getD j true) (i:=i) (l:=List.range (m+1)) aiy (by simpa using hin) (by simp[hun]) (fun j=>by
      by_cases e:j=i
      ·subst e;simp only[cg (listed:=listed) (b:=true) (by omega:j<listed.size)];simp
      ·simp only[bn (listed:=listed) (b:=true) e];simp[e])
     omega
    have go:∀ G' ρ' w' a',p9 C G' ρ' ops m S Sn S' (listed.setIfInBounds i true) w' a'→wpAny X.P .any ops.toArray Q (u+(ops.length - (m+1))) (listed.setIfInBounds i true) a' w':=
     fun G' ρ' w' a' hM'=>ih (listed.setIfInBounds i true) a' w' G' ρ' (by simpa using hsz) cl' tl' cnt' hM'
    by_cases him:i<m
    ·have hmi:(listed.setIfInBounds i true).getD m true=listed.getD m true:=bn (by omega)
     cases hlm:listed.getD m true with
     | false=>
      unfold p9 at hM
      rw[hlm,ajP (by simp)] at hM
      refine K.wpOp him hoi hsz hcl hun hed' hM (fun G' ρ' w' a' hM'=>go G' ρ' w' a' ?_)
      unfold p9
      rw[hmi,hlm,ajP (by simp)]
      exact hM'
     | true=>
      unfold p9 at hM
      rw[hlm,ajQ rfl] at hM
      have hnd:i∉(deps ops).getD m m0:=fun hmem=>by
       have:=eC K.edges hcl m os hos (fun e h1 h2=>hcl m os hos hlm e h1 h2) i hmem
       rw[hun] at this;cases this
      obtain⟨p,hp,hb,hg⟩:=(hblind i him).resolve_left hnd
      rw[hoi] at hp
      cases hp
      obtain⟨hds,_⟩:=K.head i o him hoi
      obtain⟨d,hd⟩:=ajt.1 hds
      obtain⟨x,hx,hL,hx1,hx3,hx2,hy1,hy2,hy3⟩:=K.XN him hoi hb hg hd
      have hdA:bS ops i=some d:=by unfold bS;rw[hoi];exact hd
      have hdeps:=eC K.edges hcl i o hoi hed'
      have hev:=K.evs him hoi hdeps
      have hfresh:=K.fresh hcl him hdA hun
      have hU:=K.Es him hdA hsz hun
      unfold Go.wpOp
      rw[hio]
      simp only
      have hwt:Region.wanted o (yielded ops.toArray a.tmps)=true:=jh (g:=none) hM.tmps (by simp[guardOf,hg])
      rw[ajQ hwt]
      left
      have hnear:Lg o (states ((ops.take m).take i) S (outs.take i)) mG (mkM (aT S Sn (aJ ops m listed)) S'):=
       ⟨fun y hy=>by
         rw[← hev y hy]
         cases y<;>rfl,fun k cs hk=>(by cases hk),fun k cs hk=>(by cases hk),fun k cs hk=>(by cases hk)⟩
      have hwp:=hL C G ρ _ w a Q hM hnear (fun d' _ h=>by rw[hx1] at h;cases h) (fun d' hd' h=>by
       rw[hd] at hd';cases hd'
       have h1:=(EU hfresh).2.1
       simp only[St.bq,agQ] at h1 ⊢
       exact⟨h1.1,hfr i d o him hnd hoi (hx2 h) hd⟩) (fun d' _ h=>by rw[hx3] at h;cases h)
      refine Oper.wp_mono (fun a' w' h=> ?_) hwp
      obtain⟨G',ρ',hM'⟩:=h
      refine go G' ρ' w' a' ?_
      unfold p9
      rw[hmi,hlm,ajQ rfl]
      have e:x=⟨x.sv,none,x.row,none⟩:=by cases x;simp only at hx1 hx3;subst hx1;subst hx3;rfl
      rw[hd,e] at hM'
      refine hM'.equiv ?_ (fun k cs hk=>hk) (fun k q hk=> ?_) (fun k q hk=> ?_)
      ·show (aT S Sn (aJ ops m listed)).tmps.set d x.sv=(aT S Sn (aJ ops m (listed.setIfInBounds i true))).tmps
       rw[K.UW him hoi hd hx hsz hun];rfl
      ·replace hk:look (aT S Sn (aJ ops m (listed.setIfInBounds i true))).rows k=some q:=hk
       simp only[aT,bF,hU k] at hk
       show look (match x.row with | some r=>(d,r)::(aT S Sn (aJ ops m listed)).rows | none=>(aT S Sn (aJ ops m listed)).rows) k=some q
       by_cases ek:k=d
       ·subst ek
        simp only[ajC,agF,agI,ajO] at hk
        rw[hy2] at hk
        rw[hk]
        simp only[aD,ajR]
       ·have hbne:(k != d)=true:=by simpa using ek
        rw[hbne,agG] at hk
        have h2:look (aT S Sn (aJ ops m listed)).rows k=some q:=by
         simp only[aT,bF];exact hk
        cases x.row with
        | none=>exact h2
        | some r=>
         simp only[aD]
         rw[ajP (fun e=>ek e.symm)];exact h2
      ·replace hk:look (aT S Sn (aJ ops m (listed.setIfInBounds i true))).objs k=some q:=hk
       simp only[aT,bF,hU k] at hk
       show look (aT S Sn (aJ ops m listed)).objs k=some q
       simp only[aT,bF]
       by_cases ek:k=d
       ·subst ek
        simp only[ajC,agF,agI,ajO] at hk
        rw[hy3] at hk;cases hk
       ·have hbne:(k != d)=true:=by simpa using ek
        rw[hbne,agG] at hk
        exact hk
    ·have eim:i=m:=by omega
     subst eim
     rw[hos] at hoi
     cases hoi
     have hdeps:=eC K.edges hcl i os hos hed'
     unfold p9 at hM
     rw[hun,ajP (by simp)] at hM
     have hunb:∀ t,aJ ops i listed t=true→look Sn.boxes t=none:=fun t hu=>by
      obtain⟨j,h1,h2,h3⟩:=dA.1 hu
      obtain⟨oj,h4,h5⟩:=jR h3
      have hnd:j∉(deps ops).getD i m0:=fun hmem=>by
       have:=hdeps j hmem
       rw[h2] at this;cases this
      obtain⟨p,hp,hb,hg⟩:=(hblind j h1).resolve_left hnd
      rw[h4] at hp
      cases hp
      obtain⟨x,_,_,_,_,_,h6,_⟩:=K.XN h1 h4 hb hg h5
      exact h6
     have hM2:Mod C G ρ ⟨(aT S Sn (aJ ops i listed)).tmps,Sn.boxes,(aT S Sn (aJ ops i listed)).rows,(aT S Sn (aJ ops i listed)).objs⟩ w a:=by
      refine hM.equiv rfl (fun k cs hk=> ?_) (fun k q hk=>hk) (fun k q hk=>hk)
      simp only[aT,bF]
      cases hu:aJ ops i listed k with
      | true=>rw[show look (⟨(aT S Sn (aJ ops i listed)).tmps,Sn.boxes,(aT S Sn (aJ ops i listed)).rows,(aT S Sn (aJ ops i listed)).objs⟩:St).boxes k=look Sn.boxes k from rfl,hunb k hu] at hk;cases hk
      | false=>exact hk
     have hev:∀ x,x∈os.op.operands→(⟨(aT S Sn (aJ ops i listed)).tmps,Sn.boxes,(aT S Sn (aJ ops i listed)).rows,(aT S Sn (aJ ops i listed)).objs⟩:St).ev x=Sn.ev x:=fun x hx=>by
      cases x with
      | tmp t=>
       show (aT S Sn (aJ ops i listed)).tmps.getD t (.v false [.any])=Sn.tmps.getD t (.v false [.any])
       have hu:aJ ops i listed t=false:=by
        cases hu:aJ ops i listed t with
        | false=>rfl
        | true=>
         obtain⟨j,h1,h2,h3⟩:=dA.1 hu
         have:=hdeps j (hlk t (by
          simp only[Oper.looksAt,aii,aim]
          exact .inl ⟨.tmp t,by simpa using hx,rfl⟩) j h1 h3)
         rw[h2] at this;cases this
       rw[ahH,eU]
       by_cases hlt:t<S.tmps.length
       ·simp[hlt,hu]
       ·rw[ajP hlt]
        have:Sn.tmps[t]? =none:=ahP (by rw[K.yh];exact Nat.le_of_not_lt hlt)
        rw[ahH,this]
      | const v=>rfl
      | global g=>rfl
      | func f=>rfl
     unfold Go.wpOp
     rw[hio]
     simp only
     have hwt:Region.wanted os (yielded ops.toArray a.tmps)=true:=jh (g:=none) hM2.tmps (by simp[guardOf,hog])
     rw[ajQ hwt]
     left
     have hwp:=hS'.2.2.2 _ _ _ hev C G ρ w a Q hM2
     refine Oper.wp_mono (fun a' w' h=> ?_) hwp
     obtain⟨G',ρ',hM'⟩:=h
     refine go G' ρ' w' a' ?_
     unfold p9
     rw[ajQ (cg (by omega))]
     have e:aJ ops i (listed.setIfInBounds i true)=aJ ops i listed:=funext (Kj (ai0 i))
     rw[e]
     exact hM'
   ·exfalso
    obtain⟨j,h1,h2⟩:=hsome
    have hd:=hwaits i (by omega) hlt j (by omega)
    have:=eC K.edges hcl i o hoi hed' j hd
    rw[h2] at this;cases this
end
end Go.Dn
namespace Go.Dn
variable {β:Type} {X:Cx} {C:Fr X.P} {G:Gh} {ρ:Env} {w:World}
theorem dn.more {P:Program} {o:Oper} {S M N:St} {x:Del} (h:dn P o S M x) (hb:∀ k cs,look M.boxes k=some cs→look N.boxes k=some cs) (hr:∀ k q,look M.rows k=some q→look N.rows k=some q) (ho:∀ k q,look M.objs k=some q→look N.objs k=some q):dn P o S N x:=
 fun C G ρ S1 w a Q hM hN h1 h2 h3=>h C G ρ S1 w a Q hM ⟨hN.ops,fun k cs hk=>hN.boxes k cs (hb k cs hk),fun k cs hk=>hN.rows k cs (hr k cs hk),fun k cs hk=>hN.objs k cs (ho k cs hk)⟩ h1 h2 h3
theorem CU (t:Touch) (M:St):(∀ k cs,look (dB t M).boxes k=some cs→nP t k=true∧look M.boxes k=some cs)∧(∀ k q,look (dB t M).rows k=some q→t.rt=false∧look M.rows k=some q)∧(∀ k q,look (dB t M).objs k=some q→t.rt=false∧look M.objs k=some q):=by
 refine⟨fun k cs hk=> ?_,fun k q hk=> ?_,fun k q hk=> ?_⟩
 ·simp only[dB] at hk
  rw[qW (fun i=>nP t i)] at hk
  split at hk
  ·rename_i h;exact⟨h,hk⟩
  ·cases hk
 ·simp only[dB] at hk
  cases ht:t.rt with
  | true=>rw[ht] at hk;cases hk
  | false=>rw[ht] at hk;exact⟨rfl,hk⟩
 ·simp only[dB] at hk
  cases ht:t.rt with
  | true=>rw[ht] at hk;cases hk
  | false=>rw[ht] at hk;exact⟨rfl,hk⟩
theorem dn.Z9 {P:Program} {o:Oper} {S M:St} {x:Del} {t:Touch} (h:dn P o S (dB t M) x):dn P o S M x:=
 h.more (fun k cs hk=>((CU t M).1 k cs hk).2) (fun k q hk=>((CU t M).2.1 k q hk).2) (fun k q hk=>((CU t M).2.2 k q hk).2)
theorem DE {x:Del} (h:pE x=true):x.box=none∧x.row=none∧x.obj=none:=by
 simpa [pE] using h
theorem Cb (hX:cC X) {ops:List Oper} {M:St} {tf:Nat→Touch} {dm:Msk}:∀ {l:List Oper} {c:Nat} {S:St} {k:St→Option β} {r:β},jA X ops M (fun i=>dB (tf i) M) dm c l S k=some r→
 ∃ outs:List (Option Del),outs.length=l.length∧k (states l S outs)=some r∧∀ i o x,l[i]? =some o→outs[i]? =some x→Gg X ops M o (states (l.take i) S (outs.take i)) x∧
  (inM dm (c+i)=false→∀ y,x=some y→dn X.P o (states (l.take i) S (outs.take i)) (dB (tf (c+i)) M) y∧pE y=true)
 | [],c,S,k,r,h=>⟨[],rfl,h,fun i o x hi=>by simp at hi⟩
 | o::l,c,S,k,r,h=>by
  have cons:∀ (x:Option Del),Gg X ops M o S x→(inM dm c=false→∀ y,x=some y→dn X.P o S (dB (tf c) M) y∧pE y=true)→jA X ops M (fun i=>dB (tf i) M) dm (c+1) l (S.out o x) k=some r→
   ∃ outs:List (Option Del),outs.length=(o::l).length∧k (states (o::l) S outs)=some r∧∀ i o' x,(o::l)[i]? =some o'→outs[i]? =some x→Gg X ops M o' (states ((o::l).take i) S (outs.take i)) x∧
    (inM dm (c+i)=false→∀ y,x=some y→dn X.P o' (states ((o::l).take i) S (outs.take i)) (dB (tf (c+i)) M) y∧pE y=true):=by
   intro x hx hx2 hr
   obtain⟨outs,h1,h2,h3⟩:=Cb hX hr
   refine⟨x::outs,by simp[h1],h2,fun i o' y hi hy=> ?_⟩
   cases i with
   | zero=>
    simp only[ahM,Option.some.injEq] at hi hy
    subst hi;subst hy
    exact⟨hx,hx2⟩
   | succ i=>
    simp only[ahL] at hi hy
    have:=h3 i o' y hi hy
    rw[show c+(i+1)=c+1+i by omega]
    exact this
  simp only[jA] at h
  split at h
  ·rename_i hg
   cases hs:nX ops o S with
   | false=>rw[hs] at h;cases h
   | true=>rw[hs] at h;exact cons none (.inr hs) (fun _ y e=>by cases e) h
  ·rename_i hg
   cases hm:inM dm c with
   | true=>
    rw[hm,ajE] at h
    obtain⟨x,h1,h2⟩:=ug hX h
    exact cons (some x) ⟨h2,.inl hg⟩ (fun e=>by rw[hm] at e;cases e) h1
   | false=>
    rw[hm,ajD] at h
    obtain⟨x,h1,h2⟩:=ug hX h
    cases hp:pE x with
    | false=>rw[hp] at h1;cases h1
    | true=>
     rw[hp,ajE] at h1
     exact cons (some x) ⟨⟨h2.1.Z9,h2.2⟩,.inl hg⟩ (fun _ y e=>by cases e;exact⟨h2.1,hp⟩) h1
  ·rename_i d b want hg
   rcases Nl (ab4 (Xn hg)) h with ⟨hb,h⟩ | ⟨hb,h⟩
   ·cases hm:inM dm c with
    | true=>
     rw[hm,ajE] at h
     obtain⟨x,h1,h2⟩:=ug hX h
     exact cons (some x) ⟨h2,.inr ⟨d,b,want,hg,hb⟩⟩ (fun e=>by rw[hm] at e;cases e) h1
    | false=>
     rw[hm,ajD] at h
     obtain⟨x,h1,h2⟩:=ug hX h
     cases hp:pE x with
     | false=>rw[hp] at h1;cases h1
     | true=>
      rw[hp,ajE] at h1
      exact cons (some x) ⟨⟨h2.1.Z9,h2.2⟩,.inr ⟨d,b,want,hg,hb⟩⟩ (fun _ y e=>by cases e;exact⟨h2.1,hp⟩) h1
   ·exact cons none (.inl ⟨d,b,want,hg,hb⟩) (fun _ y e=>by cases e) h
def Rest (t:Touch) (T T':St):Prop:=(t.rt=false→T'.rows=T.rows∧T'.objs=T.objs)∧∀ k,nP t k=true→look T'.boxes k=look T.boxes k
theorem abu {o:Oper} {S S':St} {t:TypeId} {ad x:Operand} {row:Touch} (ho:o.op= .store t ad x) (ha:Ss row (S.ev ad)=true) (h:cV X o S some=some S'):Rest row S S':=by
 obtain⟨dst,op,ty,pos,af,g⟩:=o
 simp only at ho
 subst ho
 simp only[cV] at h
 split at h
 ·cases h
 ·split at h
  ·rename_i b off a' cs ha' hx
   rw[ha'] at ha
   have hrow:nP row b=false:=by simpa [Ss] using ha
   unfold wo at h
   split at h
   ·split at h
    ·split at h
     ·cases h
      refine⟨fun _=>⟨rfl,rfl⟩,fun k hk=> ?_⟩
      simp only[aD]
      rw[ajP]
      intro e
      subst e
      rw[hrow] at hk;cases hk
     ·cases h
    ·cases h
   ·cases h
  ·rename_i j sz i off a' cs ha' hx
   rw[ha'] at ha
   have hrow:row.rt=true:=by simpa [Ss] using ha
   unfold Co at h
   split at h
   ·split at h
    ·cases h
    ·obtain⟨y,_,h⟩:=bind_some h
     split at h
     ·split at h
      ·cases h;exact⟨fun e=>(by rw[hrow] at e;cases e),fun _ _=>rfl⟩
      ·cases h
     ·cases h
   ·cases h
  ·rename_i hh off a' cs ha' hx
   rw[ha'] at ha
   have hrow:row.rt=true:=by simpa [Ss] using ha
   unfold EE at h
   split at h
   ·split at h
    ·cases h
    ·obtain⟨y,_,h⟩:=bind_some h
     split at h
     ·split at h
      ·cases h;exact⟨fun e=>(by rw[hrow] at e;cases e),fun _ _=>rfl⟩
      ·cases h
     ·cases h
   ·cases h
  ·cases h
def lC (tm:List SV):Option Nat→SV→List SV
 | none,_=>tm
 | some d,s=>tm.set d s
def Wk (hs:List Nat) (s:SV):Prop:=∀ d,inL hs d=false→s.bq d=false∧s.bH d=false∧s.bw d=false
structure Li (P:Program) (row:Touch) (hs:List Nat) (o:Oper) (T:St) (sv:SV) (T':St):Prop where
 tmps:T'.tmps=lC T.tmps o.dst sv
 rest:Rest row T T'
 sound:∀ tm,(∀ x,x∈o.op.operands→(T.wt tm).ev x=T.ev x)→(∀ s,s∈tm→s∈T.tmps∨Wk hs s)→fU P o (T.wt tm) (T'.wt (lC tm o.dst sv))
theorem YO {o:Oper} {S:St} {k:St→Option β} {r:β} {args:Array Operand} {argTypes:Array TypeId} (ho:o.op= .call { callee:= .builtin .append,args,argTypes }) (h:cV X o S k=some r):
 ∃ d S',o.dst=some d∧k S'=some r∧S'.tmps=S.tmps.set d (.v false [.row d])∧S'.boxes=S.boxes∧S.bq d=false∧
  ∀ tm,(∀ x,x∈o.op.operands→(S.wt tm).ev x=S.ev x)→(S.wt tm).bq d=false→cV X o (S.wt tm) some=some (S'.wt (tm.set d (.v false [.row d]))):=by
 obtain⟨dst,op,ty0,pos,af,g⟩:=o
 simp only at ho
 subst ho
 simp only[cV] at h
 split at h
 ·rename_i s x t t' d he hty
  split at h
  ·rename_i e ht
   split at h
   ·rename_i ty zc htyo hzc
    split at h
    ·cases h
    ·rename_i hc
     split at h
     ·rename_i l j l' hsrc hnew
      obtain⟨hchk,h⟩:=jg h
      have hc':=hc
      simp only[agR,ajU,agM,agL] at hc'
      refine⟨d,_,rfl,h,rfl,rfl,hc'.1.1.1.1.1,fun tm hev hfr=> ?_⟩
      have hmap:args.toList.map (S.wt tm).ev=args.toList.map S.ev:=aic fun y hy=>hev y (by simpa [Op.operands,Call.operands] using hy)
      simp only[cV]
      rw[hmap,he,hty]
      simp only
      rw[ht]
      simp only
      rw[htyo,hzc]
      simp only
      rw[ajP (by
       simp only[agR,ajU,agM,agL]
       exact⟨⟨⟨⟨⟨hfr,hc'.1.1.1.1.2⟩,hc'.1.1.1.2⟩,hc'.1.1.2⟩,hc'.1.2⟩,hc'.2⟩)]
      rw[show Qs (S.wt tm) e ty s=Qs S e ty s from rfl,show Lv (S.wt tm) ty x=Lv S ty x from rfl,hsrc,hnew]
      simp only
      rw[hchk]
      rfl
     ·cases h
   ·cases h
  ·cases h
 ·cases h
theorem adr {T:St} {tm:List SV} {hs:List Nat} {d:Nat} (h:T.bq d=false) (hd:inL hs d=false) (htm:∀ s,s∈tm→s∈T.tmps∨Wk hs s):(T.wt tm).bq d=false:=by
 simp only[St.bq,agQ,ahi] at h ⊢
 refine⟨fun s hs'=> ?_,h.2⟩
 rcases htm s hs' with h1 | h1
 ·exact h.1 s h1
 ·simp[(h1 d hd).1]
theorem XE {op:Op} (h:zu op=true):∃ args argTypes,op= .call { callee:= .builtin .append,args,argTypes }:=by
 unfold zu at h
 split at h
 ·exact⟨_,_,rfl⟩
 ·cases h
theorem W7 {S:St} {tm:List SV}:∀ l:List Nat,QN (S.wt tm) l=QN S l
 | []=>rfl
 | k::r=>by
  simp only[QN]
  rw[W7 r]
  rfl
theorem LC {S:St} {tm:List SV}:∀ l:List Nat,zS (S.wt tm) l=zS S l
 | []=>rfl
 | k::r=>by
  simp only[zS]
  rw[LC r]
  rfl
theorem XQ {S:St} {tm:List SV} (l:List SV):jT (S.wt tm) l=jT S l:=by
 unfold jT
 rw[W7]
theorem adR {S:St} {tm:List SV} (l:List SV):gQ (S.wt tm) l=gQ S l:=by
 unfold gQ
 rw[XQ,LC]
theorem JW {S T:St} {fb:List Nat} (hr:T.rows=S.rows) (hb:T.boxes=S.boxes):∀ {ps:List PM} {l:List SV},lI ps=true→jG T fb ps l=jG S fb ps l
 | [],[],_=>rfl
 | [],_::_,_=>rfl
 | .val t::r,l,h=>by
  simp only[jG,Aa]
  have e:∀ s,kY T fb t s=kY S fb t s:=fun s=>by
   have hp:∀ (t:Ty) (cs:List CV),gW T fb t cs=gW S fb t cs:=rT hr hb
   unfold kY
   simp only[hp]
  simp only[e]
  rw[JW (ps:=r) hr hb (by simpa [lI] using h)]
 | .row e t::r,l,h=>by
  simp only[jG,Aa]
  have e:∀ c,jV T e t c=jV S e t c:=fun c=>by
   unfold jV
   rw[hr]
  simp only[e]
  rw[JW (ps:=r) hr hb (by simpa [lI] using h)]
 | .mrow _ _::_,_,h=>by cases h
 | .map _ _::_,_,h=>by cases h
 | .box _::_,_,h=>by cases h
 | .ar _::_,_,h=>by cases h
 | .arR _::_,_,h=>by cases h
theorem JU {S T:St}:∀ {ps:List PM} {i:Nat} {l:List SV},lI ps=true→gR T i ps l=gR S i ps l
 | [],_,_,_=>rfl
 | .val t::r,i,l,h=>by
  simp only[gR,lz]
  rw[JU (ps:=r) (S:=S) (by simpa [lI] using h)]
 | .row e t::r,i,l,h=>by
  simp only[gR,lz]
  rw[JU (ps:=r) (S:=S) (by simpa [lI] using h)]
 | .mrow _ _::_,_,_,h=>by cases h
 | .map _ _::_,_,_,h=>by cases h
 | .box _::_,_,_,h=>by cases h
 | .ar _::_,_,_,h=>by cases h
 | .arR _::_,_,_,h=>by cases h
theorem D6 {l l':List (br×Nat)} {x:br} (h:bP l x=none) (h':bP l' x=none):bP (l++l') x=none:=by
 induction l with
 | nil=>exact h'
 | cons p r ih=>
  obtain⟨o,n⟩:=p
  simp only[bP,ahm] at h ⊢
  cases hb:br.beq o x with
  | true=>rw[hb] at h;cases h
  | false=>rw[hb] at h;exact ih h
theorem acS {n k:Nat} {c:CV}:bP (oT n c) (.inl k)=none:=by
 cases c<;>rfl
theorem JT {S:St} {k:Nat}:∀ {ps:List PM} {i:Nat} {l:List SV},lI ps=true→bP (gR S i ps l) (.inl k)=none
 | [],_,_,_=>rfl
 | .val t::r,i,l,h=>by
  simp only[gR,lz]
  refine D6 ?_ (JT (by simpa [lI] using h))
  split<;>rfl
 | .row e t::r,i,l,h=>by
  simp only[gR,lz]
  refine D6 ?_ (JT (by simpa [lI] using h))
  split
  ·split
   ·exact acS
   ·rfl
  ·rfl
 | .mrow _ _::_,_,_,h=>by cases h
 | .map _ _::_,_,_,h=>by cases h
 | .box _::_,_,_,h=>by cases h
 | .ar _::_,_,_,h=>by cases h
 | .arR _::_,_,_,h=>by cases h
theorem Lx {d:Nat}:∀ {ps:List PM} {i:Nat} {l:List SV},lI ps=true→cn d i ps l=[]
 | [],_,_,_=>rfl
 | .val t::r,i,s::l,h=>by simp only[cn];exact Lx (by simpa [lI] using h)
 | .val t::r,i,[],h=>rfl
 | .row e t::r,i,s::l,h=>by simp only[cn];exact Lx (by simpa [lI] using h)
 | .row e t::r,i,[],h=>rfl
 | .mrow _ _::_,_,_,h=>by cases h
 | .map _ _::_,_,_,h=>by cases h
 | .box _::_,_,_,h=>by cases h
 | .ar _::_,_,_,h=>by cases h
 | .arR _::_,_,_,h=>by cases h
theorem GX {d:Nat}:∀ {ps:List PM} {i:Nat} {l:List SV} {x:gx ps},lI ps=true→eN d i ps l x=[]
 | [],_,_,_,_=>rfl
 | .val t::r,i,s::l,x,h=>by simp only[eN];exact GX (by simpa [lI] using h)
 | .val t::r,i,[],x,h=>rfl
 | .row e t::r,i,s::l,x,h=>by simp only[eN];exact GX (by simpa [lI] using h)
 | .row e t::r,i,[],x,h=>rfl
 | .mrow _ _::_,_,_,_,h=>by cases h
 | .map _ _::_,_,_,_,h=>by cases h
 | .box _::_,_,_,_,h=>by cases h
 | .ar _::_,_,_,_,h=>by cases h
 | .arR _::_,_,_,_,h=>by cases h
theorem OE {S:St} {ps:List PM} {i:Nat} {l:List SV} (h:lI ps=true):∀ b:List (Nat×List CV),(b.filter fun p=>(bP (gR S i ps l) (.inl p.1)).isNone)=b
 | []=>rfl
 | p::r=>by
  rw[ahA,JT h,OE h r]
  rfl
theorem WH {sp:aA} {S:St} {args:List SV} {d:Nat} {k:St→Option β} {r:β} (h1:lI sp.ps=true) (h2:aa1 sp.rs=true) (h:qT sp S args (some d) k=some r):
 ∃ S',k S'=some r∧S'.tmps=S.tmps.set d (.v false [.row (nid d 24 0)])∧S'.boxes=S.boxes∧S.kN (nid d 0 0) (nid (d+1) 0 0)=false∧
  ∀ tm,(S.wt tm).kN (nid d 0 0) (nid (d+1) 0 0)=false→qT sp (S.wt tm) args (some d) some=some (S'.wt (tm.set d (.v false [.row (nid d 24 0)]))):=by
 obtain⟨ps,rs,m⟩:=sp
 simp only at h1 h2
 match rs,m,h2,h with
 | [.row e t],m,_,h=>
  unfold qT at h
  simp only[ajr] at h
  split at h
  ·cases h
  ·rename_i hc
   have hc':=hc
   simp only[agR,ajU,agM] at hc'
   obtain⟨⟨⟨⟨⟨⟨⟨⟨⟨⟨⟨⟨c1,c2⟩,c3⟩,c4⟩,c5⟩,c6⟩,c7⟩,c8⟩,c9⟩,c10⟩,c11⟩,c12⟩,c13⟩:=hc'
   split at h
   ·rename_i x hx
    obtain⟨y,hy,h⟩:=bind_some h
    have hfr:S.kN (nid d 0 0) (nid (d+1) 0 0)=false:=by simpa [ES] using c8
    refine⟨_,h,rfl, ?_,hfr,fun tm htm=> ?_⟩
    ·show tE ps d [RM.row e t] 0 y++(eN d 0 ps args _++S.boxes.filter _)=S.boxes
     rw[GX h1,OE h1]
     rfl
    ·unfold qT
     simp only[ajr]
     rw[adR,XQ,JU (T:=S.wt tm) (S:=S) h1]
     rw[ajP (by
      simp only[agR,ajU,agM]
      refine⟨⟨⟨⟨⟨⟨⟨⟨⟨⟨⟨⟨c1,c2⟩,c3⟩,c4⟩,c5⟩,c6⟩,c7⟩, ?_⟩,c9⟩, ?_⟩,c11⟩, ?_⟩,c13⟩
      ·simpa [ES] using htm
      ·rw[Lx h1];rfl
      ·rfl)]
     rw[show jG (aX (S.wt tm) (gQ S (kG ps args))) (jT S (kG ps args)) ps args=jG (aX S (gQ S (kG ps args))) (jT S (kG ps args)) ps args from JW (T:=aX (S.wt tm) (gQ S (kG ps args))) (S:=aX S (gQ S (kG ps args))) rfl rfl h1]
     rw[hx]
     simp only
     rw[hy]
     simp only[ajq]
     congr 1
     cases hfl:(kE [RM.row e t]&&jC ps)<;>rfl
   ·cases h
theorem adV {op:Op} (h:Ir X op=true):∃ g sp args argTypes,op= .call { callee:= .value (.func g),args,argTypes }∧look X.keys g=none∧wR X.specs g=[sp]∧lI sp.ps=true∧aa1 sp.rs=true:=by
 unfold Ir at h
 split at h
 ·rename_i c
  split at h
  ·rename_i g hg
   split at h
   ·rename_i hk
    split at h
    ·rename_i sp hsp
     simp only[agE] at h
     obtain⟨callee,args,argTypes⟩:=c
     simp only at hg
     subst hg
     exact⟨g,sp,args,argTypes,rfl,hk,hsp,h.1,h.2.2⟩
    ·cases h
   ·cases h
  ·cases h
 ·cases h
theorem acE {o:Oper} {S:St} {k:St→Option β} {r:β} {d:Nat} (hop:Ir X o.op=true) (hd:o.dst=some d) (h:cV X o S k=some r):
 ∃ S',k S'=some r∧S'.tmps=S.tmps.set d (.v false [.row (nid d 24 0)])∧S'.boxes=S.boxes∧S.kN (nid d 0 0) (nid (d+1) 0 0)=false∧
  ∀ tm,(∀ x,x∈o.op.operands→(S.wt tm).ev x=S.ev x)→(S.wt tm).kN (nid d 0 0) (nid (d+1) 0 0)=false→cV X o (S.wt tm) some=some (S'.wt (tm.set d (.v false [.row (nid d 24 0)]))):=by
 obtain⟨g,sp,args,argTypes,hop,hk,hsp,h1,h2⟩:=adV hop
 obtain⟨dst,op,ty0,pos,af,gd⟩:=o
 simp only at hop hd
 subst hop;subst hd
 have hcal:∀ T:St,eF T { callee:= .value (.func g),args,argTypes }=some (g,args.toList.map T.ev++[]):=fun T=>rfl
 simp only[cV] at h
 rw[hcal] at h
 simp only at h
 rw[hk] at h
 simp only at h
 rw[hsp] at h
 simp only[BR] at h
 obtain⟨S',a1,a2,a3,a4,a5⟩:=WH h1 h2 h
 refine⟨S',a1,a2,a3,a4,fun tm hev hfr=> ?_⟩
 have hmap:args.toList.map (S.wt tm).ev=args.toList.map S.ev:=aic fun y hy=>hev y (by simp[Op.operands,Call.operands];exact .inr (by simpa using hy))
 simp only[cV]
 rw[hcal]
 simp only
 rw[hk]
 simp only
 rw[hsp]
 simp only[BR]
 rw[hmap]
 exact a5 tm hfr
theorem adJ {a b:Nat} {s:SV} (h:∀ j,a≤j→j<b→s.bq j=false∧s.bH j=false∧s.bw j=false):s.kN a b=false:=by
 have key:∀ (j:Nat),(Nat.ble a j&&Nat.blt j b)=true→a≤j∧j<b:=fun j hj=>by
  simp only[agE] at hj
  exact⟨aiY hj.1,ai3 (ai7 _) (aiY hj.2)⟩
 have cv:∀ c:CV,c.kN a b=true→∃ j,a≤j∧j<b∧(c.bq j=true∨c.bH j=true∨c.bw j=true):=fun c hc=>by
  cases c<;>simp only[CV.kN] at hc<;>first
   | cases hc
   | (obtain⟨h1,h2⟩:=key _ hc
      refine⟨_,h1,h2, ?_⟩
      simp[CV.bq,CV.bH,CV.bw])
 cases hb:s.kN a b with
 | false=>rfl
 | true=>
  exfalso
  cases s with
  | v g cs=>
   simp only[SV.kN,ahj] at hb
   obtain⟨c,hc,hi⟩:=hb
   obtain⟨j,h1,h2,h3⟩:=cv c hi
   have h4:=h j h1 h2
   simp only[SV.bq,SV.bH,SV.bw,ahi] at h4
   rcases h3 with h3 | h3 | h3
   ·exact h4.1 c hc h3
   ·exact h4.2.1 c hc h3
   ·exact h4.2.2 c hc h3
  | tup l=>
   simp only[SV.kN,ahj] at hb
   obtain⟨p,hp,c,hc,hi⟩:=hb
   obtain⟨j,h1,h2,h3⟩:=cv c hi
   have h4:=h j h1 h2
   simp only[SV.bq,SV.bH,SV.bw,ahi,ahj,ajT,ajS] at h4
   rcases h3 with h3 | h3 | h3
   ·exact h4.1 p hp c hc h3
   ·exact h4.2.1 p hp c hc h3
   ·exact h4.2.2 p hp c hc h3
theorem afe {T:St} {tm:List SV} {hs:List Nat} {d:Nat} (h:T.kN (nid d 0 0) (nid (d+1) 0 0)=false) (hd:Nn hs d=true) (htm:∀ s,s∈tm→s∈T.tmps∨Wk hs s):(T.wt tm).kN (nid d 0 0) (nid (d+1) 0 0)=false:=by
 simp only[St.kN,agQ,ahi] at h ⊢
 refine⟨fun s hs'=> ?_,h.2⟩
 rcases htm s hs' with h1 | h1
 ·exact h.1 s h1
 ·rw[adJ fun j hj1 hj2=>h1 j (by
   cases hb:inL hs j with
   | false=>rfl
   | true=>
    exfalso
    simp only[inL,ahj] at hb
    obtain⟨q,hq,hqj⟩:=hb
    simp only[Nn,ahg] at hd
    have this:j=q:=aiW hqj
    subst this
    have h2:=hd j hq
    have e1:Nat.ble (nid d 0 0) j=true:=Nat.ble_eq_true_of_le hj1
    have e2:Nat.blt j (nid (d+1) 0 0)=true:=by simpa using hj2
    rw[e1,e2] at h2
    cases h2)]
  simp
theorem IN (hX:cC X) {ops:List Oper} {S0:St} {hs:List Nat}:∀ {l:List Oper} {S:St} {k:St→Option β} {r:β},vZ X ops S0 hs l S k=some r→
 ∃ (T:Nat→St) (sv:Nat→SV),T 0=S∧k (T l.length)=some r∧∀ i o,l[i]? =some o→Li X.P (dD (isApp X) ops S0 [o]) hs o (T i) (sv i) (T (i+1))
 | [],S,k,r,h=>⟨fun _=>S,fun _=>sW,rfl,h,fun i o hi=>by simp at hi⟩
 | o::l,S,k,r,h=>by
  have cons:∀ (s:SV) (S':St),Li X.P (dD (isApp X) ops S0 [o]) hs o S s S'→vZ X ops S0 hs l S' k=some r→∃ (T:Nat→St) (sv:Nat→SV),T 0=S∧k (T (o::l).length)=some r∧∀ i o',(o::l)[i]? =some o'→Li X.P (dD (isApp X) ops S0 [o']) hs o' (T i) (sv i) (T (i+1)):=by
   intro s S' hs hr
   obtain⟨T,sv,h1,h2,h3⟩:=IN hX hr
   refine⟨fun i=>match i with | 0=>S | i+1=>T i,fun i=>match i with | 0=>s | i+1=>sv i,rfl,h2,fun i o' hi=> ?_⟩
   cases i with
   | zero=>
    simp only[ahM,Option.some.injEq] at hi
    subst hi
    show Li X.P (dD (isApp X) ops S0 [o]) _ o S s (T 0)
    rw[h1];exact hs
   | succ i=>exact h3 i o' (by simpa using hi)
  simp only[vZ] at h
  split at h
  ·rename_i ad had
   have hst:∃ t x,o.op= .store t ad x:=by
    revert had
    unfold aaw
    split
    ·rename_i t a x e;intro h';cases h';exact⟨_,_,e⟩
    ·intro h';cases h'
   obtain⟨t,x,hop⟩:=hst
   cases ha:Ss (dD (isApp X) ops S0 [o]) (S.ev ad) with
   | false=>rw[ha] at h;cases h
   | true=>
    rw[ha,ajE] at h
    obtain⟨S',h4,h5,h6⟩:=Sg hop h
    have hself:=h6 S.tmps rfl rfl
    have hdst:o.dst=none:=by
     have h7:cV X o S some=some (S'.wt S.tmps):=hself
     cases hd:o.dst with
     | none=>rfl
     | some d=>
      obtain⟨dst,op,ty,pos,af,g⟩:=o
      simp only at hop hd
      subst hop;subst hd
      simp[cV] at h7
    have e:S'.wt S.tmps=S':=by rw[← h5];rfl
    refine cons sW S' ⟨?_, ?_,fun tm hev _=> ?_⟩ h4
    ·rw[hdst,h5];rfl
    ·rw[e] at hself
     exact abu hop ha hself
    ·have hs:=h6 tm (hev ad (by simp[hop,Op.operands])) (hev x (by simp[hop,Op.operands]))
     obtain⟨S2,e2,hs2⟩:=Cc hX hs
     cases e2
     rw[hdst]
     exact hs2
  ·cases hap:zu o.op with
   | true=>
    rw[hap,ajE] at h
    obtain⟨args,argTypes,hop⟩:=XE hap
    cases hd0:o.dst with
    | none=>rw[hd0] at h;simp at h
    | some d0=>
     rw[hd0] at h
     simp only at h
     cases hc:((dD (isApp X) ops S0 [o]).rt&& !inL hs d0) with
     | false=>rw[hc] at h;cases h
     | true=>
      rw[hc,ajE] at h
      obtain⟨d,S',hd,h4,h5,h6,h7,h8⟩:=YO hop h
      rw[hd0] at hd
      cases hd
      simp only[agE,agN] at hc
      refine cons (.v false [.row d0]) S' ⟨?_, ?_,fun tm hev hfr=> ?_⟩ h4
      ·rw[hd0,h5];rfl
      ·exact⟨fun e=>(by rw[hc.1] at e;cases e),fun k _=>by rw[h6]⟩
      ·have hs':=h8 tm hev (adr h7 hc.2 hfr)
       obtain⟨S2,e2,hs2⟩:=Cc hX hs'
       cases e2
       rw[hd0]
       exact hs2
   | false=>
    rw[hap,ajD] at h
    cases hmc:Ir X o.op with
    | true=>
     rw[hmc,ajE] at h
     cases hd0:o.dst with
     | none=>rw[hd0] at h;simp at h
     | some d0=>
      rw[hd0] at h
      simp only at h
      cases hc:((dD (isApp X) ops S0 [o]).rt&&Nn hs d0) with
      | false=>rw[hc] at h;cases h
      | true=>
       rw[hc,ajE] at h
       obtain⟨S',h4,h5,h6,h7,h8⟩:=acE hmc hd0 h
       simp only[agE] at hc
       refine cons (.v false [.row (nid d0 24 0)]) S' ⟨?_, ?_,fun tm hev hfr=> ?_⟩ h4
       ·rw[hd0,h5];rfl
       ·exact⟨fun e=>(by rw[hc.1] at e;cases e),fun k _=>by rw[h6]⟩
       ·have hs':=h8 tm hev (afe h7 hc.2 hfr)
        obtain⟨S2,e2,hs2⟩:=Cc hX hs'
        cases e2
        rw[hd0]
        exact hs2
    | false=>
    rw[hmc,ajD] at h
    obtain⟨x,h1,h2,_⟩:=sB hX h
    cases hp:pE x with
    | false=>rw[hp] at h1;cases h1
    | true=>
     rw[hp,ajE] at h1
     obtain⟨p1,p2,p3⟩:=DE hp
     have e:x=⟨x.sv,none,none,none⟩:=by cases x;simp only at p1 p2 p3;subst p1;subst p2;subst p3;rfl
     have happ:∀ T:St,T.app o.dst x=T.wt (lC T.tmps o.dst x.sv):=fun T=>by
      rw[e];cases o.dst<;>rfl
     refine cons x.sv (S.app o.dst x) ⟨?_, ?_,fun tm hev _=> ?_⟩ h1
     ·rw[happ];rfl
     ·rw[happ];exact⟨fun _=>⟨rfl,rfl⟩,fun _ _=>rfl⟩
     ·intro C G ρ w a Q hM
      have:=h2 C G ρ (S.wt tm) w a Q hM ⟨hev,fun _ _ h=>h,fun _ _ h=>h,fun _ _ h=>h⟩ (fun d' _ h=>by rw[p1] at h;cases h) (fun d' _ h=>by rw[p2] at h;cases h) (fun d' _ h=>by rw[p3] at h;cases h)
      rw[happ] at this ⊢
      exact this
theorem OC {t i:Nat} {m:Msk} {ds:List Msk}:∀ {l:List (Option Nat)} {c:Nat},Ie t i m ds l c=true→∀ {k:Nat},l[k]? =some (some t)→c+k∈m∨i∈ds.getD (c+k) m0
 | [],_,_,_,h=>by simp at h
 | d::r,c,h,0,hk=>by
  simp only[Ie,agE] at h
  have:d=some t:=by simpa using hk
  subst this
  have h1:=h.1
  simp only[Nat.beq_refl,agP,agK,agR] at h1
  exact h1.imp ot.1 ot.1
 | d::r,c,h,k+1,hk=>by
  simp only[Ie,agE] at h
  have:=OC h.2 (k:=k) (by simpa using hk)
  rw[show c+(k+1)=c+1+k by omega]
  exact this
section
variable {ops:List Oper} {m n:Nat} {S Sn:St} {listed:Array Bool} {outs:List (Option Del)}
theorem cm.keep (K:cm X ops m S outs Sn):(∀ k cs,look S.boxes k=some cs→look Sn.boxes k=some cs)∧(∀ k q,look S.rows k=some q→look Sn.rows k=some q)∧(∀ k q,look S.objs k=some q→look Sn.objs k=some q):=by
 have nolook:∀ k,(look S.boxes k).isSome=true∨(look S.rows k).isSome=true∨(look S.objs k).isSome=true→look Sn.boxes k=look S.boxes k∧look Sn.rows k=look S.rows k∧look Sn.objs k=look S.objs k:=fun k hk=>by
  have hnd:∀ j,j<m→bS ops j≠some k:=fun j hj hdj=>by
   obtain⟨_,m3,m4,m5,_⟩:=K.new j k hj hdj
   rcases hk with hk | hk | hk
   ·rw[m3] at hk;cases hk
   ·rw[m4] at hk;cases hk
   ·rw[m5] at hk;cases hk
  have:k∉gP (ops.take m):=fun hm=>by
   simp only[gP,aim] at hm
   obtain⟨p,hp,hpd⟩:=hm
   obtain⟨j,hj⟩:=aio.1 hp
   have hmn:j<m:=by
    have:=(ahQ.1 hj).1
    simp at this;omega
   rw[cB hmn] at hj
   exact hnd j hmn (by unfold bS;rw[hj];exact hpd)
  rw[K.sn]
  exact (fD this).2
 exact⟨fun k cs hk=>by rw[(nolook k (.inl (by rw[hk];rfl))).1];exact hk,fun k q hk=>by rw[(nolook k (.inr (.inl (by rw[hk];rfl)))).2.1];exact hk,
  fun k q hk=>by rw[(nolook k (.inr (.inr (by rw[hk];rfl)))).2.2];exact hk⟩
def zO (a b:Touch):Prop:=(b.rt=false→a.rt=false)∧∀ k,nP b k=true→nP a k=true
structure yp (X:Cx) (ops:List Oper) (m n:Nat) (S:St) (outs:List (Option Del)) (Sn:St) (tf:Nat→Touch) (t1:Oper→Touch) (T:Nat→St) (sv:Nat→SV):Prop where
 lt:m<n
 le:n≤ops.length
 t0:T 0=Sn
 step:∀ c o,m+c<n→ops[m+c]? =some o→Li X.P (t1 o) S.ids o (T c) (sv c) (T (c+1))
 cover:∀ i c o,i<m→m+c<n→ops[m+c]? =some o→i∉(deps ops).getD (m+c) m0→zO (t1 o) (tf i)
 late:∀ i o,i<m→ops[i]? =some o→i∉(deps ops).getD m m0→∀ y,outs[i]? =some (some y)→dn X.P o (states ((ops.take m).take i) S (outs.take i)) (dB (tf i) S) y∧pE y=true
 guard:∀ i o,m≤i→i<n→ops[i]? =some o→o.guard=none
 wait:∀ i j,m≤j→j<i→i<n→j∈(deps ops).getD i m0
 looks:∀ i o,i<n→ops[i]? =some o→∀ t,t∈o.looksAt ops.toArray→∀ j,j<n→bS ops j=some t→j∈(deps ops).getD i m0∨i∈(deps ops).getD j m0
 uniq:∀ i j d,i<n→j<n→bS ops i=some d→bS ops j=some d→i=j
variable {tf:Nat→Touch} {t1:Oper→Touch} {T:Nat→St} {sv:Nat→SV}
theorem yp.len (Z:yp X ops m n S outs Sn tf t1 T sv) (K:cm X ops m S outs Sn):∀ c,m+c≤n→(T c).tmps.length=S.tmps.length
 | 0,_=>by rw[Z.t0,K.yh]
 | c+1,h=>by
  have hlt:m+c<ops.length:=by have:=Z.le;omega
  have hs:=(Z.step c _ (by omega) (ahO hlt)).tmps
  rw[hs]
  have:=Z.len K c (by omega)
  cases (ops[m+c]).dst<;>simp[lC,this]
theorem yp.other (Z:yp X ops m n S outs Sn tf t1 T sv):∀ c,m+c≤n→∀ t,(∀ j,m≤j→j<m+c→bS ops j≠some t)→(T c).tmps[t]? =Sn.tmps[t]?
 | 0,_,t,_=>by rw[Z.t0]
 | c+1,h,t,ht=>by
  have hlt:m+c<ops.length:=by have:=Z.le;omega
  have hs:=(Z.step c _ (by omega) (ahO hlt)).tmps
  rw[hs, ← Z.other c (by omega) t (fun j h1 h2=>ht j h1 (by omega))]
  cases hd:(ops[m+c]).dst with
  | none=>rfl
  | some d=>
   have hne:d≠t:=fun e=>ht (m+c) (by omega) (by omega) (by unfold bS;rw[ahO hlt];simp[hd,e])
   exact ahU hne
theorem yp.mem (Z:yp X ops m n S outs Sn tf t1 T sv) {i:Nat} (hi:i<m):∀ c,m+c≤n→(∀ j,m≤j→j<m+c→i∉(deps ops).getD j m0)→Rest (tf i) Sn (T c)
 | 0,_,_=>by rw[Z.t0];exact⟨fun _=>⟨rfl,rfl⟩,fun _ _=>rfl⟩
 | c+1,h,hnd=>by
  have hlt:m+c<ops.length:=by have:=Z.le;omega
  have hs:=(Z.step c _ (by omega) (ahO hlt)).rest
  have hle:=Z.cover i c _ hi (by omega) (ahO hlt) (hnd (m+c) (by omega) (by omega))
  have ih:=Z.mem hi c (by omega) (fun j h1 h2=>hnd j h1 (by omega))
  exact⟨fun e=>⟨(hs.1 (hle.1 e)).1.trans (ih.1 e).1,(hs.1 (hle.1 e)).2.trans (ih.1 e).2⟩,fun k hk=>(hs.2 k (hle.2 k hk)).trans (ih.2 k hk)⟩
theorem yp.near (Z:yp X ops m n S outs Sn tf t1 T sv) (K:cm X ops m S outs Sn) {i:Nat} (hi:i<m) (c:Nat) (hc:m+c≤n) (hnd:∀ j,m≤j→j<m+c→i∉(deps ops).getD j m0) {N:St} (h1:N.boxes=(T c).boxes) (h2:N.rows=(T c).rows) (h3:N.objs=(T c).objs):
 (∀ k cs,look (dB (tf i) S).boxes k=some cs→look N.boxes k=some cs)∧(∀ k q,look (dB (tf i) S).rows k=some q→look N.rows k=some q)∧(∀ k q,look (dB (tf i) S).objs k=some q→look N.objs k=some q):=by
 have hm:=Z.mem hi c hc hnd
 obtain⟨k1,k2,k3⟩:=K.keep
 obtain⟨r1,r2,r3⟩:=CU (tf i) S
 exact⟨fun k cs hk=>by rw[h1,hm.2 k (r1 k cs hk).1];exact k1 k cs (r1 k cs hk).2,fun k q hk=>by rw[h2,(hm.1 (r2 k q hk).1).1];exact k2 k q (r2 k q hk).2,fun k q hk=>by rw[h3,(hm.1 (r3 k q hk).1).2];exact k3 k q (r3 k q hk).2⟩
def Am {P0:Program} (C:Fr P0) (G:Gh) (ρ:Env) (ops:List Oper) (m:Nat) (S Sn:St) (T:Nat→St) (c:Nat) (listed:Array Bool) (w:World) (a:Act):Prop:=
 if c=0 then Mod C G ρ (aT S Sn (aJ ops m listed)) w a else Mod C G ρ ((T c).wt (aT S (T c) (aJ ops m listed)).tmps) w a
theorem yp.started (Z:yp X ops m n S outs Sn tf t1 T sv) (K:cm X ops m S outs Sn) {c:Nat} {a:Act} (hdone:∀ j,j∈(deps ops).getD m m0→listed.getD j true=true) (hM:Am C G ρ ops m S Sn T c listed w a):
 Mod C G ρ ((T c).wt (aT S (T c) (aJ ops m listed)).tmps) w a:=by
 unfold Am at hM
 by_cases e:c=0
 ·subst e
  rw[ajQ rfl] at hM
  rw[Z.t0]
  have hunb:∀ t,aJ ops m listed t=true→look Sn.boxes t=none∧look Sn.rows t=none∧look Sn.objs t=none:=fun t hu=>by
   obtain⟨j,h1,h2,h3⟩:=dA.1 hu
   obtain⟨oj,h4,h5⟩:=jR h3
   have hnd:j∉(deps ops).getD m m0:=fun hmem=>by
    have:=hdone j hmem
    rw[h2] at this;cases this
   obtain⟨x,hx⟩:∃ x,outs[j]? =some x:=⟨outs[j]'(by rw[K.len];exact h1),ahO _⟩
   have hp:AM x=none∧z8 x=none∧DA x=none:=by
    cases x with
    | none=>exact⟨rfl,rfl,rfl⟩
    | some y=>exact DE (Z.late j oj h1 h4 hnd y hx).2
   obtain⟨_,n3,n4,n5,_⟩:=K.new j t h1 h3
   have hat:=wm (S:=S) (outs:=outs) (by rw[K.len,aia,aja K.n_le]) K.dupl (i:=j) (o:=oj) (x:=x) (by rw[cB h1];exact h4) hx h5
   rw[← K.sn] at hat
   refine⟨?_, ?_, ?_⟩
   ·rw[hat.2.1,n3,hp.1];rfl
   ·rw[hat.2.2.1,n4,hp.2.1];rfl
   ·rw[hat.2.2.2,n5,hp.2.2];rfl
  refine hM.equiv rfl (fun k cs hk=> ?_) (fun k q hk=> ?_) (fun k q hk=> ?_)
  ·simp only[aT,bF]
   cases hu:aJ ops m listed k with
   | true=>rw[show look (Sn.wt (aT S Sn (aJ ops m listed)).tmps).boxes k=look Sn.boxes k from rfl,(hunb k hu).1] at hk;cases hk
   | false=>exact hk
  ·simp only[aT,bF]
   cases hu:aJ ops m listed k with
   | true=>rw[show look (Sn.wt (aT S Sn (aJ ops m listed)).tmps).rows k=look Sn.rows k from rfl,(hunb k hu).2.1] at hk;cases hk
   | false=>exact hk
  ·simp only[aT,bF]
   cases hu:aJ ops m listed k with
   | true=>rw[show look (Sn.wt (aT S Sn (aJ ops m listed)).tmps).objs k=look Sn.objs k from rfl,(hunb k hu).2.2] at hk;cases hk
   | false=>exact hk
 ·rw[ajP e] at hM;exact hM
theorem cm.spine (K:cm X ops m S outs Sn) (Z:yp X ops m n S outs Sn tf t1 T sv) (hwaits:∀ k,n≤k→k<ops.length→∀ j,j<k→j∈(deps ops).getD k m0)
 {Q:Exit→Act→World→Prop} (hseq:Region.seqB .any ops.toArray (ops.length - n) n (mask n ops.length)=true)
 (htail:∀ G ρ w a,Mod C G ρ (T (n - m)) w a→wpList X.P ops.toArray Q (ops.drop n) a w):∀ (u c:Nat) (listed:Array Bool) (a:Act) (w:World) (G:Gh) (ρ:Env),m+c≤n→listed.size=ops.length→vh ops listed→
 (∀ k,m≤k→k<m+c→listed.getD k true=true)→(∀ k,m+c≤k→k<ops.length→listed.getD k true=false)→(List.range n).countP (fun i=> !listed.getD i true)=u→Am C G ρ ops m S Sn T c listed w a→wpAny X.P .any ops.toArray Q (u+(ops.length - n)) listed a w:=by
 have hmn:=Z.lt
 have hnl:=Z.le
 intro u
 induction u with
 | zero=>
  intro c listed a w G ρ hc hsz hcl hdn htl hcnt hM
  have hall:∀ i,i<n→listed.getD i true=true:=fun i hi=>by
   rw[ahn] at hcnt
   have:=hcnt i (by simpa using hi)
   simpa using this
  have ec:c=n - m:=by
   by_cases h:m+c<n
   ·have:=htl (m+c) (ai0 _) (by omega)
    rw[hall (m+c) h] at this;cases this
   ·omega
  have hU:∀ t,aJ ops m listed t=false:=fun t=>by
   cases hu:aJ ops m listed t with
   | false=>rfl
   | true=>obtain⟨j,h1,h2,_⟩:=dA.1 hu;rw[hall j (by omega)] at h2;cases h2
  have hMn:Mod C G ρ (T (n - m)) w a:=by
   unfold Am at hM
   rw[ajP (by omega),ec] at hM
   refine hM.equiv ?_ (fun k cs hk=>hk) (fun k q hk=>hk) (fun k q hk=>hk)
   show (aT S (T (n - m)) (aJ ops m listed)).tmps=_
   apply ahy
   intro t
   rw[eU,hU t]
   have hl:=Z.len K (n - m) (by omega)
   by_cases hlt:t<S.tmps.length
   ·have:t<(T (n - m)).tmps.length:=by rw[hl];exact hlt
    simp[hlt,this]
   ·rw[ajP hlt,ahP (by omega)]
  have hmask:=Nr (n:=n) hsz hnl hall (fun i h1 h2=>htl i (by omega) h2)
  have hl:(ops.drop n).length=ops.length - n:=by simp
  have:=wpAny_of_seq (P:=X.P) (md:= .any) (ops:=ops.toArray) (Q':=Q) (ops.drop n) n listed a w (fun j=>by simp[ahN]) (by rw[hl,hmask];exact hseq) (htail G ρ w a hMn)
  rw[hl] at this
  rw[ajn]
  exact this
 | succ u ih=>
  intro c listed a w G ρ hc hsz hcl hdn htl hcnt hM
  have hsome:∃ i,i<n∧listed.getD i true=false:=by
   have:0<(List.range n).countP (fun i=> !listed.getD i true):=by omega
   rw[aho] at this
   obtain⟨i,h1,h2⟩:=this
   exact⟨i,by simpa using h1,by simpa using h2⟩
  rw[show u+1+(ops.length - n)=(u+(ops.length - n))+1 by omega]
  refine⟨fun hr=> ?_,fun i hi=> ?_⟩
  ·exfalso
   have hall:∀ i,i<n→listed.getD i true=true:=by
    intro i
    induction i using Nat.strongRecOn with
    | _ i ihi=>
     intro hin
     cases hl:listed.getD i true with
     | true=>rfl
     | false=>
      exfalso
      have hlt:i<ops.length:=by omega
      have hoi:ops[i]? =some ops[i]:=ahO hlt
      have:i∈Region.ready .any ops.toArray listed:=by
       rw[mem_ready]
       refine⟨hl,ops[i],by simp,fun e he hb=> ?_⟩
       have hE:=K.edges
       simp only[mg,ahg] at hE
       have h7:=hE i (by simp;exact hlt)
       rw[hoi] at h7
       simp only[ahg] at h7
       have h8:=h7 e (by simpa using he)
       simp only[hb,agP,agK] at h8
       have h9:e.on<i:=ai3 (ai7 _) (aiY h8)
       have h10:=ihi e.on h9 (by omega)
       rw[agm] at h10 ⊢
       rw[agn (by omega)] at h10 ⊢
       simpa using h10
      rw[hr] at this
      cases this
   obtain⟨i,h1,h2⟩:=hsome
   rw[hall i h1] at h2;cases h2
  ·rw[mem_ready] at hi
   obtain⟨hun,o,hio,hed⟩:=hi
   have hoi:ops[i]? =some o:=by simpa using hio
   have hed':∀ e,e∈o.after.toList→Region.binds .any e=true→listed.getD e.on false=true:=fun e he hb=>hed e (by simpa using he) hb
   have hlt:i<ops.length:=(ahQ.1 hoi).1
   have hdeps:=eC K.edges hcl i o hoi hed'
   by_cases hin:i<n
   ·-- what the next round asks for
    have cl':vh ops (listed.setIfInBounds i true):=by
     intro j oj hj hlj e he hb
     by_cases eji:j=i
     ·subst eji
      rw[hoi] at hj
      cases hj
      have:=hed' e he hb
      by_cases e2:e.on=j
      ·rw[e2];exact cg (by omega)
      ·rw[bn e2];exact this
     ·rw[bn eji] at hlj
      have:=hcl j oj hj hlj e he hb
      by_cases e2:e.on=i
      ·rw[e2];exact cg (by omega)
      ·rw[bn e2];exact this
    have cnt':(List.range n).countP (fun j=> !(listed.setIfInBounds i true).getD j true)=u:=by
     have:=Aq (p:=fun j=> !listed.getD j true) (q:=fun j=> !(listed.setIfInBounds i true).getD j true) (i:=i) (l:=List.range n) aiy (by simpa using hin) (by simp[hun]) (fun j=>by
      by_cases e:j=i
      ·subst e;simp only[cg (listed:=listed) (b:=true) (by omega:j<listed.size)];simp
      ·simp only[bn (listed:=listed) (b:=true) e];simp[e])
     omega
    by_cases him:i<m
    ·have dn':∀ k,m≤k→k<m+c→(listed.setIfInBounds i true).getD k true=true:=fun k h1 h2=>by
      rw[bn (by omega)];exact hdn k h1 h2
     have tl':∀ k,m+c≤k→k<ops.length→(listed.setIfInBounds i true).getD k true=false:=fun k h1 h2=>by
      rw[bn (by omega)];exact htl k h1 h2
     have go:∀ G' ρ' w' a',Am C G' ρ' ops m S Sn T c (listed.setIfInBounds i true) w' a'→wpAny X.P .any ops.toArray Q (u+(ops.length - n)) (listed.setIfInBounds i true) a' w':=
      fun G' ρ' w' a' hM'=>ih c (listed.setIfInBounds i true) a' w' G' ρ' hc (by simpa using hsz) cl' dn' tl' cnt' hM'
     by_cases ec:c=0
     ·unfold Am at hM
      rw[ajQ ec] at hM
      refine K.wpOp him hoi hsz hcl hun hed' hM (fun G' ρ' w' a' hM'=>go G' ρ' w' a' ?_)
      unfold Am
      rw[ajQ ec]
      exact hM'
     ·unfold Am at hM
      rw[ajP ec] at hM
      have hom:ops[m]? =some ops[m]:=ahO (by omega)
      have hlm:=hdn m (ai0 m) (by omega)
      have hnd:i∉(deps ops).getD m m0:=fun hmem=>by
       have:=eC K.edges hcl m _ hom (fun e h1 h2=>hcl m _ hom hlm e h1 h2) i hmem
       rw[hun] at this;cases this
      obtain⟨x,hx⟩:∃ x,outs[i]? =some x:=⟨outs[i]'(by rw[K.len];exact him),ahO _⟩
      have hst:=K.step i o x him hoi hx
      obtain⟨hds,_⟩:=K.head i o him hoi
      obtain⟨d,hd⟩:=ajt.1 hds
      have hdA:bS ops i=some d:=by unfold bS;rw[hoi];exact hd
      have hTlen:=Z.len K c hc
      have hlook:∀ t,t∈o.looksAt ops.toArray→(aT S (T c) (aJ ops m listed)).tmps.getD t (.v false [.any])=(aT S Sn (aJ ops m listed)).tmps.getD t (.v false [.any]):=fun t ht=>by
       have hno:∀ j,m≤j→j<m+c→bS ops j≠some t:=fun j h1 h2 h3=>by
        rcases Z.looks i o hin hoi t ht j (by omega) h3 with h4 | h4
        ·have:=Tk K.edges i o hoi j h4
         omega
        ·have hoj:ops[j]? =some (ops[j]'(by omega)):=ahO (by omega)
         have:=eC K.edges hcl j _ hoj (fun e k1 k2=>hcl j _ hoj (hdn j h1 h2) e k1 k2) i h4
         rw[hun] at this;cases this
       have ho:=Z.other c hc t hno
       rw[ahH,ahH,eU,eU,Ih ho]
      have hev:=K.evs him hoi hdeps
      have hgev:∀ j want o' d,o.guard=some (j,want)→ops[j]? =some o'→o'.dst=some d→((T c).wt (aT S (T c) (aJ ops m listed)).tmps).ev (.tmp d)=(states ((ops.take m).take i) S (outs.take i)).ev (.tmp d):=fun j want o' d hg ho' hd'=>by
       have hl:d∈o.looksAt ops.toArray:=by
        simp only[Oper.looksAt,hg,aii]
        right
        simp[ho',hd']
       have h1:=hlook d hl
       have h2:=K.looks him hoi hdeps d hl
       exact Eq.trans h1 h2
      have hgd:guardOf ops o ((T c).wt (aT S (T c) (aJ ops m listed)).tmps)=guardOf ops o (states ((ops.take m).take i) S (outs.take i)):=by
       unfold guardOf
       cases hg:o.guard with
       | none=>rfl
       | some p=>
        obtain⟨j,want⟩:=p
        simp only
        cases ho':ops[j]? with
        | none=>rfl
        | some o'=>
         simp only
         cases hd':o'.dst with
         | none=>rfl
         | some d'=>
          simp only
          rw[hgev j want o' d' hg ho' hd']
      have hsk:nX ops o ((T c).wt (aT S (T c) (aJ ops m listed)).tmps)=nX ops o (states ((ops.take m).take i) S (outs.take i)):=by
       unfold nX
       cases hg:o.guard with
       | none=>rfl
       | some p=>
        obtain⟨j,want⟩:=p
        simp only
        cases ho':ops[j]? with
        | none=>rfl
        | some o'=>
         simp only
         cases hd':o'.dst with
         | none=>rfl
         | some d'=>
          simp only
          rw[hgev j want o' d' hg ho' hd']
      have fin:∀ (s:SV) G' ρ' w' a',(∀ hlt:d<S.tmps.length,Sn.tmps[d]? =some s)→Mod C G' ρ' (((T c).wt (aT S (T c) (aJ ops m listed)).tmps).put (some d) s) w' a'→wpAny X.P .any ops.toArray Q (u+(ops.length - n)) (listed.setIfInBounds i true) a' w':=fun s G' ρ' w' a' hsn hM'=>by
       refine go G' ρ' w' a' ?_
       unfold Am
       rw[ajP ec]
       have htm:(aT S (T c) (aJ ops m (listed.setIfInBounds i true))).tmps=(aT S (T c) (aJ ops m listed)).tmps.set d s:=by
        have hU:=K.Es him hdA hsz hun
        have ho:=Z.other c hc d (fun j h1 h2 h3=>by have:=Z.uniq i j d hin (by omega) hdA h3;omega)
        apply ahy
        intro t
        rw[ahT,eU,eU,hU t]
        by_cases e:d=t
        ·subst e
         have hlen:(aT S (T c) (aJ ops m listed)).tmps.length=S.tmps.length:=by simp[aT]
         rw[hlen]
         by_cases hlt:d<S.tmps.length
         ·simp only[hlt,ajR,ajC,agF,agI,ajO]
          rw[Ih ho,ahH,hsn hlt];rfl
         ·simp[hlt]
        ·rw[ajP e]
         have:(t != d)=true:=by simp only[bne_iff_ne,ne_eq];exact fun h=>e h.symm
         rw[this,agG]
       rw[htm]
       exact hM'
      have hat:=wm (S:=S) (outs:=outs) (by rw[K.len,aia,aja K.n_le]) K.dupl (i:=i) (o:=o) (x:=x) (by rw[cB him];exact hoi) hx hd
      rw[← K.sn] at hat
      unfold Go.wpOp
      rw[hio]
      simp only
      cases x with
      | none=>
       have hw:Region.wanted o (yielded ops.toArray a.tmps)=false:=by
        rcases hst with ⟨dg,b,want,hg,hb⟩ | hs
        ·have hw:=jh hM.tmps (by rw[hgd];exact hg)
         simp only at hw
         rw[hw.2,hb]
        ·exact Ka hM.tmps (by rw[hsk];exact hs)
       rw[ajP (by rw[hw];simp)]
       have:=hM.put o.dst (s:=sW) (fun _ _=>Sk)
       rw[hd] at this ⊢
       exact fin sW G ρ w _ (fun hlt=>hat.1 hlt) this
      | some y=>
       obtain⟨_,hg⟩:=hst
       obtain⟨hL,hp⟩:=Z.late i o him hoi hnd y hx
       obtain⟨p1,p2,p3⟩:=DE hp
       have hwt:Region.wanted o (yielded ops.toArray a.tmps)=true:=by
        rcases hg with hg | ⟨dg,b,want,hg,hb⟩
        ·exact jh hM.tmps (g:=none) (by rw[hgd];exact hg)
        ·have hw:=jh hM.tmps (by rw[hgd];exact hg)
         simp only at hw
         rw[hw.2,hb]
       rw[ajQ hwt]
       left
       have hndj:∀ j,m≤j→j<m+c→i∉(deps ops).getD j m0:=fun j h1 h2 hmem=>by
        have hoj:ops[j]? =some (ops[j]'(by omega)):=ahO (by omega)
        have:=eC K.edges hcl j _ hoj (fun e k1 k2=>hcl j _ hoj (hdn j h1 h2) e k1 k2) i hmem
        rw[hun] at this;cases this
       obtain⟨r1,r2,r3⟩:=Z.near K him c hc hndj (N:=(T c).wt (aT S (T c) (aJ ops m listed)).tmps) rfl rfl rfl
       have hnear:Lg o (states ((ops.take m).take i) S (outs.take i)) (dB (tf i) S) ((T c).wt (aT S (T c) (aJ ops m listed)).tmps):=
        ⟨fun z hz=>by
          rw[← hev z hz]
          cases z with
          | tmp t=>exact hlook t (by
           simp only[Oper.looksAt,aii,aim]
           exact .inl ⟨.tmp t,by simpa using hz,rfl⟩)
          | const v=>rfl
          | global g=>rfl
          | func f=>rfl,r1,r2,r3⟩
       have hwp:=hL C G ρ _ w a Q hM hnear (fun d' _ h=>by rw[p1] at h;cases h) (fun d' _ h=>by rw[p2] at h;cases h) (fun d' _ h=>by rw[p3] at h;cases h)
       refine Oper.wp_mono (fun a' w' h=> ?_) hwp
       obtain⟨G',ρ',hM'⟩:=h
       have e:y=⟨y.sv,none,none,none⟩:=by cases y;simp only at p1 p2 p3;subst p1;subst p2;subst p3;rfl
       rw[hd,e] at hM'
       exact fin y.sv G' ρ' w' a' (fun hlt=>hat.1 hlt) hM'
    ·-- the next of the stores' row
     have ei:i=m+c:=by
      by_cases h1:i<m+c
      ·have:=hdn i (by omega) h1
       rw[hun] at this;cases this
      ·by_cases h2:m+c<i
       ·have h3:=hdeps (m+c) (Z.wait i (m+c) (by omega) h2 hin)
        have:=htl (m+c) (ai0 _) (by omega)
        rw[h3] at this;cases this
       ·omega
     subst ei
     have hdm:∀ j,j∈(deps ops).getD m m0→listed.getD j true=true:=fun j hj=>by
      by_cases ec:c=0
      ·subst ec;exact hdeps j hj
      ·have hom:ops[m]? =some ops[m]:=ahO (by omega)
       have hlm:=hdn m (ai0 m) (by omega)
       exact eC K.edges hcl m _ hom (fun e h1 h2=>hcl m _ hom hlm e h1 h2) j hj
     have hM2:=Z.started K hdm hM
     have hstep:=Z.step c o hin hoi
     have hTlen:=Z.len K c hc
     have hTlen':=Z.len K (c+1) (by omega)
     have hog:=Z.guard (m+c) o (by omega) hin hoi
     have hev:∀ x,x∈o.op.operands→((T c).wt (aT S (T c) (aJ ops m listed)).tmps).ev x=(T c).ev x:=fun x hx=>by
      cases x with
      | tmp t=>
       show (aT S (T c) (aJ ops m listed)).tmps.getD t (.v false [.any])=(T c).tmps.getD t (.v false [.any])
       have hu:aJ ops m listed t=false:=by
        cases hu:aJ ops m listed t with
        | false=>rfl
        | true=>
         obtain⟨j,h1,h2,h3⟩:=dA.1 hu
         rcases Z.looks (m+c) o hin hoi t (by
          simp only[Oper.looksAt,aii,aim]
          exact .inl ⟨.tmp t,by simpa using hx,rfl⟩) j (by omega) h3 with h4 | h4
         ·have:=hdeps j h4
          rw[h2] at this;cases this
         ·have hoj:ops[j]? =some (ops[j]'(by omega)):=ahO (by omega)
          have:=Tk K.edges j _ hoj (m+c) h4
          omega
       rw[ahH,eU]
       by_cases hlt:t<S.tmps.length
       ·simp[hlt,hu]
       ·rw[ajP hlt]
        have:(T c).tmps[t]? =none:=ahP (by rw[hTlen];exact Nat.le_of_not_lt hlt)
        rw[ahH,this]
      | const v=>rfl
      | global g=>rfl
      | func f=>rfl
     unfold Go.wpOp
     rw[hio]
     simp only
     have hwt:Region.wanted o (yielded ops.toArray a.tmps)=true:=jh (g:=none) hM2.tmps (by simp[guardOf,hog])
     rw[ajQ hwt]
     left
     have hfr:∀ s,s∈(aT S (T c) (aJ ops m listed)).tmps→s∈(T c).tmps∨Wk S.ids s:=by
      intro s hs
      simp only[aT,aip,aiu] at hs
      obtain⟨t,ht,rfl⟩:=hs
      split
      ·right
       intro d hd
       have hmem:S.tmps.getD t (.v false [.any])∈S.tmps:=by
        rw[ahH,ahO ht];exact ahZ ht
       have:=(EU (ZY hd).1).2
       simp only[St.bq,St.bH,St.bw,agQ,ahi] at this
       exact⟨by simpa using this.1.1 _ hmem,by simpa using this.2.1.1 _ hmem,by simpa using this.2.2.1 _ hmem⟩
      ·left
       rw[ahH,ahO (by rw[hTlen];exact ht)];exact ahZ _
     have hwp:=hstep.sound _ hev hfr C G ρ w a Q hM2
     refine Oper.wp_mono (fun a' w' h=> ?_) hwp
     obtain⟨G',ρ',hM'⟩:=h
     refine ih (c+1) (listed.setIfInBounds (m+c) true) a' w' G' ρ' (by omega) (by simpa using hsz) cl' (fun k h1 h2=> ?_) (fun k h1 h2=> ?_) cnt' ?_
     ·by_cases e:k=m+c
      ·subst e;exact cg (by omega)
      ·rw[bn e];exact hdn k h1 (by omega)
     ·rw[bn (by omega)];exact htl k (by omega) h2
     ·unfold Am
      rw[ajP (by omega)]
      have e:aJ ops m (listed.setIfInBounds (m+c) true)=aJ ops m listed:=funext (Kj (by omega))
      rw[e]
      have htm:(aT S (T (c+1)) (aJ ops m listed)).tmps=lC (aT S (T c) (aJ ops m listed)).tmps o.dst (sv c):=by
       have ht:=hstep.tmps
       cases hd:o.dst with
       | none=>
        rw[hd] at ht
        simp only[lC] at ht ⊢
        simp only[aT,ht]
       | some d=>
        rw[hd] at ht
        simp only[lC] at ht ⊢
        have hdA:bS ops (m+c)=some d:=by unfold bS;rw[hoi];exact hd
        have hu:aJ ops m listed d=false:=by
         cases hu:aJ ops m listed d with
         | false=>rfl
         | true=>
          obtain⟨j,h1,_,h3⟩:=dA.1 hu
          have:=Z.uniq j (m+c) d (by omega) hin h3 hdA
          omega
        apply ahy
        intro t
        rw[ahT,eU,eU]
        by_cases e:d=t
        ·subst e
         have hlen:(aT S (T c) (aJ ops m listed)).tmps.length=S.tmps.length:=by simp[aT]
         rw[hlen,hu]
         by_cases hlt:d<S.tmps.length
         ·simp only[hlt,ajR,agI,ajO]
          rw[ht,ahH,ahV (by rw[hTlen];exact hlt)];rfl
         ·simp[hlt]
        ·rw[ajP e,ht]
         rw[show ((T c).tmps.set d (sv c)).getD t (.v false [.any])=(T c).tmps.getD t (.v false [.any]) from Ih (ahU e)]
      rw[htm]
      exact hM'
   ·exfalso
    obtain⟨j,h1,h2⟩:=hsome
    have hd:=hwaits i (by omega) hlt j (by omega)
    have:=hdeps j hd
    rw[h2] at this;cases this
end
theorem Sj (A:Op→Bool) (ops:List Oper) (S:St) (o:Oper) (l:List Oper):zO (dD A ops S [o]) (dD A ops S (o::l))∧zO (dD A ops S l) (dD A ops S (o::l)):=by
 simp only[dD]
 cases aaw o.op with
 | some a=>
  dsimp only
  cases Qg ops 9 a with
  | true=>exact⟨⟨nofun,fun k _=>by simp[nP,inL]⟩,⟨nofun,fun k h=>h⟩⟩
  | false=>
   simp only[ajD]
   cases HK ops S 9 a with
   | none=>exact⟨⟨nofun,fun k h=>by simp[nP] at h⟩,⟨nofun,fun k h=>by simp[nP] at h⟩⟩
   | some b=>
    refine⟨⟨fun _=>rfl,fun k h=> ?_⟩,⟨fun h=>h,fun k h=> ?_⟩⟩
    ·cases hb:(dD A ops S l).bs with
     | none=>simp[nP,hb] at h
     | some q=>simp only[nP,hb,inL,ahh,Bool.not_or,agE,List.any_nil,agO,ajy] at h ⊢;exact h.1
    ·cases hb:(dD A ops S l).bs with
     | none=>simp[nP,hb] at h
     | some q=>simp only[nP,hb,inL,ahh,Bool.not_or,agE] at h ⊢;exact h.2
 | none=>
  dsimp only
  cases A o.op with
  | true=>exact⟨⟨nofun,fun k _=>by simp[nP,inL]⟩,⟨nofun,fun k h=>h⟩⟩
  | false=>exact⟨⟨fun _=>rfl,fun k _=>by simp[nP,inL]⟩,⟨fun h=>h,fun k h=>h⟩⟩
theorem zO.trans {a b c:Touch} (h:zO a b) (g:zO b c):zO a c:=⟨fun e=>h.1 (g.1 e),fun k hk=>h.2 k (g.2 k hk)⟩
theorem Ve (A:Op→Bool) (ops:List Oper) (S:St) (o:Oper):∀ l:List Oper,o∈l→zO (dD A ops S [o]) (dD A ops S l)
 | [],h=>by cases h
 | p::l,h=>by
  rcases aij.1 h with rfl | h
  ·exact (Sj A ops S o l).1
  ·exact (Ve A ops S o l h).trans (Sj A ops S p l).2
theorem MW (hX:cC X) {ops:List Oper} {S:St} {k:St→Option β} {r:β} {m n:Nat} (hchk:Jk ops m n=true) (h:J8 X ops S k m n=some r) {Q:Exit→Act→World→Prop}
 (hQ:∀ S' G ρ w a,k S'=some r→Mod C G ρ S' w a→Q .normal a w) {a:Act} (hM:Mod C G ρ S w a):
 Go.wpAny X.P .any ops.toArray Q ops.toArray.size (Array.replicate ops.toArray.size false) a { w with drawn:=w.drawn+1 }:=by
 unfold J8 at h
 obtain⟨outs,h1,h2,h3⟩:=Cb hX h
 split at h2
 ·rename_i hnew
  simp only[Jk,agE] at hchk
  obtain⟨c0,c1,c2,c3,c4,c5,c6⟩:=hchk
  have hmn:m<n:=ai3 (ai7 _) (aiY c0)
  have hn:n≤ops.length:=aiY c1
  have K:=cm.of (X:=X) (aiZ (ai3 hmn hn)) c2 c4 h1 (fun i o x hi hx=>(h3 i o x hi hx).1) hnew
  obtain⟨T,sv,t0,h4,h5⟩:=IN hX h2
  simp only[aaq,agE,agN,ahg] at c6
  obtain⟨cdup,call⟩:=c6
  have hget:∀ i o,i<n→ops[i]? =some o→(∀ t,t∈o.looksAt ops.toArray→∀ j,j<n→bS ops j=some t→j∈(deps ops).getD i m0∨i∈(deps ops).getD j m0)∧(m≤i→o.guard=none)∧(m≤i→∀ j,m≤j→j<i→j∈(deps ops).getD i m0):=fun i o hin hi=>by
   have h6:=call i (by simpa using hin)
   rw[hi] at h6
   simp only[agE,ahg,agR,ajs] at h6
   obtain⟨g1,g2,g3⟩:=h6
   refine⟨fun t ht j hj hdj=> ?_,fun hmi=> ?_,fun hmi j hmj hji=> ?_⟩
   ·have h7:=OC (g1 t ht) (k:=j) (by
     obtain⟨o',ho',hd'⟩:=jR hdj
     rw[ahR,cB hj,ho',ajv,hd'])
    rw[ajn] at h7;exact h7
   ·rcases g2 with g2 | g2
    ·have:i<m:=ai3 (ai7 _) (aiY g2)
     omega
    ·exact g2
   ·rcases g3 with g3 | g3
    ·have:i<m:=ai3 (ai7 _) (aiY g3)
     omega
    ·rcases g3 j (by simpa using hji) with g4 | g4
     ·have:j<m:=ai3 (ai7 _) (aiY g4)
      omega
     ·exact ot.1 g4
  have hgd:∀ i o,m≤i→i<n→ops[i]? =some o→o.guard=none:=fun i o hmi hin hi=>(hget i o hin hi).2.1 hmi
  have Z:yp X ops m n S outs (states (ops.take m) S outs) (fun i=>dD (isApp X) ops S (XO ops m n i)) (fun o=>dD (isApp X) ops S [o]) T sv:={
   lt:=hmn
   le:=hn
   t0:=t0
   step:=fun c o hc hi=>h5 c o (by rw[ahN,cB hc];exact hi)
   cover:=fun i c o him hc hi hnd=>Ve (isApp X) ops S o _ (by
    simp only[XO,aim,aiu]
    refine⟨m+c,hc, ?_⟩
    have h1:Nat.ble m (m+c)=true:=Nat.ble_eq_true_of_le (by omega)
    have h2:inM ((deps ops).getD (m+c) m0) i=false:=by
     cases h3:inM ((deps ops).getD (m+c) m0) i with
     | false=>rfl
     | true=>exact absurd (ot.1 h3) hnd
    rw[h1,h2]
    exact hi)
   late:=fun i o him hi hnd y hy=>by
    have h6:=(h3 i o (some y) (by rw[cB him];exact hi) hy).2 (by
     rw[ajn]
     cases hm:inM ((deps ops).getD m m0) i with
     | false=>rfl
     | true=>exact absurd (ot.1 hm) hnd) y rfl
    rw[ajn] at h6
    exact h6
   guard:=hgd
   wait:=fun i j hmj hji hin=>(hget i _ hin (ahO (show i<ops.length by omega))).2.2 (by omega) j hmj hji
   looks:=fun i o hin hi=>(hget i o hin hi).1
   uniq:=fun i j d hin hjn hdi hdj=>by
    obtain⟨oi,e1,e2⟩:=jR hdi
    obtain⟨oj,e3,e4⟩:=jR hdj
    rcases ai9 i j with h | h | h
    ·have:=(lT (l:=ops.take n) cdup (i:=j) (o:=oj) (d:=d) (by rw[cB hjn];exact e3) e4).2
     exact absurd (yE (ops:=ops.take n) (i:=j) (j:=i) (by rw[cB hin];exact e1) e2 h) this
    ·exact h
    ·have:=(lT (l:=ops.take n) cdup (i:=i) (o:=oi) (d:=d) (by rw[cB hin];exact e1) e2).2
     exact absurd (yE (ops:=ops.take n) (i:=i) (j:=j) (by rw[cB hjn];exact e3) e4 h) this }
  have hM':=hM.of_heap (w':={ w with drawn:=w.drawn+1 }) rfl rfl rfl
  have hll:((ops.take n).drop m).length=n - m:=by simp;omega
  rw[hll] at h4
  have hsp:=K.spine (C:=C) (Q:=Q) Z (FV c3) c5 (fun G ρ w a hMn=>vY hX ops (ops.drop n) h4 hQ hMn) n 0 (Array.replicate ops.toArray.size false) a { w with drawn:=w.drawn+1 } G ρ (by omega) (by simp) wk
   (fun k h1 h2=>by omega) (fun k _ hk2=>sV hk2 true) (yj hn) (by
     unfold Am
     rw[ajQ rfl]
     exact DI (aiZ (ai3 hmn hn)) hM')
  rw[show n+(ops.length - n)=ops.toArray.size by simp;omega] at hsp
  exact hsp
 ·cases h2
theorem Fu (hX:cC X) {ops:List Oper} {S:St} {k:St→Option β} {els:Option β} {r:β} (h:Ft X ops S k els=some r) {Q:Exit→Act→World→Prop}
 (hQ:∀ S' G ρ w a,k S'=some r→Mod C G ρ S' w a→Q .normal a w) {a:Act} (hM:Mod C G ρ S w a)
 (hels:els=some r→Go.wpAny X.P .any ops.toArray Q ops.toArray.size (Array.replicate ops.toArray.size false) a { w with drawn:=w.drawn+1 }):
 Go.wpAny X.P .any ops.toArray Q ops.toArray.size (Array.replicate ops.toArray.size false) a { w with drawn:=w.drawn+1 }:=by
 unfold Ft at h
 simp only at h
 split at h
 ·rename_i hchk
  generalize FN (deps ops) ops.length=n at h hchk
  obtain⟨outs,h1,h2,h3⟩:=yX hX h
  split at h2
  ·rename_i hnew
   simp only[Ic,agE] at hchk
   obtain⟨⟨⟨⟨⟨c1,c2⟩,c3⟩,c4⟩,c5⟩,_⟩:=hchk
   have hn:n≤ops.length:=aiY c1
   have K:=cm.of (X:=X) hn c2 c4 h1 h3 hnew
   have hM':=hM.of_heap (w':={ w with drawn:=w.drawn+1 }) rfl rfl rfl
   have hany:=K.any (C:=C) (Q:=Q) (FV c3) c5 (fun G ρ w a hMn=>vY hX ops (ops.drop n) h2 hQ hMn) n (Array.replicate ops.toArray.size false) a { w with drawn:=w.drawn+1 } G ρ (by simp) wk
    (fun m _ hm2=>sV hm2 true) (yj hn) (DI hn hM')
   rw[show n+(ops.length - n)=ops.toArray.size by simp;omega] at hany
   exact hany
  ·cases h2
 ·split at h
  ·rename_i hchk
   generalize FN (deps ops) ops.length - 1=m at h hchk
   obtain⟨outs,h1,h2,h3⟩:=yX hX h
   split at h2
   ·rename_i hnew
    simp only[Xi,agE] at hchk
    obtain⟨⟨⟨⟨⟨⟨c1,c2⟩,c3⟩,c4⟩,c5⟩,c6⟩,_⟩:=hchk
    have hm:m<ops.length:=aiY c1
    have K:=cm.of (X:=X) (aiZ hm) c2 c4 h1 h3 hnew
    have hos:ops[m]? =some ops[m]:=ahO hm
    unfold acu at c6
    rw[hos] at c6
    simp only[agE,ajs,ahg] at c6
    obtain⟨⟨⟨⟨g1,g2⟩,g3⟩,g4⟩,g5⟩:=c6
    have hst:∃ t ad x,ops[m].op= .store t ad x:=by
     revert g1
     cases ops[m].op<;>intro g1<;>first | exact⟨_,_,_,rfl⟩ | exact absurd g1 agJ
    obtain⟨ty,ad,x,hop⟩:=hst
    rw[ahr hm] at h2
    have h2':cV X ops[m] (states (ops.take m) S outs) (fun S=>nG X ops (ops.drop (m+1)) S k)=some r:=by
     simpa [nG,guardOf,g2] using h2
    obtain⟨S',h4,h5,h6⟩:=Sg hop h2'
    have hM':=hM.of_heap (w':={ w with drawn:=w.drawn+1 }) rfl rfl rfl
    have hlate:=K.late (C:=C) (Q:=Q) hm (FV c3) hos g2 (fun i him=>by
     have:=g4 i (by simpa using him)
     simp only[agR] at this
     rcases this with h | h
     ·exact .inl (ot.1 h)
     ·right
      have hoi:ops[i]? =some ops[i]:=ahO (by omega)
      rw[hoi] at h
      simp only[agE,ajs] at h
      exact⟨_,hoi,h⟩)
     (fun t ht j hj hdj=>by
       have:=g5 t (by simpa using ht) j (by simpa using hj)
       rw[ajQ (by simp[hdj])] at this
       exact ot.1 this)
     (S':=S') ⟨h5,fun tm hev=>by
       have hs:=h6 tm (hev ad (by simp[hop,Op.operands])) (hev x (by simp[hop,Op.operands]))
       obtain⟨S2,e2,hs2⟩:=Cc hX hs
       cases e2
       exact hs2⟩ c5
     (fun G ρ w a hMn=>vY hX ops (ops.drop (m+1)) h4 hQ hMn) (m+1) (Array.replicate ops.toArray.size false) a { w with drawn:=w.drawn+1 } G ρ (by simp) wk
     (fun k _ hk2=>sV hk2 true) (yj hm) (by
       unfold tZ
       rw[ajP (by rw[sV hm];simp)]
       exact DI (aiZ hm) hM')
    rw[show m+1+(ops.length - (m+1))=ops.toArray.size by simp;omega] at hlate
    exact hlate
   ·cases h2
  ·split at h
   ·rename_i hchk
    generalize FN (deps ops) ops.length - 1=m at h hchk
    obtain⟨outs,h1,h2,h3⟩:=yX hX h
    split at h2
    ·rename_i hnew
     simp only[Xj,agE] at hchk
     obtain⟨⟨⟨⟨⟨⟨c1,c2⟩,c3⟩,c4⟩,c5⟩,c6⟩,_⟩:=hchk
     have hm:m<ops.length:=aiY c1
     have K:=cm.of (X:=X) (aiZ hm) c2 c4 h1 h3 hnew
     have hos:ops[m]? =some ops[m]:=ahO hm
     unfold Z4 at c6
     rw[hos] at c6
     simp only[agE,ajs,ahg] at c6
     obtain⟨⟨⟨⟨g1,g2⟩,g3⟩,g4⟩,g5⟩:=c6
     unfold runM at h2
     rw[hos] at h2
     simp only at h2
     split at h2
     ·rename_i ty ad x hop
      split at h2
      ·rename_i b off had
       obtain⟨S',h4,h5,h6,h7,h8⟩:=adl hop had h2
       cases hfc:(Mt ops m).all fun d=> !S'.boxes.any fun p=>p.2.any (CV.bq d) with
       | false=>rw[hfc] at h4;cases h4
       | true=>
        rw[hfc,ajE] at h4
        simp only[ahg,agN] at hfc
        have hM':=hM.of_heap (w':={ w with drawn:=w.drawn+1 }) rfl rfl rfl
        have hlate:=K.afU (C:=C) (Q:=Q) hm (FV c3) hos g2 (fun i him=>by
         have:=g4 i (by simpa using him)
         simp only[agR] at this
         rcases this with h | h
         ·exact .inl (ot.1 h)
         ·right
          have hoi:ops[i]? =some ops[i]:=ahO (by omega)
          rw[hoi] at h
          simp only[agE,ajs] at h
          exact⟨_,hoi,h⟩)
         (fun t ht j hj hdj=>by
           have:=g5 t (by simpa using ht) j (by simpa using hj)
           rw[ajQ (by simp[hdj])] at this
           exact ot.1 this)
         (S':=S') ⟨h5,h6,h7,fun tm rw ob hev=>by
           have hs:=h8 tm rw ob (hev ad (by simp[hop,Op.operands])) (hev x (by simp[hop,Op.operands]))
           obtain⟨S2,e2,hs2⟩:=Cc hX hs
           cases e2
           exact hs2⟩
         (fun i d p him hnd hpi hmk hpd=>hfc d (by
           simp only[Mt,aim,aiu]
           refine⟨i,him, ?_⟩
           rw[hpi]
           have h9:inM ((deps ops).getD m m0) i=false:=by
            cases h3:inM ((deps ops).getD m m0) i with
            | false=>rfl
            | true=>exact absurd (ot.1 h3) hnd
           simp only[hmk,h9,agO,Bool.and_self,ajR]
           exact hpd)) c5
         (fun G ρ w a hMn=>vY hX ops (ops.drop (m+1)) h4 hQ hMn) (m+1) (Array.replicate ops.toArray.size false) a { w with drawn:=w.drawn+1 } G ρ (by simp) wk
         (fun k _ hk2=>sV hk2 true) (yj hm) (by
           unfold p9
           rw[ajP (by rw[sV hm];simp)]
           exact DI (aiZ hm) hM')
        rw[show m+1+(ops.length - (m+1))=ops.toArray.size by simp;omega] at hlate
        exact hlate
      ·cases h2
     ·cases h2
    ·cases h2
   ·split at h
    ·rename_i hchk
     exact MW hX hchk h hQ hM
    ·split at h
     ·rename_i hchk
      simp only[agE] at hchk
      exact MW hX hchk.1 h hQ hM
     ·exact hels h
end Go.Dn
namespace Go.Dn
variable {P:Program}
theorem kC {ops:Array Oper} {Q:Exit→Act→World→Prop} {i:Nat} {o:Oper} {K:Act→World→Prop} {a:Act} {w:World} (hi:ops[i]? =some o) (hg:o.guard=none) (h:o.wp P a w K Q):Go.wpOp P ops Q i K a w:=by
 unfold Go.wpOp
 rw[hi]
 simp only
 rw[ajQ (by simp[Region.wanted,hg])]
 exact .inl h
theorem Cw {o:Oper} {a:Act} {w w':World} {v:Value} {K:Act→World→Prop} {Q:Exit→Act→World→Prop} (hr:(execOp a.eval o).run P w= .ok (.value v) w') (hK:K (a.put o.dst v) w'):o.wp P a w K Q:=by
 unfold Oper.wp
 rw[hr]
 exact hK
theorem qh {ops:List Oper} {mask:Array Bool} {may:List Nat} (h:yF ops mask may=true) {n:Nat} {a:Act} {w:World} {Q:Exit→Act→World→Prop}
 (hs:∀ i,inL may i=true→Go.wpOp P ops.toArray Q i (Go.wpAny P .any ops.toArray Q n (mask.setIfInBounds i true)) a w):Go.wpAny P .any ops.toArray Q (n+1) mask a w:=by
 simp only[yF,agE,agN,ahg] at h
 refine⟨fun h0=> ?_,fun i hi=>hs i (h.2 i hi)⟩
 rw[h0] at h
 cases h.1
theorem Kq (xs:Array MapEntry) (p:MapEntry→Bool):xs.findIdx? p=xs.toList.findIdx? p:=by
 cases xs
 simp
theorem Kr {α:Type} (f:α→α) (a:α):∀ l:List α,(l++[a]).modify l.length f=l++[f a]
 | []=>rfl
 | b::r=>by simp[List.modify_succ_cons,Kr f a r]
theorem Jl {α:Type}:∀ (l:List α) (j:Nat) (a:α),l[j]? =some a→l.set j a=l
 | [],_,_,h=>by simp at h
 | b::r,0,a,h=>by simp at h;simp[h]
 | b::r,j+1,a,h=>by simp at h;simp[Jl r j a h]
theorem Aw {α:Type} (f:α→α):∀ (l:List α) (j:Nat) (a:α),l[j]? =some a→l.modify j f=l.set j (f a)
 | [],_,_,h=>by simp at h
 | b::r,0,a,h=>by simp at h;simp[h]
 | b::r,j+1,a,h=>by simp at h;simp[List.modify_succ_cons,Aw f r j a h]
theorem aa0 {k v:Ty} {a:k.den} {l:List (k.den×v.den)} {z:v.den} (h:∀ p,p∈l→k.beq a p.1=false):(cw (l++[(a,z)]) a).getD z=z:=by
 unfold cw
 rw[List.find?_append,ahC.2 (by intro p hp;simp[h p hp])]
 simp only[Option.none_or,List.find?_cons,List.find?_nil]
 cases k.beq a a<;>rfl
theorem R9 {t kt et:TypeId} {kk vv:Ty} {key:kk.den} {z:vv.den} {l:List (kk.den×vv.den)} {kv:Value} {b:Nat} {es:Array MapEntry} {clock:Nat} {G:Gh} {w:World} (ht:P.underlying t=some (.map kt et)) (hchk:gA P kt kk=true)
 (hz:Ah P et vv=some z) (hk:bQ G kk key kv) (hb:w.heap[b]? =some (.map es clock)) (hl:aU (vj G kk vv) l es.toList):
 ∃ v,(Instr.lookup t (.map (some b)) kv false).run P w= .ok v w∧bQ G vv ((cw l key).getD z) v:=by
 obtain⟨iz,zv,hiz,hzi,hzr,hzv⟩:=Ev hz
 obtain⟨fr,hf1,hf2⟩:=Ef (w:=w) hchk hk hl
 have hg:=hf2.get
 have hobj:(getObj b).run P w= .ok (.map es clock) w:=mQ hb
 cases fr with
 | none=>
  simp only at hg
  refine⟨zv, ?_,by rw[hg];exact hzv G⟩
  simp only[Instr.lookup,Sem.run_bind,run_underlying ht,Result.andThen_ok,hobj,Sem.run_pure,mY hchk hk,hf1,hzr w]
  rfl
 | some p=>
  obtain⟨i,u⟩:=p
  simp only at hg
  obtain⟨q,e,g1,g2,g3,g4⟩:=hg
  obtain⟨e',ge,gr⟩:=hl.get g1
  rw[g2] at ge
  cases ge
  refine⟨u, ?_,by rw[g4,g3];exact gr.2⟩
  simp only[Instr.lookup,Sem.run_bind,run_underlying ht,Result.andThen_ok,hobj,Sem.run_pure,mY hchk hk,hf1]
  rfl
theorem find_born:∀ {l:List MapEntry},l.Pairwise (fun a b=>a.born<b.born)→∀ {i:Nat} {e:MapEntry},l[i]? =some e→l.findIdx? (fun x=>((x.born:Nat):Int)==((e.born:Nat):Int))=some i
 | [],_,i,e,h=>by simp at h
 | a::r,hp,0,e,h=>by
  simp only[ahM,Option.some.injEq] at h
  subst h
  simp[ahD]
 | a::r,hp,i+1,e,h=>by
  simp only[ahL] at h
  rw[aiA] at hp
  have hne:=hp.1 e (air h)
  have hb:(((a.born:Nat):Int)==((e.born:Nat):Int))=false:=by
   simp only[ajz,ne_eq,Int.natCast_inj]
   omega
  rw[ahD,hb]
  simp[find_born hp.2 h]
def ZQ (P:Program) (G:Gh) (kk vv:Ty) (l:List (kk.den×vv.den)) (key:kk.den) (b:Nat) (es:Array MapEntry) (clock st:Nat):Prop:=
 ∀ (t:TypeId) (w2:World) (val:Value) (y:vv.den),w2.heap[b]? =some (.map es clock)→bQ G vv y val→
  ∃ es':Array MapEntry,(Instr.entryStore t (.map (some b)) (goInt st) val).run P w2= .ok () { w2 with heap:=w2.heap.setIfInBounds b (.map es' clock) }∧aU (vj G kk vv) (oa l key y) es'.toList∧
   es'.toList.map (·.born)=es.toList.map (·.born)
theorem Yu {t kt et:TypeId} {kk vv:Ty} {key:kk.den} {z:vv.den} {l:List (kk.den×vv.den)} {kv:Value} {b:Nat} {es:Array MapEntry} {clock:Nat} {G:Gh} {w:World} (ht:P.underlying t=some (.map kt et)) (hchk:gA P kt kk=true)
 (hz:Ah P et vv=some z) (hk:bQ G kk key kv) (hb:w.heap[b]? =some (.map es clock)) (hl:aU (vj G kk vv) l es.toList) (h1:∀ (i:Nat) (e:MapEntry),es.toList[i]? =some e→e.born<clock) (h2:es.toList.Pairwise (fun a b=>a.born<b.born)):
 ∃ (l1:List (kk.den×vv.den)) (es1:Array MapEntry) (clock1 st:Nat) (v0:Value),(Instr.mapEntry t (.map (some b)) kv).run P w= .ok (.tuple #[v0,goInt st]) { w with heap:=w.heap.setIfInBounds b (.map es1 clock1) }∧aU (vj G kk vv) l1 es1.toList∧
  (cw l1 key).getD z=(cw l key).getD z∧(∀ (i:Nat) (e:MapEntry),es1.toList[i]? =some e→e.born<clock1)∧es1.toList.Pairwise (fun a b=>a.born<b.born)∧ZQ P G kk vv l key b es1 clock1 st:=by
 obtain⟨iz,zv,hiz,hzi,hzr,hzv⟩:=Ev hz
 obtain⟨fr,hf1,hf2⟩:=Ef (w:=w) hchk hk hl
 have hg:=hf2.get
 have hset:=fun y=>hf2.set (y:vv.den)
 cases hf2 with
 | no hn=>
  simp only at hg hset
  have hpw:(es.push ⟨kv,zv,clock⟩).toList.Pairwise (fun a b=>a.born<b.born):=by
   rw[agB,aiz]
   refine⟨h2,by simp,fun a ha b' hb'=> ?_⟩
   rcases aiv.1 hb' with rfl
   obtain⟨i,hi⟩:=aio.1 ha
   exact h1 i a hi
  refine⟨l++[(key,z)],es.push ⟨kv,zv,clock⟩,clock+1,clock,zv, ?_, ?_, ?_, ?_,hpw, ?_⟩
  ·simp[Instr.mapEntry,run_underlying ht,mQ hb,mY hchk hk,hf1,hzr,xq _ hb]
  ·rw[agB]
   exact hl.append ⟨_,_,rfl,⟨hk,hzv G⟩,rfl⟩
  ·rw[hg,aa0 hn];rfl
  ·intro i e hi
   rw[agB,ahI] at hi
   split at hi
   ·have:=h1 i e hi;omega
   ·simp only[List.getElem?_singleton] at hi
    split at hi
    ·cases hi;simp
    ·cases hi
  ·intro t2 w2 val y hw2 hy
   have hidx:(es.push ⟨kv,zv,clock⟩).findIdx? (fun e=>((e.born:Nat):Int)==((clock:Nat):Int))=some es.size:=by
    have:=find_born hpw (i:=es.size) (e:=⟨kv,zv,clock⟩) (by simp)
    simpa [Kq] using this
   have hmod:(es.push ⟨kv,zv,clock⟩).modify es.size (fun e=>{ e with val:=val })=es.push ⟨kv,val,clock⟩:=by
    apply Array.ext'
    rw[Array.toList_modify,agB,agB, ← agw,Kr]
   refine⟨es.push ⟨kv,val,clock⟩, ?_, ?_, ?_⟩
   ·simp[Instr.entryStore,mQ hw2,asInt,asIntOf,goInt,hidx,hmod,xq _ hw2]
   ·rw[hset,agB]
    exact hl.append ⟨_,_,rfl,⟨hk,hy⟩,rfl⟩
   ·simp
 | yes i p e hp he hbq hne=>
  simp only at hg hset
  obtain⟨e',he',hr⟩:=hl.get hp
  rw[he] at he'
  cases he'
  have hkey:e.key=kv:=by
   have:=UQ hchk hbq
   subst this
   exact OO hchk hr.1 hk
  have hgi:es[i]? =some e:=by simpa using he
  have hsame:es.modify i (fun e=>{ e with key:=kv })=es:=by
   apply Array.ext'
   rw[Array.toList_modify,Aw _ _ _ _ he]
   have:({ e with key:=kv }:MapEntry)=e:=by rw[← hkey]
   rw[this]
   exact Jl _ _ _ he
  have hkt:(Instr.keyThatStays (((es[i]?).map (·.key)).getD kv) kv).run P w= .ok kv w:=by
   simp[Instr.keyThatStays,hgi,hkey,sameBits_self hchk hk]
  rw[hgi] at hkt
  refine⟨l,es,clock,e.born,e.val, ?_,hl,rfl,h1,h2, ?_⟩
  ·simp only[Instr.mapEntry,Sem.run_bind,run_underlying ht,Result.andThen_ok,mQ hb,mY hchk hk,hf1,hkt,hsame,xq _ hb,hgi]
   rfl
  ·intro t2 w2 val y hw2 hy
   have hidx:es.findIdx? (fun x=>((x.born:Nat):Int)==((e.born:Nat):Int))=some i:=by
    rw[Kq]
    exact find_born h2 he
   have hml:(es.modify i fun e=>{ e with val:=val }).toList=es.toList.set i { e with val:=val }:=by
    rw[Array.toList_modify,Aw _ _ _ _ he]
   refine⟨es.modify i fun e=>{ e with val:=val }, ?_, ?_, ?_⟩
   ·simp[Instr.entryStore,mQ hw2,asInt,asIntOf,goInt,hidx,xq _ hw2]
   ·rw[hset,hml]
    refine hl.setAt ⟨?_,hy⟩ i
    show bQ G kk key e.key
    rw[hkey];exact hk
   ·rw[hml,List.map_set]
    have hlt:i<(es.toList.map (·.born)).length:=by
     have:=(ahQ.1 he).1
     simpa using this
    have:(es.toList.map (·.born))[i]? =some e.born:=by rw[ahR,he];rfl
    exact Jl _ _ _ this
variable {X:Cx}
theorem fR {a:Act} {d t:Nat} {v:Value} (h:t≠d):(a.put (some d) v).eval (.tmp t)=a.eval (.tmp t):=
 Act.eval_put fun e he hx=>by cases he;cases hx;exact h rfl
theorem Ks {a:Act} {d:Nat} {v:Value} (h:d<a.tmps.size):(a.put (some d) v).eval (.tmp d)=v:=by
 simp[Act.eval,Act.put,h]
def St.obj (S:St) (j:Nat) (q:qR):St:={ S with objs:=(j,q)::S.objs }
structure vi (X:Cx) (ops:List Oper) (o2 o4 o5 o6 o7:Oper) (t kt et:TypeId) (m x d2 d4 d5 d6 j b:Nat) (kk vv:Ty) (l:List (kk.den×vv.den)) (key:kk.den) (z y:vv.den) (kv:Value) (s4:SV) (S:St):Prop where
 i2:ops.toArray[2]? =some o2
 i4:ops.toArray[4]? =some o4
 i5:ops.toArray[5]? =some o5
 i6:ops.toArray[6]? =some o6
 i7:ops.toArray[7]? =some o7
 g2:o2.guard=none
 g4:o4.guard=none
 g5:o5.guard=none
 g6:o6.guard=none
 g7:o7.guard=none
 p2:o2.op= .lookup t (.tmp m) (.tmp x) false
 p5:o5.op= .mapEntry t (.tmp m) (.tmp x)
 p6:o6.op= .extract (.tmp d5) 1
 p7:∃ t',o7.op= .entryStore t' (.tmp m) (.tmp d6) (.tmp d4)
 e2:o2.dst=some d2
 e4:o4.dst=some d4
 e5:o5.dst=some d5
 e6:o6.dst=some d6
 e7:o7.dst=none
 ne:m≠d2∧m≠d4∧m≠d5∧m≠d6∧x≠d2∧x≠d4∧x≠d5∧x≠d6
 nd:d2≠d4∧d2≠d5∧d2≠d6∧d4≠d5∧d4≠d6∧d5≠d6
 ord:Rf ops=true
 ht:X.P.underlying t=some (.map kt et)
 hchk:gA X.P kt kk=true
 hz:Ah X.P et vv=some z
 q4:iU X.P o4 (S.put (some d2) (gK vv ((cw l key).getD z))) mG s4
 stp:∀ T,T=S∨T=S.put (some d2) (gK vv ((cw l key).getD z))∨T=(S.put (some d2) (gK vv ((cw l key).getD z))).put (some d4) s4→T.bw j=false
 any:∀ T,T=S∨T=S.put (some d2) (gK vv ((cw l key).getD z))∨T=(S.put (some d2) (gK vv ((cw l key).getD z))).put (some d4) s4→T.tmps.set d5 (.v false [.any])=T.tmps∧T.tmps.set d6 (.v false [.any])=T.tmps
 lt5:d5<S.tmps.length
 lt6:d6<S.tmps.length
 hobj:look S.objs j=some (.map kk vv l)
 pk:kY ((S.put (some d2) (gK vv ((cw l key).getD z))).put (some d4) s4) [] vv (((S.put (some d2) (gK vv ((cw l key).getD z))).put (some d4) s4).ev (.tmp d4))=some y
variable {ops:List Oper} {o2 o4 o5 o6 o7:Oper} {t kt et:TypeId} {m x d2 d4 d5 d6 j b:Nat} {kk vv:Ty} {l:List (kk.den×vv.den)} {key:kk.den} {z y:vv.den} {kv:Value} {s4:SV} {S:St} {C:Fr X.P}
structure Lf (C:Fr X.P) (G:Gh) (m x j b:Nat) (kk:Ty) (key:kk.den) (kv:Value) (T:St) (a:Act) (w:World):Prop where
 mod:∃ ρ,Mod C G ρ T w a∧ρ.ob j= .map (some b)
 hm:a.eval (.tmp m)= .map (some b)
 hx:a.eval (.tmp x)=kv
 hk:bQ G kk key kv
structure Inv1 (C:Fr X.P) (G:Gh) (m x j b:Nat) (kk vv:Ty) (l:List (kk.den×vv.den)) (key:kk.den) (z:vv.den) (kv:Value) (st:Value→Act→Prop) (T:St) (a:Act) (w:World):Prop where
 mod:∃ ρ l1 es clock s,Mod C G ρ (T.obj j (.map kk vv l1)) w a∧ρ.ob j= .map (some b)∧w.heap[b]? =some (.map es clock)∧(cw l1 key).getD z=(cw l key).getD z∧ZQ X.P G kk vv l key b es clock s∧st (goInt s) a
 hm:a.eval (.tmp m)= .map (some b)
 hx:a.eval (.tmp x)=kv
 hk:bQ G kk key kv
def Kh (d5:Nat) (s:Value) (a:Act):Prop:=∃ v0,a.eval (.tmp d5)= .tuple #[v0,s]
def Kg (d6:Nat) (s:Value) (a:Act):Prop:=a.eval (.tmp d6)=s
section
variable {G:Gh} {a:Act} {w:World} {K:Act→World→Prop} {Q:Exit→Act→World→Prop} {T:St}
theorem vi.entry (E:vi X ops o2 o4 o5 o6 o7 t kt et m x d2 d4 d5 d6 j b kk vv l key z y kv s4 S) (hT:T=S∨T=S.put (some d2) (gK vv ((cw l key).getD z))∨T=(S.put (some d2) (gK vv ((cw l key).getD z))).put (some d4) s4)
 (h:Lf C G m x j b kk key kv T a w) (hK:∀ a w,Inv1 C G m x j b kk vv l key z kv (Kh d5) T a w→K a w):o5.wp X.P a w K Q:=by
 obtain⟨⟨ρ,hM,hb⟩,hm,hx,hk⟩:=h
 have hobj:look T.objs j=some (.map kk vv l):=by
  rcases hT with e | e | e<;>subst e<;>exact E.hobj
 obtain⟨b',es,clock,h2,h3,h4,h5,h6,h7⟩:=hM.objs j _ hobj
 rw[hb] at h2
 cases h2
 obtain⟨l1,es1,clock1,s,v0,hrun,g1,g2,g3,g4,g5⟩:=Yu (w:=w) E.ht E.hchk E.hz hk h4 h5 (fun i e hi=>(h6 i e hi).2) h7
 have hlen:T.tmps.length=S.tmps.length:=by
  rcases hT with e | e | e<;>subst e<;>simp[St.put]
 refine Cw (v:= .tuple #[v0,goInt s]) (w':={ w with heap:=w.heap.setIfInBounds b (.map es1 clock1) }) ?_ (hK _ _ ?_)
 ·simp only[execOp,E.p5,hm,hx,Sem.run_bind,hrun,Result.andThen_ok,Sem.run_pure]
 ·have hM2:=hM.setObj (j:=j) (b:=b) (q:= .map kk vv l1) (st:=fun i=>((es1.toList[i]?).map fun e=>(e.born:Int)).getD 0) (.inl (E.stp T hT)) h3 (fun t l _ e=>by cases e) (w':={ w with heap:=w.heap.setIfInBounds b (.map es1 clock1) }) Grow.setObj
   ⟨b,es1,clock1,hb,h3,by rw[agu (b9 h4)],g1,fun i e hi=>⟨by simp only[ajR,hi,ajv,ajr],g3 i e hi⟩,g4⟩
  have hM3:=hM2.put (some d5) (s:= .v false [.any]) (v:= .tuple #[v0,goInt s]) (fun _ _=>trivial)
  have hst:({ T with objs:=(j,qR.map kk vv l1)::T.objs }:St).put (some d5) (.v false [.any])=T.obj j (.map kk vv l1):=by
   show (⟨T.tmps.set d5 (.v false [.any]),_,_,_⟩:St)=_
   rw[(E.any T hT).1]
   rfl
  rw[hst] at hM3
  rw[E.e5]
  refine⟨⟨_,l1,es1,clock1,s,hM3,hb,by rw[agu (b9 h4)],g2,g5,v0,Ks ?_⟩, ?_, ?_,hk⟩
  ·rw[hM.tmps.1,hlen];exact E.lt5
  ·rw[fR E.ne.2.2.1];exact hm
  ·rw[fR E.ne.2.2.2.2.2.2.1];exact hx
theorem vi.stamp (E:vi X ops o2 o4 o5 o6 o7 t kt et m x d2 d4 d5 d6 j b kk vv l key z y kv s4 S) (hT:T=S∨T=S.put (some d2) (gK vv ((cw l key).getD z))∨T=(S.put (some d2) (gK vv ((cw l key).getD z))).put (some d4) s4)
 (h:Inv1 C G m x j b kk vv l key z kv (Kh d5) T a w) (hK:∀ a w,Inv1 C G m x j b kk vv l key z kv (Kg d6) T a w→K a w):o6.wp X.P a w K Q:=by
 obtain⟨⟨ρ,l1,es1,clock1,s,hM,hb,hw,g2,g5,v0,hv0⟩,hm,hx,hk⟩:=h
 have hlen:T.tmps.length=S.tmps.length:=by
  rcases hT with e | e | e<;>subst e<;>simp[St.put]
 refine Cw (v:=goInt s) (w':=w) ?_ (hK _ _ ?_)
 ·simp[execOp,E.p6,hv0,Instr.extract]
 ·have hM3:=hM.put (some d6) (s:= .v false [.any]) (v:=goInt s) (fun _ _=>trivial)
  have hst:(T.obj j (.map kk vv l1)).put (some d6) (.v false [.any])=T.obj j (.map kk vv l1):=by
   show (⟨T.tmps.set d6 (.v false [.any]),_,_,_⟩:St)=_
   rw[(E.any T hT).2]
   rfl
  rw[hst] at hM3
  rw[E.e6]
  refine⟨⟨_,l1,es1,clock1,s,hM3,hb,hw,g2,g5,Ks ?_⟩, ?_, ?_,hk⟩
  ·have:=hM.tmps.1
   rw[this]
   show d6<T.tmps.length
   rw[hlen];exact E.lt6
  ·rw[fR E.ne.2.2.2.1];exact hm
  ·rw[fR E.ne.2.2.2.2.2.2.2];exact hx
theorem vi.afV (E:vi X ops o2 o4 o5 o6 o7 t kt et m x d2 d4 d5 d6 j b kk vv l key z y kv s4 S)
 (h:Lf C G m x j b kk key kv S a w) (hK:∀ a w,Lf C G m x j b kk key kv (S.put (some d2) (gK vv ((cw l key).getD z))) a w→K a w):o2.wp X.P a w K Q:=by
 obtain⟨⟨ρ,hM,hb⟩,hm,hx,hk⟩:=h
 obtain⟨b',es,clock,h2,h3,h4,h5,h6,h7⟩:=hM.objs j _ E.hobj
 rw[hb] at h2
 cases h2
 obtain⟨v,hrun,hv⟩:=R9 (w:=w) E.ht E.hchk E.hz hk h4 h5
 refine Cw (v:=v) (w':=w) ?_ (hK _ _ ?_)
 ·simp only[execOp,E.p2,hm,hx,Sem.run_bind,hrun,Result.andThen_ok,Sem.run_pure]
 ·rw[E.e2]
  exact⟨⟨ρ,hM.put (some d2) (fun _ _=>Cp ρ hv),hb⟩,by rw[fR E.ne.1];exact hm,by rw[fR E.ne.2.2.2.2.1];exact hx,hk⟩
theorem vi.aes (E:vi X ops o2 o4 o5 o6 o7 t kt et m x d2 d4 d5 d6 j b kk vv l key z y kv s4 S) {st:Value→Act→Prop} (hst:∀ s a v,st s a→st s (a.put (some d2) v))
 (h:Inv1 C G m x j b kk vv l key z kv st S a w) (hK:∀ a w,Inv1 C G m x j b kk vv l key z kv st (S.put (some d2) (gK vv ((cw l key).getD z))) a w→K a w):o2.wp X.P a w K Q:=by
 obtain⟨⟨ρ,l1,es1,clock1,s,hM,hb,hw,g2,g5,hs⟩,hm,hx,hk⟩:=h
 obtain⟨b',es,clock,h2,h3,h4,h5,h6,h7⟩:=hM.objs j (.map kk vv l1) (by simp[St.obj,aD])
 rw[hb] at h2
 cases h2
 rw[hw] at h4
 cases h4
 obtain⟨v,hrun,hv⟩:=R9 (w:=w) E.ht E.hchk E.hz hk hw h5
 refine Cw (v:=v) (w':=w) ?_ (hK _ _ ?_)
 ·simp only[execOp,E.p2,hm,hx,Sem.run_bind,hrun,Result.andThen_ok,Sem.run_pure]
 ·rw[E.e2]
  refine⟨⟨ρ,l1,es1,clock1,s,hM.put (some d2) (fun _ _=> ?_),hb,hw,g2,g5,hst _ _ _ hs⟩,by rw[fR E.ne.1];exact hm,by rw[fR E.ne.2.2.2.2.1];exact hx,hk⟩
  rw[← g2]
  exact Cp ρ hv
theorem Z7 {ρ:Env} {w:World} {T:St} (h:Mem C G ρ T w):Mem C G ρ mG w:=h.sub (fun _ _ h=>by simp[mG,look] at h) (fun _ _ h=>by simp[mG,look] at h) (fun _ _ h=>by simp[mG,look] at h)
theorem vi.afP (E:vi X ops o2 o4 o5 o6 o7 t kt et m x d2 d4 d5 d6 j b kk vv l key z y kv s4 S)
 (h:Lf C G m x j b kk key kv (S.put (some d2) (gK vv ((cw l key).getD z))) a w) (hK:∀ a w,Lf C G m x j b kk key kv ((S.put (some d2) (gK vv ((cw l key).getD z))).put (some d4) s4) a w→K a w):o4.wp X.P a w K Q:=by
 obtain⟨⟨ρ,hM,hb⟩,hm,hx,hk⟩:=h
 obtain⟨v,hrun,hv⟩:=E.q4 C G ρ w a (Z7 hM.toMem) (fun x _=>hM.tmps.ev x)
 refine Cw (v:=v) (w':=w) hrun (hK _ _ ?_)
 rw[E.e4]
 exact⟨⟨ρ,hM.put (some d4) (fun _ _=>hv),hb⟩,by rw[fR E.ne.2.1];exact hm,by rw[fR E.ne.2.2.2.2.2.1];exact hx,hk⟩
theorem vi.ael (E:vi X ops o2 o4 o5 o6 o7 t kt et m x d2 d4 d5 d6 j b kk vv l key z y kv s4 S) {st:Value→Act→Prop} (hst:∀ s a v,st s a→st s (a.put (some d4) v))
 (h:Inv1 C G m x j b kk vv l key z kv st (S.put (some d2) (gK vv ((cw l key).getD z))) a w) (hK:∀ a w,Inv1 C G m x j b kk vv l key z kv st ((S.put (some d2) (gK vv ((cw l key).getD z))).put (some d4) s4) a w→K a w):o4.wp X.P a w K Q:=by
 obtain⟨⟨ρ,l1,es1,clock1,s,hM,hb,hw,g2,g5,hs⟩,hm,hx,hk⟩:=h
 obtain⟨v,hrun,hv⟩:=E.q4 C G ρ w a (Z7 hM.toMem) (fun x _=>by
  have:=hM.tmps.ev x
  cases x<;>exact this)
 refine Cw (v:=v) (w':=w) hrun (hK _ _ ?_)
 rw[E.e4]
 exact⟨⟨ρ,l1,es1,clock1,s,hM.put (some d4) (fun _ _=>hv),hb,hw,g2,g5,hst _ _ _ hs⟩,by rw[fR E.ne.2.1];exact hm,by rw[fR E.ne.2.2.2.2.2.1];exact hx,hk⟩
theorem vi.store (E:vi X ops o2 o4 o5 o6 o7 t kt et m x d2 d4 d5 d6 j b kk vv l key z y kv s4 S)
 (h:Inv1 C G m x j b kk vv l key z kv (Kg d6) ((S.put (some d2) (gK vv ((cw l key).getD z))).put (some d4) s4) a w)
 (hK:∀ ρ a w,Mod C G ρ (((S.put (some d2) (gK vv ((cw l key).getD z))).put (some d4) s4).obj j (.map kk vv (oa l key y))) w a→K a w):o7.wp X.P a w K Q:=by
 obtain⟨⟨ρ,l1,es1,clock1,s,hM,hb,hw,g2,g5,hs⟩,hm,hx,hk⟩:=h
 obtain⟨t',p7⟩:=E.p7
 obtain⟨b',es,clock,h2,h3,h4,h5,h6,h7⟩:=hM.objs j (.map kk vv l1) (by simp[St.obj,aD])
 rw[hb] at h2
 cases h2
 rw[hw] at h4
 cases h4
 have hy:bQ G vv y (a.eval (.tmp d4)):=lV (ρ:=ρ) (S:=(S.put (some d2) (gK vv ((cw l key).getD z))).put (some d4) s4) hM.toMem.frozen (mO.nil _ _ _) E.pk (hM.tmps.ev (.tmp d4))
 obtain⟨es',hrun,f1,f2⟩:=g5 t' w _ y hw hy
 have hbn:∀ (i:Nat) (e:MapEntry),es'.toList[i]? =some e→∃ e1,es1.toList[i]? =some e1∧e1.born=e.born:=fun i e hi=>by
  have h1:=congrArg (fun l=>l[i]?) f2
  simp only[ahR,hi,ajv] at h1
  cases he:es1.toList[i]? with
  | none=>rw[he] at h1;cases h1
  | some e1=>rw[he] at h1;simp only[ajv,Option.some.injEq] at h1;exact⟨e1,rfl,h1.symm⟩
 have hM2:=hM.setObj (j:=j) (b:=b) (q:= .map kk vv (oa l key y)) (st:=ρ.st j) (.inr rfl) h3 (fun t l _ e=>by cases e) (w':={ w with heap:=w.heap.setIfInBounds b (.map es' clock1) }) Grow.setObj
  ⟨b,es',clock1,hb,h3,by rw[agu (b9 hw)],f1,fun i e hi=>by
    obtain⟨e1,k1,k2⟩:=hbn i e hi
    obtain⟨k3,k4⟩:=h6 i e1 k1
    refine⟨?_,by omega⟩
    simp only[ajR]
    rw[← k2];exact k3,by
    have:(es'.toList.map (·.born)).Pairwise (fun a b=>a<b):=by
     rw[f2,aiC];exact h7
    rwa [aiC] at this⟩
 unfold Oper.wp
 simp only[execOp,p7,hm,show a.eval (.tmp d6)=goInt s from hs,Sem.run_bind,hrun,Result.andThen_ok,Sem.run_pure]
 simp only[Oper.upon,E.e7,Act.put]
 refine hK _ _ _ ({ hM2.toMem.sub (M:=((S.put (some d2) (gK vv ((cw l key).getD z))).put (some d4) s4).obj j (.map kk vv (oa l key y))) (fun _ _ h=>h) (fun _ _ h=>h) (fun i q hi=> ?_) with tmps:=hM2.tmps,defers:=hM2.defers })
 simp only[St.obj,aD] at hi ⊢
 split at hi
 ·rename_i e;rw[ajQ e];exact hi
 ·rename_i e;rw[ajP e,ajP e];exact hi
end
theorem aas {d5 d:Nat} (h:d5≠d):∀ s a v,Kh d5 s a→Kh d5 s (a.put (some d) v):=fun _ _ _ ⟨v0,h0⟩=>⟨v0,(fR h).trans h0⟩
theorem aar {d6 d:Nat} (h:d6≠d):∀ s a v,Kg d6 s a→Kg d6 s (a.put (some d) v):=fun _ _ _ h0=>(fR h).trans h0
theorem TE {i c:Nat} (h:inL [c] i=true):i=c:=by
 simpa [inL] using h
theorem aaV {i c d:Nat} (h:inL [c,d] i=true):i=c∨i=d:=by
 simpa [inL] using h
theorem abi {ops:Array Oper} {n:Nat}:Region.ready .any ops (Array.replicate n true)=[]:=by
 rw[ahw]
 intro i hi
 have:=(mem_ready.1 hi).1
 simp only[agm,ags] at this
 split at this<;>simp at this
section
variable {G:Gh} {Q:Exit→Act→World→Prop}
theorem vi.af8 (E:vi X ops o2 o4 o5 o6 o7 t kt et m x d2 d4 d5 d6 j b kk vv l key z y kv s4 S)
 (hQ:∀ ρ a w,Mod C G ρ (((S.put (some d2) (gK vv ((cw l key).getD z))).put (some d4) s4).obj j (.map kk vv (oa l key y))) w a→Q .normal a w) {a:Act} {w:World} (h:Lf C G m x j b kk key kv S a w):
 Go.wpAny X.P .any ops.toArray Q 5 #[true,true,false,true,false,false,false,false] a w:=by
 have ho:=E.ord
 simp only[Rf,agE] at ho
 obtain⟨_,_,_,_,n00,n01,n02,n10,n11,n12,n20,n21,n22⟩:=ho
 have s22:∀ a w,Inv1 C G m x j b kk vv l key z kv (Kg d6) ((S.put (some d2) (gK vv ((cw l key).getD z))).put (some d4) s4) a w→Go.wpAny X.P .any ops.toArray Q 1 #[true,true,true,true,true,true,true,false] a w:=fun a w h=>
  qh n22 fun i hi=>by
   cases TE hi
   exact kC E.i7 E.g7 (E.store h fun ρ a w hM=>⟨abi (n:=8),hQ ρ a w hM⟩)
 have s21:∀ a w,Inv1 C G m x j b kk vv l key z kv (Kg d6) (S.put (some d2) (gK vv ((cw l key).getD z))) a w→Go.wpAny X.P .any ops.toArray Q 2 #[true,true,true,true,false,true,true,false] a w:=fun a w h=>
  qh n21 fun i hi=>by
   cases TE hi
   exact kC E.i4 E.g4 (E.ael (aar (Ne.symm E.nd.2.2.2.2.1)) h s22)
 have s20:∀ a w,Inv1 C G m x j b kk vv l key z kv (Kg d6) S a w→Go.wpAny X.P .any ops.toArray Q 3 #[true,true,false,true,false,true,true,false] a w:=fun a w h=>
  qh n20 fun i hi=>by
   cases TE hi
   exact kC E.i2 E.g2 (E.aes (aar (Ne.symm E.nd.2.2.1)) h s21)
 have s12:∀ a w,Inv1 C G m x j b kk vv l key z kv (Kh d5) ((S.put (some d2) (gK vv ((cw l key).getD z))).put (some d4) s4) a w→Go.wpAny X.P .any ops.toArray Q 2 #[true,true,true,true,true,true,false,false] a w:=fun a w h=>
  qh n12 fun i hi=>by
   cases TE hi
   exact kC E.i6 E.g6 (E.stamp (.inr (.inr rfl)) h s22)
 have s11:∀ a w,Inv1 C G m x j b kk vv l key z kv (Kh d5) (S.put (some d2) (gK vv ((cw l key).getD z))) a w→Go.wpAny X.P .any ops.toArray Q 3 #[true,true,true,true,false,true,false,false] a w:=fun a w h=>
  qh n11 fun i hi=>by
   rcases aaV hi with e | e<;>subst e
   ·exact kC E.i4 E.g4 (E.ael (aas (Ne.symm E.nd.2.2.2.1)) h s12)
   ·exact kC E.i6 E.g6 (E.stamp (.inr (.inl rfl)) h s21)
 have s10:∀ a w,Inv1 C G m x j b kk vv l key z kv (Kh d5) S a w→Go.wpAny X.P .any ops.toArray Q 4 #[true,true,false,true,false,true,false,false] a w:=fun a w h=>
  qh n10 fun i hi=>by
   rcases aaV hi with e | e<;>subst e
   ·exact kC E.i2 E.g2 (E.aes (aas (Ne.symm E.nd.2.1)) h s11)
   ·exact kC E.i6 E.g6 (E.stamp (.inl rfl) h s20)
 have s02:∀ a w,Lf C G m x j b kk key kv ((S.put (some d2) (gK vv ((cw l key).getD z))).put (some d4) s4) a w→Go.wpAny X.P .any ops.toArray Q 3 #[true,true,true,true,true,false,false,false] a w:=fun a w h=>
  qh n02 fun i hi=>by
   cases TE hi
   exact kC E.i5 E.g5 (E.entry (.inr (.inr rfl)) h s12)
 have s01:∀ a w,Lf C G m x j b kk key kv (S.put (some d2) (gK vv ((cw l key).getD z))) a w→Go.wpAny X.P .any ops.toArray Q 4 #[true,true,true,true,false,false,false,false] a w:=fun a w h=>
  qh n01 fun i hi=>by
   rcases aaV hi with e | e<;>subst e
   ·exact kC E.i4 E.g4 (E.afP h s02)
   ·exact kC E.i5 E.g5 (E.entry (.inr (.inl rfl)) h s11)
 exact qh n00 fun i hi=>by
  rcases aaV hi with e | e<;>subst e
  ·exact kC E.i2 E.g2 (E.afV h s01)
  ·exact kC E.i5 E.g5 (E.entry (.inl rfl) h s10)
end
theorem ae2 {α:Type} (L:List α) (i k:Nat) (u:α):((L.set i u).set k u).set i u=(L.set i u).set k u:=by
 by_cases h:i=k
 ·subst h;simp
 ·rw[aiF _ _ (Ne.symm h),aiH]
theorem acy {o:Op} {t:TypeId} {m x:Nat} (h:adS o=some (t,m,x)):o= .lookup t (.tmp m) (.tmp x) false:=by
 unfold adS at h
 split at h
 ·cases h;rfl
 ·cases h
theorem ab1 {o:Op} {t:TypeId} {m x:Nat} (h:aaK o=some (t,m,x)):o= .mapEntry t (.tmp m) (.tmp x):=by
 unfold aaK at h
 split at h
 ·cases h;rfl
 ·cases h
theorem ab5 {o:Op} {e:Nat} (h:adF o=some e):o= .extract (.tmp e) 1:=by
 unfold adF at h
 split at h
 ·split at h
  ·rename_i hi
   cases h
   rw[aiW hi]
  ·cases h
 ·cases h
theorem adj {o:Op} {m s v:Nat} (h:stOp o=some (m,s,v)):∃ t,o= .entryStore t (.tmp m) (.tmp s) (.tmp v):=by
 unfold stOp at h
 split at h
 ·cases h;exact⟨_,rfl⟩
 ·cases h
theorem UU {o:Op} {x:Operand} (h:aa3 o=some x):o= .move x:=by
 unfold aa3 at h
 split at h
 ·cases h;rfl
 ·cases h
variable {G:Gh} {ρ:Env} {w:World} {β:Type}
theorem UT {ops:List Oper} {i:Nat} {o:Oper} {x:Operand} {d:Nat} {mask:Array Bool} {n:Nat} {Q:Exit→Act→World→Prop} (hQ:∀ e a w,Q e a w→e= .normal) (hi:ops.toArray[i]? =some o) (hg:o.guard=none) (ho:o.op= .move x) (hd:o.dst=some d)
 (hs:Region.noSelect ops.toArray=true) (hf:Region.free .any ops.toArray mask i=true) (hr:(Region.ready .any ops.toArray mask).contains i=true) {a:Act} {S:St} (hM:Mod C G ρ S w a)
 (hK:∀ a,Mod C G ρ (S.put (some d) (S.ev x)) w a→Go.wpAny X.P .any ops.toArray Q n (mask.setIfInBounds i true) a w):Go.wpAny X.P .any ops.toArray Q (n+1) mask a w:=by
 have hrun:∀ w,(execOp a.eval o).run X.P w= .ok (.value (a.eval x)) w:=fun w=>by simp[execOp,ho]
 have w1:∀ y,Region.wanted o y=true:=fun y=>by simp[Region.wanted,hg]
 refine wpAny_take hi hs hf hr (fun c a w q=>by cases hQ _ _ _ q) (.inl ⟨w1 _,hrun⟩) (hK _ ?_)
 rw[hd]
 exact hM.put (some d) (fun _ _=>hM.tmps.ev x)
theorem adf (hX:cC X) {ops:List Oper} {S:St} {k:St→Option β} {r:β} (h:Yt X ops S k=some r) {Q:Exit→Act→World→Prop} (hn:∀ e a w,Q e a w→e= .normal)
 (hQ:∀ S' G ρ w a,k S'=some r→Mod C G ρ S' w a→Q .normal a w) {a:Act} (hM:Mod C G ρ S w a):Go.wpAny X.P .any ops.toArray Q ops.toArray.size (Array.replicate ops.toArray.size false) a w:=by
 unfold Yt at h
 split at h
 ·rename_i o0 o1 o2 o3 o4 o5 o6 o7
  split at h
  ·rename_i x0 t m x x3 t' m' x' d5 m'' d6 d4 h0 h2 h3 h5 h6 h7
   split at h
   ·rename_i d0 d2 d3 d4' d5' d6' c0 c2 c3 c4 c5 c6 c7
    split at h
    ·cases h
    ·rename_i hc
     simp only[agR,ajU,agM,agL] at hc
     obtain⟨k1,k2,k3,k4,k5,k6,k7,k8,k9,k10,k11,k12,k13⟩:=hc
     cases aiW k3
     cases aiW k4
     cases aiW k5
     cases aiW k6
     cases aiW k7
     cases aiW k8
     have ord:=k1
     simp only[Rf,agE,ahg,ajs] at k1
     obtain⟨⟨hs,hg⟩,⟨f0,r0⟩,⟨f3,r3⟩,n1,_⟩:=k1
     have g:=fun o (ho:o∈[o0,o1,o2,o3,o4,o5,o6,o7])=>hg o ho
     refine UT (n:=7) hn (i:=0) (o:=o0) rfl (g _ (by simp)) (UU h0) c0 hs f0 r0 hM fun a hM=> ?_
     refine UT (n:=6) hn (i:=3) (o:=o3) rfl (g _ (by simp)) (UU h3) c3 hs f3 r3 hM fun a hM=> ?_
     refine qh (n:=5) n1 fun i hi=> ?_
     cases TE hi
     refine kC (o:=o1) rfl (g _ (by simp)) ?_
     obtain⟨z1,h,hL,hF⟩:=sB hX h
     refine Oper.wp_mono ?_ (fU.XW hL hF C G ρ w a Q hM)
     rintro a w ⟨G,ρ,hM⟩
     generalize ((S.put (some d0) (S.ev x0)).put (some d3) ((S.put (some d0) (S.ev x0)).ev x3)).app o1.dst z1=S3 at hM h
     unfold ab3 at h
     simp only at h
     have hM:Mod C G ρ ((S3.put (some d5) (.v false [.any])).put (some d6) (.v false [.any])) w a:=by
      refine { hM.toMem.Iu (S':=(S3.put (some d5) (.v false [.any])).put (some d6) (.v false [.any])) rfl rfl rfl with tmps:=⟨by simpa [St.put] using hM.tmps.1,fun i s hi=> ?_⟩,defers:=hM.defers }
      have hi':((S3.tmps.set d5 (.v false [.any])).set d6 (.v false [.any]))[i]? =some s:=hi
      simp only[ahT] at hi'
      split at hi'
      ·split at hi'
       ·cases hi';trivial
       ·cases hi'
      ·split at hi'
       ·split at hi'
        ·cases hi';trivial
        ·cases hi'
       ·exact hM.tmps.2 i s hi'
     have any0:((S3.put (some d5) (.v false [.any])).put (some d6) (.v false [.any])).tmps.set d5 (.v false [.any])=((S3.put (some d5) (.v false [.any])).put (some d6) (.v false [.any])).tmps:=ae2 _ _ _ _
     have any1:((S3.put (some d5) (.v false [.any])).put (some d6) (.v false [.any])).tmps.set d6 (.v false [.any])=((S3.put (some d5) (.v false [.any])).put (some d6) (.v false [.any])).tmps:=by
      show ((S3.tmps.set d5 _).set d6 _).set d6 _=_
      rw[aiH];rfl
     generalize (S3.put (some d5) (.v false [.any])).put (some d6) (.v false [.any])=S at hM h any0 any1
     split at h
     ·cases h
     ·rename_i hlt
      simp only[agR,ajU,agM,agL] at hlt
      split at h
      ·rename_i kt et j ht hm
       split at h
       ·rename_i kk vv l hl
        split at h
        ·rename_i key z hkey hz
         split at h
         ·rename_i hchk
          unfold ab2 at h
          simp only at h
          obtain⟨s4,h,hq4⟩:=P9 h
          split at h
          ·cases h
          ·rename_i hst
           simp only[agR,ajU,agM,agL] at hst
           obtain⟨t1,t2,t3,t4⟩:=hst
           cases aiW t4
           split at h
           ·rename_i y hy
            obtain⟨q1,q2⟩:=zl k9
            obtain⟨q3,q4⟩:=zl q2
            obtain⟨q5,q6⟩:=zl q4
            simp only[aij,List.not_mem_nil,or_false,ajU] at q1 q3 q5
            simp only[inL,ahh,List.any_nil,agS,agQ] at k10 k11
            have nb:∀ {a b:Nat},Nat.beq a b=false→a≠b:=fun h e=>by subst e;simp at h
            have h1:=one_cell (hM.tmps.ev (.tmp m)) hm
            obtain⟨b,es,clock,b1,_⟩:=hM.objs j _ hl
            have hkv:=lV hM.frozen (mO.nil _ _ _) hkey (hM.tmps.ev (.tmp x))
            have E:vi X [o0,o1,o2,o3,o4,o5,o6,o7] o2 o4 o5 o6 o7 t kt et m x d2 d4 d5 d6 j b kk vv l key z y (a.eval (.tmp x)) s4 S:=
             { i2:=rfl,i4:=rfl,i5:=rfl,i6:=rfl,i7:=rfl,g2:=g _ (by simp),g4:=g _ (by simp),g5:=g _ (by simp),g6:=g _ (by simp),g7:=g _ (by simp),
               p2:=acy h2,p5:=ab1 h5,p6:=ab5 h6,p7:=adj h7,e2:=c2,e4:=c4,e5:=c5,e6:=c6,e7:=c7,
               ne:=⟨nb k10.1,nb k10.2.1,nb k10.2.2.1,nb k10.2.2.2,nb k11.1,nb k11.2.1,nb k11.2.2.1,nb k11.2.2.2⟩,
               nd:=⟨q1.1,q1.2.1,q1.2.2,q3.1,q3.2,q5⟩,ord:=ord,ht:=ht,hchk:=hchk,hz:=hz,q4:=hq4,
               stp:=fun T hT=>by rcases hT with e | e | e<;>subst e<;>assumption,
               any:=fun T hT=>by
                rcases hT with e | e | e<;>subst e
                ·exact⟨any0,any1⟩
                ·simp only[St.put]
                 rw[aiF _ _ q1.2.1,any0,aiF _ _ q1.2.2,any1]
                 exact⟨rfl,rfl⟩
                ·simp only[St.put]
                 rw[aiF _ _ q3.1,aiF _ _ q1.2.1,any0,aiF _ _ q3.2,aiF _ _ q1.2.2,any1]
                 exact⟨rfl,rfl⟩,
               lt5:=aiY hlt.1,lt6:=aiY hlt.2,hobj:=hl,pk:=hy }
            exact E.af8 (C:=C) (G:=G) (Q:=Q) (fun ρ a w hM=>hQ _ G ρ w a h hM) ⟨⟨ρ,hM,b1⟩,h1.1.trans b1,rfl,hkv⟩
           ·cases h
         ·cases h
        ·cases h
       ·cases h
      ·cases h
   ·cases h
  ·cases h
 ·cases h
end Go.Dn
namespace Go.Dn
structure aat (ops ops':Array Oper) (σ τ:Nat→Nat):Prop where
 size:ops'.size=ops.size
 lt:∀ i,i<ops.size→σ i<ops.size∧τ (σ i)=i
 lt':∀ j,j<ops.size→τ j<ops.size∧σ (τ j)=j
 op:∀ (i:Nat) (o:Oper),ops[i]? =some o→ops'[σ i]? =some (NB σ o)
 guard:∀ (i:Nat) (o:Oper),ops[i]? =some o→o.guard=none
 edge:∀ (i:Nat) (o:Oper),ops[i]? =some o→∀ e:Edge,e∈o.after→e.on<ops.size
theorem aat.wpAny {P:Program} {ops ops':Array Oper} {σ τ:Nat→Nat} (H:aat ops ops' σ τ) {Q:Exit→Act→World→Prop}:∀ (u:Nat) (listed listed':Array Bool) (a:Act) (w:World),listed.size=ops.size→listed'.size=ops.size→
 (∀ i b,i<ops.size→listed'.getD (σ i) b=listed.getD i b)→Go.wpAny P .any ops' Q u listed' a w→Go.wpAny P .any ops Q u listed a w:=by
 have rd:∀ (listed listed':Array Bool),(∀ i b,i<ops.size→listed'.getD (σ i) b=listed.getD i b)→∀ i,i<ops.size→(σ i∈Region.ready .any ops' listed'↔i∈Region.ready .any ops listed):=by
  intro listed listed' hl i hi
  have hoi:ops[i]? =some ops[i]:=agn hi
  have hop:=H.op i _ hoi
  rw[mem_ready,mem_ready,hl i true hi]
  constructor
  ·rintro⟨h1,o',ho',h2⟩
   refine⟨h1,ops[i],hoi,fun e he hb=> ?_⟩
   rw[hop] at ho'
   cases ho'
   have:=h2 { e with on:=σ e.on } (by simp only[NB,Array.mem_map];exact⟨e,he,rfl⟩) hb
   rw[← hl e.on false (H.edge i _ hoi e he)]
   exact this
  ·rintro⟨h1,o,ho,h2⟩
   refine⟨h1,_,hop,fun e' he' hb=> ?_⟩
   simp only[NB,Array.mem_map] at he'
   obtain⟨e,he,rfl⟩:=he'
   rw[hoi] at ho
   cases ho
   have:=h2 e he hb
   show listed'.getD (σ e.on) false=true
   rw[hl e.on false (H.edge i _ hoi e he)]
   exact this
 have rlt:∀ (ops:Array Oper) (listed:Array Bool) i,i∈Region.ready .any ops listed→i<ops.size:=by
  intro ops listed i hi
  rw[mem_ready] at hi
  obtain⟨_,o,ho,_⟩:=hi
  exact (agp.1 ho).1
 have emp:∀ (listed listed':Array Bool),(∀ i b,i<ops.size→listed'.getD (σ i) b=listed.getD i b)→(Region.ready .any ops' listed'=[]↔Region.ready .any ops listed=[]):=by
  intro listed listed' hl
  constructor
  ·intro h
   rw[ahw] at h ⊢
   intro i hi
   exact h (σ i) ((rd listed listed' hl i (rlt _ _ i hi)).2 hi)
  ·intro h
   rw[ahw] at h ⊢
   intro j hj
   have hjl:j<ops.size:=by rw[← H.size];exact rlt _ _ j hj
   obtain⟨t1,t2⟩:=H.lt' j hjl
   exact h (τ j) ((rd listed listed' hl (τ j) t1).1 (by rw[t2];exact hj))
 intro u
 induction u with
 | zero=>
  intro listed listed' a w s1 s2 hl h
  exact⟨(emp listed listed' hl).1 h.1,h.2⟩
 | succ u ih=>
  intro listed listed' a w s1 s2 hl h
  refine⟨fun hr=>h.1 ((emp listed listed' hl).2 hr),fun i hi=> ?_⟩
  have hil:=rlt _ _ i hi
  have hoi:ops[i]? =some ops[i]:=agn hil
  have hop:=H.op i _ hoi
  have hg:=H.guard i _ hoi
  have h1:=h.2 (σ i) ((rd listed listed' hl i hil).2 hi)
  have next:∀ a w,Go.wpAny P .any ops' Q u (listed'.setIfInBounds (σ i) true) a w→Go.wpAny P .any ops Q u (listed.setIfInBounds i true) a w:=by
   intro a w h
   refine ih _ _ a w (by simpa using s1) (by simpa using s2) (fun j b hj=> ?_) h
   by_cases e:j=i
   ·subst e
    rw[cg (by rw[s2];exact (H.lt j hj).1),cg (by omega)]
   ·have hne:σ j≠σ i:=fun e2=>e (by have:=congrArg τ e2;rw[(H.lt j hj).2,(H.lt i hil).2] at this;exact this)
    rw[bn hne,bn e]
    exact hl j b hj
  unfold Go.wpOp at h1 ⊢
  rw[hop] at h1
  rw[hoi]
  simp only at h1 ⊢
  have w1:∀ y,Region.wanted ops[i] y=true:=fun y=>by simp[Region.wanted,hg]
  have w2:∀ y,Region.wanted (NB σ ops[i]) y=true:=fun y=>by simp[Region.wanted,NB,hg]
  rw[ajQ (w2 _)] at h1
  rw[ajQ (w1 _)]
  rcases h1 with h1 | h1
  ·left
   exact Oper.wp_mono (fun a' w' h'=>next a' w' h') h1
  ·exact .inr h1
theorem Yk {ops:List Oper} {p:List Nat} (h:T9 ops p=true):aat ops.toArray (II ops p).toArray (posOf p) (fun j=>p.getD j ops.length):=by
 simp only[T9,agE,ahg,aiu,ajs] at h
 obtain⟨h1,h2,h3,h4⟩:=h
 have h1':=aiW h1
 have lt:∀ {a b:Nat},Nat.blt a b=true→a<b:=fun h=>aiY h
 have hlen:(II ops p).length=ops.length:=by
  unfold II
  split
  ·rfl
  ·rw[ah3,h1']
 refine⟨by simpa using hlen,fun i hi=> ?_,fun j hj=> ?_,fun i o hi=> ?_,fun i o hi=> ?_,fun i o hi e he=> ?_⟩
 ·have hi':i<ops.length:=by simpa using hi
  exact⟨by simpa using lt (h2 i hi').1,aiW (h2 i hi').2⟩
 ·have hj':j<ops.length:=by simpa using hj
  exact⟨by simpa using lt (h3 j hj').1,aiW (h3 j hj').2⟩
 ·have hi1:ops[i]? =some o:=by simpa using hi
  have hi':i<ops.length:=(ahQ.1 hi1).1
  have e1:=aiW (h2 i hi').2
  have e2:=lt (h2 i hi').1
  have e3:p[posOf p i]? =some i:=by
   have hlt:posOf p i<p.length:=by omega
   rw[ahH,ahO hlt] at e1
   rw[ahO hlt]
   exact congrArg some e1
  rw[ahY]
  unfold II
  split
  ·rename_i hn;simp at hi1
  ·rename_i o0 r
   rw[ahR,e3,ajv,ahH,hi1]
   rfl
 ·have hi1:ops[i]? =some o:=by simpa using hi
  exact (h4 o (air hi1)).1
 ·have hi1:ops[i]? =some o:=by simpa using hi
  simpa using lt ((h4 o (air hi1)).2 e (by simpa using he))
theorem age {P:Program} {o:Oper} {a:Act} {w:World} {K:Act→World→Prop} {Q Q':Exit→Act→World→Prop} (h:∀ e a w,Q' e a w→Q e a w) (hh:o.wp P a w K Q'):o.wp P a w K Q:=by
 unfold Oper.wp at*
 generalize (execOp a.eval o).run P w=r at*
 cases r with
 | ok n w'=>
  cases n<;>simp only[Oper.upon] at hh ⊢ <;>first
   | exact hh
   | exact Calls.mono hh (fun e w'' he=>by
    cases e with
    | returned v=>exact he
    | panicked c=>exact h _ _ _ he
    | outgrown=>obtain⟨a,w,q⟩:=he;exact⟨a,w,h _ _ _ q⟩)
 | halt x w'=>cases x<;>simp only[Oper.upon] at hh ⊢ <;>first | exact hh | exact h _ _ _ hh
theorem afK {P:Program} {ops:Array Oper} {i:Nat} {K:Act→World→Prop} {Q Q':Exit→Act→World→Prop} (h:∀ e a w,Q' e a w→Q e a w) {a:Act} {w:World} (hh:Go.wpOp P ops Q' i K a w):Go.wpOp P ops Q i K a w:=by
 unfold Go.wpOp at*
 split
 ·rename_i ho
  simpa [ho] using hh
 ·rename_i o ho
  simp only[ho] at hh
  split
  ·rename_i hw
   simp only[hw,ajR] at hh
   exact hh.imp (age h) fun ⟨h1,a,w,q⟩=>⟨h1,a,w,h _ _ _ q⟩
  ·rename_i hw
   simpa [hw] using hh
theorem Ut {P:Program} {ops:Array Oper} {Q Q':Exit→Act→World→Prop} (h:∀ e a w,Q' e a w→Q e a w):∀ (u:Nat) (listed:Array Bool) (a:Act) (w:World),Go.wpAny P .any ops Q' u listed a w→Go.wpAny P .any ops Q u listed a w
 | 0,_,_,_,hh=>⟨hh.1,h _ _ _ hh.2⟩
 | u+1,_,_,_,hh=>⟨fun hr=>h _ _ _ (hh.1 hr),fun i hi=>wpOp_mono (fun a' w' h'=>Ut h u _ a' w' h') (afK h (hh.2 i hi))⟩
theorem ads {P:Program} {o0:Oper} {r:List Oper} {Q:Exit→Act→World→Prop} (hg:∀ o,o∈o0::r→o.guard=none):∀ (u:Nat) (listed:Array Bool) (a:Act) (w:World),listed.getD 0 false=true→
 Go.wpAny P .any (o0::r.map BN).toArray Q u listed a w→Go.wpAny P .any (o0::r).toArray Q u listed a w:=by
 have get:∀ (i:Nat) (o:Oper),(o0::r)[i]? =some o→(o0::r.map BN)[i]? =some (if i=0 then o else BN o):=fun i o hi=>by
  cases i with
  | zero=>simpa using hi
  | succ i=>
   rw[ahL] at hi ⊢
   rw[ahR,hi,ajP (by omega)];rfl
 have rd:∀ (listed:Array Bool),listed.getD 0 false=true→∀ i,i∈Region.ready .any (o0::r.map BN).toArray listed↔i∈Region.ready .any (o0::r).toArray listed:=fun listed h0 i=>by
  rw[mem_ready,mem_ready]
  constructor
  ·rintro⟨h1,o',ho',h2⟩
   have hlt:i<(o0::r).length:=by
    have:=(ahQ.1 (show (o0::r.map BN)[i]? =some o' by simpa using ho')).1
    simpa using this
   have hoi:(o0::r)[i]? =some (o0::r)[i]:=ahO hlt
   have hop:=get i _ hoi
   refine⟨h1,(o0::r)[i],by rw[ahY];exact hoi,fun e he hb=>h2 e ?_ hb⟩
   rw[ahY,hop] at ho'
   cases ho'
   split
   ·exact he
   ·exact Array.mem_push.2 (.inl he)
  ·rintro⟨h1,o,ho,h2⟩
   have hoi:(o0::r)[i]? =some o:=by simpa using ho
   refine⟨h1,_,by rw[ahY];exact get i o hoi,fun e he hb=> ?_⟩
   split at he
   ·exact h2 e he hb
   ·rcases Array.mem_push.1 he with he | he
    ·exact h2 e he hb
    ·subst he;exact h0
 have emp:∀ (listed:Array Bool),listed.getD 0 false=true→(Region.ready .any (o0::r.map BN).toArray listed=[]↔Region.ready .any (o0::r).toArray listed=[]):=fun listed h0=>by
  constructor<;>intro h<;>rw[ahw] at h ⊢ <;>intro i hi
  ·exact h i ((rd listed h0 i).2 hi)
  ·exact h i ((rd listed h0 i).1 hi)
 intro u
 induction u with
 | zero=>intro listed a w h0 h;exact⟨(emp listed h0).1 h.1,h.2⟩
 | succ u ih=>
  intro listed a w h0 h
  refine⟨fun hr=>h.1 ((emp listed h0).2 hr),fun i hi=> ?_⟩
  have h1:=h.2 i ((rd listed h0 i).2 hi)
  obtain⟨_,o,ho,_⟩:=mem_ready.1 hi
  have hoi:(o0::r)[i]? =some o:=by simpa using ho
  have hop:(o0::r.map BN).toArray[i]? =some (if i=0 then o else BN o):=by rw[ahY];exact get i o hoi
  have hgo:=hg o (air hoi)
  have next:∀ a w,Go.wpAny P .any (o0::r.map BN).toArray Q u (listed.setIfInBounds i true) a w→Go.wpAny P .any (o0::r).toArray Q u (listed.setIfInBounds i true) a w:=fun a w h=>ih _ a w (getD_set_true h0) h
  unfold Go.wpOp at h1 ⊢
  rw[hop] at h1
  rw[ho]
  simp only at h1 ⊢
  have w1:∀ y,Region.wanted o y=true:=fun y=>by simp[Region.wanted,hgo]
  have w2:∀ y,Region.wanted (if i=0 then o else BN o) y=true:=fun y=>by split<;>simp[Region.wanted,BN,hgo]
  rw[ajQ (w2 _)] at h1
  rw[ajQ (w1 _)]
  rcases h1 with h1 | h1
  ·left
   have h2:o.wp P a w (Go.wpAny P .any (o0::r.map BN).toArray Q u (listed.setIfInBounds i true)) Q:=by split at h1<;>exact h1
   exact Oper.wp_mono (fun a' w' h'=>next a' w' h') h2
  ·right
   have h2:o.asks P a w:=by
    have:=h1.1
    split at this<;>exact this
   exact⟨h2,h1.2⟩
theorem acI {P:Program} {ops:List Oper} (h:aa2 ops=true) {Q:Exit→Act→World→Prop} (hQ:∀ e a w,Q e a w→e= .normal) {a:Act} {w:World}
 (hh:Go.wpAny P .any (Nu ops).toArray Q ops.length (Array.replicate ops.length false) a w):Go.wpAny P .any ops.toArray Q ops.length (Array.replicate ops.length false) a w:=by
 match ops,h with
 | o0::r,h=>
  simp only[aa2,agE,ahg,ajs] at h
  obtain⟨hm,hg,haf,hd,hs,hf⟩:=h
  obtain⟨x,hx⟩:∃ x,o0.op= .move x:=by
   split at hm
   ·rename_i x hx;exact⟨x,hx⟩
   ·cases hm
  have hg0:=hg o0 (by simp)
  have hrun:∀ w,(execOp a.eval o0).run P w= .ok (.value (a.eval x)) w:=fun w=>by simp[execOp,hx]
  have w1:∀ y,Region.wanted o0 y=true:=fun y=>by simp[Region.wanted,hg0]
  have hr0:∀ (l:List Oper),0∈Region.ready .any (o0::l).toArray (Array.replicate (r.length+1) false):=fun l=>by
   rw[mem_ready]
   refine⟨by simp,o0,by simp,fun e he=> ?_⟩
   rw[Array.isEmpty_iff.1 haf] at he
   simp at he
  have h1:=hh.2 0 (hr0 _)
  unfold Go.wpOp at h1
  rw[show (Nu (o0::r)).toArray[0]? =some o0 by simp[Nu]] at h1
  simp only at h1
  rw[ajQ (w1 _)] at h1
  rcases h1 with h1 | ⟨_,a',w',h1⟩
  ·unfold Oper.wp at h1
   rw[hrun] at h1
   have h2:=ads hg r.length _ _ _ (by simp) h1
   refine wpAny_take (by simp) hs hf (by simpa using hr0 r) (fun c a w q=>by cases hQ _ _ _ q) (.inl ⟨w1 _,hrun⟩) h2
  ·cases hQ _ _ _ h1
variable {X:Cx} {C:Fr X.P} {G:Gh} {ρ:Env} {w:World} {β:Type}
theorem abm (hX:cC X) (hmix:X.P.follows .mixedOrders=true) {ops:List Oper} {S:St} {k:St→Option β} {r:β} (h:Uh X ops S k=some r) {Q:Exit→Act→World→Prop}
 (hQ:∀ S' G ρ w a,k S'=some r→Mod C G ρ S' w a→Q .normal a w) {a:Act} (hM:Mod C G ρ S w a) (id:Nat):(Code.region id ops.toArray true).wp X.P Q a w:=by
 refine wp_region_any hmix ?_
 unfold Uh at h
 split at h
 ·let Q':Exit→Act→World→Prop:=fun e a w=>e= .normal∧Q .normal a w
  have h3:=adf (Q:=Q') hX h (fun _ _ _ q=>q.1) (fun S' G ρ w a hk hm=>⟨rfl,hQ S' G ρ w a hk hm⟩) (hM.of_heap (w':={ w with drawn:=w.drawn+1 }) rfl rfl rfl)
  exact Ut (Q':=Q') (fun e a w q=>by obtain⟨e1,q⟩:=q;subst e1;exact q) _ _ _ _ h3
 split at h
 ·rename_i hc
  rw[agE] at hc
  let Q':Exit→Act→World→Prop:=fun e a w=>e= .normal∧Q .normal a w
  have h3:=Fu (Q:=Q') hX h (fun S' G ρ w a hk hm=>⟨rfl,hQ S' G ρ w a hk hm⟩) hM (fun h=>by cases h)
  have hl:(Nu ops).toArray.size=ops.length:=by cases ops<;>simp[Nu]
  rw[hl] at h3
  have h4:=acI hc.2 (Q:=Q') (fun e a w q=>q.1) h3
  refine Ut (Q':=Q') (fun e a w q=>by obtain⟨e1,q⟩:=q;subst e1;exact q) _ _ _ _ ?_
  simpa using h4
 refine Fu hX h hQ hM fun h'=> ?_
 split at h'
 ·rename_i hp
  have H:=Yk hp
  have h2:=Fu hX h' hQ hM (fun h=>by cases h)
  rw[H.size] at h2
  refine H.wpAny _ _ _ _ _ (by simp) (by simp) (fun i b hi=> ?_) h2
  have:=(H.lt i hi).1
  simp only[agm,ags,hi,this,ajR]
 ·cases h'
end Go.Dn
namespace Go.Dn
variable {X:Cx} {C:Fr X.P} {G:Gh} {ρ:Env} {w:World} {β:Type}
structure uG (ops:List Oper) (S S':St):Prop where
 boxes:S'.boxes=S.boxes
 rows:S'.rows=S.rows
 objs:S'.objs=S.objs
 len:S'.tmps.length=S.tmps.length
 tmp:∀ t,(∀ o,o∈ops→o.dst≠some t)→S'.tmps[t]? =S.tmps[t]?
theorem uG.refl (ops:List Oper) (S:St):uG ops S S:=⟨rfl,rfl,rfl,rfl,fun _ _=>rfl⟩
theorem uG.put {ops:List Oper} {S S':St} (h:uG ops S S') {o:Oper} (ho:o∈ops) (s:SV):uG ops S (S'.put o.dst s):=by
 cases hd:o.dst with
 | none=>exact h
 | some d=>
  refine⟨h.boxes,h.rows,h.objs,by simp[St.put,h.len],fun t ht=> ?_⟩
  have hne:d≠t:=fun e=>ht o ho (by rw[hd,e])
  simp only[St.put]
  rw[ahU hne]
  exact h.tmp t ht
theorem uG.app {ops:List Oper} {S S':St} (h:uG ops S S') {o:Oper} (ho:o∈ops) {x:Del} (hp:pE x=true):uG ops S (S'.app o.dst x):=by
 obtain⟨p1,p2,p3⟩:=DE hp
 have e:x=⟨x.sv,none,none,none⟩:=by cases x;simp only at p1 p2 p3;subst p1;subst p2;subst p3;rfl
 rw[e,St.HP]
 exact h.put ho _
theorem abl (S:St):(dB uh S).boxes=S.boxes∧(dB uh S).rows=S.rows∧(dB uh S).objs=S.objs:=by
 refine⟨?_,rfl,rfl⟩
 simp only[dB]
 exact List.filter_eq_self.2 fun p _=>by simp[nP,uh,inL]
theorem acL (i:Nat):inM m0 i=false:=by simp[inM,m0];rfl
theorem Qb (hX:cC X) {ops:List Oper} {M:St}:∀ {l:List Oper} {c:Nat} {S:St} {k:St→Option β} {r:β},(∀ o,o∈l→o∈ops)→jA X ops M (fun _=>dB uh M) m0 c l S k=some r→uG ops M S→∀ {Q:Exit→Act→World→Prop},
 (∀ S' G ρ w a,k S'=some r→uG ops M S'→Mod C G ρ S' w a→Q .normal a w)→∀ {G ρ w a},Mod C G ρ S w a→wpList X.P ops.toArray Q l a w
 | [],c,S,k,r,hl,h,hJ,Q,hQ,G,ρ,w,a,hM=>hQ S G ρ w a h hJ hM
 | o::rest,c,S,k,r,hl,h,hJ,Q,hQ,G,ρ,w,a,hM=>by
  have hmem:o∈ops:=hl o (by simp)
  have hl':∀ o,o∈rest→o∈ops:=fun o ho=>hl o (by simp[ho])
  have step:(fJ X o S (dB uh M) fun x=>bif pE x then jA X ops M (fun _=>dB uh M) m0 (c+1) rest (S.app o.dst x) k else none)=some r→o.wp X.P a w (wpList X.P ops.toArray Q rest) Q:=fun h=>by
   obtain⟨x,h1,h2,_⟩:=sB hX h
   cases hp:pE x with
   | false=>rw[hp] at h1;cases h1
   | true=>
    rw[hp,ajE] at h1
    obtain⟨p1,p2,p3⟩:=DE hp
    obtain⟨e1,e2,e3⟩:=abl M
    have:=h2 C G ρ S w a Q hM ⟨fun _ _=>rfl,fun k cs hk=>by rw[hJ.boxes, ← e1];exact hk,fun k cs hk=>by rw[hJ.rows, ← e2];exact hk,fun k cs hk=>by rw[hJ.objs, ← e3];exact hk⟩
     (fun d _ h=>by rw[p1] at h;cases h) (fun d _ h=>by rw[p2] at h;cases h) (fun d _ h=>by rw[p3] at h;cases h)
    exact Oper.wp_mono (fun a' w' ⟨G',ρ',hM'⟩=>Qb hX hl' h1 (hJ.app hmem hp) hQ hM') this
  have skip:jA X ops M (fun _=>dB uh M) m0 (c+1) rest (S.put o.dst sW) k=some r→wpList X.P ops.toArray Q rest (a.put o.dst undef) w:=fun h=>
   Qb hX hl' h (hJ.put hmem _) hQ (hM.put o.dst (fun _ _=>Sk))
  simp only[jA,acL,ajD] at h
  split at h
  ·cases hs:nX ops o S with
   | false=>rw[hs] at h;cases h
   | true=>
    rw[hs] at h
    have hw:=Ka hM.tmps hs
    simp only[wpList,hw]
    rw[ajP (by simp)];exact skip h
  ·rename_i hg
   have hw:=jh hM.tmps hg
   simp only at hw
   simp only[wpList,hw,ajR]
   exact .inl (step h)
  ·rename_i d b want hg
   obtain⟨hS,hw⟩:=jh hM.tmps hg
   rcases Nl hS h with ⟨hb,h⟩ | ⟨hb,h⟩
   ·rw[hb] at hw
    simp only[wpList,hw,ajR]
    exact .inl (step h)
   ·rw[hb] at hw
    simp only[wpList,hw]
    rw[ajP (by simp)];exact skip h
theorem OR {ops:List Oper} {M:St}:∀ {l:List Oper} {S:St} {outs:List (Option Del)},(∀ o,o∈l→o∈ops)→uG ops M S→(∀ y,some y∈outs→pE y=true)→uG ops M (states l S outs)
 | [],S,outs,_,h,_=>by cases outs<;>exact h
 | o::l,S,[],_,h,_=>h
 | o::l,S,x::xs,hl,h,hp=>by
  simp only[states]
  refine OR (fun o ho=>hl o (by simp[ho])) ?_ (fun y hy=>hp y (by simp[hy]))
  cases x with
  | none=>exact h.put (hl o (by simp)) _
  | some y=>exact h.app (hl o (by simp)) (hp y (by simp))
theorem ae0 (hX:cC X) (hmix:X.P.follows .mixedOrders=true) {ops:List Oper} {dr:Bool} {S:St} {k:St→Option β} {r:β} (h:abj X ops dr S k=some r) {Q:Exit→Act→World→Prop}
 (hQ:∀ S' G ρ w a,k S'=some r→uG ops S S'→Mod C G ρ S' w a→Q .normal a w) {a:Act} (hM:Mod C G ρ S w a) (id:Nat):(Code.region id ops.toArray dr).wp X.P Q a w:=by
 cases dr with
 | false=>
  simp only[abj,ajD,abn] at h
  refine wp_region_list ?_
  have:=Qb hX (fun _ h=>h) h (.refl ops S) (Q:=Q) hQ hM
  simpa using this
 | true=>
  simp only[abj,ajE] at h
  cases hchk:(Ic ops ops.length&& !(ops.any fun o=>zu o.op)) with
  | false=>rw[hchk] at h;cases h
  | true=>
   rw[hchk,ajE] at h
   unfold abn at h
   obtain⟨outs,h1,h2,h3⟩:=Cb (tf:=fun _=>uh) hX h
   cases hnew:Dl ops ops.length S (states ops S outs) with
   | false=>rw[hnew] at h2;cases h2
   | true=>
    rw[hnew,ajE] at h2
    have htk:ops.take ops.length=ops:=aiO
    simp only[Ic,agE] at hchk
    obtain⟨⟨⟨⟨⟨c1,c2⟩,c3⟩,c4⟩,c5⟩,_⟩:=hchk
    have K:=cm.of (X:=X) (ops:=ops) (n:=ops.length) (S:=S) (outs:=outs) (ai0 _) c2 c4 (by rw[htk];exact h1) (fun i o x hi hx=>by
     rw[htk] at hi ⊢
     exact (h3 i o x hi hx).1) (by rw[htk];exact hnew)
    rw[htk] at K
    have hpure:∀ y,some y∈outs→pE y=true:=fun y hy=>by
     obtain⟨i,hi⟩:=aio.1 hy
     have hlt:i<outs.length:=(ahQ.1 hi).1
     have hlt':i<ops.length:=by rw[← h1];exact hlt
     exact ((h3 i _ (some y) (ahO hlt') hi).2 (acL _) y rfl).2
    have hJ:=OR (ops:=ops) (M:=S) (outs:=outs) (fun _ h=>h) (.refl ops S) hpure
    refine wp_region_any hmix ?_
    have hM':=hM.of_heap (w':={ w with drawn:=w.drawn+1 }) rfl rfl rfl
    have hany:=K.any (C:=C) (Q:=Q) (FV c3) c5 (fun G ρ w a hMn=>by
     rw[aht]
     exact hQ _ G ρ w a h2 hJ hMn) ops.length (Array.replicate ops.toArray.size false) a { w with drawn:=w.drawn+1 } G ρ (by simp) wk
     (fun m _ hm2=>sV hm2 true) (yj (ai0 _)) (by
       have:=DI (X:=X) (C:=C) (ops:=ops) (n:=ops.length) (S:=S) (outs:=outs) (ai0 _) hM'
       rw[htk] at this
       exact this)
    rw[show ops.length+(ops.length - ops.length)=ops.toArray.size by simp] at hany
    exact hany
theorem GW:∀ (l:List Oper) (T:List SV),(wI l T).length=T.length
 | [],_=>rfl
 | o::r,T=>by
  simp only[wI]
  rw[GW r]
  cases o.dst<;>simp
theorem Ox:∀ (l:List Oper) (T:List SV) (t:Nat) (s:SV),(wI l T)[t]? =some s→s= .v false [.any]∨((∀ o,o∈l→o.dst≠some t)∧T[t]? =some s)
 | [],T,t,s,h=> .inr ⟨(fun _ h'=>nomatch h'),h⟩
 | o::r,T,t,s,h=>by
  simp only[wI] at h
  rcases Ox r _ t s h with h1 | ⟨h1,h2⟩
  ·exact .inl h1
  ·cases hd:o.dst with
   | none=>
    rw[hd] at h2
    refine .inr ⟨fun o' ho=> ?_,h2⟩
    rcases aij.1 ho with e | e
    ·subst e;rw[hd];exact nofun
    ·exact h1 o' e
   | some d=>
    rw[hd] at h2
    simp only[ahT] at h2
    by_cases e:d=t
    ·subst e
     rw[ajQ rfl] at h2
     split at h2
     ·cases h2;exact .inl rfl
     ·cases h2
    ·rw[ajP e] at h2
     refine .inr ⟨fun o' ho=> ?_,h2⟩
     rcases aij.1 ho with e' | e'
     ·subst e';rw[hd];intro h;cases h;exact e rfl
     ·exact h1 o' e'
theorem PN:∀ (l:List (Nat×Ty)) (v:TH l) (T:List SV),(Jy l v T).length=T.length
 | [],_,_=>rfl
 | p::r,v,T=>by simp[Jy,PN r]
theorem Z2 {S':St} {ρ:Env} {a:Act} (hF:jN G ρ S') (hT:iH G ρ S' a):∀ (l:List (Nat×Ty)) (v:TH l) (T:List SV),RD S' l=some v→T.length=S'.tmps.length→(∀ (i:Nat) (s:SV),T[i]? =some s→bA G ρ s (a.tmps.getD i undef))→
 ∀ (i:Nat) (s:SV),(Jy l v T)[i]? =some s→bA G ρ s (a.tmps.getD i undef)
 | [],_,T,_,_,h,i,s,hi=>h i s hi
 | p::r,v,T,hv,hl,h,i,s,hi=>by
  simp only[RD] at hv
  split at hv
  ·rename_i x hx
   split at hv
   ·rename_i y hy
    cases hv
    simp only[Jy,ahT] at hi
    by_cases e:p.1=i
    ·subst e
     rw[ajQ rfl] at hi
     split at hi
     ·rename_i hlt
      cases hi
      rw[PN,hl] at hlt
      have hd:=hT.2 p.1 _ (ahO hlt)
      have:bA G ρ (S'.tmps.getD p.1 (.v false [.any])) (a.tmps.getD p.1 undef):=by
       rw[ahH,ahO hlt];exact hd
      exact Cp ρ (lV hF (mO.nil _ _ _) hx this)
     ·cases hi
    ·rw[ajP e] at hi
     exact Z2 hF hT r y T hy hl h i s hi
   ·cases hv
  ·cases hv
theorem ack {S S':St} {ops:List Oper} {l:List (Nat×Ty)} {v:TH l} {a:Act} (hJ:uG ops S S') (hv:RD S' l=some v) (hM:Mod C G ρ S' w a):Mod C G ρ { S with tmps:=Jy l v (wI ops S.tmps) } w a:=by
 have h0:Mem C G ρ { S with tmps:=Jy l v (wI ops S.tmps) } w:=hM.toMem.Iu (by rw[hJ.boxes]) (by rw[hJ.rows]) (by rw[hJ.objs])
 refine { h0 with tmps:=⟨?_, ?_⟩,defers:=hM.defers }
 ·show a.tmps.size=(Jy l v (wI ops S.tmps)).length
  rw[PN,GW, ← hJ.len];exact hM.tmps.1
 ·refine Z2 hM.toMem.frozen hM.tmps l v _ hv (by rw[GW,hJ.len]) (fun i s hi=> ?_)
  rcases Ox ops S.tmps i s hi with e | ⟨h1,h2⟩
  ·subst e;trivial
  ·exact hM.tmps.2 i s (by rw[hJ.tmp i h1];exact h2)
end Go.Dn
