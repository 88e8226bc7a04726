/-
  The executor, its fourth part: regions that draw their order are sound. No condition.
-/
import Derived.Test.YtjlkkapojeldlabGreatDoorYc
set_option linter.all false
namespace Go.Dn
variable {β:Type} {X:Cx} {C:Fr X.P} {G:Gh} {ρ:Env} {w:World}
theorem wh {p q:Nat->Bool} {i:Nat}:∀ {l:List Nat},l.Nodup->i∈l->p i=true->(∀ j,q j=(p j&&j != i))->l.countP p=l.countP q+1
 | [],_,hi,_,_=>by simp at hi
 | j::l,hn,hi,hp,hq=>by
  rw[ae1] at hn
  by_cases e:j=i
  ·subst e
   have h1:q j=false:=by rw[hq];simp
   have h2:l.countP p=l.countP q:=by
    refine List.countP_congr fun m hm=> ?_
    have:m≠j:=fun e=>hn.1 (e ▸ hm)
    rw[hq];simp[this]
   rw[List.countP_cons,List.countP_cons,hp,h1,h2];simp
  ·have hi':i∈l:=by
    rcases aeO.1 hi with h | h
    ·exact absurd h.symm e
    ·exact h
   have h1:q j=p j:=by rw[hq];simp[e]
   rw[List.countP_cons,List.countP_cons,h1,wh hn.2 hi' hp hq]
   omega
theorem Ch:∀ {l:List Oper} {S:St} {outs:List (Option Del)} {p:Nat×List CV},p∈(states l S outs).boxes->p∈S.boxes\/∃ (j:Nat) (o:Oper) (x:Option Del) (d:Nat) (c:List CV),l[j]? =some o/\outs[j]? =some x/\o.dst=some d/\wJ x=some c/\p=(d,c)
 | [],S,outs,p,h=>by cases outs<;>exact .inl h
 | o::l,S,[],p,h=> .inl h
 | o::l,S,x::xs,p,h=>by
  simp only[states] at h
  rcases Ch h with h1 | ⟨j,o',x',d,c,h1,h2,h3⟩
  ·cases x with
   | none=>left;simpa [St.out] using h1
   | some y=>
    cases hd:o.dst with
    | none=>left;simpa [St.out,St.app,hd] using h1
    | some d=>
     cases hb:y.box with
     | none=>left;simpa [St.out,St.app,hd,hb] using h1
     | some c=>
      have h2:p=(d,c)\/p∈S.boxes:=by simpa [St.out,St.app,hd,hb] using h1
      rcases h2 with h2 | h2
      ·exact .inr ⟨0,o,some y,d,c,rfl,rfl,hd,hb,h2⟩
      ·exact .inl h2
  ·exact .inr ⟨j+1,o',x',d,c,by simpa using h1,by simpa using h2,h3⟩
section
variable {ops:List Oper} {n:Nat} {S Sn:St} {listed:Array Bool} {outs:List (Option Del)}
theorem bM {i:Nat} {b:Bool} (h:i<listed.size):(listed.setIfInBounds i true).getD i b=true:=by
 rw[ac5,ade h];rfl
theorem aL {i j:Nat} {b:Bool} (h:j≠i):(listed.setIfInBounds i true).getD j b=listed.getD j b:=by
 rw[ac5,ac5,adb (by omega)]
theorem ck.xe (K:ck X ops n S outs Sn) {i d:Nat} (hin:i<n) (hd:bS ops i=some d) (hsz:listed.size=ops.length) (hun:listed.getD i true=false) (t:Nat): az ops n (listed.setIfInBounds i true) t=(az ops n listed t&&t != d):=by
 have his:i<listed.size:=by rw[hsz];exact aft hin K.n_le
 rw[Bool.eq_iff_iff,cU,adj,cU]
 constructor
 ·rintro⟨j,h1,h2,h3⟩
  have hji:j≠i:=fun e=>by subst e;rw[bM his] at h2;cases h2
  rw[aL hji] at h2
  refine⟨⟨j,h1,h2,h3⟩, ?_⟩
  simp only[bne_iff_ne,ne_eq]
  intro e
  subst e
  exact hji (K.uniq h1 hin h3 hd)
 ·rintro⟨⟨j,h1,h2,h3⟩,h4⟩
  have hji:j≠i:=fun e=>by
   subst e
   rw[hd] at h3
   cases h3
   simp at h4
  exact⟨j,h1,by rw[aL hji];exact h2,h3⟩
theorem wo {S:St} {d:Nat} (h:S.di d=false):S.bV d=false/\S.aX d=false/\S.bu d=false/\S.bn d=false:=by
 have cv:∀ c:CV,c.di d=false->c.bV d=false/\c.aX d=false/\c.bu d=false/\c.bn d=false:=fun c hc=>by
  simpa [CV.di] using hc
 have cs:∀ l:List CV,l.any (CV.di d)=false->l.any (CV.bV d)=false/\l.any (CV.aX d)=false/\l.any (CV.bu d)=false/\l.any (CV.bn d)=false:=fun l hl=>by
  simp only[adR] at hl ⊢
  exact⟨fun c hc=>by simp[(cv c (by simpa using hl c hc)).1],fun c hc=>by simp[(cv c (by simpa using hl c hc)).2.1],fun c hc=>by simp[(cv c (by simpa using hl c hc)).2.2.1],fun c hc=>by simp[(cv c (by simpa using hl c hc)).2.2.2]⟩
 have sv:∀ s:SV,s.di d=false->s.bV d=false/\s.aX d=false/\s.bu d=false/\s.bn d=false:=fun s hs=>by
  cases s with
  | v a l=>exact cs l hs
  | tup l=>
   simp only[SV.di,adR] at hs
   simp only[SV.bV,SV.aX,SV.bu,SV.bn,adR]
   exact⟨fun p hp=>by simp[(cs p.2 (by simpa using hs p hp)).1],fun p hp=>by simp[(cs p.2 (by simpa using hs p hp)).2.1],fun p hp=>by simp[(cs p.2 (by simpa using hs p hp)).2.2.1],fun p hp=>by simp[(cs p.2 (by simpa using hs p hp)).2.2.2]⟩
 simp only[St.di,adw,adR] at h
 have h1:∀ s,s∈S.tmps->s.di d=false:=fun s hs=>by simpa using h.1 s hs
 have h2:∀ p,p∈S.boxes->p.2.any (CV.di d)=false:=fun p hp=>by simpa using h.2 p hp
 simp only[St.bV,St.aX,St.bu,St.bn,adw,adR]
 exact⟨⟨fun s hs=>by simp[(sv s (h1 s hs)).1],fun p hp=>by simp[(cs p.2 (h2 p hp)).1]⟩,⟨fun s hs=>by simp[(sv s (h1 s hs)).2.1],fun p hp=>by simp[(cs p.2 (h2 p hp)).2.1]⟩,
  ⟨fun s hs=>by simp[(sv s (h1 s hs)).2.2.1],fun p hp=>by simp[(cs p.2 (h2 p hp)).2.2.1]⟩,⟨fun s hs=>by simp[(sv s (h1 s hs)).2.2.2],fun p hp=>by simp[(cs p.2 (h2 p hp)).2.2.2]⟩⟩
theorem ck.fresh (K:ck X ops n S outs Sn) (hcl:ju ops listed) {i d:Nat} (hin:i<n) (hd:bS ops i=some d) (hun:listed.getD i true=false): (aD S Sn (az ops n listed)).di d=false:=by
 obtain⟨n1,n3,n4,n4',n5⟩:=K.new i d hin hd
 have done:∀ j dj,j<n->bS ops j=some dj->az ops n listed dj=false->Py Sn d dj=false:=fun j dj hj hdj hu=>by
  have hlj:listed.getD j true=true:=by
   cases h:listed.getD j true with
   | true=>rfl
   | false=>have:=cU.2 ⟨j,hj,h,hdj⟩;rw[hu] at this;cases this
  refine n5 j dj hj hdj (fun e=>by subst e;rw[hun] at hlj;cases hlj) (fun hm=> ?_)
  obtain⟨oj,ho,_⟩:=iw hdj
  have:=cJ K.edges hcl j oj ho (fun e h1 h2=>hcl j oj ho hlj e h1 h2) i hm
  rw[hun] at this;cases this
 simp only[St.di,adw,adR] at n1
 have tmpS:∀ t,(S.tmps.getD t (.v false [.any])).di d=false:=fun t=>by
  rw[aee]
  cases h:S.tmps[t]? with
  | none=>rfl
  | some s=>simpa using n1.1 s (aeU h)
 have tmpsOk:∀ s,s∈(aD S Sn (az ops n listed)).tmps->s.di d=false:=fun s hs=>by
  simp only[aD,aeT,aeX] at hs
  obtain⟨t,ht,rfl⟩:=hs
  cases hu:az ops n listed t with
  | true=>simpa using tmpS t
  | false=>
   simp only[ado,af7]
   by_cases hex:∃ j,j<n/\bS ops j=some t
   ·obtain⟨j,h1,h2⟩:=hex
    have:=done j t h1 h2 hu
    simp only[Py,adw] at this
    exact this.1
   ·have hnd:t∉fq (ops.take n):=by
     intro hm
     simp only[fq,aeR] at hm
     obtain⟨p,hp,hpd⟩:=hm
     obtain⟨m,hm⟩:=aeS.1 hp
     have hmn:m<n:=by
      have:=(aen.1 hm).1
      simp at this;omega
     rw[cE hmn] at hm
     exact hex ⟨m,hmn,by unfold bS;rw[hm];exact hpd⟩
    have:Sn.tmps[t]? =S.tmps[t]? :=by rw[K.sn];exact (dW hnd).1
    rw[Ek this]
    exact tmpS t
 have boxesOk:∀ p,p∈(aD S Sn (az ops n listed)).boxes->p.2.any (CV.di d)=false:=fun p hp=>by
  simp only[aD,aeQ,adt] at hp
  obtain⟨hp,hu⟩:=hp
  rw[K.sn] at hp
  rcases Ch hp with h | ⟨j,o',x',dj,cj,h1,h2,h3,h4,h5⟩
  ·simpa using n1.2 p h
  ·subst h5
   have hjn:j<n:=by
    have:=(aen.1 h1).1
    simp at this;omega
   have hdj:bS ops j=some dj:=by unfold bS;rw[cE hjn] at h1;rw[h1];exact h3
   have:=done j dj hjn hdj hu
   have hlook:look Sn.boxes dj=some cj:=by
    rw[K.sn,(rH (by rw[K.len,aeH,afA K.n_le]) K.dupl h1 h2 h3).2.1,h4];rfl
   simp only[Py,hlook,adw] at this
   exact this.2
 simp only[St.di,adw,adR]
 exact⟨fun s hs=>by simp[tmpsOk s hs],fun p hp=>by simp[boxesOk p hp]⟩
theorem ck.next (K:ck X ops n S outs Sn) {i d:Nat} {o:Oper} {x:Option Del} (hin:i<n) (hi:ops[i]? =some o) (hd:o.dst=some d) (hx:outs[i]? =some x) (hsz:listed.size=ops.length) (hun:listed.getD i true=false) {a:Act} (hM:Mod C G ρ ((aD S Sn (az ops n listed)).out o x) w a):Mod C G ρ (aD S Sn (az ops n (listed.setIfInBounds i true))) w a:=by
 have hdA:bS ops i=some d:=by unfold bS;rw[hi];exact hd
 have hU:=K.xe hin hdA hsz hun
 obtain⟨n1,n3,n4,n4',_⟩:=K.new i d hin hdA
 have hat:=rH (S:=S) (outs:=outs) (by rw[K.len,aeH,afA K.n_le]) K.dupl (i:=i) (o:=o) (x:=x) (by rw[cE hin];exact hi) hx hd
 rw[<- K.sn] at hat
 refine hM.equiv ?_ ?_ ?_ ?_
 ·rw[L7 hd]
  apply ad9
  intro t
  rw[aeq,dV,dV,hU t]
  by_cases e:d=t
  ·subst e
   have hlen:(aD S Sn (az ops n listed)).tmps.length=S.tmps.length:=by simp[aD]
   rw[hlen]
   by_cases hlt:d<S.tmps.length
   ·simp only[hlt,aga,afV,adk,ado,af7]
    rw[aee,hat.1 hlt];rfl
   ·simp[hlt]
  ·rw[af8 e]
   have:(t != d)=true:=by simp only[bne_iff_ne,ne_eq];exact fun h=>e h.symm
   rw[this,adm]
 ·intro k cs hk
  simp only[aD,aN,hU k] at hk
  rw[IU hd]
  split at hk
  ·cases hk
  ·rename_i hc
   by_cases e:k=d
   ·subst e
    rw[hat.2.1,n3] at hk
    simp only[aga]
    cases hb:wJ x with
    | none=>rw[hb] at hk;cases hk
    | some c=>rw[hb] at hk;simpa using hk
   ·rw[af8 e]
    simp only[aD,aN]
    rw[af8]
    ·exact hk
    ·intro hu
     apply hc
     simp[hu,e]
 ·intro k q hk
  simp only[aD,aN,hU k] at hk
  rw[L6 hd]
  split at hk
  ·cases hk
  ·rename_i hc
   by_cases e:k=d
   ·subst e
    rw[hat.2.2.1,n4] at hk
    simp only[aga]
    cases hb:vH x with
    | none=>rw[hb] at hk;cases hk
    | some c=>rw[hb] at hk;simpa using hk
   ·rw[af8 e]
    simp only[aD,aN]
    rw[af8]
    ·exact hk
    ·intro hu
     apply hc
     simp[hu,e]
 ·intro k q hk
  simp only[aD,aN,hU k] at hk
  rw[LZ hd]
  split at hk
  ·cases hk
  ·rename_i hc
   by_cases e:k=d
   ·subst e
    rw[hat.2.2.2,n4'] at hk
    simp only[aga]
    cases hb:zE x with
    | none=>rw[hb] at hk;cases hk
    | some c=>rw[hb] at hk;simpa using hk
   ·rw[af8 e]
    simp only[aD,aN]
    rw[af8]
    ·exact hk
    ·intro hu
     apply hc
     simp[hu,e]
theorem ck.wpOp (K:ck X ops n S outs Sn) {Q:Exit->Act->World->Prop} {K':Act->World->Prop} {a:Act} {i:Nat} {o:Oper} (hin:i<n) (hi:ops[i]? =some o) (hsz:listed.size=ops.length) (hcl:ju ops listed) (hun:listed.getD i true=false) (hed:∀ e,e∈o.after.toList->Region.binds .any e=true->listed.getD e.on false=true) (hM:Mod C G ρ (aD S Sn (az ops n listed)) w a) (hK:∀ G' ρ' w' a',Mod C G' ρ' (aD S Sn (az ops n (listed.setIfInBounds i true))) w' a'->K' a' w'):Go.wpOp X.P ops.toArray Q i K' a w:=by
 obtain⟨hds,hlk⟩:=K.head i o hin hi
 obtain⟨d,hd⟩:=afM.1 hds
 have hdA:bS ops i=some d:=by unfold bS;rw[hi];exact hd
 have hdeps:=cJ K.edges hcl i o hi hed
 obtain⟨x,hx⟩:∃ x,outs[i]? =some x:=⟨outs[i]'(by rw[K.len];exact hin),ael _⟩
 have hst:=K.step i o x hin hi hx
 have hgd:=K.guards hin hi hdeps
 have hev:=K.evs hin hi hdeps
 unfold Go.wpOp
 have hio:ops.toArray[i]? =some o:=by simpa using hi
 rw[hio]
 simp only
 cases x with
 | none=>
  have hw:Region.wanted o (yielded ops.toArray a.tmps)=false:=by
   rcases hst with ⟨dg,b,want,hg,hb⟩ | hs
   ·have hw:=gS hM.tmps (by rw[hgd];exact hg)
    simp only at hw
    rw[hw.2,hb]
   ·exact F7 hM.tmps (by rw[K.abH hin hi hdeps];exact hs)
  rw[af8 (by rw[hw];simp)]
  exact hK G ρ w _ (K.next hin hi hd hx hsz hun (hM.put o.dst (fun _ _=>Oa)))
 | some y=>
  obtain⟨⟨hL,_⟩,hg⟩:=hst
  have hwt:Region.wanted o (yielded ops.toArray a.tmps)=true:=by
   rcases hg with hg | ⟨dg,b,want,hg,hb⟩
   ·exact gS hM.tmps (g:=none) (by rw[hgd];exact hg)
   ·have hw:=gS hM.tmps (by rw[hgd];exact hg)
    simp only at hw
    rw[hw.2,hb]
  rw[af9 hwt]
  left
  have hfr:=wo (K.fresh hcl hin hdA hun)
  have hnear:ER o (states ((ops.take n).take i) S (outs.take i)) S (aD S Sn (az ops n listed)):=by
   have nolook:∀ k,(look S.boxes k).isSome=true\/(look S.rows k).isSome=true\/(look S.objs k).isSome=true->az ops n listed k=false/\look Sn.boxes k=look S.boxes k/\look Sn.rows k=look S.rows k/\look Sn.objs k=look S.objs k:=fun k hk=>by
    have hnd:∀ j,j<n->bS ops j≠some k:=fun j hj hdj=>by
     obtain⟨_,m3,m4,m5,_⟩:=K.new j k hj hdj
     rcases hk with hk | hk | hk
     ·rw[m3] at hk;cases hk
     ·rw[m4] at hk;cases hk
     ·rw[m5] at hk;cases hk
    refine⟨?_, ?_⟩
    ·cases hu:az ops n listed k with
     | false=>rfl
     | true=>obtain⟨j,h1,_,h3⟩:=cU.1 hu;exact absurd h3 (hnd j h1)
    ·have:k∉fq (ops.take n):=fun hm=>by
      simp only[fq,aeR] at hm
      obtain⟨p,hp,hpd⟩:=hm
      obtain⟨m,hm⟩:=aeS.1 hp
      have hmn:m<n:=by
       have:=(aen.1 hm).1
       simp at this;omega
      rw[cE hmn] at hm
      exact hnd m hmn (by unfold bS;rw[hm];exact hpd)
     rw[K.sn]
     exact (dW this).2
   refine⟨hev,fun k cs hk=> ?_,fun k q hk=> ?_,fun k q hk=> ?_⟩
   ·obtain⟨h1,h2,_⟩:=nolook k (.inl (by rw[hk];rfl))
    simp only[aD,aN,h1,ado,af7];rw[h2];exact hk
   ·obtain⟨h1,_,h2,_⟩:=nolook k (.inr (.inl (by rw[hk];rfl)))
    simp only[aD,aN,h1,ado,af7];rw[h2];exact hk
   ·obtain⟨h1,_,_,h2⟩:=nolook k (.inr (.inr (by rw[hk];rfl)))
    simp only[aD,aN,h1,ado,af7];rw[h2];exact hk
  have hwp:=hL C G ρ _ w a Q hM hnear (fun d' hd' _=>by rw[hd] at hd';cases hd';exact hfr.1) (fun d' hd' _=>by rw[hd] at hd';cases hd';exact hfr.2.1) (fun d' hd' _=>by rw[hd] at hd';cases hd';exact hfr.2.2)
  refine Oper.wp_mono (fun a' w' h=> ?_) hwp
  obtain⟨G',ρ',hM'⟩:=h
  exact hK G' ρ' w' a' (K.next hin hi hd hx hsz hun hM')
theorem JL {N:Nat} (hsz:listed.size=N) (hn:n<=N) (h1:∀ i,i<n->listed.getD i true=true) (h2:∀ i,n<=i->i<N->listed.getD i true=false):listed=mask n N:=by
 apply Array.ext_getElem?
 intro i
 simp only[mask,aev]
 by_cases c1:i<n
 ·rw[aeg (by simpa using c1),List.getElem?_replicate_of_lt c1]
  have:=h1 i c1
  rw[ac5,ac6 (by omega)] at this
  rw[ac6 (by omega)]
  simpa using this
 ·by_cases c2:i<N
  ·rw[aeh (by simpa using c1),List.getElem?_replicate_of_lt (by simp;omega)]
   have:=h2 i (by omega) c2
   rw[ac5,ac6 (by omega)] at this
   rw[ac6 (by omega)]
   simpa using this
  ·rw[ac7 (by omega),aem (by simp;omega)]
theorem ck.any (K:ck X ops n S outs Sn) (hwaits:∀ k,n<=k->k<ops.length->∀ j,j<k->j∈(deps ops).getD k m0) {Q:Exit->Act->World->Prop} (hseq:Region.seqB .any ops.toArray (ops.length - n) n (mask n ops.length)=true) (htail:∀ G ρ w a,Mod C G ρ Sn w a->wpList X.P ops.toArray Q (ops.drop n) a w):∀ (u:Nat) (listed:Array Bool) (a:Act) (w:World) (G:Gh) (ρ:Env),listed.size=ops.length->ju ops listed-> (∀ k,n<=k->k<ops.length->listed.getD k true=false)->(List.range n).countP (fun i=> !listed.getD i true)=u->Mod C G ρ (aD S Sn (az ops n listed)) w a->wpAny X.P .any ops.toArray Q (u+(ops.length - n)) listed a w:=by
 intro u
 induction u with
 | zero=>
  intro listed a w G ρ hsz hcl htl hcnt hM
  have hall:∀ i,i<n->listed.getD i true=true:=fun i hi=>by
   rw[adY] at hcnt
   have:=hcnt i (by simpa using hi)
   simpa using this
  have hU:∀ t,az ops n listed t=false:=fun t=>by
   cases hu:az ops n listed t with
   | false=>rfl
   | true=>obtain⟨j,h1,h2,_⟩:=cU.1 hu;rw[hall j h1] at h2;cases h2
  have hMn:Mod C G ρ Sn w a:=by
   refine hM.equiv ?_ (fun k cs hk=> ?_) (fun k q hk=> ?_) (fun k q hk=> ?_)
   ·apply ad9
    intro t
    rw[dV,hU t]
    by_cases hlt:t<S.tmps.length
    ·have:t<Sn.tmps.length:=by rw[K.uf];exact hlt
     simp[hlt,this]
    ·rw[af8 hlt,aem (by rw[K.uf];omega)]
   ·simp only[aD,aN,hU k,ado,af7];exact hk
   ·simp only[aD,aN,hU k,ado,af7];exact hk
   ·simp only[aD,aN,hU k,ado,af7];exact hk
  have hmask:=JL (n:=n) hsz K.n_le hall htl
  have hl:(ops.drop n).length=ops.length - n:=by simp
  have:=wpAny_of_seq (P:=X.P) (md:= .any) (ops:=ops.toArray) (Q':=Q) (ops.drop n) n listed a w (fun j=>by simp[aek]) (by rw[hl,hmask];exact hseq) (htail G ρ w a hMn)
  rw[hl] at this
  rw[afH]
  exact this
 | succ u ih=>
  intro listed a w G ρ hsz hcl htl hcnt hM
  have hsome:∃ i,i<n/\listed.getD i true=false:=by
   have:0<(List.range n).countP (fun i=> !listed.getD i true):=by omega
   rw[adZ] at this
   obtain⟨i,h1,h2⟩:=this
   exact⟨i,by simpa using h1,by simpa using h2⟩
  rw[show u+1+(ops.length - n)=(u+(ops.length - n))+1 by omega]
  refine⟨fun hr=> ?_,fun i hi=> ?_⟩
  ·exfalso
   have hall:∀ i,i<n->listed.getD i true=true:=by
    intro i
    induction i using Nat.strongRecOn with
    | _ i ihi=>
     intro hin
     cases hl:listed.getD i true with
     | true=>rfl
     | false=>
      exfalso
      have hlt:i<ops.length:=aft hin K.n_le
      have hoi:ops[i]? =some ops[i]:=ael hlt
      have:i∈Region.ready .any ops.toArray listed:=by
       rw[mem_ready]
       refine⟨hl,ops[i],by simp,fun e he hb=> ?_⟩
       have hE:=K.edges
       simp only[eF,adQ] at hE
       have h7:=hE i (by simp;exact hlt)
       rw[hoi] at h7
       simp only[adQ] at h7
       have h8:=h7 e (by simpa using he)
       simp only[hb,adv,adq] at h8
       have h9:e.on<i:=aft (afx _) (afo h8)
       have h10:=ihi e.on h9 (by omega)
       rw[ac5] at h10 ⊢
       rw[ac6 (by omega)] at h10 ⊢
       simpa using h10
      rw[hr] at this
      cases this
   obtain⟨i,h1,h2⟩:=hsome
   rw[hall i h1] at h2;cases h2
  ·rw[mem_ready] at hi
   obtain⟨hun,o,hio,hed⟩:=hi
   have hoi:ops[i]? =some o:=by simpa using hio
   have hed':∀ e,e∈o.after.toList->Region.binds .any e=true->listed.getD e.on false=true:=fun e he hb=>hed e (by simpa using he) hb
   by_cases hin:i<n
   ·refine K.wpOp hin hoi hsz hcl hun hed' hM (fun G' ρ' w' a' hM'=>ih (listed.setIfInBounds i true) a' w' G' ρ' (by simpa using hsz) ?_ ?_ ?_ hM')
    ·intro j oj hj hlj e he hb
     by_cases eji:j=i
     ·subst eji
      rw[hoi] at hj
      cases hj
      have:=hed' e he hb
      by_cases e2:e.on=j
      ·rw[e2];exact bM (by rw[hsz];exact aft hin K.n_le)
      ·rw[aL e2];exact this
     ·rw[aL eji] at hlj
      have:=hcl j oj hj hlj e he hb
      by_cases e2:e.on=i
      ·rw[e2];exact bM (by rw[hsz];exact aft hin K.n_le)
      ·rw[aL e2];exact this
    ·intro k hk1 hk2
     rw[aL (by omega)]
     exact htl k hk1 hk2
    ·have:=wh (p:=fun j=> !listed.getD j true) (q:=fun j=> !(listed.setIfInBounds i true).getD j true) (i:=i) (l:=List.range n) List.nodup_range (by simpa using hin) (by simp[hun]) (fun j=>by
      by_cases e:j=i
      ·subst e;simp only[bM (listed:=listed) (b:=true) (by rw[hsz];exact aft hin K.n_le)];simp
      ·simp only[aL (listed:=listed) (b:=true) e];simp[e])
     omega
   ·exfalso
    have hlt:i<ops.length:=(aen.1 hoi).1
    obtain⟨m,h1,h2⟩:=hsome
    have hd:=hwaits i (by omega) hlt m (by omega)
    have:=cJ K.edges hcl i o hoi hed' m hd
    rw[h2] at this;cases this
theorem ck.of (hn:n<=ops.length) (c2:Em ops (deps ops) n=true) (c4:eF ops=true) (h1:outs.length=(ops.take n).length) (h3:∀ i o x,(ops.take n)[i]? =some o->outs[i]? =some x->Cq X ops S o (states ((ops.take n).take i) S (outs.take i)) x) (hnew:zD ops n S (states (ops.take n) S outs)=true):ck X ops n S outs (states (ops.take n) S outs):=by
 have hlen:(ops.take n).length=n:=by simp;omega
 simp only[Em,adj,adt] at c2
 exact {
  n_le:=hn
  dupl:=c2.1
  head:=fun i o hin hi=>by
   have:=c2.2
   simp only[adQ] at this
   have h5:=this i (by simpa using hin)
   rw[hi] at h5
   simp only[adj,adQ] at h5
   refine⟨h5.1,fun t ht j hj hdj=> ?_⟩
   have h6:=MX (h5.2 t ht) (k:=j) (by
    obtain⟨o',ho',hd'⟩:=iw hdj
    rw[aeo,cE hj,ho',afP,hd'])
   rw[afH] at h6;exact h6
  edges:=c4
  len:=by rw[h1,hlen]
  sn:=rfl
  step:=fun i o x hin hi hx=>h3 i o x (by rw[cE hin];exact hi) hx
  new:=fun i d hin hd=>by
   simp only[zD,adj,adQ] at hnew
   obtain⟨o',ho',hd'⟩:=iw hd
   have h5:=hnew.1 o' (aeU (by rw[cE hin];exact ho'))
   rw[hd'] at h5
   simp only[adt] at h5
   obtain⟨g1,g2,g3,g4⟩:=Vv h5
   refine⟨g1,g2,g3,g4,fun j dj hj hdj hij hnd=> ?_⟩
   have h6:=hnew.2 j (by simpa using hj)
   rw[hdj] at h6
   simp only[adQ] at h6
   rw[aaJ]
   cases hin':inL (Rw (states (ops.take n) S outs) dj) d with
   | false=>rfl
   | true=>
    have h7:=h6 d (Vw.1 hin') i (by simpa using hin)
    rw[hd] at h7
    simp only[adx,afk,adv] at h7
    rcases h7 with h7 | h7 | h7
    ·exact absurd (afm h7) hij
    ·exact absurd (gD.1 h7) hnd
    ·cases h7 }
theorem Cl {m:Nat} (c3:((List.range ops.length).all fun k=>Nat.blt k m||nq (deps ops) k)=true):∀ k,m<=k->k<ops.length->∀ j,j<k->j∈(deps ops).getD k m0:=fun k hm1 hm2 j hj=>by
 simp only[adQ] at c3
 have h5:=c3 k (by simpa using hm2)
 simp only[adx] at h5
 rcases h5 with h5 | h5
 ·have:k<m:=aft (afx _) (afo h5)
  omega
 ·simp only[nq,adQ] at h5
  exact gD.1 (h5 j (by simpa using hj))
theorem rG:ju ops (Array.replicate ops.toArray.size false):=by
 intro i o hi hl
 have hlt:=(aen.1 hi).1
 rw[ac5,ada,af9 (by simpa using hlt)] at hl
 cases hl
theorem oT {m:Nat} (hm:m<ops.length) (b:Bool):(Array.replicate ops.toArray.size false).getD m b=false:=by
 rw[ac5,ada,af9 (by simpa using hm)]
 rfl
theorem um {m:Nat} (hm:m<=ops.length):(List.range m).countP (fun i=> !(Array.replicate ops.toArray.size false).getD i true)=m:=by
 have:(List.range m).countP (fun i=> !(Array.replicate ops.toArray.size false).getD i true)=(List.range m).length:=by
  rw[List.countP_eq_length]
  intro i hi
  have hin:i<m:=by simpa using hi
  rw[oT (by omega)];rfl
 rw[this];simp
theorem zV (hn:n<=ops.length) {a:Act} (hM':Mod C G ρ S w a):Mod C G ρ (aD S (states (ops.take n) S outs) (az ops n (Array.replicate ops.toArray.size false))) w a:=by
 have hother:∀ t,az ops n (Array.replicate ops.toArray.size false) t=false->t∉fq (ops.take n):=fun t hu hm=>by
  simp only[fq,aeR] at hm
  obtain⟨p,hp,hpd⟩:=hm
  obtain⟨m,hm⟩:=aeS.1 hp
  have hmn:m<n:=by
   have:=(aen.1 hm).1
   simp at this;omega
  rw[cE hmn] at hm
  have:=cU.2 ⟨m,hmn,oT (ops:=ops) (by omega) true,show bS ops m=some t by unfold bS;rw[hm];exact hpd⟩
  rw[hu] at this;cases this
 refine hM'.equiv ?_ (fun k cs hk=> ?_) (fun k q hk=> ?_) (fun k q hk=> ?_)
 ·apply ad9
  intro t
  rw[dV]
  by_cases hlt:t<S.tmps.length
  ·rw[af9 hlt,ael hlt]
   congr 1
   cases hu:az ops n (Array.replicate ops.toArray.size false) t with
   | true=>simp[hlt]
   | false=>
    have:=(dW (S:=S) (outs:=outs) (hother t hu)).1
    simp only[ado,af7]
    rw[aee,this,ael hlt];rfl
  ·rw[af8 hlt,aem (by omega)]
 ·simp only[aD,aN] at hk
  split at hk
  ·cases hk
  ·rename_i hu
   rw[(dW (hother k (by simpa using hu))).2.1] at hk;exact hk
 ·simp only[aD,aN] at hk
  split at hk
  ·cases hk
  ·rename_i hu
   rw[(dW (hother k (by simpa using hu))).2.2.1] at hk;exact hk
 ·simp only[aD,aN] at hk
  split at hk
  ·cases hk
  ·rename_i hu
   rw[(dW (hother k (by simpa using hu))).2.2.2] at hk;exact hk
end
end Go.Dn
namespace Go.Dn
variable {β:Type} {X:Cx} {C:Fr X.P} {G:Gh} {ρ:Env} {w:World}
theorem oo {S T:St} {fb:List Nat} (hr:S.rows=T.rows) (hb:S.boxes=T.boxes):∀ (t:Ty) (cs:List CV),fO S fb t cs=fO T fb t cs
 | .int _,_=>rfl
 | .bool,_=>rfl
 | .str,_=>rfl
 | .unit,_=>rfl
 | .pair a b,cs=>by
  simp only[fO]
  rw[oo hr hb a cs]
  cases fO T fb a cs with
  | none=>rfl
  | some p=>simp only[oo hr hb b]
 | .st t,cs=>oo hr hb t cs
 | .slice t,cs=>by
  simp only[fO]
  congr 1
  funext c
  cases c<;>simp only[Nx,hr]
 | .ptr t,cs=>by
  simp only[fO]
  congr 1
  have e:fO S fb t=fO T fb t:=funext (oo hr hb t)
  rw[e]
  funext c
  cases c<;>simp only[Po,hb]
 | .clo g t,cs=>by
  simp only[fO]
  have e:fO S fb t=fO T fb t:=funext (oo hr hb t)
  rw[e]
 | .hnd,_=>rfl
def St.wt (S:St) (tm:List SV):St:={ S with tmps:=tm }
theorem NX {o:Oper} {S:St} {k:St->Option β} {r:β} {t:TypeId} {ad x:Operand} (ho:o.op= .store t ad x) (h:cF X o S k=some r): ∃ S',k S'=some r/\S'.tmps=S.tmps/\∀ tm,(S.wt tm).ev ad=S.ev ad->(S.wt tm).ev x=S.ev x->cF X o (S.wt tm) some=some (S'.wt tm):=by
 obtain⟨dst,op,ty,pos,af,g⟩:=o
 simp only at ho
 subst ho
 simp only[cF] at h
 split at h
 ·cases h
 ·rename_i hdst
  split at h
  ·rename_i b off a' cs ha hx
   unfold rI at h
   split at h
   ·rename_i l hl
    split at h
    ·rename_i hc
     split at h
     ·rename_i l' hl'
      refine⟨_,h,rfl,fun tm e1 e2=> ?_⟩
      simp only[cF]
      rw[af8 hdst,e1,e2,ha,hx]
      simp only
      unfold rI
      rw[show look (S.wt tm).boxes b=look S.boxes b from rfl,hl]
      simp only
      rw[af9 hc,hl']
      rfl
     ·cases h
    ·cases h
   ·cases h
  ·rename_i j sz i off a' cs ha hx
   unfold yq at h
   split at h
   ·rename_i q hq
    split at h
    ·cases h
    ·rename_i hc
     cases hy:q.l[i]? with
     | none=>rw[hy] at h;cases h
     | some y=>
      rw[hy] at h
      simp only[afJ] at h
      split at h
      ·rename_i cs' hcs
       split at h
       ·rename_i y' hy'
        refine⟨_,h,rfl,fun tm e1 e2=> ?_⟩
        simp only[cF]
        rw[af8 hdst,e1,e2,ha,hx]
        simp only
        unfold yq
        rw[show look (aF (S.wt tm) (gJ cs)).rows j=look (aF S (gJ cs)).rows j from rfl,hq]
        simp only
        rw[af8 hc,hy]
        simp only[afJ,hcs]
        have e3:gY (pack (aF (S.wt tm) (gJ cs)) q.t cs')=some y':=by
         rw[<- hy'];unfold pack;rw[oo (S:=aF (S.wt tm) (gJ cs)) (T:=aF S (gJ cs)) rfl rfl]
        rw[e3]
        rfl
       ·cases h
      ·cases h
   ·cases h
  ·rename_i hh off a' cs ha hx
   unfold Bh at h
   split at h
   ·rename_i ty' l hq
    split at h
    ·cases h
    ·rename_i hc
     cases hy:l[hh]? with
     | none=>rw[hy] at h;cases h
     | some y=>
      rw[hy] at h
      simp only[afJ] at h
      split at h
      ·rename_i cs' hcs
       split at h
       ·rename_i y' hy'
        refine⟨_,h,rfl,fun tm e1 e2=> ?_⟩
        simp only[cF]
        rw[af8 hdst,e1,e2,ha,hx]
        simp only
        unfold Bh
        rw[show look (aF (S.wt tm) (gJ cs)).objs br=look (aF S (gJ cs)).objs br from rfl,hq]
        simp only
        rw[af8 hc,hy]
        simp only[afJ,hcs]
        have e3:gY (pack (aF (S.wt tm) (gJ cs)) ty' cs')=some y':=by
         rw[<- hy'];unfold pack;rw[oo (S:=aF (S.wt tm) (gJ cs)) (T:=aF S (gJ cs)) rfl rfl]
        rw[e3]
        rfl
       ·cases h
      ·cases h
   ·cases h
  ·cases h
section
variable {ops:List Oper} {m:Nat} {S Sn S':St} {listed:Array Bool} {outs:List (Option Del)} {os:Oper}
theorem ck.VF (K:ck X ops m S outs Sn) {i d:Nat} {o:Oper} (him:i<m) (hi:ops[i]? =some o) (hb:vB o.op=true) (hg:o.guard=none) (hd:o.dst=some d): ∃ x:Del,outs[i]? =some (some x)/\de X.P o (states ((ops.take m).take i) S (outs.take i)) qN x/\x.box=none/\x.row=none/\x.obj=none/\ look Sn.boxes d=none/\look Sn.rows d=none/\look Sn.objs d=none:=by
 obtain⟨y,hy⟩:∃ y,outs[i]? =some y:=⟨outs[i]'(by rw[K.len];exact him),ael _⟩
 have hst:=K.step i o y him hi hy
 cases y with
 | none=>
  rcases hst with ⟨dg,b,want,hgd,_⟩ | hs
  ·simp only[guardOf,hg] at hgd
   cases hgd
  ·simp only[Dn.lD,hg] at hs
   cases hs
 | some x=>
  obtain⟨⟨_,h2⟩,_⟩:=hst
  obtain⟨h3,h4,h5,h6⟩:=h2.1 hb
  have hdA:bS ops i=some d:=by unfold bS;rw[hi];exact hd
  obtain⟨_,n3,n4,n5,_⟩:=K.new i d him hdA
  have hat:=rH (S:=S) (outs:=outs) (by rw[K.len,aeH,afA K.n_le]) K.dupl (i:=i) (o:=o) (x:=some x) (by rw[cE him];exact hi) hy hd
  rw[<- K.sn] at hat
  refine⟨x,hy,h3,h4,h5,h6, ?_, ?_, ?_⟩
  ·rw[hat.2.1,n3];simp[wJ,h4]
  ·rw[hat.2.2.1,n4];simp[vH,h5]
  ·rw[hat.2.2.2,n5];simp[zE,h6]
theorem ck.Qj (K:ck X ops m S outs Sn) {i d:Nat} {o:Oper} {x:Option Del} (hin:i<m) (hi:ops[i]? =some o) (hd:o.dst=some d) (hx:outs[i]? =some x) (hsz:listed.size=ops.length) (hun:listed.getD i true=false): (aD S Sn (az ops m (listed.setIfInBounds i true))).tmps=(aD S Sn (az ops m listed)).tmps.set d (RB x):=by
 have hdA:bS ops i=some d:=by unfold bS;rw[hi];exact hd
 have hU:=K.xe hin hdA hsz hun
 have hat:=rH (S:=S) (outs:=outs) (by rw[K.len,aeH,afA K.n_le]) K.dupl (i:=i) (o:=o) (x:=x) (by rw[cE hin];exact hi) hx hd
 rw[<- K.sn] at hat
 apply ad9
 intro t
 rw[aeq,dV,dV,hU t]
 by_cases e:d=t
 ·subst e
  have hlen:(aD S Sn (az ops m listed)).tmps.length=S.tmps.length:=by simp[aD]
  rw[hlen]
  by_cases hlt:d<S.tmps.length
  ·simp only[hlt,aga,afV,adk,ado,af7]
   rw[aee,hat.1 hlt];rfl
  ·simp[hlt]
 ·rw[af8 e]
  have:(t != d)=true:=by simp only[bne_iff_ne,ne_eq];exact fun h=>e h.symm
  rw[this,adm]
theorem Gd {i:Nat} (hi:m<=i) (t:Nat):az ops m (listed.setIfInBounds i true) t=az ops m listed t:=by
 rw[Bool.eq_iff_iff,cU,cU]
 constructor
 ·rintro⟨j,h1,h2,h3⟩;rw[aL (by omega)] at h2;exact⟨j,h1,h2,h3⟩
 ·rintro⟨j,h1,h2,h3⟩;exact⟨j,h1,by rw[aL (by omega)];exact h2,h3⟩
def pO {P0:Program} (C:Fr P0) (G:Gh) (ρ:Env) (ops:List Oper) (m:Nat) (S Sn S':St) (listed:Array Bool) (w:World) (a:Act):Prop:=
 if listed.getD m true=true then Mod C G ρ (S'.wt (aD S Sn (az ops m listed)).tmps) w a else Mod C G ρ (aD S Sn (az ops m listed)) w a
theorem ck.late (K:ck X ops m S outs Sn) (hm:m<ops.length) (hwaits:∀ k,m+1<=k->k<ops.length->∀ j,j<k->j∈(deps ops).getD k m0) (hos:ops[m]? =some os) (hog:os.guard=none) (hblind:∀ i,i<m->i∈(deps ops).getD m m0\/∃ p,ops[i]? =some p/\vB p.op=true/\p.guard=none) (hlk:∀ t,t∈os.looksAt ops.toArray->∀ j,j<m->bS ops j=some t->j∈(deps ops).getD m m0) (hS':S'.tmps=Sn.tmps/\∀ tm,(∀ x,x∈os.op.operands->(Sn.wt tm).ev x=Sn.ev x)->eX X.P os (Sn.wt tm) (S'.wt tm)) {Q:Exit->Act->World->Prop} (hseq:Region.seqB .any ops.toArray (ops.length - (m+1)) (m+1) (mask (m+1) ops.length)=true) (htail:∀ G ρ w a,Mod C G ρ S' w a->wpList X.P ops.toArray Q (ops.drop (m+1)) a w):∀ (u:Nat) (listed:Array Bool) (a:Act) (w:World) (G:Gh) (ρ:Env),listed.size=ops.length->ju ops listed-> (∀ k,m+1<=k->k<ops.length->listed.getD k true=false)->(List.range (m+1)).countP (fun i=> !listed.getD i true)=u->pO C G ρ ops m S Sn S' listed w a->wpAny X.P .any ops.toArray Q (u+(ops.length - (m+1))) listed a w:=by
 intro u
 induction u with
 | zero=>
  intro listed a w G ρ hsz hcl htl hcnt hM
  have hall:∀ i,i<m+1->listed.getD i true=true:=fun i hi=>by
   rw[adY] at hcnt
   have:=hcnt i (by simpa using hi)
   simpa using this
  have hU:∀ t,az ops m listed t=false:=fun t=>by
   cases hu:az ops m listed t with
   | false=>rfl
   | true=>obtain⟨j,h1,h2,_⟩:=cU.1 hu;rw[hall j (by omega)] at h2;cases h2
  have hMn:Mod C G ρ S' w a:=by
   unfold pO at hM
   rw[af9 (hall m (by omega))] at hM
   refine hM.equiv ?_ (fun k cs hk=>hk) (fun k q hk=>hk) (fun k q hk=>hk)
   show (aD S Sn (az ops m listed)).tmps=S'.tmps
   rw[hS'.1]
   apply ad9
   intro t
   rw[dV,hU t]
   by_cases hlt:t<S.tmps.length
   ·have:t<Sn.tmps.length:=by rw[K.uf];exact hlt
    simp[hlt,this]
   ·rw[af8 hlt,aem (by rw[K.uf];omega)]
  have hmask:=JL (n:=m+1) hsz (by omega) hall htl
  have hl:(ops.drop (m+1)).length=ops.length - (m+1):=by simp
  have:=wpAny_of_seq (P:=X.P) (md:= .any) (ops:=ops.toArray) (Q':=Q) (ops.drop (m+1)) (m+1) listed a w (fun j=>by simp[aek]) (by rw[hl,hmask];exact hseq) (htail G ρ w a hMn)
  rw[hl] at this
  rw[afH]
  exact this
 | succ u ih=>
  intro listed a w G ρ hsz hcl htl hcnt hM
  have hsome:∃ i,i<m+1/\listed.getD i true=false:=by
   have:0<(List.range (m+1)).countP (fun i=> !listed.getD i true):=by omega
   rw[adZ] at this
   obtain⟨i,h1,h2⟩:=this
   exact⟨i,by simpa using h1,by simpa using h2⟩
  rw[show u+1+(ops.length - (m+1))=(u+(ops.length - (m+1)))+1 by omega]
  refine⟨fun hr=> ?_,fun i hi=> ?_⟩
  ·exfalso
   have hall:∀ i,i<m+1->listed.getD i true=true:=by
    intro i
    induction i using Nat.strongRecOn with
    | _ i ihi=>
     intro hin
     cases hl:listed.getD i true with
     | true=>rfl
     | false=>
      exfalso
      have hlt:i<ops.length:=by omega
      have hoi:ops[i]? =some ops[i]:=ael hlt
      have:i∈Region.ready .any ops.toArray listed:=by
       rw[mem_ready]
       refine⟨hl,ops[i],by simp,fun e he hb=> ?_⟩
       have hE:=K.edges
       simp only[eF,adQ] at hE
       have h7:=hE i (by simp;exact hlt)
       rw[hoi] at h7
       simp only[adQ] at h7
       have h8:=h7 e (by simpa using he)
       simp only[hb,adv,adq] at h8
       have h9:e.on<i:=aft (afx _) (afo h8)
       have h10:=ihi e.on h9 (by omega)
       rw[ac5] at h10 ⊢
       rw[ac6 (by omega)] at h10 ⊢
       simpa using h10
      rw[hr] at this
      cases this
   obtain⟨i,h1,h2⟩:=hsome
   rw[hall i h1] at h2;cases h2
  ·rw[mem_ready] at hi
   obtain⟨hun,o,hio,hed⟩:=hi
   have hoi:ops[i]? =some o:=by simpa using hio
   have hed':∀ e,e∈o.after.toList->Region.binds .any e=true->listed.getD e.on false=true:=fun e he hb=>hed e (by simpa using he) hb
   have hlt:i<ops.length:=(aen.1 hoi).1
   by_cases hin:i<m+1
   ·-- what the next round asks for
    have cl':ju ops (listed.setIfInBounds i true):=by
     intro j oj hj hlj e he hb
     by_cases eji:j=i
     ·subst eji
      rw[hoi] at hj
      cases hj
      have:=hed' e he hb
      by_cases e2:e.on=j
      ·rw[e2];exact bM (by omega)
      ·rw[aL e2];exact this
     ·rw[aL eji] at hlj
      have:=hcl j oj hj hlj e he hb
      by_cases e2:e.on=i
      ·rw[e2];exact bM (by omega)
      ·rw[aL e2];exact this
    have tl':∀ k,m+1<=k->k<ops.length->(listed.setIfInBounds i true).getD k true=false:=fun k hk1 hk2=>by
     rw[aL (by omega)];exact htl k hk1 hk2
    have cnt':(List.range (m+1)).countP (fun j=> !(listed.setIfInBounds i true).getD j true)=u:=by
     have:=wh (p:=fun j=> !listed.getD j true) (q:=fun j=> !(listed.setIfInBounds i true).getD j true) (i:=i) (l:=List.range (m+1)) List.nodup_range (by simpa using hin) (by simp[hun]) (fun j=>by
      by_cases e:j=i
      ·subst e;simp only[bM (listed:=listed) (b:=true) (by omega:j<listed.size)];simp
      ·simp only[aL (listed:=listed) (b:=true) e];simp[e])
     omega
    have go:∀ G' ρ' w' a',pO C G' ρ' ops m S Sn S' (listed.setIfInBounds i true) w' a'->wpAny X.P .any ops.toArray Q (u+(ops.length - (m+1))) (listed.setIfInBounds i true) a' w':=
     fun G' ρ' w' a' hM'=>ih (listed.setIfInBounds i true) a' w' G' ρ' (by simpa using hsz) cl' tl' cnt' hM'
    by_cases him:i<m
    ·have hmi:(listed.setIfInBounds i true).getD m true=listed.getD m true:=aL (by omega)
     cases hlm:listed.getD m true with
     | false=>
      unfold pO at hM
      rw[hlm,af8 (by simp)] at hM
      refine K.wpOp him hoi hsz hcl hun hed' hM (fun G' ρ' w' a' hM'=>go G' ρ' w' a' ?_)
      unfold pO
      rw[hmi,hlm,af8 (by simp)]
      exact hM'
     | true=>
      unfold pO at hM
      rw[hlm,af9 rfl] at hM
      have hnd:i∉(deps ops).getD m m0:=fun hmem=>by
       have:=cJ K.edges hcl m os hos (fun e h1 h2=>hcl m os hos hlm e h1 h2) i hmem
       rw[hun] at this;cases this
      obtain⟨p,hp,hb,hg⟩:=(hblind i him).resolve_left hnd
      rw[hoi] at hp
      cases hp
      obtain⟨hds,_⟩:=K.head i o him hoi
      obtain⟨d,hd⟩:=afM.1 hds
      obtain⟨x,hx,hL,hx1,hx2,hx3,_⟩:=K.VF him hoi hb hg hd
      have hdeps:=cJ K.edges hcl i o hoi hed'
      have hev:=K.evs him hoi hdeps
      unfold Go.wpOp
      rw[hio]
      simp only
      have hwt:Region.wanted o (yielded ops.toArray a.tmps)=true:=gS (g:=none) hM.tmps (by simp[guardOf,hg])
      rw[af9 hwt]
      left
      have hnear:ER o (states ((ops.take m).take i) S (outs.take i)) qN (S'.wt (aD S Sn (az ops m listed)).tmps):=
       ⟨fun y hy=>by
         rw[<- hev y hy]
         cases y<;>rfl,fun k cs hk=>(by cases hk),fun k cs hk=>(by cases hk),fun k cs hk=>(by cases hk)⟩
      have hwp:=hL C G ρ _ w a Q hM hnear (fun d' _ h=>by rw[hx1] at h;cases h) (fun d' _ h=>by rw[hx2] at h;cases h) (fun d' _ h=>by rw[hx3] at h;cases h)
      refine Oper.wp_mono (fun a' w' h=> ?_) hwp
      obtain⟨G',ρ',hM'⟩:=h
      refine go G' ρ' w' a' ?_
      unfold pO
      rw[hmi,hlm,af9 rfl,K.Qj him hoi hd hx hsz hun]
      have e:x=⟨x.sv,none,none,none⟩:=by cases x;simp only at hx1 hx2 hx3;subst hx1;subst hx2;subst hx3;rfl
      rw[hd,e] at hM'
      exact hM'
    ·have eim:i=m:=by omega
     subst eim
     rw[hos] at hoi
     cases hoi
     have hdeps:=cJ K.edges hcl i os hos hed'
     unfold pO at hM
     rw[hun,af8 (by simp)] at hM
     have hunb:∀ t,az ops i listed t=true->look Sn.boxes t=none/\look Sn.rows t=none/\look Sn.objs t=none:=fun t hu=>by
      obtain⟨j,h1,h2,h3⟩:=cU.1 hu
      obtain⟨oj,h4,h5⟩:=iw h3
      have hnd:j∉(deps ops).getD i m0:=fun hmem=>by
       have:=hdeps j hmem
       rw[h2] at this;cases this
      obtain⟨p,hp,hb,hg⟩:=(hblind j h1).resolve_left hnd
      rw[h4] at hp
      cases hp
      obtain⟨x,_,_,_,_,_,h6⟩:=K.VF h1 h4 hb hg h5
      exact h6
     have hM2:Mod C G ρ (Sn.wt (aD S Sn (az ops i listed)).tmps) w a:=by
      refine hM.equiv rfl (fun k cs hk=> ?_) (fun k q hk=> ?_) (fun k q hk=> ?_)
      ·simp only[aD,aN]
       cases hu:az ops i listed k with
       | true=>rw[show look (Sn.wt (aD S Sn (az ops i listed)).tmps).boxes k=look Sn.boxes k from rfl,(hunb k hu).1] at hk;cases hk
       | false=>exact hk
      ·simp only[aD,aN]
       cases hu:az ops i listed k with
       | true=>rw[show look (Sn.wt (aD S Sn (az ops i listed)).tmps).rows k=look Sn.rows k from rfl,(hunb k hu).2.1] at hk;cases hk
       | false=>exact hk
      ·simp only[aD,aN]
       cases hu:az ops i listed k with
       | true=>rw[show look (Sn.wt (aD S Sn (az ops i listed)).tmps).objs k=look Sn.objs k from rfl,(hunb k hu).2.2] at hk;cases hk
       | false=>exact hk
     have hev:∀ x,x∈os.op.operands->(Sn.wt (aD S Sn (az ops i listed)).tmps).ev x=Sn.ev x:=fun x hx=>by
      cases x with
      | tmp t=>
       show (aD S Sn (az ops i listed)).tmps.getD t (.v false [.any])=Sn.tmps.getD t (.v false [.any])
       have hu:az ops i listed t=false:=by
        cases hu:az ops i listed t with
        | false=>rfl
        | true=>
         obtain⟨j,h1,h2,h3⟩:=cU.1 hu
         have:=hdeps j (hlk t (by
          simp only[Oper.looksAt,aeN,aeR]
          exact .inl ⟨.tmp t,by simpa using hx,rfl⟩) j h1 h3)
         rw[h2] at this;cases this
       rw[aee,dV]
       by_cases hlt:t<S.tmps.length
       ·simp[hlt,hu]
       ·rw[af8 hlt]
        have:Sn.tmps[t]? =none:=aem (by rw[K.uf];exact Nat.le_of_not_lt hlt)
        rw[aee,this]
      | const v=>rfl
      | global g=>rfl
      | func f=>rfl
     unfold Go.wpOp
     rw[hio]
     simp only
     have hwt:Region.wanted os (yielded ops.toArray a.tmps)=true:=gS (g:=none) hM2.tmps (by simp[guardOf,hog])
     rw[af9 hwt]
     left
     have hwp:=hS'.2 _ hev C G ρ w a Q hM2
     refine Oper.wp_mono (fun a' w' h=> ?_) hwp
     obtain⟨G',ρ',hM'⟩:=h
     refine go G' ρ' w' a' ?_
     unfold pO
     rw[af9 (bM (by omega))]
     have e:az ops i (listed.setIfInBounds i true)=az ops i listed:=funext (Gd (afq i))
     rw[e]
     exact hM'
   ·exfalso
    obtain⟨j,h1,h2⟩:=hsome
    have hd:=hwaits i (by omega) hlt j (by omega)
    have:=cJ K.edges hcl i o hoi hed' j hd
    rw[h2] at this;cases this
end
end Go.Dn
namespace Go.Dn
variable {β:Type} {X:Cx} {C:Fr X.P} {G:Gh} {ρ:Env} {w:World}
theorem ZG {o:Oper} {S:St} {k:St->Option β} {r:β} {t:TypeId} {ad x:Operand} {b off:Nat} (ho:o.op= .store t ad x) (hr:S.ev ad= .v false [.ref b off]) (h:cF X o S k=some r): ∃ S',k S'=some r/\S'.tmps=S.tmps/\S'.rows=S.rows/\S'.objs=S.objs/\ ∀ tm rw ob,(⟨tm,S.boxes,rw,ob⟩:St).ev ad=S.ev ad->(⟨tm,S.boxes,rw,ob⟩:St).ev x=S.ev x->cF X o ⟨tm,S.boxes,rw,ob⟩ some=some ⟨tm,S'.boxes,rw,ob⟩:=by
 obtain⟨dst,op,ty,pos,af,g⟩:=o
 simp only at ho
 subst ho
 simp only[cF,hr] at h
 split at h
 ·cases h
 ·rename_i hdst
  split at h
  ·rename_i b' off' a' cs ha hx
   cases ha
   unfold rI at h
   split at h
   ·rename_i l hl
    split at h
    ·rename_i hc
     split at h
     ·rename_i l' hl'
      refine⟨_,h,rfl,rfl,rfl,fun tm rw ob e1 e2=> ?_⟩
      simp only[cF]
      rw[af8 hdst,e1,e2,hr,hx]
      simp only
      unfold rI
      rw[show look (⟨tm,S.boxes,rw,ob⟩:St).boxes b=look S.boxes b from rfl,hl]
      simp only
      rw[af9 hc,hl']
     ·cases h
    ·cases h
   ·cases h
  ·rename_i ha hx;cases ha
  ·rename_i ha hx;cases ha
  ·cases h
section
variable {ops:List Oper} {m:Nat} {S Sn S':St} {listed:Array Bool} {outs:List (Option Del)} {os:Oper}
theorem ck.SZ (K:ck X ops m S outs Sn) {i d:Nat} {o:Oper} (him:i<m) (hi:ops[i]? =some o) (hb:(vB o.op||qK o.op)=true) (hg:o.guard=none) (hd:o.dst=some d):
 ∃ x:Del,outs[i]? =some (some x)/\de X.P o (states ((ops.take m).take i) S (outs.take i)) qN x/\x.box=none/\x.obj=none/\(x.row.isSome=true->qK o.op=true)/\
  look Sn.boxes d=none/\look Sn.rows d=x.row/\look Sn.objs d=none:=by
 obtain⟨y,hy⟩:∃ y,outs[i]? =some y:=⟨outs[i]'(by rw[K.len];exact him),ael _⟩
 have hst:=K.step i o y him hi hy
 cases y with
 | none=>
  rcases hst with ⟨dg,b,want,hgd,_⟩ | hs
  ·simp only[guardOf,hg] at hgd
   cases hgd
  ·simp only[Dn.lD,hg] at hs
   cases hs
 | some x=>
  obtain⟨⟨_,h2⟩,_⟩:=hst
  have h3:de X.P o (states ((ops.take m).take i) S (outs.take i)) qN x/\x.box=none/\x.obj=none/\(x.row.isSome=true->qK o.op=true):=by
   cases hk:qK o.op with
   | true=>exact⟨(h2.make hk).1,(h2.make hk).2.1,(h2.make hk).2.2,fun _=>rfl⟩
   | false=>
    rw[hk,Bool.or_false] at hb
    obtain⟨g1,g2,g3,g4⟩:=h2.blind hb
    exact⟨g1,g2,g4,fun h=>by rw[g3] at h;cases h⟩
  obtain⟨h3,h4,h6,h7⟩:=h3
  have hdA:bS ops i=some d:=by unfold bS;rw[hi];exact hd
  obtain⟨_,n3,n4,n5,_⟩:=K.new i d him hdA
  have hat:=rH (S:=S) (outs:=outs) (by rw[K.len,aeH,afA K.n_le]) K.dupl (i:=i) (o:=o) (x:=some x) (by rw[cE him];exact hi) hy hd
  rw[<- K.sn] at hat
  refine⟨x,hy,h3,h4,h6,h7, ?_, ?_, ?_⟩
  ·rw[hat.2.1,n3];simp[wJ,h4]
  ·rw[hat.2.2.1,n4];simp[vH]
  ·rw[hat.2.2.2,n5];simp[zE,h6]
def mkM (R S':St):St:=⟨R.tmps,S'.boxes,R.rows,R.objs⟩
def mS {P0:Program} (C:Fr P0) (G:Gh) (ρ:Env) (ops:List Oper) (m:Nat) (S Sn S':St) (listed:Array Bool) (w:World) (a:Act):Prop:=
 if listed.getD m true=true then Mod C G ρ (mkM (aD S Sn (az ops m listed)) S') w a else Mod C G ρ (aD S Sn (az ops m listed)) w a
theorem ck.acK (K:ck X ops m S outs Sn) (hm:m<ops.length) (hwaits:∀ k,m+1<=k->k<ops.length->∀ j,j<k->j∈(deps ops).getD k m0) (hos:ops[m]? =some os) (hog:os.guard=none)
 (hblind:∀ i,i<m->i∈(deps ops).getD m m0\/∃ p,ops[i]? =some p/\(vB p.op||qK p.op)=true/\p.guard=none)
 (hlk:∀ t,t∈os.looksAt ops.toArray->∀ j,j<m->bS ops j=some t->j∈(deps ops).getD m m0)
 (hS':S'.tmps=Sn.tmps/\S'.rows=Sn.rows/\S'.objs=Sn.objs/\∀ tm rw ob,(∀ x,x∈os.op.operands->(⟨tm,Sn.boxes,rw,ob⟩:St).ev x=Sn.ev x)->eX X.P os ⟨tm,Sn.boxes,rw,ob⟩ ⟨tm,S'.boxes,rw,ob⟩)
 (hfr:∀ i d p,i<m->i∉(deps ops).getD m m0->ops[i]? =some p->qK p.op=true->p.dst=some d->(S'.boxes.any fun q=>q.2.any (CV.aX d))=false)
 {Q:Exit->Act->World->Prop} (hseq:Region.seqB .any ops.toArray (ops.length - (m+1)) (m+1) (mask (m+1) ops.length)=true)
 (htail:∀ G ρ w a,Mod C G ρ S' w a->wpList X.P ops.toArray Q (ops.drop (m+1)) a w):∀ (u:Nat) (listed:Array Bool) (a:Act) (w:World) (G:Gh) (ρ:Env),listed.size=ops.length->ju ops listed->
 (∀ k,m+1<=k->k<ops.length->listed.getD k true=false)->(List.range (m+1)).countP (fun i=> !listed.getD i true)=u->mS C G ρ ops m S Sn S' listed w a->wpAny X.P .any ops.toArray Q (u+(ops.length - (m+1))) listed a w:=by
 intro u
 induction u with
 | zero=>
  intro listed a w G ρ hsz hcl htl hcnt hM
  have hall:∀ i,i<m+1->listed.getD i true=true:=fun i hi=>by
   rw[adY] at hcnt
   have:=hcnt i (by simpa using hi)
   simpa using this
  have hU:∀ t,az ops m listed t=false:=fun t=>by
   cases hu:az ops m listed t with
   | false=>rfl
   | true=>obtain⟨j,h1,h2,_⟩:=cU.1 hu;rw[hall j (by omega)] at h2;cases h2
  have hMn:Mod C G ρ S' w a:=by
   unfold mS at hM
   rw[af9 (hall m (by omega))] at hM
   refine hM.equiv ?_ (fun k cs hk=>hk) (fun k q hk=> ?_) (fun k q hk=> ?_)
   ·show (aD S Sn (az ops m listed)).tmps=S'.tmps
    rw[hS'.1]
    apply ad9
    intro t
    rw[dV,hU t]
    by_cases hlt:t<S.tmps.length
    ·have:t<Sn.tmps.length:=by rw[K.uf];exact hlt
     simp[hlt,this]
    ·rw[af8 hlt,aem (by rw[K.uf];omega)]
   ·show look (aD S Sn (az ops m listed)).rows k=some q
    rw[hS'.2.1] at hk
    simp only[aD,aN,hU k]
    simpa using hk
   ·show look (aD S Sn (az ops m listed)).objs k=some q
    rw[hS'.2.2.1] at hk
    simp only[aD,aN,hU k]
    simpa using hk
  have hmask:=JL (n:=m+1) hsz (by omega) hall htl
  have hl:(ops.drop (m+1)).length=ops.length - (m+1):=by simp
  have:=wpAny_of_seq (P:=X.P) (md:= .any) (ops:=ops.toArray) (Q':=Q) (ops.drop (m+1)) (m+1) listed a w (fun j=>by simp[aek]) (by rw[hl,hmask];exact hseq) (htail G ρ w a hMn)
  rw[hl] at this
  rw[afH]
  exact this
 | succ u ih=>
  intro listed a w G ρ hsz hcl htl hcnt hM
  have hsome:∃ i,i<m+1/\listed.getD i true=false:=by
   have:0<(List.range (m+1)).countP (fun i=> !listed.getD i true):=by omega
   rw[adZ] at this
   obtain⟨i,h1,h2⟩:=this
   exact⟨i,by simpa using h1,by simpa using h2⟩
  rw[show u+1+(ops.length - (m+1))=(u+(ops.length - (m+1)))+1 by omega]
  refine⟨fun hr=> ?_,fun i hi=> ?_⟩
  ·exfalso
   have hall:∀ i,i<m+1->listed.getD i true=true:=by
    intro i
    induction i using Nat.strongRecOn with
    | _ i ihi=>
     intro hin
     cases hl:listed.getD i true with
     | true=>rfl
     | false=>
      exfalso
      have hlt:i<ops.length:=by omega
      have hoi:ops[i]? =some ops[i]:=ael hlt
      have:i∈Region.ready .any ops.toArray listed:=by
       rw[mem_ready]
       refine⟨hl,ops[i],by simp,fun e he hb=> ?_⟩
       have hE:=K.edges
       simp only[eF,adQ] at hE
       have h7:=hE i (by simp;exact hlt)
       rw[hoi] at h7
       simp only[adQ] at h7
       have h8:=h7 e (by simpa using he)
       simp only[hb,adv,adq] at h8
       have h9:e.on<i:=aft (afx _) (afo h8)
       have h10:=ihi e.on h9 (by omega)
       rw[ac5] at h10 ⊢
       rw[ac6 (by omega)] at h10 ⊢
       simpa using h10
      rw[hr] at this
      cases this
   obtain⟨i,h1,h2⟩:=hsome
   rw[hall i h1] at h2;cases h2
  ·rw[mem_ready] at hi
   obtain⟨hun,o,hio,hed⟩:=hi
   have hoi:ops[i]? =some o:=by simpa using hio
   have hed':∀ e,e∈o.after.toList->Region.binds .any e=true->listed.getD e.on false=true:=fun e he hb=>hed e (by simpa using he) hb
   have hlt:i<ops.length:=(aen.1 hoi).1
   by_cases hin:i<m+1
   ·have cl':ju ops (listed.setIfInBounds i true):=by
     intro j oj hj hlj e he hb
     by_cases eji:j=i
     ·subst eji
      rw[hoi] at hj
      cases hj
      have:=hed' e he hb
      by_cases e2:e.on=j
      ·rw[e2];exact bM (by omega)
      ·rw[aL e2];exact this
     ·rw[aL eji] at hlj
      have:=hcl j oj hj hlj e he hb
      by_cases e2:e.on=i
      ·rw[e2];exact bM (by omega)
      ·rw[aL e2];exact this
    have tl':∀ k,m+1<=k->k<ops.length->(listed.setIfInBounds i true).getD k true=false:=fun k hk1 hk2=>by
     rw[aL (by omega)];exact htl k hk1 hk2
    have cnt':(List.range (m+1)).countP (fun j=> !(listed.setIfInBounds i true).getD j true)=u:=by
     have:=wh (p:=fun j=> !listed.getD j true) (q:=fun j=> !(listed.setIfInBounds i true).getD j true) (i:=i) (l:=List.range (m+1)) List.nodup_range (by simpa using hin) (by simp[hun]) (fun j=>by
      by_cases e:j=i
      ·subst e;simp only[bM (listed:=listed) (b:=true) (by omega:j<listed.size)];simp
      ·simp only[aL (listed:=listed) (b:=true) e];simp[e])
     omega
    have go:∀ G' ρ' w' a',mS C G' ρ' ops m S Sn S' (listed.setIfInBounds i true) w' a'->wpAny X.P .any ops.toArray Q (u+(ops.length - (m+1))) (listed.setIfInBounds i true) a' w':=
     fun G' ρ' w' a' hM'=>ih (listed.setIfInBounds i true) a' w' G' ρ' (by simpa using hsz) cl' tl' cnt' hM'
    by_cases him:i<m
    ·have hmi:(listed.setIfInBounds i true).getD m true=listed.getD m true:=aL (by omega)
     cases hlm:listed.getD m true with
     | false=>
      unfold mS at hM
      rw[hlm,af8 (by simp)] at hM
      refine K.wpOp him hoi hsz hcl hun hed' hM (fun G' ρ' w' a' hM'=>go G' ρ' w' a' ?_)
      unfold mS
      rw[hmi,hlm,af8 (by simp)]
      exact hM'
     | true=>
      unfold mS at hM
      rw[hlm,af9 rfl] at hM
      have hnd:i∉(deps ops).getD m m0:=fun hmem=>by
       have:=cJ K.edges hcl m os hos (fun e h1 h2=>hcl m os hos hlm e h1 h2) i hmem
       rw[hun] at this;cases this
      obtain⟨p,hp,hb,hg⟩:=(hblind i him).resolve_left hnd
      rw[hoi] at hp
      cases hp
      obtain⟨hds,_⟩:=K.head i o him hoi
      obtain⟨d,hd⟩:=afM.1 hds
      obtain⟨x,hx,hL,hx1,hx3,hx2,hy1,hy2,hy3⟩:=K.SZ him hoi hb hg hd
      have hdA:bS ops i=some d:=by unfold bS;rw[hoi];exact hd
      have hdeps:=cJ K.edges hcl i o hoi hed'
      have hev:=K.evs him hoi hdeps
      have hfresh:=K.fresh hcl him hdA hun
      have hU:=K.xe him hdA hsz hun
      unfold Go.wpOp
      rw[hio]
      simp only
      have hwt:Region.wanted o (yielded ops.toArray a.tmps)=true:=gS (g:=none) hM.tmps (by simp[guardOf,hg])
      rw[af9 hwt]
      left
      have hnear:ER o (states ((ops.take m).take i) S (outs.take i)) qN (mkM (aD S Sn (az ops m listed)) S'):=
       ⟨fun y hy=>by
         rw[<- hev y hy]
         cases y<;>rfl,fun k cs hk=>(by cases hk),fun k cs hk=>(by cases hk),fun k cs hk=>(by cases hk)⟩
      have hwp:=hL C G ρ _ w a Q hM hnear (fun d' _ h=>by rw[hx1] at h;cases h) (fun d' hd' h=>by
       rw[hd] at hd';cases hd'
       have h1:=(wo hfresh).2.1
       simp only[St.aX,adw] at h1 ⊢
       exact⟨h1.1,hfr i d o him hnd hoi (hx2 h) hd⟩) (fun d' _ h=>by rw[hx3] at h;cases h)
      refine Oper.wp_mono (fun a' w' h=> ?_) hwp
      obtain⟨G',ρ',hM'⟩:=h
      refine go G' ρ' w' a' ?_
      unfold mS
      rw[hmi,hlm,af9 rfl]
      have e:x=⟨x.sv,none,x.row,none⟩:=by cases x;simp only at hx1 hx3;subst hx1;subst hx3;rfl
      rw[hd,e] at hM'
      refine hM'.equiv ?_ (fun k cs hk=>hk) (fun k q hk=> ?_) (fun k q hk=> ?_)
      ·show (aD S Sn (az ops m listed)).tmps.set d x.sv=(aD S Sn (az ops m (listed.setIfInBounds i true))).tmps
       rw[K.Qj him hoi hd hx hsz hun];rfl
      ·replace hk:look (aD S Sn (az ops m (listed.setIfInBounds i true))).rows k=some q:=hk
       simp only[aD,aN,hU k] at hk
       show look (match x.row with | some r=>(d,r)::(aD S Sn (az ops m listed)).rows | none=>(aD S Sn (az ops m listed)).rows) k=some q
       by_cases ek:k=d
       ·subst ek
        simp only[afV,adk,ado,af7] at hk
        rw[hy2] at hk
        rw[hk]
        simp only[aq,aga]
       ·have hbne:(k != d)=true:=by simpa using ek
        rw[hbne,adm] at hk
        have h2:look (aD S Sn (az ops m listed)).rows k=some q:=by
         simp only[aD,aN];exact hk
        cases x.row with
        | none=>exact h2
        | some r=>
         simp only[aq]
         rw[af8 (fun e=>ek e.symm)];exact h2
      ·replace hk:look (aD S Sn (az ops m (listed.setIfInBounds i true))).objs k=some q:=hk
       simp only[aD,aN,hU k] at hk
       show look (aD S Sn (az ops m listed)).objs k=some q
       simp only[aD,aN]
       by_cases ek:k=d
       ·subst ek
        simp only[afV,adk,ado,af7] at hk
        rw[hy3] at hk;cases hk
       ·have hbne:(k != d)=true:=by simpa using ek
        rw[hbne,adm] at hk
        exact hk
    ·have eim:i=m:=by omega
     subst eim
     rw[hos] at hoi
     cases hoi
     have hdeps:=cJ K.edges hcl i os hos hed'
     unfold mS at hM
     rw[hun,af8 (by simp)] at hM
     have hunb:∀ t,az ops i listed t=true->look Sn.boxes t=none:=fun t hu=>by
      obtain⟨j,h1,h2,h3⟩:=cU.1 hu
      obtain⟨oj,h4,h5⟩:=iw h3
      have hnd:j∉(deps ops).getD i m0:=fun hmem=>by
       have:=hdeps j hmem
       rw[h2] at this;cases this
      obtain⟨p,hp,hb,hg⟩:=(hblind j h1).resolve_left hnd
      rw[h4] at hp
      cases hp
      obtain⟨x,_,_,_,_,_,h6,_⟩:=K.SZ h1 h4 hb hg h5
      exact h6
     have hM2:Mod C G ρ ⟨(aD S Sn (az ops i listed)).tmps,Sn.boxes,(aD S Sn (az ops i listed)).rows,(aD S Sn (az ops i listed)).objs⟩ w a:=by
      refine hM.equiv rfl (fun k cs hk=> ?_) (fun k q hk=>hk) (fun k q hk=>hk)
      simp only[aD,aN]
      cases hu:az ops i listed k with
      | true=>rw[show look (⟨(aD S Sn (az ops i listed)).tmps,Sn.boxes,(aD S Sn (az ops i listed)).rows,(aD S Sn (az ops i listed)).objs⟩:St).boxes k=look Sn.boxes k from rfl,hunb k hu] at hk;cases hk
      | false=>exact hk
     have hev:∀ x,x∈os.op.operands->(⟨(aD S Sn (az ops i listed)).tmps,Sn.boxes,(aD S Sn (az ops i listed)).rows,(aD S Sn (az ops i listed)).objs⟩:St).ev x=Sn.ev x:=fun x hx=>by
      cases x with
      | tmp t=>
       show (aD S Sn (az ops i listed)).tmps.getD t (.v false [.any])=Sn.tmps.getD t (.v false [.any])
       have hu:az ops i listed t=false:=by
        cases hu:az ops i listed t with
        | false=>rfl
        | true=>
         obtain⟨j,h1,h2,h3⟩:=cU.1 hu
         have:=hdeps j (hlk t (by
          simp only[Oper.looksAt,aeN,aeR]
          exact .inl ⟨.tmp t,by simpa using hx,rfl⟩) j h1 h3)
         rw[h2] at this;cases this
       rw[aee,dV]
       by_cases hlt:t<S.tmps.length
       ·simp[hlt,hu]
       ·rw[af8 hlt]
        have:Sn.tmps[t]? =none:=aem (by rw[K.uf];exact Nat.le_of_not_lt hlt)
        rw[aee,this]
      | const v=>rfl
      | global g=>rfl
      | func f=>rfl
     unfold Go.wpOp
     rw[hio]
     simp only
     have hwt:Region.wanted os (yielded ops.toArray a.tmps)=true:=gS (g:=none) hM2.tmps (by simp[guardOf,hog])
     rw[af9 hwt]
     left
     have hwp:=hS'.2.2.2 _ _ _ hev C G ρ w a Q hM2
     refine Oper.wp_mono (fun a' w' h=> ?_) hwp
     obtain⟨G',ρ',hM'⟩:=h
     refine go G' ρ' w' a' ?_
     unfold mS
     rw[af9 (bM (by omega))]
     have e:az ops i (listed.setIfInBounds i true)=az ops i listed:=funext (Gd (afq i))
     rw[e]
     exact hM'
   ·exfalso
    obtain⟨j,h1,h2⟩:=hsome
    have hd:=hwaits i (by omega) hlt j (by omega)
    have:=cJ K.edges hcl i o hoi hed' j hd
    rw[h2] at this;cases this
end
end Go.Dn
namespace Go.Dn
open Go
variable {X:Cx} {β:Type}
def St.wtB (S:St) (tm:List SV) (v:Nat->Bool):St:={ S with tmps:=tm,boxes:=S.boxes.filter fun p=> !v p.1 }
theorem vp {S:St} {tm:List SV} {v:Nat->Bool} (h:∀ k,v k=false):S.wtB tm v=S.wt tm:=by
 have e:S.boxes.filter (fun p=> !v p.1)=S.boxes:=by
  rw[List.filter_eq_self];intro p _;rw[h];rfl
 show ({ S with tmps:=tm,boxes:=S.boxes.filter fun p=> !v p.1 }:St)={ S with tmps:=tm }
 rw[e]
theorem Vf {S T:St} {f g:List Nat} {t:Ty} (h:RF t=true) (s:SV):iI S f t s=iI T g t s:=by
 cases s with
 | tup l=>cases t<;>first | rfl | cases h
 | v b cs=>cases t<;>first | (cases b<;>rfl) | cases h
theorem ZE {S T:St} {t:Ty} (h:RF t=true) (cs:List CV):pack S t cs=pack T t cs:=by
 cases t<;>first | rfl | cases h
theorem DF {S T:St}:∀ {l:List OT} {cs:List CV},pL l=true->jC S l cs=jC T l cs
 | [],[],_=>rfl
 | [],_::_,_=>rfl
 | .val t::r,cs,h=>by
  simp only[pL,adj] at h
  simp only[jC]
  rw[ZE (T:=T) h.1]
  cases pack T t cs with
  | none=>rfl
  | some p=>simp only[DF (S:=S) (T:=T) h.2]
 | .row _ _::_,_,h=>by cases h
 | .map _ _::_,_,h=>by cases h
theorem DE {S T:St} {f g:List Nat}:∀ {ps:List PM} {l:List SV},mK ps=true->cV S f ps l=cV T g ps l
 | [],[],_=>rfl
 | [],_::_,_=>rfl
 | .val t::r,l,h=>by
  simp only[mK,adj] at h
  simp only[cV,lU,PM.arg,afX]
  cases l with
  | nil=>rfl
  | cons s q=>
   simp only[aex,List.tail_cons]
   rw[Vf (T:=T) (g:=g) h.1]
   cases iI T g t s with
   | none=>rfl
   | some p=>simp only[DE (S:=S) (T:=T) (f:=f) (g:=g) h.2]
 | .row _ _::_,_,h=>by cases h
 | .mrow _ _::_,_,h=>by cases h
 | .map _ _::_,_,h=>by cases h
 | .box _::_,_,h=>by cases h
 | .ar _::_,_,h=>by cases h
 | .arR _::_,_,h=>by cases h
theorem KR {S:St}:∀ {ps:List PM} {i:Nat} {l:List SV},mK ps=true->eo S i ps l=[]
 | [],_,_,_=>rfl
 | .val t::r,i,l,h=>by
  simp only[mK,adj] at h
  simp only[eo,gX]
  rw[KR h.2]
  split<;>rfl
 | .row _ _::_,_,_,h=>by cases h
 | .mrow _ _::_,_,_,h=>by cases h
 | .map _ _::_,_,_,h=>by cases h
 | .box _::_,_,_,h=>by cases h
 | .ar _::_,_,_,h=>by cases h
 | .arR _::_,_,_,h=>by cases h
theorem KS:∀ {l:List OT} {n:Nat} {cs:List CV},pL l=true->jZ n l cs=[]
 | [],_,_,_=>by simp[jZ]
 | .val t::r,n,cs,h=>by
  simp only[pL,adj] at h
  simp only[jZ]
  exact KS h.2
 | .row _ _::_,_,_,h=>by cases h
 | .map _ _::_,_,_,h=>by cases h
theorem NN {d:Nat}:∀ {ps:List PM} {i:Nat} {l:List SV},mK ps=true->cc d i ps l=[]
 | [],_,_,_=>rfl
 | .val t::r,i,s::l,h=>by simp only[cc];exact NN (by simp only[mK,adj] at h;exact h.2)
 | .val t::r,i,[],h=>rfl
 | .row _ _::_,_,_,h=>by cases h
 | .mrow _ _::_,_,_,h=>by cases h
 | .map _ _::_,_,_,h=>by cases h
 | .box _::_,_,_,h=>by cases h
 | .ar _::_,_,_,h=>by cases h
 | .arR _::_,_,_,h=>by cases h
theorem NO {d i:Nat}:∀ {l:List OT} {c:Nat},pL l=true->eg d i c l=[]
 | [],_,_=>rfl
 | .val t::r,c,h=>by simp only[eg];exact NO (by simp only[pL,adj] at h;exact h.2)
 | .row _ _::_,_,h=>by cases h
 | .map _ _::_,_,h=>by cases h
theorem Pz {d:Nat}:∀ {ps:List PM} {i:Nat} {l:List SV} {x:dK ps},mK ps=true->cO d i ps l x=[]/\eZ d i ps l x=[]/\cX d i ps l x=[]
 | [],_,_,_,_=>⟨rfl,rfl,rfl⟩
 | .val t::r,i,s::l,x,h=>by simp only[cO,eZ,cX];exact Pz (by simp only[mK,adj] at h;exact h.2)
 | .val t::r,i,[],x,h=>⟨rfl,rfl,rfl⟩
 | .row _ _::_,_,_,_,h=>by cases h
 | .mrow _ _::_,_,_,_,h=>by cases h
 | .map _ _::_,_,_,_,h=>by cases h
 | .box _::_,_,_,_,h=>by cases h
 | .ar _::_,_,_,_,h=>by cases h
 | .arR _::_,_,_,_,h=>by cases h
theorem VY {d i:Nat}:∀ {l:List OT} {c:Nat} {x:kz l},pL l=true->mC d i c l x=[]/\jB d i c l x=[]
 | [],_,_,_=>⟨rfl,rfl⟩
 | .val t::r,c,x,h=>by simp only[mC,jB];exact VY (by simp only[pL,adj] at h;exact h.2)
 | .row _ _::_,_,_,h=>by cases h
 | .map _ _::_,_,_,h=>by cases h
theorem ZO {ps:List PM} {d:Nat}:∀ {rs:List RM} {c:Nat} {y:cD ps rs},sL rs=true->mD ps d rs c y=[]/\mE ps d rs c y=[]/\iX ps d rs c y=[]
 | [],_,_,_=>⟨rfl,rfl,rfl⟩
 | .val t::r,c,y,h=>by
  simp only[mD,mE,iX]
  exact ZO h
 | .row _ _::_,_,_,h=>by cases h
 | .map _ _::_,_,_,h=>by cases h
 | .box _::_,_,_,h=>by cases h
theorem QD {d:Nat}:∀ {rs:List RM} {c:Nat},sL rs=true->dM d c rs=[]/\xW rs=0
 | [],_,_=>⟨rfl,rfl⟩
 | .val t::r,c,h=>by
  simp only[dM,xW]
  exact QD h
 | .row _ _::_,_,h=>by cases h
 | .map _ _::_,_,h=>by cases h
 | .box _::_,_,h=>by cases h
theorem Fx:∀ {ps:List PM} {q:List SV},mK ps=true->(uA q).isEmpty=true->uA (dQ ps q)=[]
 | [],q,_,_=>by cases q<;>rfl
 | .val t::r,[],_,_=>rfl
 | .val t::r,s::q,h,h2=>by
  simp only[mK,adj] at h
  simp only[dQ]
  cases s with
  | v g cs=>
   simp only[uA,List.isEmpty_iff,List.append_eq_nil_iff] at h2 ⊢
   exact⟨h2.1,Fx h.2 (List.isEmpty_iff.2 h2.2)⟩
  | tup l=>
   simp only[uA] at h2 ⊢
   exact Fx h.2 h2
 | .row _ _::_,_,h,_=>by cases h
 | .mrow _ _::_,_,h,_=>by cases h
 | .map _ _::_,_,h,_=>by cases h
 | .box _::_,_,h,_=>by cases h
 | .ar _::_,_,h,_=>by cases h
 | .arR _::_,_,h,_=>by cases h
theorem KQ:∀ {l:List OT},pL l=true->mB l=true
 | [],_=>rfl
 | .val t::r,h=>by
  simp only[pL,adj] at h
  simp only[mB,adj]
  obtain⟨ha,hb⟩:=h
  refine⟨?_,KQ hb⟩
  cases t<;>first | rfl | cases ha
 | .row _ _::_,h=>by cases h
 | .map _ _::_,h=>by cases h
theorem KP:∀ {ps:List PM},mK ps=true->fA ps=true
 | [],_=>rfl
 | .val t::r,h=>by
  simp only[mK,adj] at h
  simp only[fA]
  exact KP h.2
 | .row _ _::_,h=>by cases h
 | .mrow _ _::_,h=>by cases h
 | .map _ _::_,h=>by cases h
 | .box _::_,h=>by cases h
 | .ar _::_,h=>by cases h
 | .arR _::_,h=>by cases h
def lP (tm:List SV):Option Nat->SV->List SV
 | none,_=>tm
 | some d,s=>tm.set d s
theorem Uy {α:Type} (p q:α->Bool) (l:List α):(l.filter p).filter q=(l.filter q).filter p:=by
 rw[List.filter_filter,List.filter_filter]
 congr 1
 funext x
 exact Bool.and_comm _ _
theorem ab4 (tm:List SV) (d:Option Tmp) (s:SV):(match d with | some d=>tm.set d s | none=>tm)=lP tm d s:=by
 cases d<;>rfl
def Yc (sp:an) (b:Nat) (dd:Nat) (T:St) (d:Option Tmp) (q:List SV) (y:cD sp.ps sp.rs):St:=
 { tmps:=match d with | some d=>T.tmps.set d (yt (tY sp.ps dd sp.rs 0 y)) | none=>T.tmps,
   boxes:=cO dd 0 sp.ps (.v false [.ref b 0]::q) (wK sp.ps sp.rs y)++T.boxes.filter fun p=> !Nat.beq b p.1,rows:=T.rows,objs:=T.objs }
theorem Cy {sp:an} {b:Nat} {q:List SV} {d:Option Tmp} (h1:AN sp.ps=true) (h2:sL sp.rs=true) (h3:fk sp.rs=true) (hl:(uA q).isEmpty=true) (T:St) {γ:Type} (k:St->Option γ):
 iO sp T (.v false [.ref b 0]::q) d k=if !qI (d.getD 0) T|| !Nat.blt (d.getD 0) 2000 then none else
  match cV T [] sp.ps (.v false [.ref b 0]::q) with
  | some x=>(sp.m x).bind fun y=>k (Yc sp b (d.getD 0) T d q y)
  | none=>none:=by
 obtain⟨ps,rs,m⟩:=sp
 simp only at h1 h2 h3
 match ps,m,h1 with
 | .box l::ps,m,h1=>
  simp only[AN,adj] at h1
  obtain⟨hl1,hp1⟩:=h1
  have hfl:(fk rs&&fA (PM.box l::ps))=true:=by
   simp only[fA,h3,KQ hl1,KP hp1,adl]
  have hva:dQ (PM.box l::ps) (.v false [.ref b 0]::q)=dQ ps q:=rfl
  have hlb:=Fx hp1 hl
  have hD:gP T (dQ ps q)=[]:=by unfold gP;rw[hlb];rfl
  have how:eo T 0 (PM.box l::ps) (.v false [.ref b 0]::q)=[(.inl b,0)]:=by
   simp only[eo,gX,PM.arg,afX,aex,List.tail_cons,gW,afk,aga,KR hp1,adU]
   cases look T.boxes b with
   | none=>rfl
   | some cs=>simp only[KS hl1]
  have hits:cc (d.getD 0) 0 (PM.box l::ps) (.v false [.ref b 0]::q)=[(.inl b,0)]:=by
   simp only[cc,gW,afk,aga,NO hl1,NN hp1,adU,Nat.mul_zero]
  obtain⟨hrit,hnb⟩:=QD (d:=d.getD 0) (rs:=rs) (c:=0) h2
  have hpk:cV (aF T (eC T (dQ ps q))) [] (PM.box l::ps) (.v false [.ref b 0]::q)=cV T [] (PM.box l::ps) (.v false [.ref b 0]::q):=by
   simp only[cV,lU,PM.arg,afX,aex,List.tail_cons,gW,afk,aga]
   rw[show (aF T (eC T (dQ ps q))).boxes=T.boxes from rfl]
   cases look T.boxes b with
   | none=>rfl
   | some cs=>simp only[DF (S:=aF T (eC T (dQ ps q))) (T:=T) hl1,DE (S:=aF T (eC T (dQ ps q))) (T:=T) (f:=[]) (g:=[]) hp1]
  have hb:∀ y,eZ (d.getD 0) 0 (PM.box l::ps) (.v false [.ref b 0]::q) y=[]/\cX (d.getD 0) 0 (PM.box l::ps) (.v false [.ref b 0]::q) y=[]:=fun y=>by
   have h5:=Pz (d:=d.getD 0) (i:=1) (l:=q) (x:=y.2) hp1
   have h6:=VY (d:=d.getD 0) (i:=0) (c:=1) (x:=y.1) hl1
   simp only[eZ,cX,gW,afk,aga,h6.1,h6.2,afH,h5.2.1,h5.2.2,adU,and_self]
  have f1:∀ j,(bG [(aT.inl b,0)] (.inl j)).isNone= !Nat.beq b j:=fun j=>by
   simp only[bG,aT.beq];cases Nat.beq b j<;>rfl
  have f2:∀ j,(bG [(aT.inl b,0)] (.inr j))=none:=fun j=>rfl
  have f3:∀ j,(bG [(aT.inl b,0)] (.ob j))=none:=fun j=>rfl
  have keepF:∀ {α:Type} (l:List α),(l.filter fun _=>(none:Option Nat).isNone)=l:=fun l=>by rw[List.filter_eq_self];intro _ _;rfl
  unfold iO
  simp only[hva,hD,how,hits,hrit,hnb,hfl,hpk,adU,f1,f2,f3,keepF,aga]
  have e1:∀ l:List Nat,(l.any fun _=>false)=false:=fun l=>by simp
  have e2:(([]:List Nat).any fun k=>(bG [(aT.inl b,0)] (aT.inl k)).isSome)=false:=rfl
  have e3:wm [(aT.inl b,0)]=false:=rfl
  have e4:dup (List.map (fun x=>x.snd) [(aT.inl b,0)])=false:=rfl
  have e5:([(aT.inl b,0)].all fun p=>p.snd.blt 2048)=true:=rfl
  have e6:Xh (d.getD 0) [(aT.inl b,0)]=true:=rfl
  have e7:LS T [(aT.inl b,0)]=true:=rfl
  have e8:Nat.blt 0 0=false:=rfl
  simp only[e1,e2,e3,e4,e5,e6,e7,e8,Option.isSome_none,adv,Bool.or_false,adq,adk,Bool.true_or,adn]
  congr 1
  cases cV T [] (PM.box l::ps) (.v false [.ref b 0]::q) with
  | none=>rfl
  | some x=>
   simp only
   congr 1
   funext y
   obtain⟨v1,v2,v3⟩:=ZO (ps:=PM.box l::ps) (d:=d.getD 0) (c:=0) (y:=y) h2
   obtain⟨w1,w2⟩:=hb (wK (PM.box l::ps) rs y)
   rw[v1,v2,v3,w1,w2]
   rfl
theorem X8 {d:Nat} {sp:List PM} {b:Nat} {q:List SV} {x:dK sp} (h1:AN sp=true):∃ cs,cO d 0 sp (.v false [.ref b 0]::q) x=[(b,cs)]:=by
 match sp,x,h1 with
 | .box l::ps,x,h1=>
  simp only[AN,adj] at h1
  refine⟨FI d 0 1 l x.1, ?_⟩
  simp only[cO,gW,afk,aga,(Pz (d:=d) (i:=0+1) (l:=q) (x:=x.2) h1.2).1,adU]
theorem Xk {S:St} {sp:List PM} {b:Nat} {q:List SV} {tm:List SV} {v:Nat->Bool} (h1:AN sp=true) (hv:v b=false):cV (S.wtB tm v) [] sp (.v false [.ref b 0]::q)=cV S [] sp (.v false [.ref b 0]::q):=by
 match sp,h1 with
 | .box l::ps,h1=>
  simp only[AN,adj] at h1
  have hl:look (S.wtB tm v).boxes b=look S.boxes b:=by
   show look (S.boxes.filter fun p=> !v p.1) b=_
   rw[aN,hv];rfl
  simp only[cV,lU,PM.arg,afX,aex,List.tail_cons,gW,afk,aga,hl]
  cases look S.boxes b with
  | none=>rfl
  | some cs=>simp only[DF (S:=S.wtB tm v) (T:=S) h1.1,DE (S:=S.wtB tm v) (T:=S) (f:=[]) (g:=[]) h1.2]
theorem YR {b j:Nat} (h:j≠b):∀ l:List (Nat×List CV),look (l.filter fun p=> !Nat.beq b p.1) j=look l j:=fun l=>by
 rw[aN (fun k=>Nat.beq b k)]
 have:Nat.beq b j=false:=by
  cases e:Nat.beq b j with
  | false=>rfl
  | true=>exact absurd (afm e).symm h
 rw[this];rfl
theorem R8 {sp:an} {S:St} {b off:Nat} {q:List SV} {d:Option Tmp} {k:St->Option β} {r:β} (h1:AN sp.ps=true) (h2:sL sp.rs=true) (h3:fk sp.rs=true) (hl:(uA q).isEmpty=true) (h:iO sp S (.v false [.ref b off]::q) d k=some r): ∃ sv S',k S'=some r/\S'.tmps=lP S.tmps d sv/\S'.rows=S.rows/\S'.objs=S.objs/\(∀ j,j≠b->look S'.boxes j=look S.boxes j)/\S.fD (nid (d.getD 0) 0 0) (nid (d.getD 0+1) 0 0)=false/\ ∀ tm v,v b=false->(S.wtB tm v).fD (nid (d.getD 0) 0 0) (nid (d.getD 0+1) 0 0)=false->iO sp (S.wtB tm v) (.v false [.ref b off]::q) d some=some (S'.wtB (lP tm d sv) v):=by
 by_cases ho:off=0
 ·subst ho
  rw[Cy h1 h2 h3 hl] at h
  split at h
  ·cases h
  ·rename_i hc
   simp only[adx,agd,ads,adr] at hc
   have hfr:S.fD (nid (d.getD 0) 0 0) (nid (d.getD 0+1) 0 0)=false:=by simpa [qI] using hc.1
   split at h
   ·rename_i x hx
    obtain⟨y,hy,h⟩:=bind_some h
    refine⟨yt (tY sp.ps (d.getD 0) sp.rs 0 y),_,h, ?_,rfl,rfl,fun j hj=> ?_,hfr,fun tm v hv hfr'=> ?_⟩
    ·cases d<;>rfl
    ·obtain⟨cs,hcs⟩:=X8 (d:=d.getD 0) (b:=b) (q:=q) (x:=wK sp.ps sp.rs y) h1
     show look (cO _ _ _ _ _++_) j=_
     rw[hcs]
     simp only[adV,aeZ,aq]
     rw[af8 (Ne.symm hj),YR hj]
    ·rw[Cy h1 h2 h3 hl]
     rw[af8 (by
      simp only[adx,agd,ads,adr]
      exact⟨by simpa [qI] using hfr',hc.2⟩)]
     have hpk:cV (S.wtB tm v) [] sp.ps (.v false [.ref b 0]::q)=cV S [] sp.ps (.v false [.ref b 0]::q):=by
      exact Xk h1 hv
     rw[hpk,hx]
     simp only
     rw[hy]
     obtain⟨cs,hcs⟩:=X8 (d:=d.getD 0) (b:=b) (q:=q) (x:=wK sp.ps sp.rs y) h1
     simp only[afJ,Option.some.injEq,Yc,St.wtB,hcs,ab4]
     congr 1
     simp only[adV,aeZ,List.filter_cons,hv,adu,aga]
     rw[Uy]
   ·cases h
 ·exfalso
  have hb:Nat.beq off 0=false:=by
   cases e:Nat.beq off 0 with
   | false=>rfl
   | true=>exact absurd (afm e) ho
  obtain⟨ps,rs,m⟩:=sp
  simp only at h1
  match ps,m,h1,h with
  | .box l::ps,m,h1,h=>
   have hn:∀ (T:St) (f:List Nat),cV T f (PM.box l::ps) (.v false [.ref b off]::q)=none:=fun T f=>by
    simp only[cV,lU,PM.arg,afX,aex,gW,hb,ado,af7]
   unfold iO at h
   simp only[hn] at h
   split at h<;>cases h
theorem Tf {op:Op} (h:BG X op=true):∃ g sp args argTypes,op= .call { callee:= .value (.func g),args,argTypes }/\look X.keys g=none/\nP X.specs g=[sp]/\AN sp.ps=true/\sL sp.rs=true/\fk sp.rs=true:=by
 unfold BG at h
 split at h
 ·rename_i c
  split at h
  ·rename_i g hg
   split at h
   ·rename_i hk
    split at h
    ·rename_i sp hsp
     simp only[adj] at h
     obtain⟨callee,args,argTypes⟩:=c
     simp only at hg
     subst hg
     exact⟨g,sp,args,argTypes,rfl,hk,hsp,h.1,h.2.1,h.2.2⟩
    ·cases h
   ·cases h
  ·cases h
 ·cases h
theorem YV {o:Oper} {S:St} {k:St->Option β} {r:β} {sd:List (Nat×List Nat)} {hs:List Nat} {t:Touch} (hop:BG X o.op=true) (hok:Nr sd hs t o S=true) (h:cF X o S k=some r): ∃ b sv S',iT t b=false/\k S'=some r/\S'.tmps=lP S.tmps o.dst sv/\S'.rows=S.rows/\S'.objs=S.objs/\(∀ j,j≠b->look S'.boxes j=look S.boxes j)/\A9 hs (o.dst.getD 0)=true/\ S.fD (nid (o.dst.getD 0) 0 0) (nid (o.dst.getD 0+1) 0 0)=false/\ ∀ tm v,(∀ x,x∈o.op.operands->(S.wt tm).ev x=S.ev x)->(∀ k,v k=true->inU sd k=true)->(S.wtB tm v).fD (nid (o.dst.getD 0) 0 0) (nid (o.dst.getD 0+1) 0 0)=false->cF X o (S.wtB tm v) some=some (S'.wtB (lP tm o.dst sv) v):=by
 obtain⟨g,sp,args,argTypes,hop,hk,hsp,h1,h2,h3⟩:=Tf hop
 obtain⟨dst,op,ty0,pos,af,gd⟩:=o
 simp only at hop
 subst hop
 simp only[Nr] at hok
 split at hok
 ·rename_i b off q hargs
  simp only[adj,adt] at hok
  obtain⟨k1,k2,k3,k4⟩:=hok
  have hcal:∀ T:St,dD T { callee:= .value (.func g),args,argTypes }=some (g,args.toList.map T.ev++[]):=fun T=>rfl
  simp only[cF] at h
  rw[hcal] at h
  simp only at h
  rw[hk] at h
  simp only at h
  rw[hsp] at h
  simp only[qE,adU] at h
  rw[hargs] at h
  obtain⟨sv,S',a1,a2,a3,a4,a5,a6,a7⟩:=R8 h1 h2 h3 k3 h
  refine⟨b,sv,S',k1,a1,a2,a3,a4,a5,k4,a6,fun tm v hev hv hfr=> ?_⟩
  have hmap:args.toList.map (S.wtB tm v).ev=args.toList.map S.ev:=aeJ fun y hy=>hev y (by simp[Op.operands,Call.operands];exact .inr (by simpa using hy))
  simp only[cF]
  rw[hcal]
  simp only
  rw[hk]
  simp only
  rw[hsp]
  simp only[qE,adU]
  rw[hmap,hargs]
  refine a7 tm v ?_ hfr
  cases hb:v b with
  | false=>rfl
  | true=>have:=hv b hb;rw[k2] at this;cases this
 ·cases hok
theorem Ym {o:Oper} {S M:St} {k:Del->Option β} {r:β} (hb:Iw S o.op=true) (h:dU X o S M k=some r): ∃ s,k ⟨s,none,none,none⟩=some r/\∀ (G:Gh) (ρ:Env) (a:Act),(∀ x,x∈o.op.operands->aZ G ρ (S.ev x) (a.eval x))->∃ v,(∀ w,(execOp a.eval o).run X.P w= .ok (.value v) w)/\aZ G ρ s v:=by
 unfold Iw at hb
 split at hb
 ·rename_i t x y u ho
  split at hb
  ·rename_i ka n kb m hx hy
   unfold dU at h
   rw[ho] at h
   simp only[cZ,ho,Wj,hx,hy,My] at h
   split at h
   ·cases h
   ·rename_i hk
    have hk':ka=kb:=by simpa using hk
    subst hk'
    refine⟨_,h,fun G ρ a hop=> ?_⟩
    have h1:=aV (hop x (by simp[ho,Op.operands])) hx
    have h2:=aV (hop y (by simp[ho,Op.operands])) hy
    refine⟨.int ka (ka.wrap (n+m)),fun w=> ?_,rfl⟩
    simp only[execOp,ho,Sem.run_bind,show a.eval x= .int ka n from h1,show a.eval y= .int ka m from h2,KE,Result.andThen_ok]
    simp[binOp,Op.intArith]
  ·cases hb
 ·cases hb
end Go.Dn
namespace Go.Dn
variable {β:Type} {X:Cx} {C:Fr X.P} {G:Gh} {ρ:Env} {w:World}
theorem de.more {P:Program} {o:Oper} {S M N:St} {x:Del} (h:de P o S M x) (hb:∀ k cs,look M.boxes k=some cs->look N.boxes k=some cs) (hr:∀ k q,look M.rows k=some q->look N.rows k=some q) (ho:∀ k q,look M.objs k=some q->look N.objs k=some q):de P o S N x:=
 fun C G ρ S1 w a Q hM hN h1 h2 h3=>h C G ρ S1 w a Q hM ⟨hN.ops,fun k cs hk=>hN.boxes k cs (hb k cs hk),fun k cs hk=>hN.rows k cs (hr k cs hk),fun k cs hk=>hN.objs k cs (ho k cs hk)⟩ h1 h2 h3
theorem yW (t:Touch) (M:St):(∀ k cs,look (dA t M).boxes k=some cs->iT t k=true/\look M.boxes k=some cs)/\(∀ k q,look (dA t M).rows k=some q->t.rt=false/\look M.rows k=some q)/\(∀ k q,look (dA t M).objs k=some q->t.rt=false/\look M.objs k=some q):=by
 refine⟨fun k cs hk=> ?_,fun k q hk=> ?_,fun k q hk=> ?_⟩
 ·simp only[dA] at hk
  rw[nQ (fun i=>iT t i)] at hk
  split at hk
  ·rename_i h;exact⟨h,hk⟩
  ·cases hk
 ·simp only[dA] at hk
  cases ht:t.rt with
  | true=>rw[ht] at hk;cases hk
  | false=>rw[ht] at hk;exact⟨rfl,hk⟩
 ·simp only[dA] at hk
  cases ht:t.rt with
  | true=>rw[ht] at hk;cases hk
  | false=>rw[ht] at hk;exact⟨rfl,hk⟩
theorem de.VI {P:Program} {o:Oper} {S M:St} {x:Del} {t:Touch} (h:de P o S (dA t M) x):de P o S M x:=
 h.more (fun k cs hk=>((yW t M).1 k cs hk).2) (fun k q hk=>((yW t M).2.1 k q hk).2) (fun k q hk=>((yW t M).2.2 k q hk).2)
theorem zG {x:Del} (h:yM x=true):x.box=none/\x.row=none/\x.obj=none:=by
 simpa [yM] using h
theorem yj (hX:cA X) {ops:List Oper} {M:St} {tf:Nat->Touch} {dm:Msk} {lb:Bool}:∀ {l:List Oper} {c:Nat} {S:St} {k:St->Option β} {r:β},gT X ops M (fun i=>dA (tf i) M) dm lb c l S k=some r-> ∃ outs:List (Option Del),outs.length=l.length/\k (states l S outs)=some r/\∀ i o x,l[i]? =some o->outs[i]? =some x->Cq X ops M o (states (l.take i) S (outs.take i)) x/\ (inM dm (c+i)=false->∀ y,x=some y->de X.P o (states (l.take i) S (outs.take i)) (dA (tf (c+i)) M) y/\wB lb o.op y=true)
 | [],c,S,k,r,h=>⟨[],rfl,h,fun i o x hi=>by simp at hi⟩
 | o::l,c,S,k,r,h=>by
  have cons:∀ (x:Option Del),Cq X ops M o S x->(inM dm c=false->∀ y,x=some y->de X.P o S (dA (tf c) M) y/\wB lb o.op y=true)->gT X ops M (fun i=>dA (tf i) M) dm lb (c+1) l (S.out o x) k=some r->
   ∃ outs:List (Option Del),outs.length=(o::l).length/\k (states (o::l) S outs)=some r/\∀ i o' x,(o::l)[i]? =some o'->outs[i]? =some x->Cq X ops M o' (states ((o::l).take i) S (outs.take i)) x/\
    (inM dm (c+i)=false->∀ y,x=some y->de X.P o' (states ((o::l).take i) S (outs.take i)) (dA (tf (c+i)) M) y/\wB lb o'.op y=true):=by
   intro x hx hx2 hr
   obtain⟨outs,h1,h2,h3⟩:=yj hX hr
   refine⟨x::outs,by simp[h1],h2,fun i o' y hi hy=> ?_⟩
   cases i with
   | zero=>
    simp only[aej,Option.some.injEq] at hi hy
    subst hi;subst hy
    exact⟨hx,hx2⟩
   | succ i=>
    simp only[aei] at hi hy
    have:=h3 i o' y hi hy
    rw[show c+(i+1)=c+1+i by omega]
    exact this
  simp only[gT] at h
  split at h
  ·rename_i hg
   cases hs:lD ops o S with
   | false=>rw[hs] at h;cases h
   | true=>rw[hs] at h;exact cons none (.inr hs) (fun _ y e=>by cases e) h
  ·rename_i hg
   cases hm:inM dm c with
   | true=>
    rw[hm,afX] at h
    obtain⟨x,h1,h2⟩:=pR hX h
    exact cons (some x) ⟨h2,.inl hg⟩ (fun e=>by rw[hm] at e;cases e) h1
   | false=>
    rw[hm,afW] at h
    obtain⟨x,h1,h2⟩:=pR hX h
    cases hp:wB lb o.op x with
    | false=>rw[hp] at h1;cases h1
    | true=>
     rw[hp,afX] at h1
     exact cons (some x) ⟨⟨h2.1.VI,h2.2⟩,.inl hg⟩ (fun _ y e=>by cases e;exact⟨h2.1,hp⟩) h1
  ·rename_i d b want hg
   rcases JE (Yn (SL hg)) h with ⟨hb,h⟩ | ⟨hb,h⟩
   ·cases hm:inM dm c with
    | true=>
     rw[hm,afX] at h
     obtain⟨x,h1,h2⟩:=pR hX h
     exact cons (some x) ⟨h2,.inr ⟨d,b,want,hg,hb⟩⟩ (fun e=>by rw[hm] at e;cases e) h1
    | false=>
     rw[hm,afW] at h
     obtain⟨x,h1,h2⟩:=pR hX h
     cases hp:wB lb o.op x with
     | false=>rw[hp] at h1;cases h1
     | true=>
      rw[hp,afX] at h1
      exact cons (some x) ⟨⟨h2.1.VI,h2.2⟩,.inr ⟨d,b,want,hg,hb⟩⟩ (fun _ y e=>by cases e;exact⟨h2.1,hp⟩) h1
   ·exact cons none (.inl ⟨d,b,want,hg,hb⟩) (fun _ y e=>by cases e) h
def Rest (t:Touch) (T T':St):Prop:=(t.rt=false->(∀ k q,look T.rows k=some q->look T'.rows k=some q)/\∀ k q,look T.objs k=some q->look T'.objs k=some q)/\∀ k,iT t k=true->look T'.boxes k=look T.boxes k
theorem XM {o:Oper} {S S':St} {t:TypeId} {ad x:Operand} {row:Touch} (ho:o.op= .store t ad x) (ha:Oj row (S.ev ad)=true) (h:cF X o S some=some S'):Rest row S S':=by
 obtain⟨dst,op,ty,pos,af,g⟩:=o
 simp only at ho
 subst ho
 simp only[cF] at h
 split at h
 ·cases h
 ·split at h
  ·rename_i b off a' cs ha' hx
   rw[ha'] at ha
   have hrow:iT row b=false:=by simpa [Oj] using ha
   unfold rI at h
   split at h
   ·split at h
    ·split at h
     ·cases h
      refine⟨fun _=>⟨fun _ _ h=>h,fun _ _ h=>h⟩,fun k hk=> ?_⟩
      simp only[aq]
      rw[af8]
      intro e
      subst e
      rw[hrow] at hk;cases hk
     ·cases h
    ·cases h
   ·cases h
  ·rename_i j sz i off a' cs ha' hx
   rw[ha'] at ha
   have hrow:row.rt=true:=by simpa [Oj] using ha
   unfold yq at h
   split at h
   ·split at h
    ·cases h
    ·obtain⟨y,_,h⟩:=bind_some h
     split at h
     ·split at h
      ·cases h;exact⟨fun e=>(by rw[hrow] at e;cases e),fun _ _=>rfl⟩
      ·cases h
     ·cases h
   ·cases h
  ·rename_i hh off a' cs ha' hx
   rw[ha'] at ha
   have hrow:row.rt=true:=by simpa [Oj] using ha
   unfold Bh at h
   split at h
   ·split at h
    ·cases h
    ·obtain⟨y,_,h⟩:=bind_some h
     split at h
     ·split at h
      ·cases h;exact⟨fun e=>(by rw[hrow] at e;cases e),fun _ _=>rfl⟩
      ·cases h
     ·cases h
   ·cases h
  ·cases h
def Rt (hs:List Nat) (s:SV):Prop:=∀ d,inL hs d=false->s.aX d=false/\s.bu d=false/\s.bn d=false
structure Hg (P:Program) (row:Touch) (hs:List Nat) (sd:List (Nat×List Nat)) (e:Bool) (o:Oper) (T:St) (sv:SV) (T':St):Prop where
 tmps:T'.tmps=lP T.tmps o.dst sv
 rest:Rest row T T'
 sound:∀ tm v,(∀ x,x∈o.op.operands->(T.wt tm).ev x=T.ev x)->(∀ s,s∈tm->s∈T.tmps\/Rt hs s)->(∀ k,v k=true->inU sd k=true)->eX P o (T.wtB tm v) (T'.wtB (lP tm o.dst sv) v)
 early:e=true->JG o.op=true->T'=T.wt (lP T.tmps o.dst sv)/\∀ (G:Gh) (ρ:Env) (a:Act),(∀ x,x∈o.op.operands->aZ G ρ (T.ev x) (a.eval x))->∃ v,(∀ w,(execOp a.eval o).run P w= .ok (.value v) w)/\aZ G ρ sv v
theorem TW {o:Oper} {S:St} {k:St->Option β} {r:β} {args:Array Operand} {argTypes:Array TypeId} (ho:o.op= .call { callee:= .builtin .append,args,argTypes }) (h:cF X o S k=some r): ∃ d S',o.dst=some d/\k S'=some r/\S'.tmps=S.tmps.set d (.v false [.row d])/\S'.boxes=S.boxes/\S.aX d=false/\ ∀ tm,(∀ x,x∈o.op.operands->(S.wt tm).ev x=S.ev x)->(S.wt tm).aX d=false->cF X o (S.wt tm) some=some (S'.wt (tm.set d (.v false [.row d]))):=by
 obtain⟨dst,op,ty0,pos,af,g⟩:=o
 simp only at ho
 subst ho
 simp only[cF] at h
 split at h
 ·rename_i s x t t' d he hty
  split at h
  ·rename_i e ht
   split at h
   ·rename_i ty zc htyo hzc
    split at h
    ·cases h
    ·rename_i hc
     split at h
     ·rename_i l j l' hsrc hnew
      obtain⟨hchk,h⟩:=dX h
      have hc':=hc
      simp only[adx,agd,ads,adr] at hc'
      refine⟨d,_,rfl,h,rfl,rfl,hc'.1.1.1.1.1,fun tm hev hfr=> ?_⟩
      have hmap:args.toList.map (S.wt tm).ev=args.toList.map S.ev:=aeJ fun y hy=>hev y (by simpa [Op.operands,Call.operands] using hy)
      simp only[cF]
      rw[hmap,he,hty]
      simp only
      rw[ht]
      simp only
      rw[htyo,hzc]
      simp only
      rw[af8 (by
       simp only[adx,agd,ads,adr]
       exact⟨⟨⟨⟨⟨hfr,hc'.1.1.1.1.2⟩,hc'.1.1.1.2⟩,hc'.1.1.2⟩,hc'.1.2⟩,hc'.2⟩)]
      rw[show Mv (S.wt tm) e ty s=Mv S e ty s from rfl,show Hr (S.wt tm) ty x=Hr S ty x from rfl,hsrc,hnew]
      simp only
      rw[hchk]
      rfl
     ·cases h
   ·cases h
  ·cases h
 ·cases h
theorem QE {T:St} {tm:List SV} {hs:List Nat} {d:Nat} (h:T.aX d=false) (hd:inL hs d=false) (htm:∀ s,s∈tm->s∈T.tmps\/Rt hs s):(T.wt tm).aX d=false:=by
 simp only[St.aX,adw,adR] at h ⊢
 refine⟨fun s hs'=> ?_,h.2⟩
 rcases htm s hs' with h1 | h1
 ·exact h.1 s h1
 ·simp[(h1 d hd).1]
theorem SR {op:Op} (h:uV op=true):∃ args argTypes,op= .call { callee:= .builtin .append,args,argTypes }:=by
 unfold uV at h
 split at h
 ·exact⟨_,_,rfl⟩
 ·cases h
theorem Sr {S:St} {tm:List SV}:∀ l:List Nat,MO (S.wt tm) l=MO S l
 | []=>rfl
 | k::r=>by
  simp only[MO]
  rw[Sr r]
  rfl
theorem HA {S:St} {tm:List SV}:∀ l:List Nat,vC (S.wt tm) l=vC S l
 | []=>rfl
 | k::r=>by
  simp only[vC]
  rw[HA r]
  rfl
theorem S9 {S:St} {tm:List SV} (l:List SV):gP (S.wt tm) l=gP S l:=by
 unfold gP
 rw[Sr]
theorem aao {S:St} {tm:List SV} (l:List SV):eC (S.wt tm) l=eC S l:=by
 unfold eC
 rw[S9,HA]
theorem FO {S T:St} {fb:List Nat} (hr:T.rows=S.rows) (hb:T.boxes=S.boxes):∀ {ps:List PM} {l:List SV},jn ps=true->cV T fb ps l=cV S fb ps l
 | [],[],_=>rfl
 | [],_::_,_=>rfl
 | .val t::r,l,h=>by
  simp only[cV,lU]
  have e:∀ s,iI T fb t s=iI S fb t s:=fun s=>by
   have hp:∀ (t:Ty) (cs:List CV),fO T fb t cs=fO S fb t cs:=oo hr hb
   unfold iI
   simp only[hp]
  simp only[e]
  rw[FO (ps:=r) hr hb (by simpa [jn] using h)]
 | .row e t::r,l,h=>by
  simp only[cV,lU]
  have e:∀ c,iH T e t c=iH S e t c:=fun c=>by
   unfold iH
   rw[hr]
  simp only[e]
  rw[FO (ps:=r) hr hb (by simpa [jn] using h)]
 | .mrow _ _::_,_,h=>by cases h
 | .map _ _::_,_,h=>by cases h
 | .box _::_,_,h=>by cases h
 | .ar _::_,_,h=>by cases h
 | .arR _::_,_,h=>by cases h
theorem FM {S T:St}:∀ {ps:List PM} {i:Nat} {l:List SV},jn ps=true->eo T i ps l=eo S i ps l
 | [],_,_,_=>rfl
 | .val t::r,i,l,h=>by
  simp only[eo,gX]
  rw[FM (ps:=r) (S:=S) (by simpa [jn] using h)]
 | .row e t::r,i,l,h=>by
  simp only[eo,gX]
  rw[FM (ps:=r) (S:=S) (by simpa [jn] using h)]
 | .mrow _ _::_,_,_,h=>by cases h
 | .map _ _::_,_,_,h=>by cases h
 | .box _::_,_,_,h=>by cases h
 | .ar _::_,_,_,h=>by cases h
 | .arR _::_,_,_,h=>by cases h
theorem Ay {l l':List (aT×Nat)} {x:aT} (h:bG l x=none) (h':bG l' x=none):bG (l++l') x=none:=by
 induction l with
 | nil=>exact h'
 | cons p r ih=>
  obtain⟨o,n⟩:=p
  simp only[bG,adV] at h ⊢
  cases hb:aT.beq o x with
  | true=>rw[hb] at h;cases h
  | false=>rw[hb] at h;exact ih h
theorem Zc {n k:Nat} {c:CV}:bG (mF n c) (.inl k)=none:=by
 cases c<;>rfl
theorem FL {S:St} {k:Nat}:∀ {ps:List PM} {i:Nat} {l:List SV},jn ps=true->bG (eo S i ps l) (.inl k)=none
 | [],_,_,_=>rfl
 | .val t::r,i,l,h=>by
  simp only[eo,gX]
  refine Ay ?_ (FL (by simpa [jn] using h))
  split<;>rfl
 | .row e t::r,i,l,h=>by
  simp only[eo,gX]
  refine Ay ?_ (FL (by simpa [jn] using h))
  split
  ·split
   ·exact Zc
   ·rfl
  ·rfl
 | .mrow _ _::_,_,_,h=>by cases h
 | .map _ _::_,_,_,h=>by cases h
 | .box _::_,_,_,h=>by cases h
 | .ar _::_,_,_,h=>by cases h
 | .arR _::_,_,_,h=>by cases h
theorem Hv {d:Nat}:∀ {ps:List PM} {i:Nat} {l:List SV},jn ps=true->cc d i ps l=[]
 | [],_,_,_=>rfl
 | .val t::r,i,s::l,h=>by simp only[cc];exact Hv (by simpa [jn] using h)
 | .val t::r,i,[],h=>rfl
 | .row e t::r,i,s::l,h=>by simp only[cc];exact Hv (by simpa [jn] using h)
 | .row e t::r,i,[],h=>rfl
 | .mrow _ _::_,_,_,h=>by cases h
 | .map _ _::_,_,_,h=>by cases h
 | .box _::_,_,_,h=>by cases h
 | .ar _::_,_,_,h=>by cases h
 | .arR _::_,_,_,h=>by cases h
theorem Dd {d:Nat}:∀ {ps:List PM} {i:Nat} {l:List SV} {x:dK ps},jn ps=true->cO d i ps l x=[]
 | [],_,_,_,_=>rfl
 | .val t::r,i,s::l,x,h=>by simp only[cO];exact Dd (by simpa [jn] using h)
 | .val t::r,i,[],x,h=>rfl
 | .row e t::r,i,s::l,x,h=>by simp only[cO];exact Dd (by simpa [jn] using h)
 | .row e t::r,i,[],x,h=>rfl
 | .mrow _ _::_,_,_,_,h=>by cases h
 | .map _ _::_,_,_,_,h=>by cases h
 | .box _::_,_,_,_,h=>by cases h
 | .ar _::_,_,_,_,h=>by cases h
 | .arR _::_,_,_,_,h=>by cases h
theorem KH {S:St} {ps:List PM} {i:Nat} {l:List SV} (h:jn ps=true):∀ b:List (Nat×List CV),(b.filter fun p=>(bG (eo S i ps l) (.inl p.1)).isNone)=b
 | []=>rfl
 | p::r=>by
  rw[List.filter_cons,FL h,KH h r]
  rfl
theorem R9 {sp:an} {S:St} {args:List SV} {d:Nat} {k:St->Option β} {r:β} (h1:jn sp.ps=true) (h2:Xc sp.rs=true) (h:iO sp S args (some d) k=some r): ∃ S',k S'=some r/\S'.tmps=S.tmps.set d (.v false [.row (nid d 24 0)])/\S'.boxes=S.boxes/\S.fD (nid d 0 0) (nid (d+1) 0 0)=false/\ ∀ tm,(S.wt tm).fD (nid d 0 0) (nid (d+1) 0 0)=false->iO sp (S.wt tm) args (some d) some=some (S'.wt (tm.set d (.v false [.row (nid d 24 0)]))):=by
 obtain⟨ps,rs,m⟩:=sp
 simp only at h1 h2
 match rs,m,h2,h with
 | [.row e t],m,_,h=>
  unfold iO at h
  simp only[afK] at h
  split at h
  ·cases h
  ·rename_i hc
   have hc':=hc
   simp only[adx,agd,ads] at hc'
   obtain⟨⟨⟨⟨⟨⟨⟨⟨⟨⟨⟨⟨c1,c2⟩,c3⟩,c4⟩,c5⟩,c6⟩,c7⟩,c8⟩,c9⟩,c10⟩,c11⟩,c12⟩,c13⟩:=hc'
   split at h
   ·rename_i x hx
    obtain⟨y,hy,h⟩:=bind_some h
    have hfr:S.fD (nid d 0 0) (nid (d+1) 0 0)=false:=by simpa [qI] using c8
    refine⟨_,h,rfl, ?_,hfr,fun tm htm=> ?_⟩
    ·show mD ps d [RM.row e t] 0 y++(cO d 0 ps args _++S.boxes.filter _)=S.boxes
     rw[Dd h1,KH h1]
     rfl
    ·unfold iO
     simp only[afK]
     rw[aao,S9,FM (T:=S.wt tm) (S:=S) h1]
     rw[af8 (by
      simp only[adx,agd,ads]
      refine⟨⟨⟨⟨⟨⟨⟨⟨⟨⟨⟨⟨c1,c2⟩,c3⟩,c4⟩,c5⟩,c6⟩,c7⟩, ?_⟩,c9⟩, ?_⟩,c11⟩, ?_⟩,c13⟩
      ·simpa [qI] using htm
      ·rw[Hv h1];rfl
      ·rfl)]
     rw[show cV (aF (S.wt tm) (eC S (dQ ps args))) (gP S (dQ ps args)) ps args=cV (aF S (eC S (dQ ps args))) (gP S (dQ ps args)) ps args from FO (T:=aF (S.wt tm) (eC S (dQ ps args))) (S:=aF S (eC S (dQ ps args))) rfl rfl h1]
     rw[hx]
     simp only
     rw[hy]
     simp only[afJ]
     congr 1
     cases hfl:(fk [RM.row e t]&&fA ps)<;>rfl
   ·cases h
theorem Tg {op:Op} (h:Eo X op=true):∃ g sp args argTypes,op= .call { callee:= .value (.func g),args,argTypes }/\look X.keys g=none/\nP X.specs g=[sp]/\jn sp.ps=true/\Xc sp.rs=true:=by
 unfold Eo at h
 split at h
 ·rename_i c
  split at h
  ·rename_i g hg
   split at h
   ·rename_i hk
    split at h
    ·rename_i sp hsp
     simp only[adj] at h
     obtain⟨callee,args,argTypes⟩:=c
     simp only at hg
     subst hg
     exact⟨g,sp,args,argTypes,rfl,hk,hsp,h.1,h.2.2⟩
    ·cases h
   ·cases h
  ·cases h
 ·cases h
theorem YW {o:Oper} {S:St} {k:St->Option β} {r:β} {d:Nat} (hop:Eo X o.op=true) (hd:o.dst=some d) (h:cF X o S k=some r): ∃ S',k S'=some r/\S'.tmps=S.tmps.set d (.v false [.row (nid d 24 0)])/\S'.boxes=S.boxes/\S.fD (nid d 0 0) (nid (d+1) 0 0)=false/\ ∀ tm,(∀ x,x∈o.op.operands->(S.wt tm).ev x=S.ev x)->(S.wt tm).fD (nid d 0 0) (nid (d+1) 0 0)=false->cF X o (S.wt tm) some=some (S'.wt (tm.set d (.v false [.row (nid d 24 0)]))):=by
 obtain⟨g,sp,args,argTypes,hop,hk,hsp,h1,h2⟩:=Tg hop
 obtain⟨dst,op,ty0,pos,af,gd⟩:=o
 simp only at hop hd
 subst hop;subst hd
 have hcal:∀ T:St,dD T { callee:= .value (.func g),args,argTypes }=some (g,args.toList.map T.ev++[]):=fun T=>rfl
 simp only[cF] at h
 rw[hcal] at h
 simp only at h
 rw[hk] at h
 simp only at h
 rw[hsp] at h
 simp only[qE] at h
 obtain⟨S',a1,a2,a3,a4,a5⟩:=R9 h1 h2 h
 refine⟨S',a1,a2,a3,a4,fun tm hev hfr=> ?_⟩
 have hmap:args.toList.map (S.wt tm).ev=args.toList.map S.ev:=aeJ fun y hy=>hev y (by simp[Op.operands,Call.operands];exact .inr (by simpa using hy))
 simp only[cF]
 rw[hcal]
 simp only
 rw[hk]
 simp only
 rw[hsp]
 simp only[qE]
 rw[hmap]
 exact a5 tm hfr
theorem aae {a b:Nat} {s:SV} (h:∀ j,a<=j->j<b->s.aX j=false/\s.bu j=false/\s.bn j=false):s.fD a b=false:=by
 have key:∀ (j:Nat),(Nat.ble a j&&Nat.blt j b)=true->a<=j/\j<b:=fun j hj=>by
  simp only[adj] at hj
  exact⟨afo hj.1,aft (afx _) (afo hj.2)⟩
 have cv:∀ c:CV,c.fD a b=true->∃ j,a<=j/\j<b/\(c.aX j=true\/c.bu j=true\/c.bn j=true):=fun c hc=>by
  cases c<;>simp only[CV.fD] at hc<;>first
   | cases hc
   | (obtain⟨h1,h2⟩:=key _ hc
      refine⟨_,h1,h2, ?_⟩
      simp[CV.aX,CV.bu,CV.bn])
 cases hb:s.fD a b with
 | false=>rfl
 | true=>
  exfalso
  cases s with
  | v g cs=>
   simp only[SV.fD,adS] at hb
   obtain⟨c,hc,hi⟩:=hb
   obtain⟨j,h1,h2,h3⟩:=cv c hi
   have h4:=h j h1 h2
   simp only[SV.aX,SV.bu,SV.bn,adR] at h4
   rcases h3 with h3 | h3 | h3
   ·exact h4.1 c hc h3
   ·exact h4.2.1 c hc h3
   ·exact h4.2.2 c hc h3
  | tup l=>
   simp only[SV.fD,adS] at hb
   obtain⟨p,hp,c,hc,hi⟩:=hb
   obtain⟨j,h1,h2,h3⟩:=cv c hi
   have h4:=h j h1 h2
   simp only[SV.aX,SV.bu,SV.bn,adR,adS,agc,agb] at h4
   rcases h3 with h3 | h3 | h3
   ·exact h4.1 p hp c hc h3
   ·exact h4.2.1 p hp c hc h3
   ·exact h4.2.2 p hp c hc h3
theorem V9 {T:St} {tm:List SV} {hs:List Nat} {d:Nat} (h:T.fD (nid d 0 0) (nid (d+1) 0 0)=false) (hd:A9 hs d=true) (htm:∀ s,s∈tm->s∈T.tmps\/Rt hs s):(T.wt tm).fD (nid d 0 0) (nid (d+1) 0 0)=false:=by
 simp only[St.fD,adw,adR] at h ⊢
 refine⟨fun s hs'=> ?_,h.2⟩
 rcases htm s hs' with h1 | h1
 ·exact h.1 s h1
 ·rw[aae fun j hj1 hj2=>h1 j (by
   cases hb:inL hs j with
   | false=>rfl
   | true=>
    exfalso
    simp only[inL,adS] at hb
    obtain⟨q,hq,hqj⟩:=hb
    simp only[A9,adQ] at hd
    have this:j=q:=afm hqj
    subst this
    have h2:=hd j hq
    have e1:Nat.ble (nid d 0 0) j=true:=Nat.ble_eq_true_of_le hj1
    have e2:Nat.blt j (nid (d+1) 0 0)=true:=by simpa using hj2
    rw[e1,e2] at h2
    cases h2)]
  simp
theorem aaP {T:St} {tm:List SV} {v:Nat->Bool} {a b:Nat} (h:(T.wt tm).fD a b=false):(T.wtB tm v).fD a b=false:=by
 simp only[St.fD,adw,adR] at h ⊢
 exact⟨h.1,fun p hp=>h.2 p (aeQ.1 hp).1⟩
theorem XS {T:St} {tm:List SV} {v:Nat->Bool} {d:Nat} (h:(T.wt tm).aX d=false):(T.wtB tm v).aX d=false:=by
 simp only[St.aX,adw,adR] at h ⊢
 exact⟨h.1,fun p hp=>h.2 p (aeQ.1 hp).1⟩
theorem noU {sd:List (Nat×List Nat)} (h:sd.isEmpty=true) {v:Nat->Bool} (hv:∀ k,v k=true->inU sd k=true):∀ k,v k=false:=fun k=>by
 cases e:v k with
 | false=>rfl
 | true=>have:=hv k e;rw[List.isEmpty_iff.1 h] at this;cases this
theorem Ez (hX:cA X) {ops:List Oper} {S0:St} {hs:List Nat} {sd:List (Nat×List Nat)} {e:Bool}:∀ {l:List Oper} {S:St} {k:St->Option β} {r:β},k9 X ops S0 hs sd e l S k=some r-> ∃ (T:Nat->St) (sv:Nat->SV),T 0=S/\k (T l.length)=some r/\(∀ i,i<=l.length->CU sd (T i)=true)/\∀ i o,l[i]? =some o->Hg X.P (cP X ops S0 [o]) hs sd e o (T i) (sv i) (T (i+1))
 | [],S,k,r,h=>by
  simp only[k9] at h
  cases hy:CU sd S with
  | false=>rw[hy] at h;cases h
  | true=>
   rw[hy,afX] at h
   exact⟨fun _=>S,fun _=>nA,rfl,h,fun _ _=>hy,fun i o hi=>by simp at hi⟩
 | o::l,S,k,r,h=>by
  simp only[k9] at h
  cases hy:CU sd S with
  | false=>rw[hy] at h;cases h
  | true=>
  rw[hy,afX] at h
  have cons:∀ (s:SV) (S':St),Hg X.P (cP X ops S0 [o]) hs sd e o S s S'->k9 X ops S0 hs sd e l S' k=some r->∃ (T:Nat->St) (sv:Nat->SV),T 0=S/\k (T (o::l).length)=some r/\(∀ i,i<=(o::l).length->CU sd (T i)=true)/\∀ i o',(o::l)[i]? =some o'->Hg X.P (cP X ops S0 [o']) hs sd e o' (T i) (sv i) (T (i+1)):=by
   intro s S' hs hr
   obtain⟨T,sv,h1,h2,h4,h3⟩:=Ez hX hr
   refine⟨fun i=>match i with | 0=>S | i+1=>T i,fun i=>match i with | 0=>s | i+1=>sv i,rfl,h2,fun i hi=> ?_,fun i o' hi=> ?_⟩
   ·cases i with
    | zero=>exact hy
    | succ i=>exact h4 i (by simpa using hi)
   ·cases i with
    | zero=>
     simp only[aej,Option.some.injEq] at hi
     subst hi
     show Hg X.P (cP X ops S0 [o]) _ _ _ o S s (T 0)
     rw[h1];exact hs
    | succ i=>exact h3 i o' (by simpa using hi)
  split at h
  ·rename_i ad had
   have hst:∃ t x,o.op= .store t ad x:=by
    revert had
    unfold ZR
    split
    ·rename_i t a x e;intro h';cases h';exact⟨_,_,e⟩
    ·intro h';cases h'
   obtain⟨t,x,hop⟩:=hst
   cases ha:(sd.isEmpty&&Oj (cP X ops S0 [o]) (S.ev ad)) with
   | false=>rw[ha] at h;cases h
   | true=>
    rw[ha,afX] at h
    simp only[adj] at ha
    obtain⟨ha0,ha⟩:=ha
    obtain⟨S',h4,h5,h6⟩:=NX hop h
    have hself:=h6 S.tmps rfl rfl
    have hdst:o.dst=none:=by
     have h7:cF X o S some=some (S'.wt S.tmps):=hself
     cases hd:o.dst with
     | none=>rfl
     | some d=>
      obtain⟨dst,op,ty,pos,af,g⟩:=o
      simp only at hop hd
      subst hop;subst hd
      simp[cF] at h7
    have e:S'.wt S.tmps=S':=by rw[<- h5];rfl
    refine cons nA S' ⟨?_, ?_,fun tm v hev _ hv=> ?_,fun _ hb=> ?_⟩ h4
    ·rw[hdst,h5];rfl
    ·rw[e] at hself
     exact XM hop ha hself
    ·rw[vp (noU ha0 hv),vp (noU ha0 hv)]
     have hs:=h6 tm (hev ad (by simp[hop,Op.operands])) (hev x (by simp[hop,Op.operands]))
     obtain⟨S2,e2,hs2⟩:=vh hX hs
     cases e2
     rw[hdst]
     exact hs2
    ·rw[hop] at hb;cases hb
  ·cases hap:uV o.op with
   | true=>
    rw[hap,afX] at h
    obtain⟨args,argTypes,hop⟩:=SR hap
    cases hd0:o.dst with
    | none=>rw[hd0] at h;simp at h
    | some d0=>
     rw[hd0] at h
     simp only at h
     cases hc:(sd.isEmpty&&((cP X ops S0 [o]).rt&& !inL hs d0)) with
     | false=>rw[hc] at h;cases h
     | true=>
      rw[hc,afX] at h
      obtain⟨d,S',hd,h4,h5,h6,h7,h8⟩:=TW hop h
      rw[hd0] at hd
      cases hd
      simp only[adj,adt] at hc
      obtain⟨hc0,hc⟩:=hc
      refine cons (.v false [.row d0]) S' ⟨?_, ?_,fun tm v hev hfr hv=> ?_,fun _ hb=> ?_⟩ h4
      ·rw[hd0,h5];rfl
      ·exact⟨fun e=>(by rw[hc.1] at e;cases e),fun k _=>by rw[h6]⟩
      ·rw[vp (noU hc0 hv),vp (noU hc0 hv)]
       have hs':=h8 tm hev (QE h7 hc.2 hfr)
       obtain⟨S2,e2,hs2⟩:=vh hX hs'
       cases e2
       rw[hd0]
       exact hs2
      ·rw[hop] at hb;cases hb
   | false=>
    rw[hap,afW] at h
    cases hmc:Eo X o.op with
    | true=>
     rw[hmc,afX] at h
     cases hd0:o.dst with
     | none=>rw[hd0] at h;simp at h
     | some d0=>
      rw[hd0] at h
      simp only at h
      cases hc:(sd.isEmpty&&((cP X ops S0 [o]).rt&&A9 hs d0)) with
      | false=>rw[hc] at h;cases h
      | true=>
       rw[hc,afX] at h
       obtain⟨S',h4,h5,h6,h7,h8⟩:=YW hmc hd0 h
       simp only[adj] at hc
       obtain⟨hc0,hc⟩:=hc
       refine cons (.v false [.row (nid d0 24 0)]) S' ⟨?_, ?_,fun tm v hev hfr hv=> ?_,fun _ hb=> ?_⟩ h4
       ·rw[hd0,h5];rfl
       ·exact⟨fun e=>(by rw[hc.1] at e;cases e),fun k _=>by rw[h6]⟩
       ·rw[vp (noU hc0 hv),vp (noU hc0 hv)]
        have hs':=h8 tm hev (V9 h7 hc.2 hfr)
        obtain⟨S2,e2,hs2⟩:=vh hX hs'
        cases e2
        rw[hd0]
        exact hs2
       ·obtain⟨_,_,_,_,hop,_⟩:=Tg hmc
        rw[hop] at hb;cases hb
    | false=>
    rw[hmc,afW] at h
    cases hmb:BG X o.op with
    | true=>
     rw[hmb,afX] at h
     cases hc:Nr sd hs (cP X ops S0 [o]) o S with
     | false=>rw[hc] at h;cases h
     | true=>
      rw[hc,afX] at h
      obtain⟨b,sv,S',k1,h4,h5,h6,h7,h8,k2,k3,h9⟩:=YV hmb hc h
      refine cons sv S' ⟨h5, ?_,fun tm v hev hfr hv=> ?_,fun _ hb=> ?_⟩ h4
      ·exact⟨fun _=>⟨fun k q hk=>(by rw[h6];exact hk),fun k q hk=>(by rw[h7];exact hk)⟩,fun k hk=>h8 k fun e=>by subst e;rw[k1] at hk;cases hk⟩
      ·have hs':=h9 tm v hev hv (aaP (V9 k3 k2 hfr))
       obtain⟨S2,e2,hs2⟩:=vh hX hs'
       cases e2
       exact hs2
      ·obtain⟨_,_,_,_,hop,_⟩:=Tf hmb
       rw[hop] at hb;cases hb
    | false=>
    rw[hmb,afW] at h
    cases hbin:(e&&JG o.op) with
    | true=>
     simp only[adj] at hbin
     obtain⟨he,hbin⟩:=hbin
     subst he
     cases hib:Iw S o.op with
     | false=>rw[hbin,hib] at h;cases h
     | true=>
      rw[hbin,hib] at h
      simp only[adv,adk,afW] at h
      obtain⟨s,h1,h2⟩:=Ym hib h
      have h1:k9 X ops S0 hs sd true l (S.app o.dst ⟨s,none,none,none⟩) k=some r:=h1
      have happ:∀ T:St,T.app o.dst ⟨s,none,none,none⟩=T.wt (lP T.tmps o.dst s):=fun T=>by cases o.dst<;>rfl
      refine cons s (S.app o.dst ⟨s,none,none,none⟩) ⟨?_, ?_,fun tm v hev _ hv=> ?_,fun _ _=>⟨happ S,h2⟩⟩ h1
      ·rw[happ];rfl
      ·rw[happ];exact⟨fun _=>⟨fun _ _ h=>h,fun _ _ h=>h⟩,fun _ _=>rfl⟩
      ·intro C G ρ w a Q hM
       obtain⟨vv,hr,hd⟩:=h2 G ρ a (fun x hx=>by rw[<- hev x hx];exact hM.tmps.ev x)
       unfold Oper.wp
       rw[hr w]
       refine⟨G,ρ, ?_⟩
       have:=hM.put o.dst (fun _ _=>hd)
       rw[happ]
       have e3:(S.wtB tm v).put o.dst s=(S.wt (lP S.tmps o.dst s)).wtB (lP tm o.dst s) v:=by cases o.dst<;>rfl
       rw[<- e3]
       exact this
    | false=>
    have hb':(e&&(JG o.op&& !Iw S o.op))=false:=by
     cases he:e with
     | false=>rfl
     | true=>rw[he,ady] at hbin;rw[hbin];rfl
    rw[hb',afW] at h
    obtain⟨x,h1,h2,h3⟩:=qM hX h
    have hnb:∀ {v:Nat->Bool} {tm:List SV},(∀ k,v k=true->inU sd k=true)->(∀ x,x∈o.op.operands->(S.wt tm).ev x=S.ev x)->ER o S (noB sd S) (S.wtB tm v):=fun {v tm} hv hev=>
     ⟨hev,fun k cs hk=>by
       simp only[noB] at hk
       rw[aN (fun i=>inU sd i)] at hk
       split at hk
       ·cases hk
       ·rename_i hu
        show look (S.boxes.filter fun p=> !v p.1) k=_
        rw[aN,af8 (fun hvk=>hu (hv k hvk))]
        exact hk,fun _ _ h=>h,fun _ _ h=>h⟩
    have hne:e=true->JG o.op=true->False:=fun h1 h2=>by rw[h1,h2] at hbin;cases hbin
    cases hp:yM x with
    | true=>
     rw[hp,Bool.true_or,afX] at h1
     obtain⟨p1,p2,p3⟩:=zG hp
     have ex:x=⟨x.sv,none,none,none⟩:=by cases x;simp only at p1 p2 p3;subst p1;subst p2;subst p3;rfl
     have happ:∀ T:St,T.app o.dst x=T.wt (lP T.tmps o.dst x.sv):=fun T=>by
      rw[ex];cases o.dst<;>rfl
     refine cons x.sv (S.app o.dst x) ⟨?_, ?_,fun tm v hev _ hv=> ?_,fun h1 h2=>(hne h1 h2).elim⟩ h1
     ·rw[happ];rfl
     ·rw[happ];exact⟨fun _=>⟨fun _ _ h=>h,fun _ _ h=>h⟩,fun _ _=>rfl⟩
     ·intro C G ρ w a Q hM
      have:=h2 C G ρ (S.wtB tm v) w a Q hM (hnb hv hev) (fun d' _ h=>by rw[p1] at h;cases h) (fun d' _ h=>by rw[p2] at h;cases h) (fun d' _ h=>by rw[p3] at h;cases h)
      rw[happ] at this ⊢
      exact this
    | false=>
     cases hr:aaE S hs o.dst x with
     | false=>rw[hp,hr] at h1;cases h1
     | true=>
      rw[hp,hr,adq,afX] at h1
      simp only[aaE,adj,afL] at hr
      obtain⟨p1,p3,hd⟩:=hr
      cases hd0:o.dst with
      | none=>rw[hd0] at hd;cases hd
      | some d0=>
       rw[hd0] at hd
       simp only[adj,adt,afL] at hd
       have happ:∀ T:St,(T.app o.dst x).tmps=lP T.tmps o.dst x.sv/\(T.app o.dst x).boxes=T.boxes/\(T.app o.dst x).objs=T.objs/\(T.app o.dst x).rows=(match x.row with | some r=>(d0,r)::T.rows | none=>T.rows):=fun T=>by
        rw[hd0];simp only[St.app,p1,p3,lP,and_self,true_and];rfl
       refine cons x.sv (S.app o.dst x) ⟨(happ S).1, ?_,fun tm v hev hfr hv=> ?_,fun h1 h2=>(hne h1 h2).elim⟩ h1
       ·obtain⟨_,a2,a3,a4⟩:=happ S
        refine⟨fun _=>⟨fun k q hk=> ?_,fun k q hk=>by rw[a3];exact hk⟩,fun _ _=>by rw[a2]⟩
        rw[a4]
        split
        ·rw[aq,af8 (fun e=>by subst e;rw[hd.2] at hk;cases hk)];exact hk
        ·exact hk
       ·intro C G ρ w a Q hM
        have h7:=h2 C G ρ (S.wtB tm v) w a Q hM (hnb hv hev) (fun d' _ h=>by rw[p1] at h;cases h) (fun d' hd' hx=>by
         rw[hd0] at hd';cases hd'
         exact XS (QE ((h3 d0 hd0).2.1 hx) hd.1 hfr)) (fun d' _ h=>by rw[p3] at h;cases h)
        have e4:(S.wtB tm v).app o.dst x=(S.app o.dst x).wtB (lP tm o.dst x.sv) v:=by
         rw[hd0];simp only[St.app,p1,p3,lP,St.wtB]
        rw[e4] at h7
        exact h7
theorem KD {t i:Nat} {m:Msk} {ds:List Msk}:∀ {l:List (Option Nat)} {c:Nat},Ee t i m ds l c=true->∀ {k:Nat},l[k]? =some (some t)->c+k∈m\/i∈ds.getD (c+k) m0
 | [],_,_,_,h=>by simp at h
 | d::r,c,h,0,hk=>by
  simp only[Ee,adj] at h
  have:d=some t:=by simpa using hk
  subst this
  have h1:=h.1
  simp only[afk,adv,adq,adx] at h1
  exact h1.imp gD.1 gD.1
 | d::r,c,h,k+1,hk=>by
  simp only[Ee,adj] at h
  have:=KD h.2 (k:=k) (by simpa using hk)
  rw[show c+(k+1)=c+1+k by omega]
  exact this
section
variable {ops:List Oper} {m n:Nat} {S Sn:St} {listed:Array Bool} {outs:List (Option Del)}
theorem ck.keep (K:ck X ops m S outs Sn):(∀ k cs,look S.boxes k=some cs->look Sn.boxes k=some cs)/\(∀ k q,look S.rows k=some q->look Sn.rows k=some q)/\(∀ k q,look S.objs k=some q->look Sn.objs k=some q):=by
 have nolook:∀ k,(look S.boxes k).isSome=true\/(look S.rows k).isSome=true\/(look S.objs k).isSome=true->look Sn.boxes k=look S.boxes k/\look Sn.rows k=look S.rows k/\look Sn.objs k=look S.objs k:=fun k hk=>by
  have hnd:∀ j,j<m->bS ops j≠some k:=fun j hj hdj=>by
   obtain⟨_,m3,m4,m5,_⟩:=K.new j k hj hdj
   rcases hk with hk | hk | hk
   ·rw[m3] at hk;cases hk
   ·rw[m4] at hk;cases hk
   ·rw[m5] at hk;cases hk
  have:k∉fq (ops.take m):=fun hm=>by
   simp only[fq,aeR] at hm
   obtain⟨p,hp,hpd⟩:=hm
   obtain⟨j,hj⟩:=aeS.1 hp
   have hmn:j<m:=by
    have:=(aen.1 hj).1
    simp at this;omega
   rw[cE hmn] at hj
   exact hnd j hmn (by unfold bS;rw[hj];exact hpd)
  rw[K.sn]
  exact (dW this).2
 exact⟨fun k cs hk=>by rw[(nolook k (.inl (by rw[hk];rfl))).1];exact hk,fun k q hk=>by rw[(nolook k (.inr (.inl (by rw[hk];rfl)))).2.1];exact hk,
  fun k q hk=>by rw[(nolook k (.inr (.inr (by rw[hk];rfl)))).2.2];exact hk⟩
def vq (a b:Touch):Prop:=(b.rt=false->a.rt=false)/\∀ k,iT b k=true->iT a k=true
structure jI (X:Cx) (ops:List Oper) (m n:Nat) (S:St) (outs:List (Option Del)) (Sn:St) (sd:List (Nat×List Nat)) (e:Bool) (tf:Nat->Touch) (t1:Oper->Touch) (T:Nat->St) (sv:Nat->SV):Prop where
 lt:m<n
 le:n<=ops.length
 t0:T 0=Sn
 step:∀ c o,m+c<n->ops[m+c]? =some o->Hg X.P (t1 o) S.ids sd e o (T c) (sv c) (T (c+1))
 cover:∀ i c o,i<m->m+c<n->ops[m+c]? =some o->i∉(deps ops).getD (m+c) m0->vq (t1 o) (tf i)
 late:∀ i o,i<m->ops[i]? =some o->i∉(deps ops).getD m m0->∀ y,outs[i]? =some (some y)->de X.P o (states ((ops.take m).take i) S (outs.take i)) (dA (tf i) S) y/\wB true o.op y=true
 guard:∀ i o,m<=i->i<n->ops[i]? =some o->o.guard=none
 wait:∀ i j,m<=j->j<i->i<n->j∈(deps ops).getD i m0\/(e=true/\Ef ops (deps ops) m j=true)
 looks:∀ i o,i<n->ops[i]? =some o->∀ t,t∈o.looksAt ops.toArray->∀ j,j<n->bS ops j=some t->j∈(deps ops).getD i m0\/i∈(deps ops).getD j m0
 uniq:∀ i j d,i<n->j<n->bS ops i=some d->bS ops j=some d->i=j
 sds:∀ i o d,i<m->ops[i]? =some o->Fq o.op=true->i∉(deps ops).getD m m0->o.dst=some d->∃ q,q∈sd/\q.1=d/\∀ t,inL q.2 t=true->∃ j,j<m/\bS ops j=some t/\(j=i\/i∈(deps ops).getD j m0)
 say:∀ c,m+c<=n->CU sd (T c)=true
 free:∀ c o,m+c<n->ops[m+c]? =some o->∀ d,inU sd d=true->iT (t1 o) d=true
variable {tf:Nat->Touch} {t1:Oper->Touch} {T:Nat->St} {sv:Nat->SV} {sd:List (Nat×List Nat)} {e:Bool}
theorem jI.len (Z:jI X ops m n S outs Sn sd e tf t1 T sv) (K:ck X ops m S outs Sn):∀ c,m+c<=n->(T c).tmps.length=S.tmps.length
 | 0,_=>by rw[Z.t0,K.uf]
 | c+1,h=>by
  have hlt:m+c<ops.length:=by have:=Z.le;omega
  have hs:=(Z.step c _ (by omega) (ael hlt)).tmps
  rw[hs]
  have:=Z.len K c (by omega)
  cases (ops[m+c]).dst<;>simp[lP,this]
theorem jI.other (Z:jI X ops m n S outs Sn sd e tf t1 T sv):∀ c,m+c<=n->∀ t,(∀ j,m<=j->j<m+c->bS ops j≠some t)->(T c).tmps[t]? =Sn.tmps[t]?
 | 0,_,t,_=>by rw[Z.t0]
 | c+1,h,t,ht=>by
  have hlt:m+c<ops.length:=by have:=Z.le;omega
  have hs:=(Z.step c _ (by omega) (ael hlt)).tmps
  rw[hs, <- Z.other c (by omega) t (fun j h1 h2=>ht j h1 (by omega))]
  cases hd:(ops[m+c]).dst with
  | none=>rfl
  | some d=>
   have hne:d≠t:=fun e=>ht (m+c) (by omega) (by omega) (by unfold bS;rw[ael hlt];simp[hd,e])
   exact aer hne
theorem jI.ZY (Z:jI X ops m n S outs Sn sd e tf t1 T sv) {d:Nat} (hd:inU sd d=true):∀ c,m+c<=n->look (T c).boxes d=look Sn.boxes d
 | 0,_=>by rw[Z.t0]
 | c+1,h=>by
  have hlt:m+c<ops.length:=by have:=Z.le;omega
  have hs:=(Z.step c _ (by omega) (ael hlt)).rest
  rw[hs.2 d (Z.free c _ (by omega) (ael hlt) d hd),Z.ZY hd c (by omega)]
theorem jI.mem (Z:jI X ops m n S outs Sn sd e tf t1 T sv) {i:Nat} (hi:i<m):∀ c,m+c<=n->(∀ j,m<=j->j<m+c->i∉(deps ops).getD j m0)->Rest (tf i) Sn (T c)
 | 0,_,_=>by rw[Z.t0];exact⟨fun _=>⟨fun _ _ h=>h,fun _ _ h=>h⟩,fun _ _=>rfl⟩
 | c+1,h,hnd=>by
  have hlt:m+c<ops.length:=by have:=Z.le;omega
  have hs:=(Z.step c _ (by omega) (ael hlt)).rest
  have hle:=Z.cover i c _ hi (by omega) (ael hlt) (hnd (m+c) (by omega) (by omega))
  have ih:=Z.mem hi c (by omega) (fun j h1 h2=>hnd j h1 (by omega))
  exact⟨fun e=>⟨fun k q hk=>(hs.1 (hle.1 e)).1 k q ((ih.1 e).1 k q hk),fun k q hk=>(hs.1 (hle.1 e)).2 k q ((ih.1 e).2 k q hk)⟩,fun k hk=>(hs.2 k (hle.2 k hk)).trans (ih.2 k hk)⟩
theorem jI.near (Z:jI X ops m n S outs Sn sd e tf t1 T sv) (K:ck X ops m S outs Sn) {i:Nat} (hi:i<m) (c:Nat) (hc:m+c<=n) (hnd:∀ j,m<=j->j<m+c->i∉(deps ops).getD j m0): (∀ k cs,look (dA (tf i) S).boxes k=some cs->look (T c).boxes k=some cs/\look S.boxes k=some cs)/\(∀ k q,look (dA (tf i) S).rows k=some q->look (T c).rows k=some q)/\(∀ k q,look (dA (tf i) S).objs k=some q->look (T c).objs k=some q):=by
 have hm:=Z.mem hi c hc hnd
 obtain⟨k1,k2,k3⟩:=K.keep
 obtain⟨r1,r2,r3⟩:=yW (tf i) S
 exact⟨fun k cs hk=>⟨by rw[hm.2 k (r1 k cs hk).1];exact k1 k cs (r1 k cs hk).2,(r1 k cs hk).2⟩,fun k q hk=>(hm.1 (r2 k q hk).1).1 k q (k2 k q (r2 k q hk).2),fun k q hk=>(hm.1 (r3 k q hk).1).2 k q (k3 k q (r3 k q hk).2)⟩
def eW (ops:List Oper) (m:Nat) (sd:List (Nat×List Nat)) (listed:Array Bool) (k:Nat):Bool:=az ops m listed k&&inU sd k
theorem abc {listed:Array Bool} (k:Nat) (h:eW ops m sd listed k=true):inU sd k=true:=by
 simp only[eW,adj] at h;exact h.2
def rT {P0:Program} (C:Fr P0) (G:Gh) (ρ:Env) (ops:List Oper) (m:Nat) (S Sn:St) (sd:List (Nat×List Nat)) (T:Nat->St) (c:Nat) (listed:Array Bool) (w:World) (a:Act):Prop:=
 if c=0 then Mod C G ρ (aD S Sn (az ops m listed)) w a else Mod C G ρ ((T c).wtB (aD S (T c) (az ops m listed)).tmps (eW ops m sd listed)) w a
theorem jI.started (Z:jI X ops m n S outs Sn sd e tf t1 T sv) (K:ck X ops m S outs Sn) {c:Nat} {a:Act} (hdone:∀ j,j∈(deps ops).getD m m0->listed.getD j true=true) (hM:rT C G ρ ops m S Sn sd T c listed w a): Mod C G ρ ((T c).wtB (aD S (T c) (az ops m listed)).tmps (eW ops m sd listed)) w a:=by
 unfold rT at hM
 by_cases ec:c=0
 ·subst ec
  rw[af9 rfl] at hM
  rw[Z.t0]
  have hunb:∀ t,az ops m listed t=true->(inU sd t=false->look Sn.boxes t=none)/\look Sn.rows t=none/\look Sn.objs t=none:=fun t hu=>by
   obtain⟨j,h1,h2,h3⟩:=cU.1 hu
   obtain⟨oj,h4,h5⟩:=iw h3
   have hnd:j∉(deps ops).getD m m0:=fun hmem=>by
    have:=hdone j hmem
    rw[h2] at this;cases this
   obtain⟨x,hx⟩:∃ x,outs[j]? =some x:=⟨outs[j]'(by rw[K.len];exact h1),ael _⟩
   have hp:(inU sd t=false->wJ x=none)/\vH x=none/\zE x=none:=by
    cases x with
    | none=>exact⟨fun _=>rfl,rfl,rfl⟩
    | some y=>
     have hl:=(Z.late j oj h1 h4 hnd y hx).2
     unfold wB at hl
     cases hal:Fq oj.op with
     | true=>
      simp only[hal,adl,afX,adj,afL] at hl
      refine⟨fun hu=> ?_,hl.1,hl.2⟩
      obtain⟨q,hq1,hq2,_⟩:=Z.sds j oj t h1 h4 hal hnd h5
      have:inU sd t=true:=by
       simp only[inU,adS]
       exact⟨q,hq1,by rw[hq2];exact afk t⟩
      rw[hu] at this;cases this
     | false=>
      simp only[hal,adk,afW] at hl
      obtain⟨p1,p2,p3⟩:=zG hl
      exact⟨fun _=>p1,p2,p3⟩
   obtain⟨_,n3,n4,n5,_⟩:=K.new j t h1 h3
   have hat:=rH (S:=S) (outs:=outs) (by rw[K.len,aeH,afA K.n_le]) K.dupl (i:=j) (o:=oj) (x:=x) (by rw[cE h1];exact h4) hx h5
   rw[<- K.sn] at hat
   refine⟨fun hu=> ?_, ?_, ?_⟩
   ·rw[hat.2.1,n3,hp.1 hu];rfl
   ·rw[hat.2.2.1,n4,hp.2.1];rfl
   ·rw[hat.2.2.2,n5,hp.2.2];rfl
  refine hM.equiv rfl (fun k cs hk=> ?_) (fun k q hk=> ?_) (fun k q hk=> ?_)
  ·simp only[aD,aN]
   simp only[St.wtB] at hk
   rw[aN] at hk
   split at hk
   ·cases hk
   ·rename_i hv
    cases hu:az ops m listed k with
    | true=>
     have hI:inU sd k=false:=by
      cases hI:inU sd k with
      | false=>rfl
      | true=>exact absurd (by simp only[eW,hu,hI,adl]) hv
     rw[(hunb k hu).1 hI] at hk;cases hk
    | false=>exact hk
  ·simp only[aD,aN]
   cases hu:az ops m listed k with
   | true=>rw[show look ((Sn.wtB (aD S Sn (az ops m listed)).tmps (eW ops m sd listed)).rows) k=look Sn.rows k from rfl,(hunb k hu).2.1] at hk;cases hk
   | false=>exact hk
  ·simp only[aD,aN]
   cases hu:az ops m listed k with
   | true=>rw[show look ((Sn.wtB (aD S Sn (az ops m listed)).tmps (eW ops m sd listed)).objs) k=look Sn.objs k from rfl,(hunb k hu).2.2] at hk;cases hk
   | false=>exact hk
 ·rw[af8 ec] at hM;exact hM
theorem jI.evs (Z:jI X ops m n S outs Sn sd e tf t1 T sv) (K:ck X ops m S outs Sn) {c:Nat} {o:Oper} (hin:m+c<n) (hoi:ops[m+c]? =some o) (hdeps:∀ j,j∈(deps ops).getD (m+c) m0->listed.getD j true=true): ∀ x,x∈o.op.operands->((T c).wt (aD S (T c) (az ops m listed)).tmps).ev x=(T c).ev x:=fun x hx=>by
 have hTlen:=Z.len K c (by omega)
 cases x with
 | tmp t=>
  show (aD S (T c) (az ops m listed)).tmps.getD t (.v false [.any])=(T c).tmps.getD t (.v false [.any])
  have hu:az ops m listed t=false:=by
   cases hu:az ops m listed t with
   | false=>rfl
   | true=>
    obtain⟨j,h1,h2,h3⟩:=cU.1 hu
    rcases Z.looks (m+c) o hin hoi t (by
     simp only[Oper.looksAt,aeN,aeR]
     exact .inl ⟨.tmp t,by simpa using hx,rfl⟩) j (by omega) h3 with h4 | h4
    ·have:=hdeps j h4
     rw[h2] at this;cases this
    ·have hoj:ops[j]? =some (ops[j]'(by have:=Z.le;omega)):=ael (by have:=Z.le;omega)
     have:=Jy K.edges j _ hoj (m+c) h4
     omega
  rw[aee,dV]
  by_cases hlt:t<S.tmps.length
  ·simp[hlt,hu]
  ·rw[af8 hlt]
   have:(T c).tmps[t]? =none:=aem (by rw[hTlen];exact Nat.le_of_not_lt hlt)
   rw[aee,this]
 | const v=>rfl
 | global g=>rfl
 | func f=>rfl
theorem jI.acH (Z:jI X ops m n S outs Sn sd e tf t1 T sv) (K:ck X ops m S outs Sn) {c:Nat} (hc:m+c<=n): ∀ s,s∈(aD S (T c) (az ops m listed)).tmps->s∈(T c).tmps\/Rt S.ids s:=by
 have hTlen:=Z.len K c hc
 intro s hs
 simp only[aD,aeT,aeX] at hs
 obtain⟨t,ht,rfl⟩:=hs
 split
 ·right
  intro d hd
  have hmem:S.tmps.getD t (.v false [.any])∈S.tmps:=by
   rw[aee,ael ht];exact aew ht
  have:=(wo (Vv hd).1).2
  simp only[St.aX,St.bu,St.bn,adw,adR] at this
  exact⟨by simpa using this.1.1 _ hmem,by simpa using this.2.1.1 _ hmem,by simpa using this.2.2.1 _ hmem⟩
 ·left
  rw[aee,ael (by rw[hTlen];exact ht)];exact aew _
theorem jI.next (Z:jI X ops m n S outs Sn sd e tf t1 T sv) (K:ck X ops m S outs Sn) {c:Nat} {o:Oper} (hin:m+c<n) (hoi:ops[m+c]? =some o): (aD S (T (c+1)) (az ops m (listed.setIfInBounds (m+c) true))).tmps=lP (aD S (T c) (az ops m listed)).tmps o.dst (sv c)/\eW ops m sd (listed.setIfInBounds (m+c) true)=eW ops m sd listed:=by
 have hTlen:=Z.len K c (by omega)
 have hstep:=Z.step c o hin hoi
 have e:az ops m (listed.setIfInBounds (m+c) true)=az ops m listed:=funext (Gd (by omega))
 refine⟨?_,by unfold eW;rw[e]⟩
 rw[e]
 have ht:=hstep.tmps
 cases hd:o.dst with
 | none=>
  rw[hd] at ht
  simp only[lP] at ht ⊢
  simp only[aD,ht]
 | some d=>
  rw[hd] at ht
  simp only[lP] at ht ⊢
  have hdA:bS ops (m+c)=some d:=by unfold bS;rw[hoi];exact hd
  have hu:az ops m listed d=false:=by
   cases hu:az ops m listed d with
   | false=>rfl
   | true=>
    obtain⟨j,h1,_,h3⟩:=cU.1 hu
    have:=Z.uniq j (m+c) d (by omega) hin h3 hdA
    omega
  apply ad9
  intro t
  rw[aeq,dV,dV]
  by_cases e:d=t
  ·subst e
   have hlen:(aD S (T c) (az ops m listed)).tmps.length=S.tmps.length:=by simp[aD]
   rw[hlen,hu]
   by_cases hlt:d<S.tmps.length
   ·simp only[hlt,aga,ado,af7]
    rw[ht,aee,aes (by rw[hTlen];exact hlt)];rfl
   ·simp[hlt]
  ·rw[af8 e,ht]
   rw[show ((T c).tmps.set d (sv c)).getD t (.v false [.any])=(T c).tmps.getD t (.v false [.any]) from Ek (aer e)]
theorem MF {i:Nat} {o:Oper} (hoi:ops[i]? =some o) (hlt:i<listed.size) (hcl:ju ops listed) (hed:∀ e,e∈o.after.toList->Region.binds .any e=true->listed.getD e.on false=true):ju ops (listed.setIfInBounds i true):=by
 intro j oj hj hlj e he hb
 by_cases eji:j=i
 ·subst eji
  rw[hoi] at hj
  cases hj
  have:=hed e he hb
  by_cases e2:e.on=j
  ·rw[e2];exact bM hlt
  ·rw[aL e2];exact this
 ·rw[aL eji] at hlj
  have:=hcl j oj hj hlj e he hb
  by_cases e2:e.on=i
  ·rw[e2];exact bM hlt
  ·rw[aL e2];exact this
theorem count_set {i u:Nat} (hlt:i<listed.size) (hin:i<n) (hun:listed.getD i true=false) (hcnt:(List.range n).countP (fun i=> !listed.getD i true)=u+1):(List.range n).countP (fun j=> !(listed.setIfInBounds i true).getD j true)=u:=by
 have:=wh (p:=fun j=> !listed.getD j true) (q:=fun j=> !(listed.setIfInBounds i true).getD j true) (i:=i) (l:=List.range n) List.nodup_range (by simpa using hin) (by simp[hun]) (fun j=>by
  by_cases e:j=i
  ·subst e;simp only[bM (listed:=listed) (b:=true) hlt];simp
  ·simp only[aL (listed:=listed) (b:=true) e];simp[e])
 omega
theorem ck.spine (K:ck X ops m S outs Sn) (Z:jI X ops m n S outs Sn sd e tf t1 T sv) (hwaits:∀ k,n<=k->k<ops.length->∀ j,j<k->j∈(deps ops).getD k m0) {Q:Exit->Act->World->Prop} (hn:∀ e a w,Q e a w->e= .normal) (hseq:Region.seqB .any ops.toArray (ops.length - n) n (mask n ops.length)=true) (htail:∀ G ρ w a,Mod C G ρ (T (n - m)) w a->wpList X.P ops.toArray Q (ops.drop n) a w):∀ (u c:Nat) (listed:Array Bool) (a:Act) (w:World) (G:Gh) (ρ:Env),m+c<=n->listed.size=ops.length->ju ops listed-> (∀ k,m<=k->k<m+c->listed.getD k true=true)->(∀ k,m+c<=k->k<ops.length->listed.getD k true=false)->(List.range n).countP (fun i=> !listed.getD i true)=u->rT C G ρ ops m S Sn sd T c listed w a->wpAny X.P .any ops.toArray Q (u+(ops.length - n)) listed a w:=by
 have hmn:=Z.lt
 have hnl:=Z.le
 intro u
 induction u with
 | zero=>
  intro c listed a w G ρ hc hsz hcl hdn htl hcnt hM
  have hall:∀ i,i<n->listed.getD i true=true:=fun i hi=>by
   rw[adY] at hcnt
   have:=hcnt i (by simpa using hi)
   simpa using this
  have ec:c=n - m:=by
   by_cases h:m+c<n
   ·have:=htl (m+c) (afq _) (by omega)
    rw[hall (m+c) h] at this;cases this
   ·omega
  have hU:∀ t,az ops m listed t=false:=fun t=>by
   cases hu:az ops m listed t with
   | false=>rfl
   | true=>obtain⟨j,h1,h2,_⟩:=cU.1 hu;rw[hall j (by omega)] at h2;cases h2
  have hMn:Mod C G ρ (T (n - m)) w a:=by
   unfold rT at hM
   rw[af8 (by omega),ec,vp (fun k=>by unfold eW;rw[hU k];rfl)] at hM
   refine hM.equiv ?_ (fun k cs hk=>hk) (fun k q hk=>hk) (fun k q hk=>hk)
   show (aD S (T (n - m)) (az ops m listed)).tmps=_
   apply ad9
   intro t
   rw[dV,hU t]
   have hl:=Z.len K (n - m) (by omega)
   by_cases hlt:t<S.tmps.length
   ·have:t<(T (n - m)).tmps.length:=by rw[hl];exact hlt
    simp[hlt,this]
   ·rw[af8 hlt,aem (by omega)]
  have hmask:=JL (n:=n) hsz hnl hall (fun i h1 h2=>htl i (by omega) h2)
  have hl:(ops.drop n).length=ops.length - n:=by simp
  have:=wpAny_of_seq (P:=X.P) (md:= .any) (ops:=ops.toArray) (Q':=Q) (ops.drop n) n listed a w (fun j=>by simp[aek]) (by rw[hl,hmask];exact hseq) (htail G ρ w a hMn)
  rw[hl] at this
  rw[afH]
  exact this
 | succ u ih=>
  intro c listed a w G ρ hc hsz hcl hdn htl hcnt hM
  have hsome:∃ i,i<n/\listed.getD i true=false:=by
   have:0<(List.range n).countP (fun i=> !listed.getD i true):=by omega
   rw[adZ] at this
   obtain⟨i,h1,h2⟩:=this
   exact⟨i,by simpa using h1,by simpa using h2⟩
  rw[show u+1+(ops.length - n)=(u+(ops.length - n))+1 by omega]
  by_cases hE:m+c<n/\e=true/\Ef ops (deps ops) m (m+c)=true
  ·obtain⟨hin,he,hea⟩:=hE
   have hlt:m+c<ops.length:=by omega
   have hoi:ops[m+c]? =some (ops[m+c]):=ael hlt
   generalize ops[m+c]=o at hoi
   have hun:=htl (m+c) (afq _) hlt
   unfold Ef at hea
   rw[hoi] at hea
   simp only[adj,adQ,afL] at hea
   obtain⟨g1,g2,g3,g4,g5,g6⟩:=hea
   have hc0:0<c:=by
    have:m<m+c:=aft (afx _) (afo g2)
    omega
   have hT:∀ k,listed.getD k true=true->k<ops.length->listed.getD k false=true:=fun k h1 h2=>by
    rw[ac5] at h1 ⊢
    rw[ac6 (by omega)] at h1 ⊢
    simpa using h1
   have hed':∀ e,e∈o.after.toList->Region.binds .any e=true->listed.getD e.on false=true:=fun ed he hb=>by
    have h1:=g4 ed he
    rw[hb] at h1
    simp only[adv,adq,adx] at h1
    have hprev:=hdn (m+c - 1) (by omega) (by omega)
    rcases h1 with h1 | h1
    ·have:ed.on+1=m+c:=afm h1
     refine hT _ ?_ (by omega)
     rw[show ed.on=m+c - 1 by omega];exact hprev
    ·have hop:ops[m+c - 1]? =some (ops[m+c - 1]'(by omega)):=ael (by omega)
     have hmem:=gD.1 h1
     have h2:=cJ K.edges hcl (m+c - 1) _ hop (fun e k1 k2=>hcl _ _ hop hprev e k1 k2) ed.on hmem
     have:=Jy K.edges _ _ hop _ hmem
     exact hT _ h2 (by omega)
   have hdeps:=cJ K.edges hcl (m+c) o hoi hed'
   have hM2:Mod C G ρ ((T c).wtB (aD S (T c) (az ops m listed)).tmps (eW ops m sd listed)) w a:=by
    unfold rT at hM
    rw[af8 (by omega)] at hM
    exact hM
   have hev:=Z.evs K hin hoi hdeps
   have hstep:=Z.step c o hin hoi
   obtain⟨hT1,hval⟩:=hstep.early he g1
   obtain⟨v,hrun,hv⟩:=hval G ρ a (fun x hx=>by rw[<- hev x hx];exact hM2.tmps.ev x)
   have hwt:Region.wanted o (yielded ops.toArray a.tmps)=true:=by simp[Region.wanted,g3]
   refine wpAny_first (i:=m+c) (oi:=o) (v:=v) (by simpa using hoi) (Region.noSelect_spec g5) (fun c a w q=>by cases hn _ _ _ q) _ listed a w (fun k ok hk hne hunk hno=> ?_) ?_ (.inl ⟨hwt,hrun⟩) ?_
   ·refine Region.free_spec (by simpa using hoi) g6 k ok hk hne ?_ hno
    have hkl:k<ops.length:=(aen.1 (show ops[k]? =some ok by simpa using hk)).1
    have:inM ((deps ops).getD (m+c) m0) k=false:=by
     cases h:inM ((deps ops).getD (m+c) m0) k with
     | false=>rfl
     | true=>have:=hdeps k (gD.1 h);rw[hunk] at this;cases this
    rw[ac5]
    simpa [hkl] using this
   ·rw[mem_ready]
    exact⟨hun,o,by simpa using hoi,fun ed he hb=>hed' ed (by simpa using he) hb⟩
   ·refine ih (c+1) (listed.setIfInBounds (m+c) true) (a.put o.dst v) w G ρ (by omega) (by simpa using hsz) (MF hoi (by omega) hcl hed') (fun k h1 h2=> ?_) (fun k h1 h2=> ?_) (count_set (by omega) hin hun hcnt) ?_
    ·by_cases e:k=m+c
     ·subst e;exact bM (by omega)
     ·rw[aL e];exact hdn k h1 (by omega)
    ·rw[aL (by omega)];exact htl k (by omega) h2
    ·unfold rT
     rw[af8 (by omega)]
     obtain⟨htm,hlv⟩:=Z.next K (listed:=listed) hin hoi
     rw[htm,hlv,hT1]
     have:=hM2.put o.dst (fun _ _=>hv)
     have e3:((T c).wtB (aD S (T c) (az ops m listed)).tmps (eW ops m sd listed)).put o.dst (sv c)=((T c).wt (lP (T c).tmps o.dst (sv c))).wtB (lP (aD S (T c) (az ops m listed)).tmps o.dst (sv c)) (eW ops m sd listed):=by cases o.dst<;>rfl
     rw[<- e3]
     exact this
  refine⟨fun hr=> ?_,fun i hi=> ?_⟩
  ·exfalso
   have hall:∀ i,i<n->listed.getD i true=true:=by
    intro i
    induction i using Nat.strongRecOn with
    | _ i ihi=>
     intro hin
     cases hl:listed.getD i true with
     | true=>rfl
     | false=>
      exfalso
      have hlt:i<ops.length:=by omega
      have hoi:ops[i]? =some ops[i]:=ael hlt
      have:i∈Region.ready .any ops.toArray listed:=by
       rw[mem_ready]
       refine⟨hl,ops[i],by simp,fun e he hb=> ?_⟩
       have hE:=K.edges
       simp only[eF,adQ] at hE
       have h7:=hE i (by simp;exact hlt)
       rw[hoi] at h7
       simp only[adQ] at h7
       have h8:=h7 e (by simpa using he)
       simp only[hb,adv,adq] at h8
       have h9:e.on<i:=aft (afx _) (afo h8)
       have h10:=ihi e.on h9 (by omega)
       rw[ac5] at h10 ⊢
       rw[ac6 (by omega)] at h10 ⊢
       simpa using h10
      rw[hr] at this
      cases this
   obtain⟨i,h1,h2⟩:=hsome
   rw[hall i h1] at h2;cases h2
  ·rw[mem_ready] at hi
   obtain⟨hun,o,hio,hed⟩:=hi
   have hoi:ops[i]? =some o:=by simpa using hio
   have hed':∀ e,e∈o.after.toList->Region.binds .any e=true->listed.getD e.on false=true:=fun e he hb=>hed e (by simpa using he) hb
   have hlt:i<ops.length:=(aen.1 hoi).1
   have hdeps:=cJ K.edges hcl i o hoi hed'
   by_cases hin:i<n
   ·-- what the next round asks for
    have cl':ju ops (listed.setIfInBounds i true):=MF hoi (by omega) hcl hed'
    have cnt':(List.range n).countP (fun j=> !(listed.setIfInBounds i true).getD j true)=u:=count_set (by omega) hin hun hcnt
    by_cases him:i<m
    ·have dn':∀ k,m<=k->k<m+c->(listed.setIfInBounds i true).getD k true=true:=fun k h1 h2=>by
      rw[aL (by omega)];exact hdn k h1 h2
     have tl':∀ k,m+c<=k->k<ops.length->(listed.setIfInBounds i true).getD k true=false:=fun k h1 h2=>by
      rw[aL (by omega)];exact htl k h1 h2
     have go:∀ G' ρ' w' a',rT C G' ρ' ops m S Sn sd T c (listed.setIfInBounds i true) w' a'->wpAny X.P .any ops.toArray Q (u+(ops.length - n)) (listed.setIfInBounds i true) a' w':=
      fun G' ρ' w' a' hM'=>ih c (listed.setIfInBounds i true) a' w' G' ρ' hc (by simpa using hsz) cl' dn' tl' cnt' hM'
     by_cases ec:c=0
     ·unfold rT at hM
      rw[af9 ec] at hM
      refine K.wpOp him hoi hsz hcl hun hed' hM (fun G' ρ' w' a' hM'=>go G' ρ' w' a' ?_)
      unfold rT
      rw[af9 ec]
      exact hM'
     ·unfold rT at hM
      rw[af8 ec] at hM
      have hom:ops[m]? =some ops[m]:=ael (by omega)
      have hlm:=hdn m (afq m) (by omega)
      have hnd:i∉(deps ops).getD m m0:=fun hmem=>by
       have:=cJ K.edges hcl m _ hom (fun e h1 h2=>hcl m _ hom hlm e h1 h2) i hmem
       rw[hun] at this;cases this
      obtain⟨x,hx⟩:∃ x,outs[i]? =some x:=⟨outs[i]'(by rw[K.len];exact him),ael _⟩
      have hst:=K.step i o x him hoi hx
      obtain⟨hds,_⟩:=K.head i o him hoi
      obtain⟨d,hd⟩:=afM.1 hds
      have hdA:bS ops i=some d:=by unfold bS;rw[hoi];exact hd
      have hTlen:=Z.len K c hc
      have hlook:∀ t,t∈o.looksAt ops.toArray->(aD S (T c) (az ops m listed)).tmps.getD t (.v false [.any])=(aD S Sn (az ops m listed)).tmps.getD t (.v false [.any]):=fun t ht=>by
       have hno:∀ j,m<=j->j<m+c->bS ops j≠some t:=fun j h1 h2 h3=>by
        rcases Z.looks i o hin hoi t ht j (by omega) h3 with h4 | h4
        ·have:=Jy K.edges i o hoi j h4
         omega
        ·have hoj:ops[j]? =some (ops[j]'(by omega)):=ael (by omega)
         have:=cJ K.edges hcl j _ hoj (fun e k1 k2=>hcl j _ hoj (hdn j h1 h2) e k1 k2) i h4
         rw[hun] at this;cases this
       have ho:=Z.other c hc t hno
       rw[aee,aee,dV,dV,Ek ho]
      have hev:=K.evs him hoi hdeps
      have hgev:∀ j want o' d,o.guard=some (j,want)->ops[j]? =some o'->o'.dst=some d->((T c).wtB (aD S (T c) (az ops m listed)).tmps (eW ops m sd listed)).ev (.tmp d)=(states ((ops.take m).take i) S (outs.take i)).ev (.tmp d):=fun j want o' d hg ho' hd'=>by
       have hl:d∈o.looksAt ops.toArray:=by
        simp only[Oper.looksAt,hg,aeN]
        right
        simp[ho',hd']
       have h1:=hlook d hl
       have h2:=K.looks him hoi hdeps d hl
       exact Eq.trans h1 h2
      have hgd:guardOf ops o ((T c).wtB (aD S (T c) (az ops m listed)).tmps (eW ops m sd listed))=guardOf ops o (states ((ops.take m).take i) S (outs.take i)):=by
       unfold guardOf
       cases hg:o.guard with
       | none=>rfl
       | some p=>
        obtain⟨j,want⟩:=p
        simp only
        cases ho':ops[j]? with
        | none=>rfl
        | some o'=>
         simp only
         cases hd':o'.dst with
         | none=>rfl
         | some d'=>
          simp only
          rw[hgev j want o' d' hg ho' hd']
      have hsk:lD ops o ((T c).wtB (aD S (T c) (az ops m listed)).tmps (eW ops m sd listed))=lD ops o (states ((ops.take m).take i) S (outs.take i)):=by
       unfold lD
       cases hg:o.guard with
       | none=>rfl
       | some p=>
        obtain⟨j,want⟩:=p
        simp only
        cases ho':ops[j]? with
        | none=>rfl
        | some o'=>
         simp only
         cases hd':o'.dst with
         | none=>rfl
         | some d'=>
          simp only
          rw[hgev j want o' d' hg ho' hd']
      have hnokey:∀ k cs,look S.boxes k=some cs->az ops m listed k=false:=fun k cs hk=>by
       cases hu:az ops m listed k with
       | false=>rfl
       | true=>
        obtain⟨j,h1,_,h3⟩:=cU.1 hu
        rw[(K.new j k h1 h3).2.1] at hk;cases hk
      have hlv':∀ t,eW ops m sd (listed.setIfInBounds i true) t=(eW ops m sd listed t&&t != d):=fun t=>by
       unfold eW
       rw[K.xe him hdA hsz hun t]
       cases az ops m listed t<;>cases inU sd t<;>cases (t != d)<;>rfl
      have fin:∀ (s:SV) (B:St) G' ρ' w' a',(∀ hlt:d<S.tmps.length,Sn.tmps[d]? =some s)->B.tmps=(aD S (T c) (az ops m listed)).tmps.set d s->(∀ k cs,look ((T c).boxes.filter fun p=> !eW ops m sd (listed.setIfInBounds i true) p.1) k=some cs->look B.boxes k=some cs)->B.rows=(T c).rows->B.objs=(T c).objs->
       Mod C G' ρ' B w' a'->wpAny X.P .any ops.toArray Q (u+(ops.length - n)) (listed.setIfInBounds i true) a' w':=fun s B G' ρ' w' a' hsn hB1 hB2 hB3 hB4 hM'=>by
       refine go G' ρ' w' a' ?_
       unfold rT
       rw[af8 ec]
       have htm:(aD S (T c) (az ops m (listed.setIfInBounds i true))).tmps=(aD S (T c) (az ops m listed)).tmps.set d s:=by
        have hU:=K.xe him hdA hsz hun
        have ho:=Z.other c hc d (fun j h1 h2 h3=>by have:=Z.uniq i j d hin (by omega) hdA h3;omega)
        apply ad9
        intro t
        rw[aeq,dV,dV,hU t]
        by_cases e:d=t
        ·subst e
         have hlen:(aD S (T c) (az ops m listed)).tmps.length=S.tmps.length:=by simp[aD]
         rw[hlen]
         by_cases hlt:d<S.tmps.length
         ·simp only[hlt,aga,afV,adk,ado,af7]
          rw[Ek ho,aee,hsn hlt];rfl
         ·simp[hlt]
        ·rw[af8 e]
         have:(t != d)=true:=by simp only[bne_iff_ne,ne_eq];exact fun h=>e h.symm
         rw[this,adm]
       refine hM'.equiv ?_ hB2 (fun k q hk=>by rw[hB3];exact hk) (fun k q hk=>by rw[hB4];exact hk)
       show B.tmps=(aD S (T c) (az ops m (listed.setIfInBounds i true))).tmps
       rw[htm];exact hB1
      have hat:=rH (S:=S) (outs:=outs) (by rw[K.len,aeH,afA K.n_le]) K.dupl (i:=i) (o:=o) (x:=x) (by rw[cE him];exact hoi) hx hd
      rw[<- K.sn] at hat
      unfold Go.wpOp
      rw[hio]
      simp only
      cases x with
      | none=>
       have hw:Region.wanted o (yielded ops.toArray a.tmps)=false:=by
        rcases hst with ⟨dg,b,want,hg,hb⟩ | hs
        ·have hw:=gS hM.tmps (by rw[hgd];exact hg)
         simp only at hw
         rw[hw.2,hb]
        ·exact F7 hM.tmps (by rw[hsk];exact hs)
       rw[af8 (by rw[hw];simp)]
       have:=hM.put o.dst (s:=nA) (fun _ _=>Oa)
       rw[hd] at this ⊢
       refine fin nA (((T c).wtB (aD S (T c) (az ops m listed)).tmps (eW ops m sd listed)).put (some d) nA) G ρ w _ (fun hlt=>hat.1 hlt) rfl (fun k cs hk=> ?_) rfl rfl this
       rw[aN] at hk
       show look ((T c).boxes.filter fun p=> !eW ops m sd listed p.1) k=some cs
       rw[aN]
       split at hk
       ·cases hk
       ·rename_i hv
        rw[hlv'] at hv
        by_cases ek:k=d
        ·subst ek
         cases hI:inU sd k with
         | false=>rw[af8 (by unfold eW;rw[hI];simp)];exact hk
         | true=>
          rw[Z.ZY hI c hc,hat.2.1,(K.new i k him hdA).2.1] at hk
          cases hk
        ·rw[af8 (fun h=>hv (by rw[h];simp[ek]))];exact hk
      | some y=>
       obtain⟨_,hg⟩:=hst
       obtain⟨hL,hp⟩:=Z.late i o him hoi hnd y hx
       have hwt:Region.wanted o (yielded ops.toArray a.tmps)=true:=by
        rcases hg with hg | ⟨dg,b,want,hg,hb⟩
        ·exact gS hM.tmps (g:=none) (by rw[hgd];exact hg)
        ·have hw:=gS hM.tmps (by rw[hgd];exact hg)
         simp only at hw
         rw[hw.2,hb]
       rw[af9 hwt]
       left
       have hndj:∀ j,m<=j->j<m+c->i∉(deps ops).getD j m0:=fun j h1 h2 hmem=>by
        have hoj:ops[j]? =some (ops[j]'(by omega)):=ael (by omega)
        have:=cJ K.edges hcl j _ hoj (fun e k1 k2=>hcl j _ hoj (hdn j h1 h2) e k1 k2) i hmem
        rw[hun] at this;cases this
       obtain⟨r1,r2,r3⟩:=Z.near K him c hc hndj
       have hnear:ER o (states ((ops.take m).take i) S (outs.take i)) (dA (tf i) S) ((T c).wtB (aD S (T c) (az ops m listed)).tmps (eW ops m sd listed)):=
        ⟨fun z hz=>by
          rw[<- hev z hz]
          cases z with
          | tmp t=>exact hlook t (by
           simp only[Oper.looksAt,aeN,aeR]
           exact .inl ⟨.tmp t,by simpa using hz,rfl⟩)
          | const v=>rfl
          | global g=>rfl
          | func f=>rfl,fun k cs hk=>by
           obtain⟨h1,h2⟩:=r1 k cs hk
           show look ((T c).boxes.filter fun p=> !eW ops m sd listed p.1) k=some cs
           rw[aN,af8 (by unfold eW;rw[hnokey k cs h2];simp)]
           exact h1,r2,r3⟩
       have hp':y.row=none/\y.obj=none/\(y.box.isSome=true->Fq o.op=true):=by
        unfold wB at hp
        cases hal:Fq o.op with
        | true=>
         simp only[hal,adl,afX,adj,afL] at hp
         exact⟨hp.1,hp.2,fun _=>rfl⟩
        | false=>
         simp only[hal,adk,afW] at hp
         obtain⟨p1,p2,p3⟩:=zG hp
         exact⟨p2,p3,fun h=>by rw[p1] at h;cases h⟩
       obtain⟨p2,p3,p1⟩:=hp'
       have hquiet:Fq o.op=true->((T c).wtB (aD S (T c) (az ops m listed)).tmps (eW ops m sd listed)).bV d=false/\inU sd d=true:=fun hal=>by
        obtain⟨q,hq1,hq2,hq3⟩:=Z.sds i o d him hoi hal hnd hd
        have hs:=Z.say c hc
        simp only[CU,adQ,adj,adt,adx] at hs
        obtain⟨hs1,hs2⟩:=hs q hq1
        rw[hq2] at hs1 hs2
        refine⟨?_, ?_⟩
        ·simp only[St.bV,adw,adR]
         refine⟨fun s hs'=> ?_,fun p hp2=> ?_⟩
         ·simp only[St.wtB,aD,aeT,aeX] at hs'
          obtain⟨t,ht,rfl⟩:=hs'
          split
          ·have hmem:S.tmps.getD t (.v false [.any])∈S.tmps:=by
            rw[aee,ael ht];exact aew ht
           have:=(wo (K.new i d him hdA).1).1
           simp only[St.bV,adw,adR] at this
           exact this.1 _ hmem
          ·rename_i hu
           rcases hs2 t (by rw[aeX,hTlen];exact ht) with h1 | h1
           ·obtain⟨j,hj1,hj2,hj3⟩:=hq3 t h1
            exfalso
            apply hu
            refine cU.2 ⟨j,hj1, ?_,hj2⟩
            rcases hj3 with rfl | hj3
            ·exact hun
            ·cases hl:listed.getD j true with
             | false=>rfl
             | true=>
              have hoj:ops[j]? =some (ops[j]'(by omega)):=ael (by omega)
              have:=cJ K.edges hcl j _ hoj (fun e k1 k2=>hcl j _ hoj hl e k1 k2) i hj3
              rw[hun] at this;cases this
           ·rw[h1];simp
         ·have:=hs1 p (aeQ.1 hp2).1
          rw[this];simp
        ·simp only[inU,adS]
         exact⟨q,hq1,by rw[hq2];exact afk d⟩
       have hwp:=hL C G ρ _ w a Q hM hnear (fun d' hd' h=>by rw[hd] at hd';cases hd';exact (hquiet (p1 h)).1) (fun d' _ h=>by rw[p2] at h;cases h) (fun d' _ h=>by rw[p3] at h;cases h)
       refine Oper.wp_mono (fun a' w' h=> ?_) hwp
       obtain⟨G',ρ',hM'⟩:=h
       rw[hd] at hM'
       refine fin y.sv _ G' ρ' w' a' (fun hlt=>hat.1 hlt) rfl (fun k cs hk=> ?_) (by simp only[St.app,p2];rfl) (by simp only[St.app,p3];rfl) hM'
       have hbase:k≠d\/inU sd d=false->look ((T c).boxes.filter fun p=> !eW ops m sd listed p.1) k=some cs:=fun hor=>by
        rw[aN] at hk
        rw[aN]
        split at hk
        ·cases hk
        ·rename_i hv
         rw[hlv'] at hv
         by_cases ek:k=d
         ·subst ek
          have hI:=hor.resolve_left (fun h=>h rfl)
          rw[af8 (by unfold eW;rw[hI];simp)];exact hk
         ·rw[af8 (fun h=>hv (by rw[h];simp[ek]))];exact hk
       have hdk:inU sd d=true->look ((T c).boxes.filter fun p=> !eW ops m sd (listed.setIfInBounds i true) p.1) d=y.box:=fun hI=>by
        rw[aN,af8 (by rw[hlv'];simp),Z.ZY hI c hc,hat.2.1,(K.new i d him hdA).2.1]
        show y.box.or none=y.box
        cases y.box<;>rfl
       cases hyb:y.box with
       | none=>
        simp only[St.app,hyb]
        refine hbase ?_
        by_cases ek:k=d
        ·subst ek
         right
         cases hI:inU sd k with
         | false=>rfl
         | true=>rw[hdk hI,hyb] at hk;cases hk
        ·exact .inl ek
       | some cs'=>
        simp only[St.app,hyb,aq]
        by_cases ek:d=k
        ·subst ek
         rw[hdk (hquiet (p1 (by rw[hyb];rfl))).2,hyb] at hk
         rw[af9 rfl]
         exact hk
        ·rw[af8 ek]
         exact hbase (.inl (Ne.symm ek))
    ·-- the next of the stores' row
     have ei:i=m+c:=by
      by_cases h1:i<m+c
      ·have:=hdn i (by omega) h1
       rw[hun] at this;cases this
      ·by_cases h2:m+c<i
       ·rcases Z.wait i (m+c) (by omega) h2 hin with h3 | h3
        ·have h3:=hdeps (m+c) h3
         have:=htl (m+c) (afq _) (by omega)
         rw[h3] at this;cases this
        ·exact absurd ⟨by omega,h3⟩ hE
       ·omega
     subst ei
     have hdm:∀ j,j∈(deps ops).getD m m0->listed.getD j true=true:=fun j hj=>by
      by_cases ec:c=0
      ·subst ec;exact hdeps j hj
      ·have hom:ops[m]? =some ops[m]:=ael (by omega)
       have hlm:=hdn m (afq m) (by omega)
       exact cJ K.edges hcl m _ hom (fun e h1 h2=>hcl m _ hom hlm e h1 h2) j hj
     have hM2:=Z.started K hdm hM
     have hstep:=Z.step c o hin hoi
     have hTlen:=Z.len K c hc
     have hTlen':=Z.len K (c+1) (by omega)
     have hog:=Z.guard (m+c) o (by omega) hin hoi
     have hev:=Z.evs K hin hoi hdeps
     unfold Go.wpOp
     rw[hio]
     simp only
     have hwt:Region.wanted o (yielded ops.toArray a.tmps)=true:=gS (g:=none) hM2.tmps (by simp[guardOf,hog])
     rw[af9 hwt]
     left
     have hfr:=Z.acH K (listed:=listed) hc
     have hwp:=hstep.sound _ _ hev hfr abc C G ρ w a Q hM2
     refine Oper.wp_mono (fun a' w' h=> ?_) hwp
     obtain⟨G',ρ',hM'⟩:=h
     refine ih (c+1) (listed.setIfInBounds (m+c) true) a' w' G' ρ' (by omega) (by simpa using hsz) cl' (fun k h1 h2=> ?_) (fun k h1 h2=> ?_) cnt' ?_
     ·by_cases e:k=m+c
      ·subst e;exact bM (by omega)
      ·rw[aL e];exact hdn k h1 (by omega)
     ·rw[aL (by omega)];exact htl k (by omega) h2
     ·unfold rT
      rw[af8 (by omega)]
      obtain⟨htm,hlv⟩:=Z.next K (listed:=listed) hin hoi
      rw[htm,hlv]
      exact hM'
   ·exfalso
    obtain⟨j,h1,h2⟩:=hsome
    have hd:=hwaits i (by omega) hlt j (by omega)
    have:=hdeps j hd
    rw[h2] at this;cases this
end
theorem N9 (X:Cx) (ops:List Oper) (S:St) (o:Oper) (l:List Oper):vq (cP X ops S [o]) (cP X ops S (o::l))/\vq (cP X ops S l) (cP X ops S (o::l)):=by
 simp only[cP]
 cases adX X o.op with
 | some a=>
  dsimp only
  cases Mm ops 9 a with
  | true=>exact⟨⟨nofun,fun k _=>by simp[iT,inL]⟩,⟨nofun,fun k h=>h⟩⟩
  | false=>
   simp only[afW]
   cases DL ops S 9 a with
   | none=>exact⟨⟨nofun,fun k h=>by simp[iT] at h⟩,⟨nofun,fun k h=>by simp[iT] at h⟩⟩
   | some b=>
    refine⟨⟨fun _=>rfl,fun k h=> ?_⟩,⟨fun h=>h,fun k h=> ?_⟩⟩
    ·cases hb:(cP X ops S l).bs with
     | none=>simp[iT,hb] at h
     | some q=>simp only[iT,hb,inL,List.any_cons,Bool.not_or,adj,List.any_nil,adu,afR] at h ⊢;exact h.1
    ·cases hb:(cP X ops S l).bs with
     | none=>simp[iT,hb] at h
     | some q=>simp only[iT,hb,inL,List.any_cons,Bool.not_or,adj] at h ⊢;exact h.2
 | none=>
  dsimp only
  cases isApp X o.op with
  | true=>exact⟨⟨nofun,fun k _=>by simp[iT,inL]⟩,⟨nofun,fun k h=>h⟩⟩
  | false=>exact⟨⟨fun _=>rfl,fun k _=>by simp[iT,inL]⟩,⟨fun h=>h,fun k h=>h⟩⟩
theorem vq.trans {a b c:Touch} (h:vq a b) (g:vq b c):vq a c:=⟨fun e=>h.1 (g.1 e),fun k hk=>h.2 k (g.2 k hk)⟩
theorem Jl (X:Cx) (ops:List Oper) (S:St) (o:Oper):∀ l:List Oper,o∈l->vq (cP X ops S [o]) (cP X ops S l)
 | [],h=>by cases h
 | p::l,h=>by
  rcases aeO.1 h with rfl | h
  ·exact (N9 X ops S o l).1
  ·exact (Jl X ops S o l h).trans (N9 X ops S p l).2
theorem I7 (hX:cA X) {ops:List Oper} {S:St} {k:St->Option β} {r:β} {m n:Nat} (hchk:xN ops m n=true) (h:FY X ops S k m n=some r) {Q:Exit->Act->World->Prop} (hn:∀ e a w,Q e a w->e= .normal) (hQ:∀ S' G ρ w a,k S'=some r->Mod C G ρ S' w a->Q .normal a w) {a:Act} (hM:Mod C G ρ S w a): Go.wpAny X.P .any ops.toArray Q ops.toArray.size (Array.replicate ops.toArray.size false) a { w with drawn:=w.drawn+1 }:=by
 unfold FY at h
 simp only at h
 cases hfu:WJ (cP X ops S ((ops.take n).drop m)) (No ops m) with
 | false=>rw[hfu] at h;cases h
 | true=>
 rw[hfu,afX] at h
 obtain⟨outs,h1,h2,h3⟩:=yj hX h
 split at h2
 ·rename_i hnew
  simp only[xN,adj] at hchk
  obtain⟨c0,c1,c2,c3,c4,c5,c6⟩:=hchk
  have hmn:m<n:=aft (afx _) (afo c0)
  have hnl:n<=ops.length:=afo c1
  have K:=ck.of (X:=X) (afp (aft hmn hnl)) c2 c4 h1 (fun i o x hi hx=>(h3 i o x hi hx).1) hnew
  obtain⟨T,sv,t0,h4,hsay,h5⟩:=Ez hX h2
  simp only[VZ,adj,adt,adQ] at c6
  obtain⟨cdup,call⟩:=c6
  have hget:∀ i o,i<n->ops[i]? =some o->(∀ t,t∈o.looksAt ops.toArray->∀ j,j<n->bS ops j=some t->j∈(deps ops).getD i m0\/i∈(deps ops).getD j m0)/\(m<=i->o.guard=none)/\(m<=i->∀ j,m<=j->j<i->j∈(deps ops).getD i m0\/Ef ops (deps ops) m j=true):=fun i o hin hi=>by
   have h6:=call i (by simpa using hin)
   rw[hi] at h6
   simp only[adj,adQ,adx,afL] at h6
   obtain⟨g1,g2,g3⟩:=h6
   refine⟨fun t ht j hj hdj=> ?_,fun hmi=> ?_,fun hmi j hmj hji=> ?_⟩
   ·have h7:=KD (g1 t ht) (k:=j) (by
     obtain⟨o',ho',hd'⟩:=iw hdj
     rw[aeo,cE hj,ho',afP,hd'])
    rw[afH] at h7;exact h7
   ·rcases g2 with g2 | g2
    ·have:i<m:=aft (afx _) (afo g2)
     omega
    ·exact g2
   ·rcases g3 with g3 | g3
    ·have:i<m:=aft (afx _) (afo g3)
     omega
    ·rcases g3 j (by simpa using hji) with g4 | g4
     ·have:j<m:=aft (afx _) (afo g4)
      omega
     ·rcases g4 with g4 | g4
      ·exact .inl (gD.1 g4)
      ·exact .inr g4
  have hgd:∀ i o,m<=i->i<n->ops[i]? =some o->o.guard=none:=fun i o hmi hin hi=>(hget i o hin hi).2.1 hmi
  have hlen:((ops.take n).drop m).length=n - m:=by simp;omega
  have Z:jI X ops m n S outs (states (ops.take m) S outs) (No ops m) (!RG (deps ops) m n) (fun i=>cP X ops S (S6 ops m n i)) (fun o=>cP X ops S [o]) T sv:={
   lt:=hmn
   le:=hnl
   t0:=t0
   step:=fun c o hc hi=>h5 c o (by rw[aek,cE hc];exact hi)
   cover:=fun i c o him hc hi hnd=>Jl X ops S o _ (by
    simp only[S6,aeR,aeX]
    refine⟨m+c,hc, ?_⟩
    have h1:Nat.ble m (m+c)=true:=Nat.ble_eq_true_of_le (by omega)
    have h2:inM ((deps ops).getD (m+c) m0) i=false:=by
     cases h3:inM ((deps ops).getD (m+c) m0) i with
     | false=>rfl
     | true=>exact absurd (gD.1 h3) hnd
    rw[h1,h2]
    exact hi)
   late:=fun i o him hi hnd y hy=>by
    have h6:=(h3 i o (some y) (by rw[cE him];exact hi) hy).2 (by
     rw[afH]
     cases hm:inM ((deps ops).getD m m0) i with
     | false=>rfl
     | true=>exact absurd (gD.1 hm) hnd) y rfl
    rw[afH] at h6
    exact h6
   guard:=hgd
   wait:=fun i j hmj hji hin=>by
    cases ht:RG (deps ops) m n with
    | true=>
     simp only[RG,adQ] at ht
     have h6:=ht i (by simpa using hin)
     simp only[adx,adQ] at h6
     rcases h6 with h6 | h6
     ·have:i<m:=aft (afx _) (afo h6)
      omega
     ·rcases h6 j (by simpa using hji) with h7 | h7
      ·have:j<m:=aft (afx _) (afo h7)
       omega
      ·exact .inl (gD.1 h7)
    | false=>exact ((hget i _ hin (ael (show i<ops.length by omega))).2.2 (by omega) j hmj hji).imp id fun h=>⟨rfl,h⟩
   looks:=fun i o hin hi=>(hget i o hin hi).1
   uniq:=fun i j d hin hjn hdi hdj=>by
    obtain⟨oi,e1,e2⟩:=iw hdi
    obtain⟨oj,e3,e4⟩:=iw hdj
    rcases afz i j with h | h | h
    ·have:=(jw (l:=ops.take n) cdup (i:=j) (o:=oj) (d:=d) (by rw[cE hjn];exact e3) e4).2
     exact absurd (uB (ops:=ops.take n) (i:=j) (j:=i) (by rw[cE hin];exact e1) e2 h) this
    ·exact h
    ·have:=(jw (l:=ops.take n) cdup (i:=i) (o:=oi) (d:=d) (by rw[cE hin];exact e1) e2).2
     exact absurd (uB (ops:=ops.take n) (i:=i) (j:=j) (by rw[cE hjn];exact e3) e4 h) this
   sds:=fun i o d him hi hal hnd hd=>⟨(d,(List.range m).filterMap fun j=>bif Nat.beq j i||inM ((deps ops).getD j m0) i then bS ops j else none),by
    simp only[No,aeR,aeX]
    refine⟨i,him, ?_⟩
    have h2:inM ((deps ops).getD m m0) i=false:=by
     cases h3:inM ((deps ops).getD m m0) i with
     | false=>rfl
     | true=>exact absurd (gD.1 h3) hnd
    rw[hi]
    simp only[hal,h2,adu,adl,afX,hd],rfl,fun t ht=>by
    have ht:=Vw.1 ht
    simp only[aeR,aeX] at ht
    obtain⟨j,hj,ht⟩:=ht
    cases hb:(Nat.beq j i||inM ((deps ops).getD j m0) i) with
    | false=>rw[hb] at ht;cases ht
    | true=>
     rw[hb,afX] at ht
     refine⟨j,hj,ht, ?_⟩
     simp only[adx] at hb
     exact hb.imp afm gD.1⟩
   say:=fun c hc=>hsay c (by rw[hlen];omega)
   free:=fun c o hc hi d hd=>by
    simp only[inU,adS] at hd
    obtain⟨q,hq,hqd⟩:=hd
    simp only[WJ,adQ] at hfu
    have h6:=hfu q hq
    rw[afm hqd] at h6
    refine (Jl X ops S o _ ?_).2 d h6
    rw[aeS]
    exact⟨c,by rw[aek,cE hc];exact hi⟩ }
  have hM':=hM.of_heap (w':={ w with drawn:=w.drawn+1 }) rfl rfl rfl
  have hll:((ops.take n).drop m).length=n - m:=by simp;omega
  rw[hll] at h4
  have hsp:=K.spine (C:=C) (Q:=Q) Z (Cl c3) hn c5 (fun G ρ w a hMn=>rq hX ops (ops.drop n) h4 hQ hMn) n 0 (Array.replicate ops.toArray.size false) a { w with drawn:=w.drawn+1 } G ρ (by omega) (by simp) rG
   (fun k h1 h2=>by omega) (fun k _ hk2=>oT hk2 true) (um hnl) (by
     unfold rT
     rw[af9 rfl]
     exact zV (afp (aft hmn hnl)) hM')
  rw[show n+(ops.length - n)=ops.toArray.size by simp;omega] at hsp
  exact hsp
 ·cases h2
theorem B6 (hX:cA X) {ops:List Oper} {S:St} {k:St->Option β} {els:Option β} {r:β} (h:vg X ops S k els=some r) {Q:Exit->Act->World->Prop} (hn:∀ e a w,Q e a w->e= .normal) (hQ:∀ S' G ρ w a,k S'=some r->Mod C G ρ S' w a->Q .normal a w) {a:Act} (hM:Mod C G ρ S w a) (hels:els=some r->Go.wpAny X.P .any ops.toArray Q ops.toArray.size (Array.replicate ops.toArray.size false) a { w with drawn:=w.drawn+1 }): Go.wpAny X.P .any ops.toArray Q ops.toArray.size (Array.replicate ops.toArray.size false) a { w with drawn:=w.drawn+1 }:=by
 unfold vg at h
 simp only at h
 split at h
 ·rename_i hchk
  generalize yp (deps ops) ops.length=n at h hchk
  obtain⟨outs,h1,h2,h3⟩:=uJ hX h
  split at h2
  ·rename_i hnew
   simp only[A8,adj] at hchk
   obtain⟨⟨⟨⟨⟨c1,c2⟩,c3⟩,c4⟩,c5⟩,_⟩:=hchk
   have hnl:n<=ops.length:=afo c1
   have K:=ck.of (X:=X) hnl c2 c4 h1 h3 hnew
   have hM':=hM.of_heap (w':={ w with drawn:=w.drawn+1 }) rfl rfl rfl
   have hany:=K.any (C:=C) (Q:=Q) (Cl c3) c5 (fun G ρ w a hMn=>rq hX ops (ops.drop n) h2 hQ hMn) n (Array.replicate ops.toArray.size false) a { w with drawn:=w.drawn+1 } G ρ (by simp) rG
    (fun m _ hm2=>oT hm2 true) (um hnl) (zV hnl hM')
   rw[show n+(ops.length - n)=ops.toArray.size by simp;omega] at hany
   exact hany
  ·cases h2
 ·split at h
  ·rename_i hchk
   generalize yp (deps ops) ops.length - 1=m at h hchk
   obtain⟨outs,h1,h2,h3⟩:=uJ hX h
   split at h2
   ·rename_i hnew
    simp only[LD,adj] at hchk
    obtain⟨⟨⟨⟨⟨⟨c1,c2⟩,c3⟩,c4⟩,c5⟩,c6⟩,_⟩:=hchk
    have hm:m<ops.length:=afo c1
    have K:=ck.of (X:=X) (afp hm) c2 c4 h1 h3 hnew
    have hos:ops[m]? =some ops[m]:=ael hm
    unfold YK at c6
    rw[hos] at c6
    simp only[adj,afL,adQ] at c6
    obtain⟨⟨⟨⟨g1,g2⟩,g3⟩,g4⟩,g5⟩:=c6
    have hst:∃ t ad x,ops[m].op= .store t ad x:=by
     revert g1
     cases ops[m].op<;>intro g1<;>first | exact⟨_,_,_,rfl⟩ | exact absurd g1 adp
    obtain⟨ty,ad,x,hop⟩:=hst
    rw[ad1 hm] at h2
    have h2':cF X ops[m] (states (ops.take m) S outs) (fun S=>kZ X ops (ops.drop (m+1)) S k)=some r:=by
     simpa [kZ,guardOf,g2] using h2
    obtain⟨S',h4,h5,h6⟩:=NX hop h2'
    have hM':=hM.of_heap (w':={ w with drawn:=w.drawn+1 }) rfl rfl rfl
    have hlate:=K.late (C:=C) (Q:=Q) hm (Cl c3) hos g2 (fun i him=>by
     have:=g4 i (by simpa using him)
     simp only[adx] at this
     rcases this with h | h
     ·exact .inl (gD.1 h)
     ·right
      have hoi:ops[i]? =some ops[i]:=ael (by omega)
      rw[hoi] at h
      simp only[adj,afL] at h
      exact⟨_,hoi,h⟩)
     (fun t ht j hj hdj=>by
       have:=g5 t (by simpa using ht) j (by simpa using hj)
       rw[af9 (by simp[hdj])] at this
       exact gD.1 this)
     (S':=S') ⟨h5,fun tm hev=>by
       have hs:=h6 tm (hev ad (by simp[hop,Op.operands])) (hev x (by simp[hop,Op.operands]))
       obtain⟨S2,e2,hs2⟩:=vh hX hs
       cases e2
       exact hs2⟩ c5
     (fun G ρ w a hMn=>rq hX ops (ops.drop (m+1)) h4 hQ hMn) (m+1) (Array.replicate ops.toArray.size false) a { w with drawn:=w.drawn+1 } G ρ (by simp) rG
     (fun k _ hk2=>oT hk2 true) (um hm) (by
       unfold pO
       rw[af8 (by rw[oT hm];simp)]
       exact zV (afp hm) hM')
    rw[show m+1+(ops.length - (m+1))=ops.toArray.size by simp;omega] at hlate
    exact hlate
   ·cases h2
  ·split at h
   ·rename_i hchk
    generalize yp (deps ops) ops.length - 1=m at h hchk
    obtain⟨outs,h1,h2,h3⟩:=uJ hX h
    split at h2
    ·rename_i hnew
     simp only[LF,adj] at hchk
     obtain⟨⟨⟨⟨⟨⟨c1,c2⟩,c3⟩,c4⟩,c5⟩,c6⟩,_⟩:=hchk
     have hm:m<ops.length:=afo c1
     have K:=ck.of (X:=X) (afp hm) c2 c4 h1 h3 hnew
     have hos:ops[m]? =some ops[m]:=ael hm
     unfold VE at c6
     rw[hos] at c6
     simp only[adj,afL,adQ] at c6
     obtain⟨⟨⟨⟨g1,g2⟩,g3⟩,g4⟩,g5⟩:=c6
     unfold runM at h2
     rw[hos] at h2
     simp only at h2
     split at h2
     ·rename_i ty ad x hop
      split at h2
      ·rename_i b off had
       obtain⟨S',h4,h5,h6,h7,h8⟩:=ZG hop had h2
       cases hfc:(ID ops m).all fun d=> !S'.boxes.any fun p=>p.2.any (CV.aX d) with
       | false=>rw[hfc] at h4;cases h4
       | true=>
        rw[hfc,afX] at h4
        simp only[adQ,adt] at hfc
        have hM':=hM.of_heap (w':={ w with drawn:=w.drawn+1 }) rfl rfl rfl
        have hlate:=K.acK (C:=C) (Q:=Q) hm (Cl c3) hos g2 (fun i him=>by
         have:=g4 i (by simpa using him)
         simp only[adx] at this
         rcases this with h | h
         ·exact .inl (gD.1 h)
         ·right
          have hoi:ops[i]? =some ops[i]:=ael (by omega)
          rw[hoi] at h
          simp only[adj,afL] at h
          exact⟨_,hoi,h⟩)
         (fun t ht j hj hdj=>by
           have:=g5 t (by simpa using ht) j (by simpa using hj)
           rw[af9 (by simp[hdj])] at this
           exact gD.1 this)
         (S':=S') ⟨h5,h6,h7,fun tm rw ob hev=>by
           have hs:=h8 tm rw ob (hev ad (by simp[hop,Op.operands])) (hev x (by simp[hop,Op.operands]))
           obtain⟨S2,e2,hs2⟩:=vh hX hs
           cases e2
           exact hs2⟩
         (fun i d p him hnd hpi hmk hpd=>hfc d (by
           simp only[ID,aeR,aeX]
           refine⟨i,him, ?_⟩
           rw[hpi]
           have h9:inM ((deps ops).getD m m0) i=false:=by
            cases h3:inM ((deps ops).getD m m0) i with
            | false=>rfl
            | true=>exact absurd (gD.1 h3) hnd
           simp only[hmk,h9,adu,adl,aga]
           exact hpd)) c5
         (fun G ρ w a hMn=>rq hX ops (ops.drop (m+1)) h4 hQ hMn) (m+1) (Array.replicate ops.toArray.size false) a { w with drawn:=w.drawn+1 } G ρ (by simp) rG
         (fun k _ hk2=>oT hk2 true) (um hm) (by
           unfold mS
           rw[af8 (by rw[oT hm];simp)]
           exact zV (afp hm) hM')
        rw[show m+1+(ops.length - (m+1))=ops.toArray.size by simp;omega] at hlate
        exact hlate
      ·cases h2
     ·cases h2
    ·cases h2
   ·split at h
    ·rename_i hchk
     exact I7 hX hchk h hn hQ hM
    ·split at h
     ·rename_i hchk
      simp only[adj] at hchk
      exact I7 hX hchk.1 h hn hQ hM
     ·exact hels h
end Go.Dn
namespace Go.Dn
variable {P:Program}
def aaX (P:Program) (G:Gh) (kk vv:Ty) (l:List (kk.den×vv.den)) (key:kk.den) (b:Nat) (es:Array MapEntry) (clock st:Nat):Prop:=
 ∀ (t:TypeId) (w2:World) (val:Value) (y:vv.den),w2.heap[b]? =some (.map es clock)->bT G vv y val->
  ∃ es':Array MapEntry,(Instr.entryStore t (.map (some b)) (goInt st) val).run P w2= .ok () { w2 with heap:=w2.heap.setIfInBounds b (.map es' clock) }/\aG (vU G kk vv) (wF l key y) es'.toList/\
   es'.toList.map (·.born)=es.toList.map (·.born)
variable {X:Cx}
def St.obj (S:St) (j:Nat) (q:oz):St:={ S with objs:=(j,q)::S.objs }
structure abO (X:Cx) (ops:List Oper) (o2 o4 o5 o6 o7:Oper) (t kt et:TypeId) (m x d2 d4 d5 d6 j b:Nat) (kk vv:Ty) (l:List (kk.den×vv.den)) (key:kk.den) (z y:vv.den) (kv:Value) (s4:SV) (S:St):Prop where
 i2:ops.toArray[2]? =some o2
 i4:ops.toArray[4]? =some o4
 i5:ops.toArray[5]? =some o5
 i6:ops.toArray[6]? =some o6
 i7:ops.toArray[7]? =some o7
 g2:o2.guard=none
 g4:o4.guard=none
 g5:o5.guard=none
 g6:o6.guard=none
 g7:o7.guard=none
 p2:o2.op= .lookup t (.tmp m) (.tmp x) false
 p5:o5.op= .mapEntry t (.tmp m) (.tmp x)
 p6:o6.op= .extract (.tmp d5) 1
 p7:∃ t',o7.op= .entryStore t' (.tmp m) (.tmp d6) (.tmp d4)
 e2:o2.dst=some d2
 e4:o4.dst=some d4
 e5:o5.dst=some d5
 e6:o6.dst=some d6
 e7:o7.dst=none
 ne:m≠d2/\m≠d4/\m≠d5/\m≠d6/\x≠d2/\x≠d4/\x≠d5/\x≠d6
 nd:d2≠d4/\d2≠d5/\d2≠d6/\d4≠d5/\d4≠d6/\d5≠d6
 ord:abU ops=true
 ht:X.P.underlying t=some (.map kt et)
 hchk:gm X.P kt kk=true
 hz:EO X.P et vv=some z
 q4:gF X.P o4 (S.put (some d2) (nX vv ((jy l key).getD z))) qN s4
 stp:∀ T,T=S\/T=S.put (some d2) (nX vv ((jy l key).getD z))\/T=(S.put (some d2) (nX vv ((jy l key).getD z))).put (some d4) s4->T.bn j=false
 any:∀ T,T=S\/T=S.put (some d2) (nX vv ((jy l key).getD z))\/T=(S.put (some d2) (nX vv ((jy l key).getD z))).put (some d4) s4->T.tmps.set d5 (.v false [.any])=T.tmps/\T.tmps.set d6 (.v false [.any])=T.tmps
 lt5:d5<S.tmps.length
 lt6:d6<S.tmps.length
 hobj:look S.objs j=some (.map kk vv l)
 pk:iI ((S.put (some d2) (nX vv ((jy l key).getD z))).put (some d4) s4) [] vv (((S.put (some d2) (nX vv ((jy l key).getD z))).put (some d4) s4).ev (.tmp d4))=some y
variable {ops:List Oper} {o2 o4 o5 o6 o7:Oper} {t kt et:TypeId} {m x d2 d4 d5 d6 j b:Nat} {kk vv:Ty} {l:List (kk.den×vv.den)} {key:kk.den} {z y:vv.den} {kv:Value} {s4:SV} {S:St} {C:Fr X.P}
structure ac3 (C:Fr X.P) (G:Gh) (m x j b:Nat) (kk:Ty) (key:kk.den) (kv:Value) (T:St) (a:Act) (w:World):Prop where
 mod:∃ ρ,Mod C G ρ T w a/\ρ.ob j= .map (some b)
 hm:a.eval (.tmp m)= .map (some b)
 hx:a.eval (.tmp x)=kv
 hk:bT G kk key kv
structure Inv1 (C:Fr X.P) (G:Gh) (m x j b:Nat) (kk vv:Ty) (l:List (kk.den×vv.den)) (key:kk.den) (z:vv.den) (kv:Value) (st:Value->Act->Prop) (T:St) (a:Act) (w:World):Prop where
 mod:∃ ρ l1 es clock s,Mod C G ρ (T.obj j (.map kk vv l1)) w a/\ρ.ob j= .map (some b)/\w.heap[b]? =some (.map es clock)/\(jy l1 key).getD z=(jy l key).getD z/\aaX X.P G kk vv l key b es clock s/\st (goInt s) a
 hm:a.eval (.tmp m)= .map (some b)
 hx:a.eval (.tmp x)=kv
 hk:bT G kk key kv
def acR (d6:Nat) (s:Value) (a:Act):Prop:=a.eval (.tmp d6)=s
section
variable {G:Gh} {a:Act} {w:World} {K:Act->World->Prop} {Q:Exit->Act->World->Prop} {T:St}
theorem abO.store (E:abO X ops o2 o4 o5 o6 o7 t kt et m x d2 d4 d5 d6 j b kk vv l key z y kv s4 S) (h:Inv1 C G m x j b kk vv l key z kv (acR d6) ((S.put (some d2) (nX vv ((jy l key).getD z))).put (some d4) s4) a w) (hK:∀ ρ a w,Mod C G ρ (((S.put (some d2) (nX vv ((jy l key).getD z))).put (some d4) s4).obj j (.map kk vv (wF l key y))) w a->K a w):o7.wp X.P a w K Q:=by
 obtain⟨⟨ρ,l1,es1,clock1,s,hM,hb,hw,g2,g5,hs⟩,hm,hx,hk⟩:=h
 obtain⟨t',p7⟩:=E.p7
 obtain⟨b',es,clock,h2,h3,h4,h5,h6,h7⟩:=hM.objs j (.map kk vv l1) (by simp[St.obj,aq])
 rw[hb] at h2
 cases h2
 rw[hw] at h4
 cases h4
 have hy:bT G vv y (a.eval (.tmp d4)):=kI (ρ:=ρ) (S:=(S.put (some d2) (nX vv ((jy l key).getD z))).put (some d4) s4) hM.toMem.frozen (kQ.nil _ _ _) E.pk (hM.tmps.ev (.tmp d4))
 obtain⟨es',hrun,f1,f2⟩:=g5 t' w _ y hw hy
 have hbn:∀ (i:Nat) (e:MapEntry),es'.toList[i]? =some e->∃ e1,es1.toList[i]? =some e1/\e1.born=e.born:=fun i e hi=>by
  have h1:=congrArg (fun l=>l[i]?) f2
  simp only[aeo,hi,afP] at h1
  cases he:es1.toList[i]? with
  | none=>rw[he] at h1;cases h1
  | some e1=>rw[he] at h1;simp only[afP,Option.some.injEq] at h1;exact⟨e1,rfl,h1.symm⟩
 have hM2:=hM.setObj (j:=j) (b:=b) (q:= .map kk vv (wF l key y)) (st:=ρ.st j) (.inr rfl) h3 (fun t l _ e=>by cases e) (w':={ w with heap:=w.heap.setIfInBounds b (.map es' clock1) }) Grow.setObj
  ⟨b,es',clock1,hb,h3,by rw[ade (aB hw)],f1,fun i e hi=>by
    obtain⟨e1,k1,k2⟩:=hbn i e hi
    obtain⟨k3,k4⟩:=h6 i e1 k1
    refine⟨?_,by omega⟩
    simp only[aga]
    rw[<- k2];exact k3,by
    have:(es'.toList.map (·.born)).Pairwise (fun a b=>a<b):=by
     rw[f2,List.pairwise_map];exact h7
    rwa [List.pairwise_map] at this⟩
 unfold Oper.wp
 simp only[execOp,p7,hm,show a.eval (.tmp d6)=goInt s from hs,Sem.run_bind,hrun,Result.andThen_ok,Sem.run_pure]
 simp only[Oper.upon,E.e7,Act.put]
 refine hK _ _ _ ({ hM2.toMem.sub (M:=((S.put (some d2) (nX vv ((jy l key).getD z))).put (some d4) s4).obj j (.map kk vv (wF l key y))) (fun _ _ h=>h) (fun _ _ h=>h) (fun i q hi=> ?_) with tmps:=hM2.tmps,defers:=hM2.defers })
 simp only[St.obj,aq] at hi ⊢
 split at hi
 ·rename_i e;rw[af9 e];exact hi
 ·rename_i e;rw[af8 e,af8 e];exact hi
end
section
variable {G:Gh} {Q:Exit->Act->World->Prop}
end
variable {G:Gh} {ρ:Env} {w:World} {β:Type}
end Go.Dn
namespace Go.Dn
structure Wb (ops ops':Array Oper) (σ τ:Nat->Nat):Prop where
 size:ops'.size=ops.size
 lt:∀ i,i<ops.size->σ i<ops.size/\τ (σ i)=i
 lt':∀ j,j<ops.size->τ j<ops.size/\σ (τ j)=j
 op:∀ (i:Nat) (o:Oper),ops[i]? =some o->ops'[σ i]? =some (JV σ o)
 guard:∀ (i:Nat) (o:Oper),ops[i]? =some o->o.guard=none
 edge:∀ (i:Nat) (o:Oper),ops[i]? =some o->∀ e:Edge,e∈o.after->e.on<ops.size
theorem Wb.wpAny {P:Program} {ops ops':Array Oper} {σ τ:Nat->Nat} (H:Wb ops ops' σ τ) {Q:Exit->Act->World->Prop}:∀ (u:Nat) (listed listed':Array Bool) (a:Act) (w:World),listed.size=ops.size->listed'.size=ops.size-> (∀ i b,i<ops.size->listed'.getD (σ i) b=listed.getD i b)->Go.wpAny P .any ops' Q u listed' a w->Go.wpAny P .any ops Q u listed a w:=by
 have rd:∀ (listed listed':Array Bool),(∀ i b,i<ops.size->listed'.getD (σ i) b=listed.getD i b)->∀ i,i<ops.size->(σ i∈Region.ready .any ops' listed'↔i∈Region.ready .any ops listed):=by
  intro listed listed' hl i hi
  have hoi:ops[i]? =some ops[i]:=ac6 hi
  have hop:=H.op i _ hoi
  rw[mem_ready,mem_ready,hl i true hi]
  constructor
  ·rintro⟨h1,o',ho',h2⟩
   refine⟨h1,ops[i],hoi,fun e he hb=> ?_⟩
   rw[hop] at ho'
   cases ho'
   have:=h2 { e with on:=σ e.on } (by simp only[JV,Array.mem_map];exact⟨e,he,rfl⟩) hb
   rw[<- hl e.on false (H.edge i _ hoi e he)]
   exact this
  ·rintro⟨h1,o,ho,h2⟩
   refine⟨h1,_,hop,fun e' he' hb=> ?_⟩
   simp only[JV,Array.mem_map] at he'
   obtain⟨e,he,rfl⟩:=he'
   rw[hoi] at ho
   cases ho
   have:=h2 e he hb
   show listed'.getD (σ e.on) false=true
   rw[hl e.on false (H.edge i _ hoi e he)]
   exact this
 have rlt:∀ (ops:Array Oper) (listed:Array Bool) i,i∈Region.ready .any ops listed->i<ops.size:=by
  intro ops listed i hi
  rw[mem_ready] at hi
  obtain⟨_,o,ho,_⟩:=hi
  exact (ac8.1 ho).1
 have emp:∀ (listed listed':Array Bool),(∀ i b,i<ops.size->listed'.getD (σ i) b=listed.getD i b)->(Region.ready .any ops' listed'=[]↔Region.ready .any ops listed=[]):=by
  intro listed listed' hl
  constructor
  ·intro h
   rw[ad7] at h ⊢
   intro i hi
   exact h (σ i) ((rd listed listed' hl i (rlt _ _ i hi)).2 hi)
  ·intro h
   rw[ad7] at h ⊢
   intro j hj
   have hjl:j<ops.size:=by rw[<- H.size];exact rlt _ _ j hj
   obtain⟨t1,t2⟩:=H.lt' j hjl
   exact h (τ j) ((rd listed listed' hl (τ j) t1).1 (by rw[t2];exact hj))
 intro u
 induction u with
 | zero=>
  intro listed listed' a w s1 s2 hl h
  exact⟨(emp listed listed' hl).1 h.1,h.2⟩
 | succ u ih=>
  intro listed listed' a w s1 s2 hl h
  refine⟨fun hr=>h.1 ((emp listed listed' hl).2 hr),fun i hi=> ?_⟩
  have hil:=rlt _ _ i hi
  have hoi:ops[i]? =some ops[i]:=ac6 hil
  have hop:=H.op i _ hoi
  have hg:=H.guard i _ hoi
  have h1:=h.2 (σ i) ((rd listed listed' hl i hil).2 hi)
  have next:∀ a w,Go.wpAny P .any ops' Q u (listed'.setIfInBounds (σ i) true) a w->Go.wpAny P .any ops Q u (listed.setIfInBounds i true) a w:=by
   intro a w h
   refine ih _ _ a w (by simpa using s1) (by simpa using s2) (fun j b hj=> ?_) h
   by_cases e:j=i
   ·subst e
    rw[bM (by rw[s2];exact (H.lt j hj).1),bM (by omega)]
   ·have hne:σ j≠σ i:=fun e2=>e (by have:=congrArg τ e2;rw[(H.lt j hj).2,(H.lt i hil).2] at this;exact this)
    rw[aL hne,aL e]
    exact hl j b hj
  unfold Go.wpOp at h1 ⊢
  rw[hop] at h1
  rw[hoi]
  simp only at h1 ⊢
  have w1:∀ y,Region.wanted ops[i] y=true:=fun y=>by simp[Region.wanted,hg]
  have w2:∀ y,Region.wanted (JV σ ops[i]) y=true:=fun y=>by simp[Region.wanted,JV,hg]
  rw[af9 (w2 _)] at h1
  rw[af9 (w1 _)]
  rcases h1 with h1 | h1
  ·left
   exact Oper.wp_mono (fun a' w' h'=>next a' w' h') h1
  ·exact .inr h1
theorem Tu {ops:List Oper} {p:List Nat} (h:Bg ops p=true):Wb ops.toArray (vJ ops p).toArray (posOf p) (fun j=>p.getD j ops.length):=by
 simp only[Bg,adj,adQ,aeX,afL] at h
 obtain⟨h1,h2,h3,h4⟩:=h
 have h1':=afm h1
 have lt:∀ {a b:Nat},Nat.blt a b=true->a<b:=fun h=>afo h
 have hlen:(vJ ops p).length=ops.length:=by
  unfold vJ
  split
  ·rfl
  ·rw[aeB,h1']
 refine⟨by simpa using hlen,fun i hi=> ?_,fun j hj=> ?_,fun i o hi=> ?_,fun i o hi=> ?_,fun i o hi e he=> ?_⟩
 ·have hi':i<ops.length:=by simpa using hi
  exact⟨by simpa using lt (h2 i hi').1,afm (h2 i hi').2⟩
 ·have hj':j<ops.length:=by simpa using hj
  exact⟨by simpa using lt (h3 j hj').1,afm (h3 j hj').2⟩
 ·have hi1:ops[i]? =some o:=by simpa using hi
  have hi':i<ops.length:=(aen.1 hi1).1
  have e1:=afm (h2 i hi').2
  have e2:=lt (h2 i hi').1
  have e3:p[posOf p i]? =some i:=by
   have hlt:posOf p i<p.length:=by omega
   rw[aee,ael hlt] at e1
   rw[ael hlt]
   exact congrArg some e1
  rw[aev]
  unfold vJ
  split
  ·rename_i hn;simp at hi1
  ·rename_i o0 r
   rw[aeo,e3,afP,aee,hi1]
   rfl
 ·have hi1:ops[i]? =some o:=by simpa using hi
  exact (h4 o (aeU hi1)).1
 ·have hi1:ops[i]? =some o:=by simpa using hi
  simpa using lt ((h4 o (aeU hi1)).2 e (by simpa using he))
theorem ac1 {P:Program} {o:Oper} {a:Act} {w:World} {K:Act->World->Prop} {Q Q':Exit->Act->World->Prop} (h:∀ e a w,Q' e a w->Q e a w) (hh:o.wp P a w K Q'):o.wp P a w K Q:=by
 unfold Oper.wp at*
 generalize (execOp a.eval o).run P w=r at*
 cases r with
 | ok n w'=>
  cases n<;>simp only[Oper.upon] at hh ⊢ <;>first
   | exact hh
   | exact Calls.mono hh (fun e w'' he=>by
    cases e with
    | returned v=>exact he
    | panicked c=>exact h _ _ _ he
    | outgrown=>obtain⟨a,w,q⟩:=he;exact⟨a,w,h _ _ _ q⟩)
 | halt x w'=>cases x<;>simp only[Oper.upon] at hh ⊢ <;>first | exact hh | exact h _ _ _ hh
theorem acu {P:Program} {ops:Array Oper} {i:Nat} {K:Act->World->Prop} {Q Q':Exit->Act->World->Prop} (h:∀ e a w,Q' e a w->Q e a w) {a:Act} {w:World} (hh:Go.wpOp P ops Q' i K a w):Go.wpOp P ops Q i K a w:=by
 unfold Go.wpOp at*
 split
 ·rename_i ho
  simpa [ho] using hh
 ·rename_i o ho
  simp only[ho] at hh
  split
  ·rename_i hw
   simp only[hw,aga] at hh
   exact hh.imp (ac1 h) fun ⟨h1,a,w,q⟩=>⟨h1,a,w,h _ _ _ q⟩
  ·rename_i hw
   simpa [hw] using hh
theorem V8 {P:Program} {ops:Array Oper} {Q Q':Exit->Act->World->Prop} (h:∀ e a w,Q' e a w->Q e a w):∀ (u:Nat) (listed:Array Bool) (a:Act) (w:World),Go.wpAny P .any ops Q' u listed a w->Go.wpAny P .any ops Q u listed a w
 | 0,_,_,_,hh=>⟨hh.1,h _ _ _ hh.2⟩
 | u+1,_,_,_,hh=>⟨fun hr=>h _ _ _ (hh.1 hr),fun i hi=>wpOp_mono (fun a' w' h'=>V8 h u _ a' w' h') (acu h (hh.2 i hi))⟩
theorem ZS {P:Program} {o0:Oper} {r:List Oper} {Q:Exit->Act->World->Prop} (hg:∀ o,o∈o0::r->o.guard=none):∀ (u:Nat) (listed:Array Bool) (a:Act) (w:World),listed.getD 0 false=true-> Go.wpAny P .any (o0::r.map xD).toArray Q u listed a w->Go.wpAny P .any (o0::r).toArray Q u listed a w:=by
 have get:∀ (i:Nat) (o:Oper),(o0::r)[i]? =some o->(o0::r.map xD)[i]? =some (if i=0 then o else xD o):=fun i o hi=>by
  cases i with
  | zero=>simpa using hi
  | succ i=>
   rw[aei] at hi ⊢
   rw[aeo,hi,af8 (by omega)];rfl
 have rd:∀ (listed:Array Bool),listed.getD 0 false=true->∀ i,i∈Region.ready .any (o0::r.map xD).toArray listed↔i∈Region.ready .any (o0::r).toArray listed:=fun listed h0 i=>by
  rw[mem_ready,mem_ready]
  constructor
  ·rintro⟨h1,o',ho',h2⟩
   have hlt:i<(o0::r).length:=by
    have:=(aen.1 (show (o0::r.map xD)[i]? =some o' by simpa using ho')).1
    simpa using this
   have hoi:(o0::r)[i]? =some (o0::r)[i]:=ael hlt
   have hop:=get i _ hoi
   refine⟨h1,(o0::r)[i],by rw[aev];exact hoi,fun e he hb=>h2 e ?_ hb⟩
   rw[aev,hop] at ho'
   cases ho'
   split
   ·exact he
   ·exact Array.mem_push.2 (.inl he)
  ·rintro⟨h1,o,ho,h2⟩
   have hoi:(o0::r)[i]? =some o:=by simpa using ho
   refine⟨h1,_,by rw[aev];exact get i o hoi,fun e he hb=> ?_⟩
   split at he
   ·exact h2 e he hb
   ·rcases Array.mem_push.1 he with he | he
    ·exact h2 e he hb
    ·subst he;exact h0
 have emp:∀ (listed:Array Bool),listed.getD 0 false=true->(Region.ready .any (o0::r.map xD).toArray listed=[]↔Region.ready .any (o0::r).toArray listed=[]):=fun listed h0=>by
  constructor<;>intro h<;>rw[ad7] at h ⊢ <;>intro i hi
  ·exact h i ((rd listed h0 i).2 hi)
  ·exact h i ((rd listed h0 i).1 hi)
 intro u
 induction u with
 | zero=>intro listed a w h0 h;exact⟨(emp listed h0).1 h.1,h.2⟩
 | succ u ih=>
  intro listed a w h0 h
  refine⟨fun hr=>h.1 ((emp listed h0).2 hr),fun i hi=> ?_⟩
  have h1:=h.2 i ((rd listed h0 i).2 hi)
  obtain⟨_,o,ho,_⟩:=mem_ready.1 hi
  have hoi:(o0::r)[i]? =some o:=by simpa using ho
  have hop:(o0::r.map xD).toArray[i]? =some (if i=0 then o else xD o):=by rw[aev];exact get i o hoi
  have hgo:=hg o (aeU hoi)
  have next:∀ a w,Go.wpAny P .any (o0::r.map xD).toArray Q u (listed.setIfInBounds i true) a w->Go.wpAny P .any (o0::r).toArray Q u (listed.setIfInBounds i true) a w:=fun a w h=>ih _ a w (getD_set_true h0) h
  unfold Go.wpOp at h1 ⊢
  rw[hop] at h1
  rw[ho]
  simp only at h1 ⊢
  have w1:∀ y,Region.wanted o y=true:=fun y=>by simp[Region.wanted,hgo]
  have w2:∀ y,Region.wanted (if i=0 then o else xD o) y=true:=fun y=>by split<;>simp[Region.wanted,xD,hgo]
  rw[af9 (w2 _)] at h1
  rw[af9 (w1 _)]
  rcases h1 with h1 | h1
  ·left
   have h2:o.wp P a w (Go.wpAny P .any (o0::r.map xD).toArray Q u (listed.setIfInBounds i true)) Q:=by split at h1<;>exact h1
   exact Oper.wp_mono (fun a' w' h'=>next a' w' h') h2
  ·right
   have h2:o.asks P a w:=by
    have:=h1.1
    split at this<;>exact this
   exact⟨h2,h1.2⟩
theorem YY {P:Program} {ops:List Oper} (h:Xd ops=true) {Q:Exit->Act->World->Prop} (hQ:∀ e a w,Q e a w->e= .normal) {a:Act} {w:World} (hh:Go.wpAny P .any (JN ops).toArray Q ops.length (Array.replicate ops.length false) a w):Go.wpAny P .any ops.toArray Q ops.length (Array.replicate ops.length false) a w:=by
 match ops,h with
 | o0::r,h=>
  simp only[Xd,adj,adQ,afL] at h
  obtain⟨hm,hg,haf,hd,hs,hf⟩:=h
  obtain⟨x,hx⟩:∃ x,o0.op= .move x:=by
   split at hm
   ·rename_i x hx;exact⟨x,hx⟩
   ·cases hm
  have hg0:=hg o0 (by simp)
  have hrun:∀ w,(execOp a.eval o0).run P w= .ok (.value (a.eval x)) w:=fun w=>by simp[execOp,hx]
  have w1:∀ y,Region.wanted o0 y=true:=fun y=>by simp[Region.wanted,hg0]
  have hr0:∀ (l:List Oper),0∈Region.ready .any (o0::l).toArray (Array.replicate (r.length+1) false):=fun l=>by
   rw[mem_ready]
   refine⟨by simp,o0,by simp,fun e he=> ?_⟩
   rw[Array.isEmpty_iff.1 haf] at he
   simp at he
  have h1:=hh.2 0 (hr0 _)
  unfold Go.wpOp at h1
  rw[show (JN (o0::r)).toArray[0]? =some o0 by simp[JN]] at h1
  simp only at h1
  rw[af9 (w1 _)] at h1
  rcases h1 with h1 | ⟨_,a',w',h1⟩
  ·unfold Oper.wp at h1
   rw[hrun] at h1
   have h2:=ZS hg r.length _ _ _ (by simp) h1
   refine wpAny_take (by simp) hs hf (by simpa using hr0 r) (fun c a w q=>by cases hQ _ _ _ q) (.inl ⟨w1 _,hrun⟩) h2
  ·cases hQ _ _ _ h1
theorem IG (o:Oper):wE o={ o with after:=(wE o).after }:=by
 unfold wE
 split<;>rfl
theorem YT {o:Oper} {e:Edge} (h:e∈(wE o).after):e∈o.after:=by
 unfold wE at h
 split at h
 ·have:e∈(o.after.toList.filter fun e=> !YS e):=by simpa using h
  simpa using (aeQ.1 this).1
 ·exact h
theorem Xb {P:Program} {ops:List Oper} {Q:Exit->Act->World->Prop} (hE:eF ops=true) (hg:∀ o,o∈ops->o.guard=none):∀ (u:Nat) (listed:Array Bool) (a:Act) (w:World),listed.size=ops.length-> Go.wpAny P .any (jX ops).toArray Q u listed a w->Go.wpAny P .any ops.toArray Q u listed a w:=by
 have rd:∀ (listed:Array Bool) i,i∈Region.ready .any ops.toArray listed->i∈Region.ready .any (jX ops).toArray listed:=fun listed i h=>by
  rw[mem_ready] at h ⊢
  obtain⟨h1,o,ho,h2⟩:=h
  have hoi:ops[i]? =some o:=by simpa using ho
  exact⟨h1,wE o,by simp[jX,hoi],fun e he hb=>h2 e (YT he) hb⟩
 have emp:∀ (listed:Array Bool),listed.size=ops.length->Region.ready .any ops.toArray listed=[]->Region.ready .any (jX ops).toArray listed=[]:=fun listed hsz hr=>by
  have hall:∀ i,i<ops.length->listed.getD i true=true:=by
   intro i
   induction i using Nat.strongRecOn with
   | _ i ihi=>
    intro hlt
    cases hl:listed.getD i true with
    | true=>rfl
    | false=>
     exfalso
     have hoi:ops[i]? =some ops[i]:=ael hlt
     have:i∈Region.ready .any ops.toArray listed:=by
      rw[mem_ready]
      refine⟨hl,ops[i],by simp,fun e he hb=> ?_⟩
      have hE:=hE
      simp only[eF,adQ] at hE
      have h7:=hE i (by simp;exact hlt)
      rw[hoi] at h7
      simp only[adQ] at h7
      have h8:=h7 e (by simpa using he)
      simp only[hb,adv,adq] at h8
      have h9:e.on<i:=aft (afx _) (afo h8)
      have h10:=ihi e.on h9 (by omega)
      rw[ac5] at h10 ⊢
      rw[ac6 (by omega)] at h10 ⊢
      simpa using h10
     rw[hr] at this
     cases this
  rw[ad7]
  intro i hi
  rw[mem_ready] at hi
  obtain⟨h1,o,ho,_⟩:=hi
  have hlt:i<ops.length:=by
   have:=(aen.1 (show (jX ops)[i]? =some o by simpa using ho)).1
   simpa [jX] using this
  rw[hall i hlt] at h1
  cases h1
 intro u
 induction u with
 | zero=>
  intro listed a w hsz h
  refine⟨?_,h.2⟩
  rw[ad7]
  intro i hi
  have:=rd listed i hi
  rw[h.1] at this;cases this
 | succ u ih=>
  intro listed a w hsz h
  refine⟨fun hr=>h.1 (emp listed hsz hr),fun i hi=> ?_⟩
  have h1:=h.2 i (rd listed i hi)
  obtain⟨_,o,ho,_⟩:=mem_ready.1 hi
  have hoi:ops[i]? =some o:=by simpa using ho
  have hop:(jX ops).toArray[i]? =some (wE o):=by simp[jX,hoi]
  have hgo:=hg o (aeU hoi)
  have next:∀ a w,Go.wpAny P .any (jX ops).toArray Q u (listed.setIfInBounds i true) a w->Go.wpAny P .any ops.toArray Q u (listed.setIfInBounds i true) a w:=fun a w h=>ih _ a w (by simpa using hsz) h
  unfold Go.wpOp at h1 ⊢
  rw[hop] at h1
  rw[ho]
  simp only at h1 ⊢
  have w1:∀ y,Region.wanted o y=true:=fun y=>by simp[Region.wanted,hgo]
  have w2:∀ y,Region.wanted (wE o) y=true:=fun y=>by rw[IG];simp[Region.wanted,hgo]
  rw[af9 (w2 _)] at h1
  rw[af9 (w1 _)]
  rcases h1 with h1 | h1
  ·left
   have h2:o.wp P a w (Go.wpAny P .any (jX ops).toArray Q u (listed.setIfInBounds i true)) Q:=by rw[IG] at h1;exact h1
   exact Oper.wp_mono (fun a' w' h'=>next a' w' h') h2
  ·right
   have h2:o.asks P a w:=by
    have:=h1.1
    rw[IG] at this
    exact this
   exact⟨h2,h1.2⟩
variable {X:Cx} {C:Fr X.P} {G:Gh} {ρ:Env} {w:World} {β:Type}
theorem XD (hX:cA X) (hmix:X.P.follows .mixedOrders=true) {ops:List Oper} {S:St} {k:St->Option β} {r:β} (h:Px X ops S k=some r) {Q:Exit->Act->World->Prop} (hQ:∀ S' G ρ w a,k S'=some r->Mod C G ρ S' w a->Q .normal a w) {a:Act} (hM:Mod C G ρ S w a) (id:Nat):(Code.region id ops.toArray true).wp X.P Q a w:=by
 refine wp_region_any hmix ?_
 unfold Px at h
 let Q':Exit->Act->World->Prop:=fun e a w=>e= .normal/\Q .normal a w
 have hn:∀ e a w,Q' e a w->e= .normal:=fun _ _ _ q=>q.1
 have hQ':∀ S' G ρ w a,k S'=some r->Mod C G ρ S' w a->Q' .normal a w:=fun S' G ρ w a hk hm=>⟨rfl,hQ S' G ρ w a hk hm⟩
 refine V8 (Q':=Q') (fun e a w q=>by obtain⟨e1,q⟩:=q;subst e1;exact q) _ _ _ _ ?_
 split at h
 ·rename_i hc
  rw[adj] at hc
  have h3:=B6 (Q:=Q') hX h hn hQ' hM (fun h=>by cases h)
  have hl:(JN ops).toArray.size=ops.length:=by cases ops<;>simp[JN]
  rw[hl] at h3
  have h4:=YY hc.2 (Q:=Q') (fun e a w q=>q.1) h3
  simpa using h4
 have perm:∀ {o2:List Oper},Bg o2 (oE (isApp X) o2)=true->vg X (vJ o2 (oE (isApp X) o2)) S k none=some r->
  Go.wpAny X.P .any o2.toArray Q' o2.toArray.size (Array.replicate o2.toArray.size false) a { w with drawn:=w.drawn+1 }:=fun {o2} hp h'=>by
  have H:=Tu hp
  have h2:=B6 hX h' hn hQ' hM (fun h=>by cases h)
  rw[H.size] at h2
  refine H.wpAny _ _ _ _ _ (by simp) (by simp) (fun i b hi=> ?_) h2
  have:=(H.lt i hi).1
  simp only[ac5,ada,hi,this,aga]
 refine B6 hX h hn hQ' hM fun h'=> ?_
 split at h'
 ·rename_i hp
  split at h'
  ·exact perm hp h'
  ·split at h'
   ·rename_i hl
    rw[adj] at hl
    have h2:=perm hl.2 h'
    have hs:(jX ops).toArray.size=ops.toArray.size:=by simp[jX]
    rw[hs] at h2
    refine Xb hl.1 (fun o ho=> ?_) _ _ _ _ (by simp) h2
    have hp':=hp
    simp only[Bg,adj,adQ,afL] at hp'
    exact (hp'.2.2.2 o ho).1
   ·cases h'
 ·cases h'
end Go.Dn
namespace Go.Dn
variable {X:Cx} {C:Fr X.P} {G:Gh} {ρ:Env} {w:World} {β:Type}
structure qa (ops:List Oper) (S S':St):Prop where
 boxes:S'.boxes=S.boxes
 rows:S'.rows=S.rows
 objs:S'.objs=S.objs
 len:S'.tmps.length=S.tmps.length
 tmp:∀ t,(∀ o,o∈ops->o.dst≠some t)->S'.tmps[t]? =S.tmps[t]?
theorem qa.refl (ops:List Oper) (S:St):qa ops S S:=⟨rfl,rfl,rfl,rfl,fun _ _=>rfl⟩
theorem qa.put {ops:List Oper} {S S':St} (h:qa ops S S') {o:Oper} (ho:o∈ops) (s:SV):qa ops S (S'.put o.dst s):=by
 cases hd:o.dst with
 | none=>exact h
 | some d=>
  refine⟨h.boxes,h.rows,h.objs,by simp[St.put,h.len],fun t ht=> ?_⟩
  have hne:d≠t:=fun e=>ht o ho (by rw[hd,e])
  simp only[St.put]
  rw[aer hne]
  exact h.tmp t ht
theorem qa.app {ops:List Oper} {S S':St} (h:qa ops S S') {o:Oper} (ho:o∈ops) {x:Del} (hp:yM x=true):qa ops S (S'.app o.dst x):=by
 obtain⟨p1,p2,p3⟩:=zG hp
 have e:x=⟨x.sv,none,none,none⟩:=by cases x;simp only at p1 p2 p3;subst p1;subst p2;subst p3;rfl
 rw[e,St.DR]
 exact h.put ho _
theorem XB (S:St):(dA pS S).boxes=S.boxes/\(dA pS S).rows=S.rows/\(dA pS S).objs=S.objs:=by
 refine⟨?_,rfl,rfl⟩
 simp only[dA]
 exact List.filter_eq_self.2 fun p _=>by simp[iT,pS,inL]
theorem Y6 (i:Nat):inM m0 i=false:=by simp[inM,m0];rfl
theorem Mg (hX:cA X) {ops:List Oper} {M:St}:∀ {l:List Oper} {c:Nat} {S:St} {k:St->Option β} {r:β},(∀ o,o∈l->o∈ops)->gT X ops M (fun _=>dA pS M) m0 false c l S k=some r->qa ops M S->∀ {Q:Exit->Act->World->Prop}, (∀ S' G ρ w a,k S'=some r->qa ops M S'->Mod C G ρ S' w a->Q .normal a w)->∀ {G ρ w a},Mod C G ρ S w a->wpList X.P ops.toArray Q l a w
 | [],c,S,k,r,hl,h,hJ,Q,hQ,G,ρ,w,a,hM=>hQ S G ρ w a h hJ hM
 | o::rest,c,S,k,r,hl,h,hJ,Q,hQ,G,ρ,w,a,hM=>by
  have hmem:o∈ops:=hl o (by simp)
  have hl':∀ o,o∈rest->o∈ops:=fun o ho=>hl o (by simp[ho])
  have step:(dU X o S (dA pS M) fun x=>bif yM x then gT X ops M (fun _=>dA pS M) m0 false (c+1) rest (S.app o.dst x) k else none)=some r->o.wp X.P a w (wpList X.P ops.toArray Q rest) Q:=fun h=>by
   obtain⟨x,h1,h2,_⟩:=qM hX h
   cases hp:yM x with
   | false=>rw[hp] at h1;cases h1
   | true=>
    rw[hp,afX] at h1
    obtain⟨p1,p2,p3⟩:=zG hp
    obtain⟨e1,e2,e3⟩:=XB M
    have:=h2 C G ρ S w a Q hM ⟨fun _ _=>rfl,fun k cs hk=>by rw[hJ.boxes, <- e1];exact hk,fun k cs hk=>by rw[hJ.rows, <- e2];exact hk,fun k cs hk=>by rw[hJ.objs, <- e3];exact hk⟩
     (fun d _ h=>by rw[p1] at h;cases h) (fun d _ h=>by rw[p2] at h;cases h) (fun d _ h=>by rw[p3] at h;cases h)
    exact Oper.wp_mono (fun a' w' ⟨G',ρ',hM'⟩=>Mg hX hl' h1 (hJ.app hmem hp) hQ hM') this
  have skip:gT X ops M (fun _=>dA pS M) m0 false (c+1) rest (S.put o.dst nA) k=some r->wpList X.P ops.toArray Q rest (a.put o.dst undef) w:=fun h=>
   Mg hX hl' h (hJ.put hmem _) hQ (hM.put o.dst (fun _ _=>Oa))
  simp only[gT,Y6,afW] at h
  split at h
  ·cases hs:lD ops o S with
   | false=>rw[hs] at h;cases h
   | true=>
    rw[hs] at h
    have hw:=F7 hM.tmps hs
    simp only[wpList,hw]
    rw[af8 (by simp)];exact skip h
  ·rename_i hg
   have hw:=gS hM.tmps hg
   simp only at hw
   simp only[wpList,hw,aga]
   exact .inl (step h)
  ·rename_i d b want hg
   obtain⟨hS,hw⟩:=gS hM.tmps hg
   rcases JE hS h with ⟨hb,h⟩ | ⟨hb,h⟩
   ·rw[hb] at hw
    simp only[wpList,hw,aga]
    exact .inl (step h)
   ·rw[hb] at hw
    simp only[wpList,hw]
    rw[af8 (by simp)];exact skip h
theorem Lb {ops:List Oper} {M:St}:∀ {l:List Oper} {S:St} {outs:List (Option Del)},(∀ o,o∈l->o∈ops)->qa ops M S->(∀ y,some y∈outs->yM y=true)->qa ops M (states l S outs)
 | [],S,outs,_,h,_=>by cases outs<;>exact h
 | o::l,S,[],_,h,_=>h
 | o::l,S,x::xs,hl,h,hp=>by
  simp only[states]
  refine Lb (fun o ho=>hl o (by simp[ho])) ?_ (fun y hy=>hp y (by simp[hy]))
  cases x with
  | none=>exact h.put (hl o (by simp)) _
  | some y=>exact h.app (hl o (by simp)) (hp y (by simp))
theorem abz (hX:cA X) (hmix:X.P.follows .mixedOrders=true) {ops:List Oper} {dr:Bool} {S:St} {k:St->Option β} {r:β} (h:XA X ops dr S k=some r) {Q:Exit->Act->World->Prop} (hQ:∀ S' G ρ w a,k S'=some r->qa ops S S'->Mod C G ρ S' w a->Q .normal a w) {a:Act} (hM:Mod C G ρ S w a) (id:Nat):(Code.region id ops.toArray dr).wp X.P Q a w:=by
 cases dr with
 | false=>
  simp only[XA,afW,XE] at h
  refine wp_region_list ?_
  have:=Mg hX (fun _ h=>h) h (.refl ops S) (Q:=Q) hQ hM
  simpa using this
 | true=>
  simp only[XA,afX] at h
  cases hchk:(A8 ops ops.length&& !(ops.any fun o=>uV o.op)) with
  | false=>rw[hchk] at h;cases h
  | true=>
   rw[hchk,afX] at h
   unfold XE at h
   obtain⟨outs,h1,h2,h3⟩:=yj (tf:=fun _=>pS) hX h
   cases hnew:zD ops ops.length S (states ops S outs) with
   | false=>rw[hnew] at h2;cases h2
   | true=>
    rw[hnew,afX] at h2
    have htk:ops.take ops.length=ops:=afc
    simp only[A8,adj] at hchk
    obtain⟨⟨⟨⟨⟨c1,c2⟩,c3⟩,c4⟩,c5⟩,_⟩:=hchk
    have K:=ck.of (X:=X) (ops:=ops) (n:=ops.length) (S:=S) (outs:=outs) (afq _) c2 c4 (by rw[htk];exact h1) (fun i o x hi hx=>by
     rw[htk] at hi ⊢
     exact (h3 i o x hi hx).1) (by rw[htk];exact hnew)
    rw[htk] at K
    have hpure:∀ y,some y∈outs->yM y=true:=fun y hy=>by
     obtain⟨i,hi⟩:=aeS.1 hy
     have hlt:i<outs.length:=(aen.1 hi).1
     have hlt':i<ops.length:=by rw[<- h1];exact hlt
     exact ((h3 i _ (some y) (ael hlt') hi).2 (Y6 _) y rfl).2
    have hJ:=Lb (ops:=ops) (M:=S) (outs:=outs) (fun _ h=>h) (.refl ops S) hpure
    refine wp_region_any hmix ?_
    have hM':=hM.of_heap (w':={ w with drawn:=w.drawn+1 }) rfl rfl rfl
    have hany:=K.any (C:=C) (Q:=Q) (Cl c3) c5 (fun G ρ w a hMn=>by
     rw[List.drop_length]
     exact hQ _ G ρ w a h2 hJ hMn) ops.length (Array.replicate ops.toArray.size false) a { w with drawn:=w.drawn+1 } G ρ (by simp) rG
     (fun m _ hm2=>oT hm2 true) (um (afq _)) (by
       have:=zV (X:=X) (C:=C) (ops:=ops) (n:=ops.length) (S:=S) (outs:=outs) (afq _) hM'
       rw[htk] at this
       exact this)
    rw[show ops.length+(ops.length - ops.length)=ops.toArray.size by simp] at hany
    exact hany
theorem Da:∀ (l:List Oper) (T:List SV),(rX l T).length=T.length
 | [],_=>rfl
 | o::r,T=>by
  simp only[rX]
  rw[Da r]
  cases o.dst<;>simp
theorem Ky:∀ (l:List Oper) (T:List SV) (t:Nat) (s:SV),(rX l T)[t]? =some s->s= .v false [.any]\/((∀ o,o∈l->o.dst≠some t)/\T[t]? =some s)
 | [],T,t,s,h=> .inr ⟨(fun _ h'=>nomatch h'),h⟩
 | o::r,T,t,s,h=>by
  simp only[rX] at h
  rcases Ky r _ t s h with h1 | ⟨h1,h2⟩
  ·exact .inl h1
  ·cases hd:o.dst with
   | none=>
    rw[hd] at h2
    refine .inr ⟨fun o' ho=> ?_,h2⟩
    rcases aeO.1 ho with e | e
    ·subst e;rw[hd];exact nofun
    ·exact h1 o' e
   | some d=>
    rw[hd] at h2
    simp only[aeq] at h2
    by_cases e:d=t
    ·subst e
     rw[af9 rfl] at h2
     split at h2
     ·cases h2;exact .inl rfl
     ·cases h2
    ·rw[af8 e] at h2
     refine .inr ⟨fun o' ho=> ?_,h2⟩
     rcases aeO.1 ho with e' | e'
     ·subst e';rw[hd];intro h;cases h;exact e rfl
     ·exact h1 o' e'
theorem LU:∀ (l:List (Nat×Ty)) (v:O7 l) (T:List SV),(Fu l v T).length=T.length
 | [],_,_=>rfl
 | p::r,v,T=>by simp[Fu,LU r]
theorem VB {S':St} {ρ:Env} {a:Act} (hF:ir G ρ S') (hT:gj G ρ S' a):∀ (l:List (Nat×Ty)) (v:O7 l) (T:List SV),Ni S' l=some v->T.length=S'.tmps.length->(∀ (i:Nat) (s:SV),T[i]? =some s->aZ G ρ s (a.tmps.getD i undef))-> ∀ (i:Nat) (s:SV),(Fu l v T)[i]? =some s->aZ G ρ s (a.tmps.getD i undef)
 | [],_,T,_,_,h,i,s,hi=>h i s hi
 | p::r,v,T,hv,hl,h,i,s,hi=>by
  simp only[Ni] at hv
  split at hv
  ·rename_i x hx
   split at hv
   ·rename_i y hy
    cases hv
    simp only[Fu,aeq] at hi
    by_cases e:p.1=i
    ·subst e
     rw[af9 rfl] at hi
     split at hi
     ·rename_i hlt
      cases hi
      rw[LU,hl] at hlt
      have hd:=hT.2 p.1 _ (ael hlt)
      have:aZ G ρ (S'.tmps.getD p.1 (.v false [.any])) (a.tmps.getD p.1 undef):=by
       rw[aee,ael hlt];exact hd
      exact EK ρ (kI hF (kQ.nil _ _ _) hx this)
     ·cases hi
    ·rw[af8 e] at hi
     exact VB hF hT r y T hy hl h i s hi
   ·cases hv
  ·cases hv
theorem YC {S S':St} {ops:List Oper} {l:List (Nat×Ty)} {v:O7 l} {a:Act} (hJ:qa ops S S') (hv:Ni S' l=some v) (hM:Mod C G ρ S' w a):Mod C G ρ { S with tmps:=Fu l v (rX ops S.tmps) } w a:=by
 have h0:Mem C G ρ { S with tmps:=Fu l v (rX ops S.tmps) } w:=hM.toMem.JP (by rw[hJ.boxes]) (by rw[hJ.rows]) (by rw[hJ.objs])
 refine { h0 with tmps:=⟨?_, ?_⟩,defers:=hM.defers }
 ·show a.tmps.size=(Fu l v (rX ops S.tmps)).length
  rw[LU,Da, <- hJ.len];exact hM.tmps.1
 ·refine VB hM.toMem.frozen hM.tmps l v _ hv (by rw[Da,hJ.len]) (fun i s hi=> ?_)
  rcases Ky ops S.tmps i s hi with e | ⟨h1,h2⟩
  ·subst e;trivial
  ·exact hM.tmps.2 i s (by rw[hJ.tmp i h1];exact h2)
end Go.Dn
