/-
  The executor, its fourth part: regions that draw their order are sound. No condition.
-/
import Derived.Test.YtnamfglkolhhgabGreatDoorYc
set_option linter.all false
namespace Go.Dn
variable {β:Type} {X:Cx} {C:Fr X.P} {G:Gh} {ρ:Env} {w:World}
theorem uB {p q:Nat→Bool} {i:Nat}:∀ {l:List Nat},l.Nodup→i∈l→p i=true→(∀ j,q j=(p j&&j != i))→l.countP p=l.countP q+1
 | [],_,hi,_,_=>by simp at hi
 | j::l,hn,hi,hp,hq=>by
  rw[aaJ] at hn
  by_cases e:j=i
  ·subst e
   have h1:q j=false:=by rw[hq];simp
   have h2:l.countP p=l.countP q:=by
    refine List.countP_congr fun m hm=> ?_
    have:m≠j:=fun e=>hn.1 (e ▸ hm)
    rw[hq];simp[this]
   rw[List.countP_cons,List.countP_cons,hp,h1,h2];simp
  ·have hi':i∈l:=by
    rcases aaw.1 hi with h | h
    ·exact absurd h.symm e
    ·exact h
   have h1:q j=p j:=by rw[hq];simp[e]
   rw[List.countP_cons,List.countP_cons,h1,uB hn.2 hi' hp hq]
   omega
theorem AT:∀ {l:List Oper} {S:St} {outs:List (Option Del)} {p:Nat×List CV},p∈(states l S outs).boxes→p∈S.boxes∨∃ (j:Nat) (o:Oper) (x:Option Del) (d:Nat) (c:List CV),l[j]? =some o∧outs[j]? =some x∧o.dst=some d∧uO x=some c∧p=(d,c)
 | [],S,outs,p,h=>by cases outs<;>exact .inl h
 | o::l,S,[],p,h=> .inl h
 | o::l,S,x::xs,p,h=>by
  simp only[states] at h
  rcases AT h with h1 | ⟨j,o',x',d,c,h1,h2,h3⟩
  ·cases x with
   | none=>left;simpa [St.out] using h1
   | some y=>
    cases hd:o.dst with
    | none=>left;simpa [St.out,St.app,hd] using h1
    | some d=>
     cases hb:y.box with
     | none=>left;simpa [St.out,St.app,hd,hb] using h1
     | some c=>
      have h2:p=(d,c)∨p∈S.boxes:=by simpa [St.out,St.app,hd,hb] using h1
      rcases h2 with h2 | h2
      ·exact .inr ⟨0,o,some y,d,c,rfl,rfl,hd,hb,h2⟩
      ·exact .inl h2
  ·exact .inr ⟨j+1,o',x',d,c,by simpa using h1,by simpa using h2,h3⟩
section
variable {ops:List Oper} {n:Nat} {S Sn:St} {listed:Array Bool} {outs:List (Option Del)}
theorem bP {i:Nat} {b:Bool} (h:i<listed.size):(listed.setIfInBounds i true).getD i b=true:=by
 rw[YZ,Y6 h];rfl
theorem aW {i j:Nat} {b:Bool} (h:j≠i):(listed.setIfInBounds i true).getD j b=listed.getD j b:=by
 rw[YZ,YZ,Y5 (by omega)]
theorem bQ.zq (K:bQ X ops n S outs Sn) {i d:Nat} (hin:i<n) (hd:bF ops i=some d) (hsz:listed.size=ops.length) (hun:listed.getD i true=false) (t:Nat):
 az ops n (listed.setIfInBounds i true) t=(az ops n listed t&&t != d):=by
 have his:i<listed.size:=by rw[hsz];exact aa9 hin K.n_le
 rw[Zg,cD,Zd,cD]
 constructor
 ·rintro⟨j,h1,h2,h3⟩
  have hji:j≠i:=fun e=>by subst e;rw[bP his] at h2;cases h2
  rw[aW hji] at h2
  refine⟨⟨j,h1,h2,h3⟩, ?_⟩
  simp only[bne_iff_ne,ne_eq]
  intro e
  subst e
  exact hji (K.uniq h1 hin h3 hd)
 ·rintro⟨⟨j,h1,h2,h3⟩,h4⟩
  have hji:j≠i:=fun e=>by
   subst e
   rw[hd] at h3
   cases h3
   simp at h4
  exact⟨j,h1,by rw[aW hji];exact h2,h3⟩
theorem z7 {S:St} {d:Nat} (h:S.cw d=false):S.bM d=false∧S.aY d=false∧S.bz d=false∧S.bg d=false:=by
 have cv:∀ c:CV,c.cw d=false→c.bM d=false∧c.aY d=false∧c.bz d=false∧c.bg d=false:=fun c hc=>by
  simpa [CV.cw] using hc
 have cs:∀ l:List CV,l.any (CV.cw d)=false→l.any (CV.bM d)=false∧l.any (CV.aY d)=false∧l.any (CV.bz d)=false∧l.any (CV.bg d)=false:=fun l hl=>by
  simp only[ZH] at hl ⊢
  exact⟨fun c hc=>by simp[(cv c (by simpa using hl c hc)).1],fun c hc=>by simp[(cv c (by simpa using hl c hc)).2.1],fun c hc=>by simp[(cv c (by simpa using hl c hc)).2.2.1],fun c hc=>by simp[(cv c (by simpa using hl c hc)).2.2.2]⟩
 have sv:∀ s:SV,s.cw d=false→s.bM d=false∧s.aY d=false∧s.bz d=false∧s.bg d=false:=fun s hs=>by
  cases s with
  | v a l=>exact cs l hs
  | tup l=>
   simp only[SV.cw,ZH] at hs
   simp only[SV.bM,SV.aY,SV.bz,SV.bg,ZH]
   exact⟨fun p hp=>by simp[(cs p.2 (by simpa using hs p hp)).1],fun p hp=>by simp[(cs p.2 (by simpa using hs p hp)).2.1],fun p hp=>by simp[(cs p.2 (by simpa using hs p hp)).2.2.1],fun p hp=>by simp[(cs p.2 (by simpa using hs p hp)).2.2.2]⟩
 simp only[St.cw,Zp,ZH] at h
 have h1:∀ s,s∈S.tmps→s.cw d=false:=fun s hs=>by simpa using h.1 s hs
 have h2:∀ p,p∈S.boxes→p.2.any (CV.cw d)=false:=fun p hp=>by simpa using h.2 p hp
 simp only[St.bM,St.aY,St.bz,St.bg,Zp,ZH]
 exact⟨⟨fun s hs=>by simp[(sv s (h1 s hs)).1],fun p hp=>by simp[(cs p.2 (h2 p hp)).1]⟩,⟨fun s hs=>by simp[(sv s (h1 s hs)).2.1],fun p hp=>by simp[(cs p.2 (h2 p hp)).2.1]⟩,
  ⟨fun s hs=>by simp[(sv s (h1 s hs)).2.2.1],fun p hp=>by simp[(cs p.2 (h2 p hp)).2.2.1]⟩,⟨fun s hs=>by simp[(sv s (h1 s hs)).2.2.2],fun p hp=>by simp[(cs p.2 (h2 p hp)).2.2.2]⟩⟩
theorem bQ.fresh (K:bQ X ops n S outs Sn) (hcl:qd ops listed) {i d:Nat} (hin:i<n) (hd:bF ops i=some d) (hun:listed.getD i true=false):
 (aK S Sn (az ops n listed)).cw d=false:=by
 obtain⟨n1,n3,n4,n4',n5⟩:=K.new i d hin hd
 have done:∀ j dj,j<n→bF ops j=some dj→az ops n listed dj=false→M5 Sn d dj=false:=fun j dj hj hdj hu=>by
  have hlj:listed.getD j true=true:=by
   cases h:listed.getD j true with
   | true=>rfl
   | false=>have:=cD.2 ⟨j,hj,h,hdj⟩;rw[hu] at this;cases this
  refine n5 j dj hj hdj (fun e=>by subst e;rw[hun] at hlj;cases hlj) (fun hm=> ?_)
  obtain⟨oj,ho,_⟩:=gF hdj
  have:=cR K.edges hcl j oj ho (fun e h1 h2=>hcl j oj ho hlj e h1 h2) i hm
  rw[hun] at this;cases this
 simp only[St.cw,Zp,ZH] at n1
 have tmpS:∀ t,(S.tmps.getD t (.v false [.any])).cw d=false:=fun t=>by
  rw[ZX]
  cases h:S.tmps[t]? with
  | none=>rfl
  | some s=>simpa using n1.1 s (aaC h)
 have tmpsOk:∀ s,s∈(aK S Sn (az ops n listed)).tmps→s.cw d=false:=fun s hs=>by
  simp only[aK,aaB,aaF] at hs
  obtain⟨t,ht,rfl⟩:=hs
  cases hu:az ops n listed t with
  | true=>simpa using tmpS t
  | false=>
   simp only[Zh,abM]
   by_cases hex:∃ j,j<n∧bF ops j=some t
   ·obtain⟨j,h1,h2⟩:=hex
    have:=done j t h1 h2 hu
    simp only[M5,Zp] at this
    exact this.1
   ·have hnd:t∉dV (ops.take n):=by
     intro hm
     simp only[dV,aaz] at hm
     obtain⟨p,hp,hpd⟩:=hm
     obtain⟨m,hm⟩:=aaA.1 hp
     have hmn:m<n:=by
      have:=(Z6.1 hm).1
      simp at this;omega
     rw[bX hmn] at hm
     exact hex ⟨m,hmn,by unfold bF;rw[hm];exact hpd⟩
    have:Sn.tmps[t]? =S.tmps[t]? :=by rw[K.sn];exact (di hnd).1
    rw[CQ this]
    exact tmpS t
 have boxesOk:∀ p,p∈(aK S Sn (az ops n listed)).boxes→p.2.any (CV.cw d)=false:=fun p hp=>by
  simp only[aK,List.mem_filter,Zm] at hp
  obtain⟨hp,hu⟩:=hp
  rw[K.sn] at hp
  rcases AT hp with h | ⟨j,o',x',dj,cj,h1,h2,h3,h4,h5⟩
  ·simpa using n1.2 p h
  ·subst h5
   have hjn:j<n:=by
    have:=(Z6.1 h1).1
    simp at this;omega
   have hdj:bF ops j=some dj:=by unfold bF;rw[bX hjn] at h1;rw[h1];exact h3
   have:=done j dj hjn hdj hu
   have hlook:look Sn.boxes dj=some cj:=by
    rw[K.sn,(qK (by rw[K.len,aaq,abf K.n_le]) K.dupl h1 h2 h3).2.1,h4];rfl
   simp only[M5,hlook,Zp] at this
   exact this.2
 simp only[St.cw,Zp,ZH]
 exact⟨fun s hs=>by simp[tmpsOk s hs],fun p hp=>by simp[boxesOk p hp]⟩
theorem bQ.next (K:bQ X ops n S outs Sn) {i d:Nat} {o:Oper} {x:Option Del} (hin:i<n) (hi:ops[i]? =some o) (hd:o.dst=some d) (hx:outs[i]? =some x) (hsz:listed.size=ops.length) (hun:listed.getD i true=false)
 {a:Act} (hM:Mod C G ρ ((aK S Sn (az ops n listed)).out o x) w a):Mod C G ρ (aK S Sn (az ops n (listed.setIfInBounds i true))) w a:=by
 have hdA:bF ops i=some d:=by unfold bF;rw[hi];exact hd
 have hU:=K.zq hin hdA hsz hun
 obtain⟨n1,n3,n4,n4',_⟩:=K.new i d hin hdA
 have hat:=qK (S:=S) (outs:=outs) (by rw[K.len,aaq,abf K.n_le]) K.dupl (i:=i) (o:=o) (x:=x) (by rw[bX hin];exact hi) hx hd
 rw[← K.sn] at hat
 refine hM.equiv ?_ ?_ ?_ ?_
 ·rw[Jt hd]
  apply ZV
  intro t
  rw[Z9,dh,dh,hU t]
  by_cases e:d=t
  ·subst e
   have hlen:(aK S Sn (az ops n listed)).tmps.length=S.tmps.length:=by simp[aK]
   rw[hlen]
   by_cases hlt:d<S.tmps.length
   ·simp only[hlt,abP,abz,Ze,Zh,abM]
    rw[ZX,hat.1 hlt];rfl
   ·simp[hlt]
  ·rw[abN e]
   have:(t != d)=true:=by simp only[bne_iff_ne,ne_eq];exact fun h=>e h.symm
   rw[this,Zf]
 ·intro k cs hk
  simp only[aK,bu,hU k] at hk
  rw[Gv hd]
  split at hk
  ·cases hk
  ·rename_i hc
   by_cases e:k=d
   ·subst e
    rw[hat.2.1,n3] at hk
    simp only[abP]
    cases hb:uO x with
    | none=>rw[hb] at hk;cases hk
    | some c=>rw[hb] at hk;simpa using hk
   ·rw[abN e]
    simp only[aK,bu]
    rw[abN]
    ·exact hk
    ·intro hu
     apply hc
     simp[hu,e]
 ·intro k q hk
  simp only[aK,bu,hU k] at hk
  rw[Js hd]
  split at hk
  ·cases hk
  ·rename_i hc
   by_cases e:k=d
   ·subst e
    rw[hat.2.2.1,n4] at hk
    simp only[abP]
    cases hb:uh x with
    | none=>rw[hb] at hk;cases hk
    | some c=>rw[hb] at hk;simpa using hk
   ·rw[abN e]
    simp only[aK,bu]
    rw[abN]
    ·exact hk
    ·intro hu
     apply hc
     simp[hu,e]
 ·intro k q hk
  simp only[aK,bu,hU k] at hk
  rw[Jr hd]
  split at hk
  ·cases hk
  ·rename_i hc
   by_cases e:k=d
   ·subst e
    rw[hat.2.2.2,n4'] at hk
    simp only[abP]
    cases hb:x4 x with
    | none=>rw[hb] at hk;cases hk
    | some c=>rw[hb] at hk;simpa using hk
   ·rw[abN e]
    simp only[aK,bu]
    rw[abN]
    ·exact hk
    ·intro hu
     apply hc
     simp[hu,e]
theorem bQ.wpOp (K:bQ X ops n S outs Sn) {Q:Exit→Act→World→Prop} {K':Act→World→Prop} {a:Act} {i:Nat} {o:Oper} (hin:i<n) (hi:ops[i]? =some o) (hsz:listed.size=ops.length) (hcl:qd ops listed) (hun:listed.getD i true=false)
 (hed:∀ e,e∈o.after.toList→Region.binds .any e=true→listed.getD e.on false=true)
 (hM:Mod C G ρ (aK S Sn (az ops n listed)) w a) (hK:∀ G' ρ' w' a',Mod C G' ρ' (aK S Sn (az ops n (listed.setIfInBounds i true))) w' a'→K' a' w'):Go.wpOp X.P ops.toArray Q i K' a w:=by
 obtain⟨hds,hlk⟩:=K.head i o hin hi
 obtain⟨d,hd⟩:=abr.1 hds
 have hdA:bF ops i=some d:=by unfold bF;rw[hi];exact hd
 have hdeps:=cR K.edges hcl i o hi hed
 obtain⟨x,hx⟩:∃ x,outs[i]? =some x:=⟨outs[i]'(by rw[K.len];exact hin),Z4 _⟩
 have hst:=K.step i o x hin hi hx
 have hgd:=K.guards hin hi hdeps
 have hev:=K.evs hin hi hdeps
 unfold Go.wpOp
 have hio:ops.toArray[i]? =some o:=by simpa using hi
 rw[hio]
 simp only
 cases x with
 | none=>
  have hw:Region.wanted o (yielded ops.toArray a.tmps)=false:=by
   rcases hst with ⟨dg,b,want,hg,hb⟩ | hs
   ·have hw:=fV hM.tmps (by rw[hgd];exact hg)
    simp only at hw
    rw[hw.2,hb]
   ·exact El hM.tmps (by rw[K.XV hin hi hdeps];exact hs)
  rw[abN (by rw[hw];simp)]
  exact hK G ρ w _ (K.next hin hi hd hx hsz hun (hM.put o.dst (fun _ _=>Lo)))
 | some y=>
  obtain⟨⟨hL,_⟩,hg⟩:=hst
  have hwt:Region.wanted o (yielded ops.toArray a.tmps)=true:=by
   rcases hg with hg | ⟨dg,b,want,hg,hb⟩
   ·exact fV hM.tmps (g:=none) (by rw[hgd];exact hg)
   ·have hw:=fV hM.tmps (by rw[hgd];exact hg)
    simp only at hw
    rw[hw.2,hb]
  rw[abO hwt]
  left
  have hfr:=z7 (K.fresh hcl hin hdA hun)
  have hnear:Fk o (states ((ops.take n).take i) S (outs.take i)) S (aK S Sn (az ops n listed)):=by
   have nolook:∀ k,(look S.boxes k).isSome=true∨(look S.rows k).isSome=true∨(look S.objs k).isSome=true→az ops n listed k=false∧look Sn.boxes k=look S.boxes k∧look Sn.rows k=look S.rows k∧look Sn.objs k=look S.objs k:=fun k hk=>by
    have hnd:∀ j,j<n→bF ops j≠some k:=fun j hj hdj=>by
     obtain⟨_,m3,m4,m5,_⟩:=K.new j k hj hdj
     rcases hk with hk | hk | hk
     ·rw[m3] at hk;cases hk
     ·rw[m4] at hk;cases hk
     ·rw[m5] at hk;cases hk
    refine⟨?_, ?_⟩
    ·cases hu:az ops n listed k with
     | false=>rfl
     | true=>obtain⟨j,h1,_,h3⟩:=cD.1 hu;exact absurd h3 (hnd j h1)
    ·have:k∉dV (ops.take n):=fun hm=>by
      simp only[dV,aaz] at hm
      obtain⟨p,hp,hpd⟩:=hm
      obtain⟨m,hm⟩:=aaA.1 hp
      have hmn:m<n:=by
       have:=(Z6.1 hm).1
       simp at this;omega
      rw[bX hmn] at hm
      exact hnd m hmn (by unfold bF;rw[hm];exact hpd)
     rw[K.sn]
     exact (di this).2
   refine⟨hev,fun k cs hk=> ?_,fun k q hk=> ?_,fun k q hk=> ?_⟩
   ·obtain⟨h1,h2,_⟩:=nolook k (.inl (by rw[hk];rfl))
    simp only[aK,bu,h1,Zh,abM];rw[h2];exact hk
   ·obtain⟨h1,_,h2,_⟩:=nolook k (.inr (.inl (by rw[hk];rfl)))
    simp only[aK,bu,h1,Zh,abM];rw[h2];exact hk
   ·obtain⟨h1,_,_,h2⟩:=nolook k (.inr (.inr (by rw[hk];rfl)))
    simp only[aK,bu,h1,Zh,abM];rw[h2];exact hk
  have hwp:=hL C G ρ _ w a Q hM hnear (fun d' hd' _=>by rw[hd] at hd';cases hd';exact hfr.1) (fun d' hd' _=>by rw[hd] at hd';cases hd';exact hfr.2.1) (fun d' hd' _=>by rw[hd] at hd';cases hd';exact hfr.2.2)
  refine Oper.wp_mono (fun a' w' h=> ?_) hwp
  obtain⟨G',ρ',hM'⟩:=h
  exact hK G' ρ' w' a' (K.next hin hi hd hx hsz hun hM')
theorem Hs {N:Nat} (hsz:listed.size=N) (hn:n≤N) (h1:∀ i,i<n→listed.getD i true=true) (h2:∀ i,n≤i→i<N→listed.getD i true=false):listed=mask n N:=by
 apply Array.ext_getElem?
 intro i
 simp only[mask,aae]
 by_cases c1:i<n
 ·rw[ZZ (by simpa using c1),List.getElem?_replicate_of_lt c1]
  have:=h1 i c1
  rw[YZ,Y0 (by omega)] at this
  rw[Y0 (by omega)]
  simpa using this
 ·by_cases c2:i<N
  ·rw[Z0 (by simpa using c1),List.getElem?_replicate_of_lt (by simp;omega)]
   have:=h2 i (by omega) c2
   rw[YZ,Y0 (by omega)] at this
   rw[Y0 (by omega)]
   simpa using this
  ·rw[Y1 (by omega),Z5 (by simp;omega)]
theorem bQ.any (K:bQ X ops n S outs Sn) (hwaits:∀ k,n≤k→k<ops.length→∀ j,j<k→j∈(deps ops).getD k m0) {Q:Exit→Act→World→Prop} (hseq:Region.seqB .any ops.toArray (ops.length - n) n (mask n ops.length)=true)
 (htail:∀ G ρ w a,Mod C G ρ Sn w a→wpList X.P ops.toArray Q (ops.drop n) a w):∀ (u:Nat) (listed:Array Bool) (a:Act) (w:World) (G:Gh) (ρ:Env),listed.size=ops.length→qd ops listed→
 (∀ k,n≤k→k<ops.length→listed.getD k true=false)→(List.range n).countP (fun i=> !listed.getD i true)=u→Mod C G ρ (aK S Sn (az ops n listed)) w a→wpAny X.P .any ops.toArray Q (u+(ops.length - n)) listed a w:=by
 intro u
 induction u with
 | zero=>
  intro listed a w G ρ hsz hcl htl hcnt hM
  have hall:∀ i,i<n→listed.getD i true=true:=fun i hi=>by
   rw[ZM] at hcnt
   have:=hcnt i (by simpa using hi)
   simpa using this
  have hU:∀ t,az ops n listed t=false:=fun t=>by
   cases hu:az ops n listed t with
   | false=>rfl
   | true=>obtain⟨j,h1,h2,_⟩:=cD.1 hu;rw[hall j h1] at h2;cases h2
  have hMn:Mod C G ρ Sn w a:=by
   refine hM.equiv ?_ (fun k cs hk=> ?_) (fun k q hk=> ?_) (fun k q hk=> ?_)
   ·apply ZV
    intro t
    rw[dh,hU t]
    by_cases hlt:t<S.tmps.length
    ·have:t<Sn.tmps.length:=by rw[K.se];exact hlt
     simp[hlt,this]
    ·rw[abN hlt,Z5 (by rw[K.se];omega)]
   ·simp only[aK,bu,hU k,Zh,abM];exact hk
   ·simp only[aK,bu,hU k,Zh,abM];exact hk
   ·simp only[aK,bu,hU k,Zh,abM];exact hk
  have hmask:=Hs (n:=n) hsz K.n_le hall htl
  have hl:(ops.drop n).length=ops.length - n:=by simp
  have:=wpAny_of_seq (P:=X.P) (md:= .any) (ops:=ops.toArray) (Q':=Q) (ops.drop n) n listed a w (fun j=>by simp[Z3]) (by rw[hl,hmask];exact hseq) (htail G ρ w a hMn)
  rw[hl] at this
  rw[abm]
  exact this
 | succ u ih=>
  intro listed a w G ρ hsz hcl htl hcnt hM
  have hsome:∃ i,i<n∧listed.getD i true=false:=by
   have:0<(List.range n).countP (fun i=> !listed.getD i true):=by omega
   rw[ZN] at this
   obtain⟨i,h1,h2⟩:=this
   exact⟨i,by simpa using h1,by simpa using h2⟩
  rw[show u+1+(ops.length - n)=(u+(ops.length - n))+1 by omega]
  refine⟨fun hr=> ?_,fun i hi=> ?_⟩
  ·exfalso
   have hall:∀ i,i<n→listed.getD i true=true:=by
    intro i
    induction i using Nat.strongRecOn with
    | _ i ihi=>
     intro hin
     cases hl:listed.getD i true with
     | true=>rfl
     | false=>
      exfalso
      have hlt:i<ops.length:=aa9 hin K.n_le
      have hoi:ops[i]? =some ops[i]:=Z4 hlt
      have:i∈Region.ready .any ops.toArray listed:=by
       rw[mem_ready]
       refine⟨hl,ops[i],by simp,fun e he hb=> ?_⟩
       have hE:=K.edges
       simp only[jh,ZF] at hE
       have h7:=hE i (by simp;exact hlt)
       rw[hoi] at h7
       simp only[ZF] at h7
       have h8:=h7 e (by simpa using he)
       simp only[hb,Zo,Zj] at h8
       have h9:e.on<i:=aa9 (abd _) (aa5 h8)
       have h10:=ihi e.on h9 (by omega)
       rw[YZ] at h10 ⊢
       rw[Y0 (by omega)] at h10 ⊢
       simpa using h10
      rw[hr] at this
      cases this
   obtain⟨i,h1,h2⟩:=hsome
   rw[hall i h1] at h2;cases h2
  ·rw[mem_ready] at hi
   obtain⟨hun,o,hio,hed⟩:=hi
   have hoi:ops[i]? =some o:=by simpa using hio
   have hed':∀ e,e∈o.after.toList→Region.binds .any e=true→listed.getD e.on false=true:=fun e he hb=>hed e (by simpa using he) hb
   by_cases hin:i<n
   ·refine K.wpOp hin hoi hsz hcl hun hed' hM (fun G' ρ' w' a' hM'=>ih (listed.setIfInBounds i true) a' w' G' ρ' (by simpa using hsz) ?_ ?_ ?_ hM')
    ·intro j oj hj hlj e he hb
     by_cases eji:j=i
     ·subst eji
      rw[hoi] at hj
      cases hj
      have:=hed' e he hb
      by_cases e2:e.on=j
      ·rw[e2];exact bP (by rw[hsz];exact aa9 hin K.n_le)
      ·rw[aW e2];exact this
     ·rw[aW eji] at hlj
      have:=hcl j oj hj hlj e he hb
      by_cases e2:e.on=i
      ·rw[e2];exact bP (by rw[hsz];exact aa9 hin K.n_le)
      ·rw[aW e2];exact this
    ·intro k hk1 hk2
     rw[aW (by omega)]
     exact htl k hk1 hk2
    ·have:=uB (p:=fun j=> !listed.getD j true) (q:=fun j=> !(listed.setIfInBounds i true).getD j true) (i:=i) (l:=List.range n) List.nodup_range (by simpa using hin) (by simp[hun]) (fun j=>by
      by_cases e:j=i
      ·subst e;simp only[bP (listed:=listed) (b:=true) (by rw[hsz];exact aa9 hin K.n_le)];simp
      ·simp only[aW (listed:=listed) (b:=true) e];simp[e])
     omega
   ·exfalso
    have hlt:i<ops.length:=(Z6.1 hoi).1
    obtain⟨m,h1,h2⟩:=hsome
    have hd:=hwaits i (by omega) hlt m (by omega)
    have:=cR K.edges hcl i o hoi hed' m hd
    rw[h2] at this;cases this
theorem bQ.of (hn:n≤ops.length) (c2:CS ops (deps ops) n=true) (c4:jh ops=true) (h1:outs.length=(ops.take n).length)
 (h3:∀ i o x,(ops.take n)[i]? =some o→outs[i]? =some x→Bg X ops S o (states ((ops.take n).take i) S (outs.take i)) x) (hnew:xQ ops n S (states (ops.take n) S outs)=true):bQ X ops n S outs (states (ops.take n) S outs):=by
 have hlen:(ops.take n).length=n:=by simp;omega
 simp only[CS,Zd,Zm] at c2
 exact {
  n_le:=hn
  dupl:=c2.1
  head:=fun i o hin hi=>by
   have:=c2.2
   simp only[ZF] at this
   have h5:=this i (by simpa using hin)
   rw[hi] at h5
   simp only[Zd,ZF] at h5
   refine⟨h5.1,fun t ht j hj hdj=> ?_⟩
   have h6:=Kq (h5.2 t ht) (k:=j) (by
    obtain⟨o',ho',hd'⟩:=gF hdj
    rw[Z7,bX hj,ho',abu,hd'])
   rw[abm] at h6;exact h6
  edges:=c4
  len:=by rw[h1,hlen]
  sn:=rfl
  step:=fun i o x hin hi hx=>h3 i o x (by rw[bX hin];exact hi) hx
  new:=fun i d hin hd=>by
   simp only[xQ,Zd,ZF] at hnew
   obtain⟨o',ho',hd'⟩:=gF hd
   have h5:=hnew.1 o' (aaC (by rw[bX hin];exact ho'))
   rw[hd'] at h5
   simp only[Zm] at h5
   obtain⟨g1,g2,g3,g4⟩:=Ta h5
   refine⟨g1,g2,g3,g4,fun j dj hj hdj hij hnd=> ?_⟩
   have h6:=hnew.2 j (by simpa using hj)
   rw[hdj] at h6
   simp only[ZF] at h6
   rw[W0]
   cases hin':inL (Pm (states (ops.take n) S outs) dj) d with
   | false=>rfl
   | true=>
    have h7:=h6 d (Xx.1 hin') i (by simpa using hin)
    rw[hd] at h7
    simp only[Zq,Nat.beq_refl,Zo] at h7
    rcases h7 with h7 | h7 | h7
    ·exact absurd (aa3 h7) hij
    ·exact absurd (lI.1 h7) hnd
    ·cases h7 }
theorem AX {m:Nat} (c3:((List.range ops.length).all fun k=>Nat.blt k m||tU (deps ops) k)=true):∀ k,m≤k→k<ops.length→∀ j,j<k→j∈(deps ops).getD k m0:=fun k hm1 hm2 j hj=>by
 simp only[ZF] at c3
 have h5:=c3 k (by simpa using hm2)
 simp only[Zq] at h5
 rcases h5 with h5 | h5
 ·have:k<m:=aa9 (abd _) (aa5 h5)
  omega
 ·simp only[tU,ZF] at h5
  exact lI.1 (h5 j (by simpa using hj))
theorem qJ:qd ops (Array.replicate ops.toArray.size false):=by
 intro i o hi hl
 have hlt:=(Z6.1 hi).1
 rw[YZ,Y4,abO (by simpa using hlt)] at hl
 cases hl
theorem oz {m:Nat} (hm:m<ops.length) (b:Bool):(Array.replicate ops.toArray.size false).getD m b=false:=by
 rw[YZ,Y4,abO (by simpa using hm)]
 rfl
theorem sg {m:Nat} (hm:m≤ops.length):(List.range m).countP (fun i=> !(Array.replicate ops.toArray.size false).getD i true)=m:=by
 have:(List.range m).countP (fun i=> !(Array.replicate ops.toArray.size false).getD i true)=(List.range m).length:=by
  rw[List.countP_eq_length]
  intro i hi
  have hin:i<m:=by simpa using hi
  rw[oz (by omega)];rfl
 rw[this];simp
theorem ya (hn:n≤ops.length) {a:Act} (hM':Mod C G ρ S w a):Mod C G ρ (aK S (states (ops.take n) S outs) (az ops n (Array.replicate ops.toArray.size false))) w a:=by
 have hother:∀ t,az ops n (Array.replicate ops.toArray.size false) t=false→t∉dV (ops.take n):=fun t hu hm=>by
  simp only[dV,aaz] at hm
  obtain⟨p,hp,hpd⟩:=hm
  obtain⟨m,hm⟩:=aaA.1 hp
  have hmn:m<n:=by
   have:=(Z6.1 hm).1
   simp at this;omega
  rw[bX hmn] at hm
  have:=cD.2 ⟨m,hmn,oz (ops:=ops) (by omega) true,show bF ops m=some t by unfold bF;rw[hm];exact hpd⟩
  rw[hu] at this;cases this
 refine hM'.equiv ?_ (fun k cs hk=> ?_) (fun k q hk=> ?_) (fun k q hk=> ?_)
 ·apply ZV
  intro t
  rw[dh]
  by_cases hlt:t<S.tmps.length
  ·rw[abO hlt,Z4 hlt]
   congr 1
   cases hu:az ops n (Array.replicate ops.toArray.size false) t with
   | true=>simp[hlt]
   | false=>
    have:=(di (S:=S) (outs:=outs) (hother t hu)).1
    simp only[Zh,abM]
    rw[ZX,this,Z4 hlt];rfl
  ·rw[abN hlt,Z5 (by omega)]
 ·simp only[aK,bu] at hk
  split at hk
  ·cases hk
  ·rename_i hu
   rw[(di (hother k (by simpa using hu))).2.1] at hk;exact hk
 ·simp only[aK,bu] at hk
  split at hk
  ·cases hk
  ·rename_i hu
   rw[(di (hother k (by simpa using hu))).2.2.1] at hk;exact hk
 ·simp only[aK,bu] at hk
  split at hk
  ·cases hk
  ·rename_i hu
   rw[(di (hother k (by simpa using hu))).2.2.2] at hk;exact hk
end
end Go.Dn
namespace Go.Dn
variable {β:Type} {X:Cx} {C:Fr X.P} {G:Gh} {ρ:Env} {w:World}
theorem nI {S T:St} {fb:List Nat} (hr:S.rows=T.rows) (hb:S.boxes=T.boxes):∀ (t:Ty) (cs:List CV),ez S fb t cs=ez T fb t cs
 | .int _,_=>rfl
 | .bool,_=>rfl
 | .str,_=>rfl
 | .unit,_=>rfl
 | .pair a b,cs=>by
  simp only[ez]
  rw[nI hr hb a cs]
  cases ez T fb a cs with
  | none=>rfl
  | some p=>simp only[nI hr hb b]
 | .st t,cs=>nI hr hb t cs
 | .slice t,cs=>by
  simp only[ez]
  congr 1
  funext c
  cases c<;>simp only[K5,hr]
 | .ptr t,cs=>by
  simp only[ez]
  congr 1
  have e:ez S fb t=ez T fb t:=funext (nI hr hb t)
  rw[e]
  funext c
  cases c<;>simp only[MP,hb]
 | .clo g t,cs=>by
  simp only[ez]
  have e:ez S fb t=ez T fb t:=funext (nI hr hb t)
  rw[e]
 | .hnd,_=>rfl
def St.wt (S:St) (tm:List SV):St:={ S with tmps:=tm }
theorem Lj {o:Oper} {S:St} {k:St→Option β} {r:β} {t:TypeId} {ad x:Operand} (ho:o.op= .store t ad x) (h:cm X o S k=some r):
 ∃ S',k S'=some r∧S'.tmps=S.tmps∧∀ tm,(S.wt tm).ev ad=S.ev ad→(S.wt tm).ev x=S.ev x→cm X o (S.wt tm) some=some (S'.wt tm):=by
 obtain⟨dst,op,ty,pos,af,g⟩:=o
 simp only at ho
 subst ho
 simp only[cm] at h
 split at h
 ·cases h
 ·rename_i hdst
  split at h
  ·rename_i b off a' cs ha hx
   unfold qL at h
   split at h
   ·rename_i l hl
    split at h
    ·rename_i hc
     split at h
     ·rename_i l' hl'
      refine⟨_,h,rfl,fun tm e1 e2=> ?_⟩
      simp only[cm]
      rw[abN hdst,e1,e2,ha,hx]
      simp only
      unfold qL
      rw[show look (S.wt tm).boxes b=look S.boxes b from rfl,hl]
      simp only
      rw[abO hc,hl']
      rfl
     ·cases h
    ·cases h
   ·cases h
  ·rename_i j sz i off a' cs ha hx
   unfold wF at h
   split at h
   ·rename_i q hq
    split at h
    ·cases h
    ·rename_i hc
     cases hy:q.l[i]? with
     | none=>rw[hy] at h;cases h
     | some y=>
      rw[hy] at h
      simp only[abo] at h
      split at h
      ·rename_i cs' hcs
       split at h
       ·rename_i y' hy'
        refine⟨_,h,rfl,fun tm e1 e2=> ?_⟩
        simp only[cm]
        rw[abN hdst,e1,e2,ha,hx]
        simp only
        unfold wF
        rw[show look (aN (S.wt tm) (fF cs)).rows j=look (aN S (fF cs)).rows j from rfl,hq]
        simp only
        rw[abN hc,hy]
        simp only[abo,hcs]
        have e3:gx (pack (aN (S.wt tm) (fF cs)) q.t cs')=some y':=by
         rw[← hy'];unfold pack;rw[nI (S:=aN (S.wt tm) (fF cs)) (T:=aN S (fF cs)) rfl rfl]
        rw[e3]
        rfl
       ·cases h
      ·cases h
   ·cases h
  ·rename_i hh off a' cs ha hx
   unfold zG at h
   split at h
   ·rename_i ty' l hq
    split at h
    ·cases h
    ·rename_i hc
     cases hy:l[hh]? with
     | none=>rw[hy] at h;cases h
     | some y=>
      rw[hy] at h
      simp only[abo] at h
      split at h
      ·rename_i cs' hcs
       split at h
       ·rename_i y' hy'
        refine⟨_,h,rfl,fun tm e1 e2=> ?_⟩
        simp only[cm]
        rw[abN hdst,e1,e2,ha,hx]
        simp only
        unfold zG
        rw[show look (aN (S.wt tm) (fF cs)).objs bw=look (aN S (fF cs)).objs bw from rfl,hq]
        simp only
        rw[abN hc,hy]
        simp only[abo,hcs]
        have e3:gx (pack (aN (S.wt tm) (fF cs)) ty' cs')=some y':=by
         rw[← hy'];unfold pack;rw[nI (S:=aN (S.wt tm) (fF cs)) (T:=aN S (fF cs)) rfl rfl]
        rw[e3]
        rfl
       ·cases h
      ·cases h
   ·cases h
  ·cases h
section
variable {ops:List Oper} {m:Nat} {S Sn S':St} {listed:Array Bool} {outs:List (Option Del)} {os:Oper}
theorem bQ.Ti (K:bQ X ops m S outs Sn) {i d:Nat} {o:Oper} (him:i<m) (hi:ops[i]? =some o) (hb:ua o.op=true) (hg:o.guard=none) (hd:o.dst=some d):
 ∃ x:Del,outs[i]? =some (some x)∧cr X.P o (states ((ops.take m).take i) S (outs.take i)) jG x∧x.box=none∧x.row=none∧x.obj=none∧
  look Sn.boxes d=none∧look Sn.rows d=none∧look Sn.objs d=none:=by
 obtain⟨y,hy⟩:∃ y,outs[i]? =some y:=⟨outs[i]'(by rw[K.len];exact him),Z4 _⟩
 have hst:=K.step i o y him hi hy
 cases y with
 | none=>
  rcases hst with ⟨dg,b,want,hgd,_⟩ | hs
  ·simp only[guardOf,hg] at hgd
   cases hgd
  ·simp only[Dn.kY,hg] at hs
   cases hs
 | some x=>
  obtain⟨⟨_,h2⟩,_⟩:=hst
  obtain⟨h3,h4,h5,h6⟩:=h2.1 hb
  have hdA:bF ops i=some d:=by unfold bF;rw[hi];exact hd
  obtain⟨_,n3,n4,n5,_⟩:=K.new i d him hdA
  have hat:=qK (S:=S) (outs:=outs) (by rw[K.len,aaq,abf K.n_le]) K.dupl (i:=i) (o:=o) (x:=some x) (by rw[bX him];exact hi) hy hd
  rw[← K.sn] at hat
  refine⟨x,hy,h3,h4,h5,h6, ?_, ?_, ?_⟩
  ·rw[hat.2.1,n3];simp[uO,h4]
  ·rw[hat.2.2.1,n4];simp[uh,h5]
  ·rw[hat.2.2.2,n5];simp[x4,h6]
theorem bQ.NI (K:bQ X ops m S outs Sn) {i d:Nat} {o:Oper} {x:Option Del} (hin:i<m) (hi:ops[i]? =some o) (hd:o.dst=some d) (hx:outs[i]? =some x) (hsz:listed.size=ops.length) (hun:listed.getD i true=false):
 (aK S Sn (az ops m (listed.setIfInBounds i true))).tmps=(aK S Sn (az ops m listed)).tmps.set d (Pt x):=by
 have hdA:bF ops i=some d:=by unfold bF;rw[hi];exact hd
 have hU:=K.zq hin hdA hsz hun
 have hat:=qK (S:=S) (outs:=outs) (by rw[K.len,aaq,abf K.n_le]) K.dupl (i:=i) (o:=o) (x:=x) (by rw[bX hin];exact hi) hx hd
 rw[← K.sn] at hat
 apply ZV
 intro t
 rw[Z9,dh,dh,hU t]
 by_cases e:d=t
 ·subst e
  have hlen:(aK S Sn (az ops m listed)).tmps.length=S.tmps.length:=by simp[aK]
  rw[hlen]
  by_cases hlt:d<S.tmps.length
  ·simp only[hlt,abP,abz,Ze,Zh,abM]
   rw[ZX,hat.1 hlt];rfl
  ·simp[hlt]
 ·rw[abN e]
  have:(t != d)=true:=by simp only[bne_iff_ne,ne_eq];exact fun h=>e h.symm
  rw[this,Zf]
theorem Eu {i:Nat} (hi:m≤i) (t:Nat):az ops m (listed.setIfInBounds i true) t=az ops m listed t:=by
 rw[Zg,cD,cD]
 constructor
 ·rintro⟨j,h1,h2,h3⟩;rw[aW (by omega)] at h2;exact⟨j,h1,h2,h3⟩
 ·rintro⟨j,h1,h2,h3⟩;exact⟨j,h1,by rw[aW (by omega)];exact h2,h3⟩
def o9 {P0:Program} (C:Fr P0) (G:Gh) (ρ:Env) (ops:List Oper) (m:Nat) (S Sn S':St) (listed:Array Bool) (w:World) (a:Act):Prop:=
 if listed.getD m true=true then Mod C G ρ (S'.wt (aK S Sn (az ops m listed)).tmps) w a else Mod C G ρ (aK S Sn (az ops m listed)) w a
theorem bQ.late (K:bQ X ops m S outs Sn) (hm:m<ops.length) (hwaits:∀ k,m+1≤k→k<ops.length→∀ j,j<k→j∈(deps ops).getD k m0) (hos:ops[m]? =some os) (hog:os.guard=none)
 (hblind:∀ i,i<m→i∈(deps ops).getD m m0∨∃ p,ops[i]? =some p∧ua p.op=true∧p.guard=none)
 (hlk:∀ t,t∈os.looksAt ops.toArray→∀ j,j<m→bF ops j=some t→j∈(deps ops).getD m m0)
 (hS':S'.tmps=Sn.tmps∧∀ tm,(∀ x,x∈os.op.operands→(Sn.wt tm).ev x=Sn.ev x)→dJ X.P os (Sn.wt tm) (S'.wt tm))
 {Q:Exit→Act→World→Prop} (hseq:Region.seqB .any ops.toArray (ops.length - (m+1)) (m+1) (mask (m+1) ops.length)=true)
 (htail:∀ G ρ w a,Mod C G ρ S' w a→wpList X.P ops.toArray Q (ops.drop (m+1)) a w):∀ (u:Nat) (listed:Array Bool) (a:Act) (w:World) (G:Gh) (ρ:Env),listed.size=ops.length→qd ops listed→
 (∀ k,m+1≤k→k<ops.length→listed.getD k true=false)→(List.range (m+1)).countP (fun i=> !listed.getD i true)=u→o9 C G ρ ops m S Sn S' listed w a→wpAny X.P .any ops.toArray Q (u+(ops.length - (m+1))) listed a w:=by
 intro u
 induction u with
 | zero=>
  intro listed a w G ρ hsz hcl htl hcnt hM
  have hall:∀ i,i<m+1→listed.getD i true=true:=fun i hi=>by
   rw[ZM] at hcnt
   have:=hcnt i (by simpa using hi)
   simpa using this
  have hU:∀ t,az ops m listed t=false:=fun t=>by
   cases hu:az ops m listed t with
   | false=>rfl
   | true=>obtain⟨j,h1,h2,_⟩:=cD.1 hu;rw[hall j (by omega)] at h2;cases h2
  have hMn:Mod C G ρ S' w a:=by
   unfold o9 at hM
   rw[abO (hall m (by omega))] at hM
   refine hM.equiv ?_ (fun k cs hk=>hk) (fun k q hk=>hk) (fun k q hk=>hk)
   show (aK S Sn (az ops m listed)).tmps=S'.tmps
   rw[hS'.1]
   apply ZV
   intro t
   rw[dh,hU t]
   by_cases hlt:t<S.tmps.length
   ·have:t<Sn.tmps.length:=by rw[K.se];exact hlt
    simp[hlt,this]
   ·rw[abN hlt,Z5 (by rw[K.se];omega)]
  have hmask:=Hs (n:=m+1) hsz (by omega) hall htl
  have hl:(ops.drop (m+1)).length=ops.length - (m+1):=by simp
  have:=wpAny_of_seq (P:=X.P) (md:= .any) (ops:=ops.toArray) (Q':=Q) (ops.drop (m+1)) (m+1) listed a w (fun j=>by simp[Z3]) (by rw[hl,hmask];exact hseq) (htail G ρ w a hMn)
  rw[hl] at this
  rw[abm]
  exact this
 | succ u ih=>
  intro listed a w G ρ hsz hcl htl hcnt hM
  have hsome:∃ i,i<m+1∧listed.getD i true=false:=by
   have:0<(List.range (m+1)).countP (fun i=> !listed.getD i true):=by omega
   rw[ZN] at this
   obtain⟨i,h1,h2⟩:=this
   exact⟨i,by simpa using h1,by simpa using h2⟩
  rw[show u+1+(ops.length - (m+1))=(u+(ops.length - (m+1)))+1 by omega]
  refine⟨fun hr=> ?_,fun i hi=> ?_⟩
  ·exfalso
   have hall:∀ i,i<m+1→listed.getD i true=true:=by
    intro i
    induction i using Nat.strongRecOn with
    | _ i ihi=>
     intro hin
     cases hl:listed.getD i true with
     | true=>rfl
     | false=>
      exfalso
      have hlt:i<ops.length:=by omega
      have hoi:ops[i]? =some ops[i]:=Z4 hlt
      have:i∈Region.ready .any ops.toArray listed:=by
       rw[mem_ready]
       refine⟨hl,ops[i],by simp,fun e he hb=> ?_⟩
       have hE:=K.edges
       simp only[jh,ZF] at hE
       have h7:=hE i (by simp;exact hlt)
       rw[hoi] at h7
       simp only[ZF] at h7
       have h8:=h7 e (by simpa using he)
       simp only[hb,Zo,Zj] at h8
       have h9:e.on<i:=aa9 (abd _) (aa5 h8)
       have h10:=ihi e.on h9 (by omega)
       rw[YZ] at h10 ⊢
       rw[Y0 (by omega)] at h10 ⊢
       simpa using h10
      rw[hr] at this
      cases this
   obtain⟨i,h1,h2⟩:=hsome
   rw[hall i h1] at h2;cases h2
  ·rw[mem_ready] at hi
   obtain⟨hun,o,hio,hed⟩:=hi
   have hoi:ops[i]? =some o:=by simpa using hio
   have hed':∀ e,e∈o.after.toList→Region.binds .any e=true→listed.getD e.on false=true:=fun e he hb=>hed e (by simpa using he) hb
   have hlt:i<ops.length:=(Z6.1 hoi).1
   by_cases hin:i<m+1
   ·-- what the next round asks for
    have cl':qd ops (listed.setIfInBounds i true):=by
     intro j oj hj hlj e he hb
     by_cases eji:j=i
     ·subst eji
      rw[hoi] at hj
      cases hj
      have:=hed' e he hb
      by_cases e2:e.on=j
      ·rw[e2];exact bP (by omega)
      ·rw[aW e2];exact this
     ·rw[aW eji] at hlj
      have:=hcl j oj hj hlj e he hb
      by_cases e2:e.on=i
      ·rw[e2];exact bP (by omega)
      ·rw[aW e2];exact this
    have tl':∀ k,m+1≤k→k<ops.length→(listed.setIfInBounds i true).getD k true=false:=fun k hk1 hk2=>by
     rw[aW (by omega)];exact htl k hk1 hk2
    have cnt':(List.range (m+1)).countP (fun j=> !(listed.setIfInBounds i true).getD j true)=u:=by
     have:=uB (p:=fun j=> !listed.getD j true) (q:=fun j=> !(listed.setIfInBounds i true).getD j true) (i:=i) (l:=List.range (m+1)) List.nodup_range (by simpa using hin) (by simp[hun]) (fun j=>by
      by_cases e:j=i
      ·subst e;simp only[bP (listed:=listed) (b:=true) (by omega:j<listed.size)];simp
      ·simp only[aW (listed:=listed) (b:=true) e];simp[e])
     omega
    have go:∀ G' ρ' w' a',o9 C G' ρ' ops m S Sn S' (listed.setIfInBounds i true) w' a'→wpAny X.P .any ops.toArray Q (u+(ops.length - (m+1))) (listed.setIfInBounds i true) a' w':=
     fun G' ρ' w' a' hM'=>ih (listed.setIfInBounds i true) a' w' G' ρ' (by simpa using hsz) cl' tl' cnt' hM'
    by_cases him:i<m
    ·have hmi:(listed.setIfInBounds i true).getD m true=listed.getD m true:=aW (by omega)
     cases hlm:listed.getD m true with
     | false=>
      unfold o9 at hM
      rw[hlm,abN (by simp)] at hM
      refine K.wpOp him hoi hsz hcl hun hed' hM (fun G' ρ' w' a' hM'=>go G' ρ' w' a' ?_)
      unfold o9
      rw[hmi,hlm,abN (by simp)]
      exact hM'
     | true=>
      unfold o9 at hM
      rw[hlm,abO rfl] at hM
      have hnd:i∉(deps ops).getD m m0:=fun hmem=>by
       have:=cR K.edges hcl m os hos (fun e h1 h2=>hcl m os hos hlm e h1 h2) i hmem
       rw[hun] at this;cases this
      obtain⟨p,hp,hb,hg⟩:=(hblind i him).resolve_left hnd
      rw[hoi] at hp
      cases hp
      obtain⟨hds,_⟩:=K.head i o him hoi
      obtain⟨d,hd⟩:=abr.1 hds
      obtain⟨x,hx,hL,hx1,hx2,hx3,_⟩:=K.Ti him hoi hb hg hd
      have hdeps:=cR K.edges hcl i o hoi hed'
      have hev:=K.evs him hoi hdeps
      unfold Go.wpOp
      rw[hio]
      simp only
      have hwt:Region.wanted o (yielded ops.toArray a.tmps)=true:=fV (g:=none) hM.tmps (by simp[guardOf,hg])
      rw[abO hwt]
      left
      have hnear:Fk o (states ((ops.take m).take i) S (outs.take i)) jG (S'.wt (aK S Sn (az ops m listed)).tmps):=
       ⟨fun y hy=>by
         rw[← hev y hy]
         cases y<;>rfl,fun k cs hk=>(by cases hk),fun k cs hk=>(by cases hk),fun k cs hk=>(by cases hk)⟩
      have hwp:=hL C G ρ _ w a Q hM hnear (fun d' _ h=>by rw[hx1] at h;cases h) (fun d' _ h=>by rw[hx2] at h;cases h) (fun d' _ h=>by rw[hx3] at h;cases h)
      refine Oper.wp_mono (fun a' w' h=> ?_) hwp
      obtain⟨G',ρ',hM'⟩:=h
      refine go G' ρ' w' a' ?_
      unfold o9
      rw[hmi,hlm,abO rfl,K.NI him hoi hd hx hsz hun]
      have e:x=⟨x.sv,none,none,none⟩:=by cases x;simp only at hx1 hx2 hx3;subst hx1;subst hx2;subst hx3;rfl
      rw[hd,e] at hM'
      exact hM'
    ·have eim:i=m:=by omega
     subst eim
     rw[hos] at hoi
     cases hoi
     have hdeps:=cR K.edges hcl i os hos hed'
     unfold o9 at hM
     rw[hun,abN (by simp)] at hM
     have hunb:∀ t,az ops i listed t=true→look Sn.boxes t=none∧look Sn.rows t=none∧look Sn.objs t=none:=fun t hu=>by
      obtain⟨j,h1,h2,h3⟩:=cD.1 hu
      obtain⟨oj,h4,h5⟩:=gF h3
      have hnd:j∉(deps ops).getD i m0:=fun hmem=>by
       have:=hdeps j hmem
       rw[h2] at this;cases this
      obtain⟨p,hp,hb,hg⟩:=(hblind j h1).resolve_left hnd
      rw[h4] at hp
      cases hp
      obtain⟨x,_,_,_,_,_,h6⟩:=K.Ti h1 h4 hb hg h5
      exact h6
     have hM2:Mod C G ρ (Sn.wt (aK S Sn (az ops i listed)).tmps) w a:=by
      refine hM.equiv rfl (fun k cs hk=> ?_) (fun k q hk=> ?_) (fun k q hk=> ?_)
      ·simp only[aK,bu]
       cases hu:az ops i listed k with
       | true=>rw[show look (Sn.wt (aK S Sn (az ops i listed)).tmps).boxes k=look Sn.boxes k from rfl,(hunb k hu).1] at hk;cases hk
       | false=>exact hk
      ·simp only[aK,bu]
       cases hu:az ops i listed k with
       | true=>rw[show look (Sn.wt (aK S Sn (az ops i listed)).tmps).rows k=look Sn.rows k from rfl,(hunb k hu).2.1] at hk;cases hk
       | false=>exact hk
      ·simp only[aK,bu]
       cases hu:az ops i listed k with
       | true=>rw[show look (Sn.wt (aK S Sn (az ops i listed)).tmps).objs k=look Sn.objs k from rfl,(hunb k hu).2.2] at hk;cases hk
       | false=>exact hk
     have hev:∀ x,x∈os.op.operands→(Sn.wt (aK S Sn (az ops i listed)).tmps).ev x=Sn.ev x:=fun x hx=>by
      cases x with
      | tmp t=>
       show (aK S Sn (az ops i listed)).tmps.getD t (.v false [.any])=Sn.tmps.getD t (.v false [.any])
       have hu:az ops i listed t=false:=by
        cases hu:az ops i listed t with
        | false=>rfl
        | true=>
         obtain⟨j,h1,h2,h3⟩:=cD.1 hu
         have:=hdeps j (hlk t (by
          simp only[Oper.looksAt,aau,aaz]
          exact .inl ⟨.tmp t,by simpa using hx,rfl⟩) j h1 h3)
         rw[h2] at this;cases this
       rw[ZX,dh]
       by_cases hlt:t<S.tmps.length
       ·simp[hlt,hu]
       ·rw[abN hlt]
        have:Sn.tmps[t]? =none:=Z5 (by rw[K.se];exact Nat.le_of_not_lt hlt)
        rw[ZX,this]
      | const v=>rfl
      | global g=>rfl
      | func f=>rfl
     unfold Go.wpOp
     rw[hio]
     simp only
     have hwt:Region.wanted os (yielded ops.toArray a.tmps)=true:=fV (g:=none) hM2.tmps (by simp[guardOf,hog])
     rw[abO hwt]
     left
     have hwp:=hS'.2 _ hev C G ρ w a Q hM2
     refine Oper.wp_mono (fun a' w' h=> ?_) hwp
     obtain⟨G',ρ',hM'⟩:=h
     refine go G' ρ' w' a' ?_
     unfold o9
     rw[abO (bP (by omega))]
     have e:az ops i (listed.setIfInBounds i true)=az ops i listed:=funext (Eu (aa7 i))
     rw[e]
     exact hM'
   ·exfalso
    obtain⟨j,h1,h2⟩:=hsome
    have hd:=hwaits i (by omega) hlt j (by omega)
    have:=cR K.edges hcl i o hoi hed' j hd
    rw[h2] at this;cases this
end
end Go.Dn
namespace Go.Dn
variable {β:Type} {X:Cx} {C:Fr X.P} {G:Gh} {ρ:Env} {w:World}
theorem Wc {o:Oper} {S:St} {k:St→Option β} {r:β} {t:TypeId} {ad x:Operand} {b off:Nat} (ho:o.op= .store t ad x) (hr:S.ev ad= .v false [.ref b off]) (h:cm X o S k=some r):
 ∃ S',k S'=some r∧S'.tmps=S.tmps∧S'.rows=S.rows∧S'.objs=S.objs∧
  ∀ tm rw ob,(⟨tm,S.boxes,rw,ob⟩:St).ev ad=S.ev ad→(⟨tm,S.boxes,rw,ob⟩:St).ev x=S.ev x→cm X o ⟨tm,S.boxes,rw,ob⟩ some=some ⟨tm,S'.boxes,rw,ob⟩:=by
 obtain⟨dst,op,ty,pos,af,g⟩:=o
 simp only at ho
 subst ho
 simp only[cm,hr] at h
 split at h
 ·cases h
 ·rename_i hdst
  split at h
  ·rename_i b' off' a' cs ha hx
   cases ha
   unfold qL at h
   split at h
   ·rename_i l hl
    split at h
    ·rename_i hc
     split at h
     ·rename_i l' hl'
      refine⟨_,h,rfl,rfl,rfl,fun tm rw ob e1 e2=> ?_⟩
      simp only[cm]
      rw[abN hdst,e1,e2,hr,hx]
      simp only
      unfold qL
      rw[show look (⟨tm,S.boxes,rw,ob⟩:St).boxes b=look S.boxes b from rfl,hl]
      simp only
      rw[abO hc,hl']
     ·cases h
    ·cases h
   ·cases h
  ·rename_i ha hx;cases ha
  ·rename_i ha hx;cases ha
  ·cases h
section
variable {ops:List Oper} {m:Nat} {S Sn S':St} {listed:Array Bool} {outs:List (Option Del)} {os:Oper}
theorem bQ.QY (K:bQ X ops m S outs Sn) {i d:Nat} {o:Oper} (him:i<m) (hi:ops[i]? =some o) (hb:(ua o.op||qq o.op)=true) (hg:o.guard=none) (hd:o.dst=some d):
 ∃ x:Del,outs[i]? =some (some x)∧cr X.P o (states ((ops.take m).take i) S (outs.take i)) jG x∧x.box=none∧x.obj=none∧(x.row.isSome=true→qq o.op=true)∧
  look Sn.boxes d=none∧look Sn.rows d=x.row∧look Sn.objs d=none:=by
 obtain⟨y,hy⟩:∃ y,outs[i]? =some y:=⟨outs[i]'(by rw[K.len];exact him),Z4 _⟩
 have hst:=K.step i o y him hi hy
 cases y with
 | none=>
  rcases hst with ⟨dg,b,want,hgd,_⟩ | hs
  ·simp only[guardOf,hg] at hgd
   cases hgd
  ·simp only[Dn.kY,hg] at hs
   cases hs
 | some x=>
  obtain⟨⟨_,h2⟩,_⟩:=hst
  have h3:cr X.P o (states ((ops.take m).take i) S (outs.take i)) jG x∧x.box=none∧x.obj=none∧(x.row.isSome=true→qq o.op=true):=by
   cases hk:qq o.op with
   | true=>exact⟨(h2.make hk).1,(h2.make hk).2.1,(h2.make hk).2.2,fun _=>rfl⟩
   | false=>
    rw[hk,Bool.or_false] at hb
    obtain⟨g1,g2,g3,g4⟩:=h2.blind hb
    exact⟨g1,g2,g4,fun h=>by rw[g3] at h;cases h⟩
  obtain⟨h3,h4,h6,h7⟩:=h3
  have hdA:bF ops i=some d:=by unfold bF;rw[hi];exact hd
  obtain⟨_,n3,n4,n5,_⟩:=K.new i d him hdA
  have hat:=qK (S:=S) (outs:=outs) (by rw[K.len,aaq,abf K.n_le]) K.dupl (i:=i) (o:=o) (x:=some x) (by rw[bX him];exact hi) hy hd
  rw[← K.sn] at hat
  refine⟨x,hy,h3,h4,h6,h7, ?_, ?_, ?_⟩
  ·rw[hat.2.1,n3];simp[uO,h4]
  ·rw[hat.2.2.1,n4];simp[uh]
  ·rw[hat.2.2.2,n5];simp[x4,h6]
def mkM (R S':St):St:=⟨R.tmps,S'.boxes,R.rows,R.objs⟩
def mu {P0:Program} (C:Fr P0) (G:Gh) (ρ:Env) (ops:List Oper) (m:Nat) (S Sn S':St) (listed:Array Bool) (w:World) (a:Act):Prop:=
 if listed.getD m true=true then Mod C G ρ (mkM (aK S Sn (az ops m listed)) S') w a else Mod C G ρ (aK S Sn (az ops m listed)) w a
theorem bQ.YB (K:bQ X ops m S outs Sn) (hm:m<ops.length) (hwaits:∀ k,m+1≤k→k<ops.length→∀ j,j<k→j∈(deps ops).getD k m0) (hos:ops[m]? =some os) (hog:os.guard=none)
 (hblind:∀ i,i<m→i∈(deps ops).getD m m0∨∃ p,ops[i]? =some p∧(ua p.op||qq p.op)=true∧p.guard=none)
 (hlk:∀ t,t∈os.looksAt ops.toArray→∀ j,j<m→bF ops j=some t→j∈(deps ops).getD m m0)
 (hS':S'.tmps=Sn.tmps∧S'.rows=Sn.rows∧S'.objs=Sn.objs∧∀ tm rw ob,(∀ x,x∈os.op.operands→(⟨tm,Sn.boxes,rw,ob⟩:St).ev x=Sn.ev x)→dJ X.P os ⟨tm,Sn.boxes,rw,ob⟩ ⟨tm,S'.boxes,rw,ob⟩)
 (hfr:∀ i d p,i<m→i∉(deps ops).getD m m0→ops[i]? =some p→qq p.op=true→p.dst=some d→(S'.boxes.any fun q=>q.2.any (CV.aY d))=false)
 {Q:Exit→Act→World→Prop} (hseq:Region.seqB .any ops.toArray (ops.length - (m+1)) (m+1) (mask (m+1) ops.length)=true)
 (htail:∀ G ρ w a,Mod C G ρ S' w a→wpList X.P ops.toArray Q (ops.drop (m+1)) a w):∀ (u:Nat) (listed:Array Bool) (a:Act) (w:World) (G:Gh) (ρ:Env),listed.size=ops.length→qd ops listed→
 (∀ k,m+1≤k→k<ops.length→listed.getD k true=false)→(List.range (m+1)).countP (fun i=> !listed.getD i true)=u→mu C G ρ ops m S Sn S' listed w a→wpAny X.P .any ops.toArray Q (u+(ops.length - (m+1))) listed a w:=by
 intro u
 induction u with
 | zero=>
  intro listed a w G ρ hsz hcl htl hcnt hM
  have hall:∀ i,i<m+1→listed.getD i true=true:=fun i hi=>by
   rw[ZM] at hcnt
   have:=hcnt i (by simpa using hi)
   simpa using this
  have hU:∀ t,az ops m listed t=false:=fun t=>by
   cases hu:az ops m listed t with
   | false=>rfl
   | true=>obtain⟨j,h1,h2,_⟩:=cD.1 hu;rw[hall j (by omega)] at h2;cases h2
  have hMn:Mod C G ρ S' w a:=by
   unfold mu at hM
   rw[abO (hall m (by omega))] at hM
   refine hM.equiv ?_ (fun k cs hk=>hk) (fun k q hk=> ?_) (fun k q hk=> ?_)
   ·show (aK S Sn (az ops m listed)).tmps=S'.tmps
    rw[hS'.1]
    apply ZV
    intro t
    rw[dh,hU t]
    by_cases hlt:t<S.tmps.length
    ·have:t<Sn.tmps.length:=by rw[K.se];exact hlt
     simp[hlt,this]
    ·rw[abN hlt,Z5 (by rw[K.se];omega)]
   ·show look (aK S Sn (az ops m listed)).rows k=some q
    rw[hS'.2.1] at hk
    simp only[aK,bu,hU k]
    simpa using hk
   ·show look (aK S Sn (az ops m listed)).objs k=some q
    rw[hS'.2.2.1] at hk
    simp only[aK,bu,hU k]
    simpa using hk
  have hmask:=Hs (n:=m+1) hsz (by omega) hall htl
  have hl:(ops.drop (m+1)).length=ops.length - (m+1):=by simp
  have:=wpAny_of_seq (P:=X.P) (md:= .any) (ops:=ops.toArray) (Q':=Q) (ops.drop (m+1)) (m+1) listed a w (fun j=>by simp[Z3]) (by rw[hl,hmask];exact hseq) (htail G ρ w a hMn)
  rw[hl] at this
  rw[abm]
  exact this
 | succ u ih=>
  intro listed a w G ρ hsz hcl htl hcnt hM
  have hsome:∃ i,i<m+1∧listed.getD i true=false:=by
   have:0<(List.range (m+1)).countP (fun i=> !listed.getD i true):=by omega
   rw[ZN] at this
   obtain⟨i,h1,h2⟩:=this
   exact⟨i,by simpa using h1,by simpa using h2⟩
  rw[show u+1+(ops.length - (m+1))=(u+(ops.length - (m+1)))+1 by omega]
  refine⟨fun hr=> ?_,fun i hi=> ?_⟩
  ·exfalso
   have hall:∀ i,i<m+1→listed.getD i true=true:=by
    intro i
    induction i using Nat.strongRecOn with
    | _ i ihi=>
     intro hin
     cases hl:listed.getD i true with
     | true=>rfl
     | false=>
      exfalso
      have hlt:i<ops.length:=by omega
      have hoi:ops[i]? =some ops[i]:=Z4 hlt
      have:i∈Region.ready .any ops.toArray listed:=by
       rw[mem_ready]
       refine⟨hl,ops[i],by simp,fun e he hb=> ?_⟩
       have hE:=K.edges
       simp only[jh,ZF] at hE
       have h7:=hE i (by simp;exact hlt)
       rw[hoi] at h7
       simp only[ZF] at h7
       have h8:=h7 e (by simpa using he)
       simp only[hb,Zo,Zj] at h8
       have h9:e.on<i:=aa9 (abd _) (aa5 h8)
       have h10:=ihi e.on h9 (by omega)
       rw[YZ] at h10 ⊢
       rw[Y0 (by omega)] at h10 ⊢
       simpa using h10
      rw[hr] at this
      cases this
   obtain⟨i,h1,h2⟩:=hsome
   rw[hall i h1] at h2;cases h2
  ·rw[mem_ready] at hi
   obtain⟨hun,o,hio,hed⟩:=hi
   have hoi:ops[i]? =some o:=by simpa using hio
   have hed':∀ e,e∈o.after.toList→Region.binds .any e=true→listed.getD e.on false=true:=fun e he hb=>hed e (by simpa using he) hb
   have hlt:i<ops.length:=(Z6.1 hoi).1
   by_cases hin:i<m+1
   ·have cl':qd ops (listed.setIfInBounds i true):=by
     intro j oj hj hlj e he hb
     by_cases eji:j=i
     ·subst eji
      rw[hoi] at hj
      cases hj
      have:=hed' e he hb
      by_cases e2:e.on=j
      ·rw[e2];exact bP (by omega)
      ·rw[aW e2];exact this
     ·rw[aW eji] at hlj
      have:=hcl j oj hj hlj e he hb
      by_cases e2:e.on=i
      ·rw[e2];exact bP (by omega)
      ·rw[aW e2];exact this
    have tl':∀ k,m+1≤k→k<ops.length→(listed.setIfInBounds i true).getD k true=false:=fun k hk1 hk2=>by
     rw[aW (by omega)];exact htl k hk1 hk2
    have cnt':(List.range (m+1)).countP (fun j=> !(listed.setIfInBounds i true).getD j true)=u:=by
     have:=uB (p:=fun j=> !listed.getD j true) (q:=fun j=> !(listed.setIfInBounds i true).getD j true) (i:=i) (l:=List.range (m+1)) List.nodup_range (by simpa using hin) (by simp[hun]) (fun j=>by
      by_cases e:j=i
      ·subst e;simp only[bP (listed:=listed) (b:=true) (by omega:j<listed.size)];simp
      ·simp only[aW (listed:=listed) (b:=true) e];simp[e])
     omega
    have go:∀ G' ρ' w' a',mu C G' ρ' ops m S Sn S' (listed.setIfInBounds i true) w' a'→wpAny X.P .any ops.toArray Q (u+(ops.length - (m+1))) (listed.setIfInBounds i true) a' w':=
     fun G' ρ' w' a' hM'=>ih (listed.setIfInBounds i true) a' w' G' ρ' (by simpa using hsz) cl' tl' cnt' hM'
    by_cases him:i<m
    ·have hmi:(listed.setIfInBounds i true).getD m true=listed.getD m true:=aW (by omega)
     cases hlm:listed.getD m true with
     | false=>
      unfold mu at hM
      rw[hlm,abN (by simp)] at hM
      refine K.wpOp him hoi hsz hcl hun hed' hM (fun G' ρ' w' a' hM'=>go G' ρ' w' a' ?_)
      unfold mu
      rw[hmi,hlm,abN (by simp)]
      exact hM'
     | true=>
      unfold mu at hM
      rw[hlm,abO rfl] at hM
      have hnd:i∉(deps ops).getD m m0:=fun hmem=>by
       have:=cR K.edges hcl m os hos (fun e h1 h2=>hcl m os hos hlm e h1 h2) i hmem
       rw[hun] at this;cases this
      obtain⟨p,hp,hb,hg⟩:=(hblind i him).resolve_left hnd
      rw[hoi] at hp
      cases hp
      obtain⟨hds,_⟩:=K.head i o him hoi
      obtain⟨d,hd⟩:=abr.1 hds
      obtain⟨x,hx,hL,hx1,hx3,hx2,hy1,hy2,hy3⟩:=K.QY him hoi hb hg hd
      have hdA:bF ops i=some d:=by unfold bF;rw[hoi];exact hd
      have hdeps:=cR K.edges hcl i o hoi hed'
      have hev:=K.evs him hoi hdeps
      have hfresh:=K.fresh hcl him hdA hun
      have hU:=K.zq him hdA hsz hun
      unfold Go.wpOp
      rw[hio]
      simp only
      have hwt:Region.wanted o (yielded ops.toArray a.tmps)=true:=fV (g:=none) hM.tmps (by simp[guardOf,hg])
      rw[abO hwt]
      left
      have hnear:Fk o (states ((ops.take m).take i) S (outs.take i)) jG (mkM (aK S Sn (az ops m listed)) S'):=
       ⟨fun y hy=>by
         rw[← hev y hy]
         cases y<;>rfl,fun k cs hk=>(by cases hk),fun k cs hk=>(by cases hk),fun k cs hk=>(by cases hk)⟩
      have hwp:=hL C G ρ _ w a Q hM hnear (fun d' _ h=>by rw[hx1] at h;cases h) (fun d' hd' h=>by
       rw[hd] at hd';cases hd'
       have h1:=(z7 hfresh).2.1
       simp only[St.aY,Zp] at h1 ⊢
       exact⟨h1.1,hfr i d o him hnd hoi (hx2 h) hd⟩) (fun d' _ h=>by rw[hx3] at h;cases h)
      refine Oper.wp_mono (fun a' w' h=> ?_) hwp
      obtain⟨G',ρ',hM'⟩:=h
      refine go G' ρ' w' a' ?_
      unfold mu
      rw[hmi,hlm,abO rfl]
      have e:x=⟨x.sv,none,x.row,none⟩:=by cases x;simp only at hx1 hx3;subst hx1;subst hx3;rfl
      rw[hd,e] at hM'
      refine hM'.equiv ?_ (fun k cs hk=>hk) (fun k q hk=> ?_) (fun k q hk=> ?_)
      ·show (aK S Sn (az ops m listed)).tmps.set d x.sv=(aK S Sn (az ops m (listed.setIfInBounds i true))).tmps
       rw[K.NI him hoi hd hx hsz hun];rfl
      ·replace hk:look (aK S Sn (az ops m (listed.setIfInBounds i true))).rows k=some q:=hk
       simp only[aK,bu,hU k] at hk
       show look (match x.row with | some r=>(d,r)::(aK S Sn (az ops m listed)).rows | none=>(aK S Sn (az ops m listed)).rows) k=some q
       by_cases ek:k=d
       ·subst ek
        simp only[abz,Ze,Zh,abM] at hk
        rw[hy2] at hk
        rw[hk]
        simp only[av,abP]
       ·have hbne:(k != d)=true:=by simpa using ek
        rw[hbne,Zf] at hk
        have h2:look (aK S Sn (az ops m listed)).rows k=some q:=by
         simp only[aK,bu];exact hk
        cases x.row with
        | none=>exact h2
        | some r=>
         simp only[av]
         rw[abN (fun e=>ek e.symm)];exact h2
      ·replace hk:look (aK S Sn (az ops m (listed.setIfInBounds i true))).objs k=some q:=hk
       simp only[aK,bu,hU k] at hk
       show look (aK S Sn (az ops m listed)).objs k=some q
       simp only[aK,bu]
       by_cases ek:k=d
       ·subst ek
        simp only[abz,Ze,Zh,abM] at hk
        rw[hy3] at hk;cases hk
       ·have hbne:(k != d)=true:=by simpa using ek
        rw[hbne,Zf] at hk
        exact hk
    ·have eim:i=m:=by omega
     subst eim
     rw[hos] at hoi
     cases hoi
     have hdeps:=cR K.edges hcl i os hos hed'
     unfold mu at hM
     rw[hun,abN (by simp)] at hM
     have hunb:∀ t,az ops i listed t=true→look Sn.boxes t=none:=fun t hu=>by
      obtain⟨j,h1,h2,h3⟩:=cD.1 hu
      obtain⟨oj,h4,h5⟩:=gF h3
      have hnd:j∉(deps ops).getD i m0:=fun hmem=>by
       have:=hdeps j hmem
       rw[h2] at this;cases this
      obtain⟨p,hp,hb,hg⟩:=(hblind j h1).resolve_left hnd
      rw[h4] at hp
      cases hp
      obtain⟨x,_,_,_,_,_,h6,_⟩:=K.QY h1 h4 hb hg h5
      exact h6
     have hM2:Mod C G ρ ⟨(aK S Sn (az ops i listed)).tmps,Sn.boxes,(aK S Sn (az ops i listed)).rows,(aK S Sn (az ops i listed)).objs⟩ w a:=by
      refine hM.equiv rfl (fun k cs hk=> ?_) (fun k q hk=>hk) (fun k q hk=>hk)
      simp only[aK,bu]
      cases hu:az ops i listed k with
      | true=>rw[show look (⟨(aK S Sn (az ops i listed)).tmps,Sn.boxes,(aK S Sn (az ops i listed)).rows,(aK S Sn (az ops i listed)).objs⟩:St).boxes k=look Sn.boxes k from rfl,hunb k hu] at hk;cases hk
      | false=>exact hk
     have hev:∀ x,x∈os.op.operands→(⟨(aK S Sn (az ops i listed)).tmps,Sn.boxes,(aK S Sn (az ops i listed)).rows,(aK S Sn (az ops i listed)).objs⟩:St).ev x=Sn.ev x:=fun x hx=>by
      cases x with
      | tmp t=>
       show (aK S Sn (az ops i listed)).tmps.getD t (.v false [.any])=Sn.tmps.getD t (.v false [.any])
       have hu:az ops i listed t=false:=by
        cases hu:az ops i listed t with
        | false=>rfl
        | true=>
         obtain⟨j,h1,h2,h3⟩:=cD.1 hu
         have:=hdeps j (hlk t (by
          simp only[Oper.looksAt,aau,aaz]
          exact .inl ⟨.tmp t,by simpa using hx,rfl⟩) j h1 h3)
         rw[h2] at this;cases this
       rw[ZX,dh]
       by_cases hlt:t<S.tmps.length
       ·simp[hlt,hu]
       ·rw[abN hlt]
        have:Sn.tmps[t]? =none:=Z5 (by rw[K.se];exact Nat.le_of_not_lt hlt)
        rw[ZX,this]
      | const v=>rfl
      | global g=>rfl
      | func f=>rfl
     unfold Go.wpOp
     rw[hio]
     simp only
     have hwt:Region.wanted os (yielded ops.toArray a.tmps)=true:=fV (g:=none) hM2.tmps (by simp[guardOf,hog])
     rw[abO hwt]
     left
     have hwp:=hS'.2.2.2 _ _ _ hev C G ρ w a Q hM2
     refine Oper.wp_mono (fun a' w' h=> ?_) hwp
     obtain⟨G',ρ',hM'⟩:=h
     refine go G' ρ' w' a' ?_
     unfold mu
     rw[abO (bP (by omega))]
     have e:az ops i (listed.setIfInBounds i true)=az ops i listed:=funext (Eu (aa7 i))
     rw[e]
     exact hM'
   ·exfalso
    obtain⟨j,h1,h2⟩:=hsome
    have hd:=hwaits i (by omega) hlt j (by omega)
    have:=cR K.edges hcl i o hoi hed' j hd
    rw[h2] at this;cases this
end
end Go.Dn
namespace Go.Dn
variable {β:Type} {X:Cx} {C:Fr X.P} {G:Gh} {ρ:Env} {w:World}
theorem cr.more {P:Program} {o:Oper} {S M N:St} {x:Del} (h:cr P o S M x) (hb:∀ k cs,look M.boxes k=some cs→look N.boxes k=some cs) (hr:∀ k q,look M.rows k=some q→look N.rows k=some q) (ho:∀ k q,look M.objs k=some q→look N.objs k=some q):cr P o S N x:=
 fun C G ρ S1 w a Q hM hN h1 h2 h3=>h C G ρ S1 w a Q hM ⟨hN.ops,fun k cs hk=>hN.boxes k cs (hb k cs hk),fun k cs hk=>hN.rows k cs (hr k cs hk),fun k cs hk=>hN.objs k cs (ho k cs hk)⟩ h1 h2 h3
theorem xd (t:Touch) (M:St):(∀ k cs,look (cF t M).boxes k=some cs→kP t k=true∧look M.boxes k=some cs)∧(∀ k q,look (cF t M).rows k=some q→t.rt=false∧look M.rows k=some q)∧(∀ k q,look (cF t M).objs k=some q→t.rt=false∧look M.objs k=some q):=by
 refine⟨fun k cs hk=> ?_,fun k q hk=> ?_,fun k q hk=> ?_⟩
 ·simp only[cF] at hk
  rw[ni (fun i=>kP t i)] at hk
  split at hk
  ·rename_i h;exact⟨h,hk⟩
  ·cases hk
 ·simp only[cF] at hk
  cases ht:t.rt with
  | true=>rw[ht] at hk;cases hk
  | false=>rw[ht] at hk;exact⟨rfl,hk⟩
 ·simp only[cF] at hk
  cases ht:t.rt with
  | true=>rw[ht] at hk;cases hk
  | false=>rw[ht] at hk;exact⟨rfl,hk⟩
theorem cr.Tm {P:Program} {o:Oper} {S M:St} {x:Del} {t:Touch} (h:cr P o S (cF t M) x):cr P o S M x:=
 h.more (fun k cs hk=>((xd t M).1 k cs hk).2) (fun k q hk=>((xd t M).2.1 k q hk).2) (fun k q hk=>((xd t M).2.2 k q hk).2)
theorem x7 {x:Del} (h:lY x=true):x.box=none∧x.row=none∧x.obj=none:=by
 simpa [lY] using h
theorem wj (hX:bT X) {ops:List Oper} {M:St} {tf:Nat→Touch} {dm:Msk}:∀ {l:List Oper} {c:Nat} {S:St} {k:St→Option β} {r:β},gh X ops M (fun i=>cF (tf i) M) dm c l S k=some r→
 ∃ outs:List (Option Del),outs.length=l.length∧k (states l S outs)=some r∧∀ i o x,l[i]? =some o→outs[i]? =some x→Bg X ops M o (states (l.take i) S (outs.take i)) x∧
  (inM dm (c+i)=false→∀ y,x=some y→cr X.P o (states (l.take i) S (outs.take i)) (cF (tf (c+i)) M) y∧lY y=true)
 | [],c,S,k,r,h=>⟨[],rfl,h,fun i o x hi=>by simp at hi⟩
 | o::l,c,S,k,r,h=>by
  have cons:∀ (x:Option Del),Bg X ops M o S x→(inM dm c=false→∀ y,x=some y→cr X.P o S (cF (tf c) M) y∧lY y=true)→gh X ops M (fun i=>cF (tf i) M) dm (c+1) l (S.out o x) k=some r→
   ∃ outs:List (Option Del),outs.length=(o::l).length∧k (states (o::l) S outs)=some r∧∀ i o' x,(o::l)[i]? =some o'→outs[i]? =some x→Bg X ops M o' (states ((o::l).take i) S (outs.take i)) x∧
    (inM dm (c+i)=false→∀ y,x=some y→cr X.P o' (states ((o::l).take i) S (outs.take i)) (cF (tf (c+i)) M) y∧lY y=true):=by
   intro x hx hx2 hr
   obtain⟨outs,h1,h2,h3⟩:=wj hX hr
   refine⟨x::outs,by simp[h1],h2,fun i o' y hi hy=> ?_⟩
   cases i with
   | zero=>
    simp only[Z2,Option.some.injEq] at hi hy
    subst hi;subst hy
    exact⟨hx,hx2⟩
   | succ i=>
    simp only[Z1] at hi hy
    have:=h3 i o' y hi hy
    rw[show c+(i+1)=c+1+i by omega]
    exact this
  simp only[gh] at h
  split at h
  ·rename_i hg
   cases hs:kY ops o S with
   | false=>rw[hs] at h;cases h
   | true=>rw[hs] at h;exact cons none (.inr hs) (fun _ y e=>by cases e) h
  ·rename_i hg
   cases hm:inM dm c with
   | true=>
    rw[hm,abB] at h
    obtain⟨x,h1,h2⟩:=pg hX h
    exact cons (some x) ⟨h2,.inl hg⟩ (fun e=>by rw[hm] at e;cases e) h1
   | false=>
    rw[hm,abA] at h
    obtain⟨x,h1,h2⟩:=pg hX h
    cases hp:lY x with
    | false=>rw[hp] at h1;cases h1
    | true=>
     rw[hp,abB] at h1
     exact cons (some x) ⟨⟨h2.1.Tm,h2.2⟩,.inl hg⟩ (fun _ y e=>by cases e;exact⟨h2.1,hp⟩) h1
  ·rename_i d b want hg
   rcases Hl (Vl (Qz hg)) h with ⟨hb,h⟩ | ⟨hb,h⟩
   ·cases hm:inM dm c with
    | true=>
     rw[hm,abB] at h
     obtain⟨x,h1,h2⟩:=pg hX h
     exact cons (some x) ⟨h2,.inr ⟨d,b,want,hg,hb⟩⟩ (fun e=>by rw[hm] at e;cases e) h1
    | false=>
     rw[hm,abA] at h
     obtain⟨x,h1,h2⟩:=pg hX h
     cases hp:lY x with
     | false=>rw[hp] at h1;cases h1
     | true=>
      rw[hp,abB] at h1
      exact cons (some x) ⟨⟨h2.1.Tm,h2.2⟩,.inr ⟨d,b,want,hg,hb⟩⟩ (fun _ y e=>by cases e;exact⟨h2.1,hp⟩) h1
   ·exact cons none (.inl ⟨d,b,want,hg,hb⟩) (fun _ y e=>by cases e) h
def Rest (t:Touch) (T T':St):Prop:=(t.rt=false→T'.rows=T.rows∧T'.objs=T.objs)∧∀ k,kP t k=true→look T'.boxes k=look T.boxes k
theorem UL {o:Oper} {S S':St} {t:TypeId} {ad x:Operand} {row:Touch} (ho:o.op= .store t ad x) (ha:Lv row (S.ev ad)=true) (h:cm X o S some=some S'):Rest row S S':=by
 obtain⟨dst,op,ty,pos,af,g⟩:=o
 simp only at ho
 subst ho
 simp only[cm] at h
 split at h
 ·cases h
 ·split at h
  ·rename_i b off a' cs ha' hx
   rw[ha'] at ha
   have hrow:kP row b=false:=by simpa [Lv] using ha
   unfold qL at h
   split at h
   ·split at h
    ·split at h
     ·cases h
      refine⟨fun _=>⟨rfl,rfl⟩,fun k hk=> ?_⟩
      simp only[av]
      rw[abN]
      intro e
      subst e
      rw[hrow] at hk;cases hk
     ·cases h
    ·cases h
   ·cases h
  ·rename_i j sz i off a' cs ha' hx
   rw[ha'] at ha
   have hrow:row.rt=true:=by simpa [Lv] using ha
   unfold wF at h
   split at h
   ·split at h
    ·cases h
    ·obtain⟨y,_,h⟩:=bind_some h
     split at h
     ·split at h
      ·cases h;exact⟨fun e=>(by rw[hrow] at e;cases e),fun _ _=>rfl⟩
      ·cases h
     ·cases h
   ·cases h
  ·rename_i hh off a' cs ha' hx
   rw[ha'] at ha
   have hrow:row.rt=true:=by simpa [Lv] using ha
   unfold zG at h
   split at h
   ·split at h
    ·cases h
    ·obtain⟨y,_,h⟩:=bind_some h
     split at h
     ·split at h
      ·cases h;exact⟨fun e=>(by rw[hrow] at e;cases e),fun _ _=>rfl⟩
      ·cases h
     ·cases h
   ·cases h
  ·cases h
def Jv (tm:List SV):Option Nat→SV→List SV
 | none,_=>tm
 | some d,s=>tm.set d s
def Pj (hs:List Nat) (s:SV):Prop:=∀ d,inL hs d=false→s.aY d=false∧s.bz d=false∧s.bg d=false
structure Fl (P:Program) (row:Touch) (hs:List Nat) (o:Oper) (T:St) (sv:SV) (T':St):Prop where
 tmps:T'.tmps=Jv T.tmps o.dst sv
 rest:Rest row T T'
 sound:∀ tm,(∀ x,x∈o.op.operands→(T.wt tm).ev x=T.ev x)→(∀ s,s∈tm→s∈T.tmps∨Pj hs s)→dJ P o (T.wt tm) (T'.wt (Jv tm o.dst sv))
theorem RJ {o:Oper} {S:St} {k:St→Option β} {r:β} {args:Array Operand} {argTypes:Array TypeId} (ho:o.op= .call { callee:= .builtin .append,args,argTypes }) (h:cm X o S k=some r):
 ∃ d S',o.dst=some d∧k S'=some r∧S'.tmps=S.tmps.set d (.v false [.row d])∧S'.boxes=S.boxes∧S.aY d=false∧
  ∀ tm,(∀ x,x∈o.op.operands→(S.wt tm).ev x=S.ev x)→(S.wt tm).aY d=false→cm X o (S.wt tm) some=some (S'.wt (tm.set d (.v false [.row d]))):=by
 obtain⟨dst,op,ty0,pos,af,g⟩:=o
 simp only at ho
 subst ho
 simp only[cm] at h
 split at h
 ·rename_i s x t t' d he hty
  split at h
  ·rename_i e ht
   split at h
   ·rename_i ty zc htyo hzc
    split at h
    ·cases h
    ·rename_i hc
     split at h
     ·rename_i l j l' hsrc hnew
      obtain⟨hchk,h⟩:=fU h
      have hc':=hc
      simp only[Zq,abS,Zl,Zk] at hc'
      refine⟨d,_,rfl,h,rfl,rfl,hc'.1.1.1.1.1,fun tm hev hfr=> ?_⟩
      have hmap:args.toList.map (S.wt tm).ev=args.toList.map S.ev:=aas fun y hy=>hev y (by simpa [Op.operands,Call.operands] using hy)
      simp only[cm]
      rw[hmap,he,hty]
      simp only
      rw[ht]
      simp only
      rw[htyo,hzc]
      simp only
      rw[abN (by
       simp only[Zq,abS,Zl,Zk]
       exact⟨⟨⟨⟨⟨hfr,hc'.1.1.1.1.2⟩,hc'.1.1.1.2⟩,hc'.1.1.2⟩,hc'.1.2⟩,hc'.2⟩)]
      rw[show JV (S.wt tm) e ty s=JV S e ty s from rfl,show Fy (S.wt tm) ty x=Fy S ty x from rfl,hsrc,hnew]
      simp only
      rw[hchk]
      rfl
     ·cases h
   ·cases h
  ·cases h
 ·cases h
theorem Wh {T:St} {tm:List SV} {hs:List Nat} {d:Nat} (h:T.aY d=false) (hd:inL hs d=false) (htm:∀ s,s∈tm→s∈T.tmps∨Pj hs s):(T.wt tm).aY d=false:=by
 simp only[St.aY,Zp,ZH] at h ⊢
 refine⟨fun s hs'=> ?_,h.2⟩
 rcases htm s hs' with h1 | h1
 ·exact h.1 s h1
 ·simp[(h1 d hd).1]
theorem QM {op:Op} (h:tw op=true):∃ args argTypes,op= .call { callee:= .builtin .append,args,argTypes }:=by
 unfold tw at h
 split at h
 ·exact⟨_,_,rfl⟩
 ·cases h
theorem Qc {S:St} {tm:List SV}:∀ l:List Nat,J8 (S.wt tm) l=J8 S l
 | []=>rfl
 | k::r=>by
  simp only[J8]
  rw[Qc r]
  rfl
theorem FE {S:St} {tm:List SV}:∀ l:List Nat,uc (S.wt tm) l=uc S l
 | []=>rfl
 | k::r=>by
  simp only[uc]
  rw[FE r]
  rfl
theorem Q1 {S:St} {tm:List SV} (l:List SV):gJ (S.wt tm) l=gJ S l:=by
 unfold gJ
 rw[Qc]
theorem WI {S:St} {tm:List SV} (l:List SV):dX (S.wt tm) l=dX S l:=by
 unfold dX
 rw[Q1,FE]
theorem D7 {S T:St} {fb:List Nat} (hr:T.rows=S.rows) (hb:T.boxes=S.boxes):∀ {ps:List PM} {l:List SV},iK ps=true→gy T fb ps l=gy S fb ps l
 | [],[],_=>rfl
 | [],_::_,_=>rfl
 | .val t::r,l,h=>by
  simp only[gy,uk]
  have e:∀ s,iB T fb t s=iB S fb t s:=fun s=>by
   have hp:∀ (t:Ty) (cs:List CV),ez T fb t cs=ez S fb t cs:=nI hr hb
   unfold iB
   simp only[hp]
  simp only[e]
  rw[D7 (ps:=r) hr hb (by simpa [iK] using h)]
 | .row e t::r,l,h=>by
  simp only[gy,uk]
  have e:∀ c,gM T e t c=gM S e t c:=fun c=>by
   unfold gM
   rw[hr]
  simp only[e]
  rw[D7 (ps:=r) hr hb (by simpa [iK] using h)]
 | .mrow _ _::_,_,h=>by cases h
 | .map _ _::_,_,h=>by cases h
 | .box _::_,_,h=>by cases h
 | .ar _::_,_,h=>by cases h
 | .arR _::_,_,h=>by cases h
theorem D5 {S T:St}:∀ {ps:List PM} {i:Nat} {l:List SV},iK ps=true→dY T i ps l=dY S i ps l
 | [],_,_,_=>rfl
 | .val t::r,i,l,h=>by
  simp only[dY,iE]
  rw[D5 (ps:=r) (S:=S) (by simpa [iK] using h)]
 | .row e t::r,i,l,h=>by
  simp only[dY,iE]
  rw[D5 (ps:=r) (S:=S) (by simpa [iK] using h)]
 | .mrow _ _::_,_,_,h=>by cases h
 | .map _ _::_,_,_,h=>by cases h
 | .box _::_,_,_,h=>by cases h
 | .ar _::_,_,_,h=>by cases h
 | .arR _::_,_,_,h=>by cases h
theorem yM {l l':List (aZ×Nat)} {x:aZ} (h:bE l x=none) (h':bE l' x=none):bE (l++l') x=none:=by
 induction l with
 | nil=>exact h'
 | cons p r ih=>
  obtain⟨o,n⟩:=p
  simp only[bE,ZL] at h ⊢
  cases hb:aZ.beq o x with
  | true=>rw[hb] at h;cases h
  | false=>rw[hb] at h;exact ih h
theorem VV {n k:Nat} {c:CV}:bE (lV n c) (.inl k)=none:=by
 cases c<;>rfl
theorem D4 {S:St} {k:Nat}:∀ {ps:List PM} {i:Nat} {l:List SV},iK ps=true→bE (dY S i ps l) (.inl k)=none
 | [],_,_,_=>rfl
 | .val t::r,i,l,h=>by
  simp only[dY,iE]
  refine yM ?_ (D4 (by simpa [iK] using h))
  split<;>rfl
 | .row e t::r,i,l,h=>by
  simp only[dY,iE]
  refine yM ?_ (D4 (by simpa [iK] using h))
  split
  ·split
   ·exact VV
   ·rfl
  ·rfl
 | .mrow _ _::_,_,_,h=>by cases h
 | .map _ _::_,_,_,h=>by cases h
 | .box _::_,_,_,h=>by cases h
 | .ar _::_,_,_,h=>by cases h
 | .arR _::_,_,_,h=>by cases h
theorem FB {d:Nat}:∀ {ps:List PM} {i:Nat} {l:List SV},iK ps=true→bR d i ps l=[]
 | [],_,_,_=>rfl
 | .val t::r,i,s::l,h=>by simp only[bR];exact FB (by simpa [iK] using h)
 | .val t::r,i,[],h=>rfl
 | .row e t::r,i,s::l,h=>by simp only[bR];exact FB (by simpa [iK] using h)
 | .row e t::r,i,[],h=>rfl
 | .mrow _ _::_,_,_,h=>by cases h
 | .map _ _::_,_,_,h=>by cases h
 | .box _::_,_,_,h=>by cases h
 | .ar _::_,_,_,h=>by cases h
 | .arR _::_,_,_,h=>by cases h
theorem BO {d:Nat}:∀ {ps:List PM} {i:Nat} {l:List SV} {x:dQ ps},iK ps=true→cV d i ps l x=[]
 | [],_,_,_,_=>rfl
 | .val t::r,i,s::l,x,h=>by simp only[cV];exact BO (by simpa [iK] using h)
 | .val t::r,i,[],x,h=>rfl
 | .row e t::r,i,s::l,x,h=>by simp only[cV];exact BO (by simpa [iK] using h)
 | .row e t::r,i,[],x,h=>rfl
 | .mrow _ _::_,_,_,_,h=>by cases h
 | .map _ _::_,_,_,_,h=>by cases h
 | .box _::_,_,_,_,h=>by cases h
 | .ar _::_,_,_,_,h=>by cases h
 | .arR _::_,_,_,_,h=>by cases h
theorem Io {S:St} {ps:List PM} {i:Nat} {l:List SV} (h:iK ps=true):∀ b:List (Nat×List CV),(b.filter fun p=>(bE (dY S i ps l) (.inl p.1)).isNone)=b
 | []=>rfl
 | p::r=>by
  rw[List.filter_cons,D4 h,Io h r]
  rfl
theorem PR {sp:ax} {S:St} {args:List SV} {d:Nat} {k:St→Option β} {r:β} (h1:iK sp.ps=true) (h2:Uj sp.rs=true) (h:mX sp S args (some d) k=some r):
 ∃ S',k S'=some r∧S'.tmps=S.tmps.set d (.v false [.row (nid d 24 0)])∧S'.boxes=S.boxes∧S.ig (nid d 0 0) (nid (d+1) 0 0)=false∧
  ∀ tm,(S.wt tm).ig (nid d 0 0) (nid (d+1) 0 0)=false→mX sp (S.wt tm) args (some d) some=some (S'.wt (tm.set d (.v false [.row (nid d 24 0)]))):=by
 obtain⟨ps,rs,m⟩:=sp
 simp only at h1 h2
 match rs,m,h2,h with
 | [.row e t],m,_,h=>
  unfold mX at h
  simp only[abp] at h
  split at h
  ·cases h
  ·rename_i hc
   have hc':=hc
   simp only[Zq,abS,Zl] at hc'
   obtain⟨⟨⟨⟨⟨⟨⟨⟨⟨⟨⟨⟨c1,c2⟩,c3⟩,c4⟩,c5⟩,c6⟩,c7⟩,c8⟩,c9⟩,c10⟩,c11⟩,c12⟩,c13⟩:=hc'
   split at h
   ·rename_i x hx
    obtain⟨y,hy,h⟩:=bind_some h
    have hfr:S.ig (nid d 0 0) (nid (d+1) 0 0)=false:=by simpa [z6] using c8
    refine⟨_,h,rfl, ?_,hfr,fun tm htm=> ?_⟩
    ·show oN ps d [RM.row e t] 0 y++(cV d 0 ps args _++S.boxes.filter _)=S.boxes
     rw[BO h1,Io h1]
     rfl
    ·unfold mX
     simp only[abp]
     rw[WI,Q1,D5 (T:=S.wt tm) (S:=S) h1]
     rw[abN (by
      simp only[Zq,abS,Zl]
      refine⟨⟨⟨⟨⟨⟨⟨⟨⟨⟨⟨⟨c1,c2⟩,c3⟩,c4⟩,c5⟩,c6⟩,c7⟩, ?_⟩,c9⟩, ?_⟩,c11⟩, ?_⟩,c13⟩
      ·simpa [z6] using htm
      ·rw[FB h1];rfl
      ·rfl)]
     rw[show gy (aN (S.wt tm) (dX S (gW ps args))) (gJ S (gW ps args)) ps args=gy (aN S (dX S (gW ps args))) (gJ S (gW ps args)) ps args from D7 (T:=aN (S.wt tm) (dX S (gW ps args))) (S:=aN S (dX S (gW ps args))) rfl rfl h1]
     rw[hx]
     simp only
     rw[hy]
     simp only[abo]
     congr 1
     cases hfl:(gV [RM.row e t]&&gj ps)<;>rfl
   ·cases h
theorem WL {op:Op} (h:CT X op=true):∃ g sp args argTypes,op= .call { callee:= .value (.func g),args,argTypes }∧look X.keys g=none∧q7 X.specs g=[sp]∧iK sp.ps=true∧Uj sp.rs=true:=by
 unfold CT at h
 split at h
 ·rename_i c
  split at h
  ·rename_i g hg
   split at h
   ·rename_i hk
    split at h
    ·rename_i sp hsp
     simp only[Zd] at h
     obtain⟨callee,args,argTypes⟩:=c
     simp only at hg
     subst hg
     exact⟨g,sp,args,argTypes,rfl,hk,hsp,h.1,h.2.2⟩
    ·cases h
   ·cases h
  ·cases h
 ·cases h
theorem VL {o:Oper} {S:St} {k:St→Option β} {r:β} {d:Nat} (hop:CT X o.op=true) (hd:o.dst=some d) (h:cm X o S k=some r):
 ∃ S',k S'=some r∧S'.tmps=S.tmps.set d (.v false [.row (nid d 24 0)])∧S'.boxes=S.boxes∧S.ig (nid d 0 0) (nid (d+1) 0 0)=false∧
  ∀ tm,(∀ x,x∈o.op.operands→(S.wt tm).ev x=S.ev x)→(S.wt tm).ig (nid d 0 0) (nid (d+1) 0 0)=false→cm X o (S.wt tm) some=some (S'.wt (tm.set d (.v false [.row (nid d 24 0)]))):=by
 obtain⟨g,sp,args,argTypes,hop,hk,hsp,h1,h2⟩:=WL hop
 obtain⟨dst,op,ty0,pos,af,gd⟩:=o
 simp only at hop hd
 subst hop;subst hd
 have hcal:∀ T:St,cT T { callee:= .value (.func g),args,argTypes }=some (g,args.toList.map T.ev++[]):=fun T=>rfl
 simp only[cm] at h
 rw[hcal] at h
 simp only at h
 rw[hk] at h
 simp only at h
 rw[hsp] at h
 simp only[vH] at h
 obtain⟨S',a1,a2,a3,a4,a5⟩:=PR h1 h2 h
 refine⟨S',a1,a2,a3,a4,fun tm hev hfr=> ?_⟩
 have hmap:args.toList.map (S.wt tm).ev=args.toList.map S.ev:=aas fun y hy=>hev y (by simp[Op.operands,Call.operands];exact .inr (by simpa using hy))
 simp only[cm]
 rw[hcal]
 simp only
 rw[hk]
 simp only
 rw[hsp]
 simp only[vH]
 rw[hmap]
 exact a5 tm hfr
theorem Wx {a b:Nat} {s:SV} (h:∀ j,a≤j→j<b→s.aY j=false∧s.bz j=false∧s.bg j=false):s.ig a b=false:=by
 have key:∀ (j:Nat),(Nat.ble a j&&Nat.blt j b)=true→a≤j∧j<b:=fun j hj=>by
  simp only[Zd] at hj
  exact⟨aa5 hj.1,aa9 (abd _) (aa5 hj.2)⟩
 have cv:∀ c:CV,c.ig a b=true→∃ j,a≤j∧j<b∧(c.aY j=true∨c.bz j=true∨c.bg j=true):=fun c hc=>by
  cases c<;>simp only[CV.ig] at hc<;>first
   | cases hc
   | (obtain⟨h1,h2⟩:=key _ hc
      refine⟨_,h1,h2, ?_⟩
      simp[CV.aY,CV.bz,CV.bg])
 cases hb:s.ig a b with
 | false=>rfl
 | true=>
  exfalso
  cases s with
  | v g cs=>
   simp only[SV.ig,ZI] at hb
   obtain⟨c,hc,hi⟩:=hb
   obtain⟨j,h1,h2,h3⟩:=cv c hi
   have h4:=h j h1 h2
   simp only[SV.aY,SV.bz,SV.bg,ZH] at h4
   rcases h3 with h3 | h3 | h3
   ·exact h4.1 c hc h3
   ·exact h4.2.1 c hc h3
   ·exact h4.2.2 c hc h3
  | tup l=>
   simp only[SV.ig,ZI] at hb
   obtain⟨p,hp,c,hc,hi⟩:=hb
   obtain⟨j,h1,h2,h3⟩:=cv c hi
   have h4:=h j h1 h2
   simp only[SV.aY,SV.bz,SV.bg,ZH,ZI,abR,abQ] at h4
   rcases h3 with h3 | h3 | h3
   ·exact h4.1 p hp c hc h3
   ·exact h4.2.1 p hp c hc h3
   ·exact h4.2.2 p hp c hc h3
theorem X0 {T:St} {tm:List SV} {hs:List Nat} {d:Nat} (h:T.ig (nid d 0 0) (nid (d+1) 0 0)=false) (hd:Ho hs d=true) (htm:∀ s,s∈tm→s∈T.tmps∨Pj hs s):(T.wt tm).ig (nid d 0 0) (nid (d+1) 0 0)=false:=by
 simp only[St.ig,Zp,ZH] at h ⊢
 refine⟨fun s hs'=> ?_,h.2⟩
 rcases htm s hs' with h1 | h1
 ·exact h.1 s h1
 ·rw[Wx fun j hj1 hj2=>h1 j (by
   cases hb:inL hs j with
   | false=>rfl
   | true=>
    exfalso
    simp only[inL,ZI] at hb
    obtain⟨q,hq,hqj⟩:=hb
    simp only[Ho,ZF] at hd
    have this:j=q:=aa3 hqj
    subst this
    have h2:=hd j hq
    have e1:Nat.ble (nid d 0 0) j=true:=Nat.ble_eq_true_of_le hj1
    have e2:Nat.blt j (nid (d+1) 0 0)=true:=by simpa using hj2
    rw[e1,e2] at h2
    cases h2)]
  simp
theorem C9 (hX:bT X) {ops:List Oper} {S0:St} {hs:List Nat}:∀ {l:List Oper} {S:St} {k:St→Option β} {r:β},qF X ops S0 hs l S k=some r→
 ∃ (T:Nat→St) (sv:Nat→SV),T 0=S∧k (T l.length)=some r∧∀ i o,l[i]? =some o→Fl X.P (cG (isApp X) ops S0 [o]) hs o (T i) (sv i) (T (i+1))
 | [],S,k,r,h=>⟨fun _=>S,fun _=>oA,rfl,h,fun i o hi=>by simp at hi⟩
 | o::l,S,k,r,h=>by
  have cons:∀ (s:SV) (S':St),Fl X.P (cG (isApp X) ops S0 [o]) hs o S s S'→qF X ops S0 hs l S' k=some r→∃ (T:Nat→St) (sv:Nat→SV),T 0=S∧k (T (o::l).length)=some r∧∀ i o',(o::l)[i]? =some o'→Fl X.P (cG (isApp X) ops S0 [o']) hs o' (T i) (sv i) (T (i+1)):=by
   intro s S' hs hr
   obtain⟨T,sv,h1,h2,h3⟩:=C9 hX hr
   refine⟨fun i=>match i with | 0=>S | i+1=>T i,fun i=>match i with | 0=>s | i+1=>sv i,rfl,h2,fun i o' hi=> ?_⟩
   cases i with
   | zero=>
    simp only[Z2,Option.some.injEq] at hi
    subst hi
    show Fl X.P (cG (isApp X) ops S0 [o]) _ o S s (T 0)
    rw[h1];exact hs
   | succ i=>exact h3 i o' (by simpa using hi)
  simp only[qF] at h
  split at h
  ·rename_i ad had
   have hst:∃ t x,o.op= .store t ad x:=by
    revert had
    unfold TP
    split
    ·rename_i t a x e;intro h';cases h';exact⟨_,_,e⟩
    ·intro h';cases h'
   obtain⟨t,x,hop⟩:=hst
   cases ha:Lv (cG (isApp X) ops S0 [o]) (S.ev ad) with
   | false=>rw[ha] at h;cases h
   | true=>
    rw[ha,abB] at h
    obtain⟨S',h4,h5,h6⟩:=Lj hop h
    have hself:=h6 S.tmps rfl rfl
    have hdst:o.dst=none:=by
     have h7:cm X o S some=some (S'.wt S.tmps):=hself
     cases hd:o.dst with
     | none=>rfl
     | some d=>
      obtain⟨dst,op,ty,pos,af,g⟩:=o
      simp only at hop hd
      subst hop;subst hd
      simp[cm] at h7
    have e:S'.wt S.tmps=S':=by rw[← h5];rfl
    refine cons oA S' ⟨?_, ?_,fun tm hev _=> ?_⟩ h4
    ·rw[hdst,h5];rfl
    ·rw[e] at hself
     exact UL hop ha hself
    ·have hs:=h6 tm (hev ad (by simp[hop,Op.operands])) (hev x (by simp[hop,Op.operands]))
     obtain⟨S2,e2,hs2⟩:=wk hX hs
     cases e2
     rw[hdst]
     exact hs2
  ·cases hap:tw o.op with
   | true=>
    rw[hap,abB] at h
    obtain⟨args,argTypes,hop⟩:=QM hap
    cases hd0:o.dst with
    | none=>rw[hd0] at h;simp at h
    | some d0=>
     rw[hd0] at h
     simp only at h
     cases hc:((cG (isApp X) ops S0 [o]).rt&& !inL hs d0) with
     | false=>rw[hc] at h;cases h
     | true=>
      rw[hc,abB] at h
      obtain⟨d,S',hd,h4,h5,h6,h7,h8⟩:=RJ hop h
      rw[hd0] at hd
      cases hd
      simp only[Zd,Zm] at hc
      refine cons (.v false [.row d0]) S' ⟨?_, ?_,fun tm hev hfr=> ?_⟩ h4
      ·rw[hd0,h5];rfl
      ·exact⟨fun e=>(by rw[hc.1] at e;cases e),fun k _=>by rw[h6]⟩
      ·have hs':=h8 tm hev (Wh h7 hc.2 hfr)
       obtain⟨S2,e2,hs2⟩:=wk hX hs'
       cases e2
       rw[hd0]
       exact hs2
   | false=>
    rw[hap,abA] at h
    cases hmc:CT X o.op with
    | true=>
     rw[hmc,abB] at h
     cases hd0:o.dst with
     | none=>rw[hd0] at h;simp at h
     | some d0=>
      rw[hd0] at h
      simp only at h
      cases hc:((cG (isApp X) ops S0 [o]).rt&&Ho hs d0) with
      | false=>rw[hc] at h;cases h
      | true=>
       rw[hc,abB] at h
       obtain⟨S',h4,h5,h6,h7,h8⟩:=VL hmc hd0 h
       simp only[Zd] at hc
       refine cons (.v false [.row (nid d0 24 0)]) S' ⟨?_, ?_,fun tm hev hfr=> ?_⟩ h4
       ·rw[hd0,h5];rfl
       ·exact⟨fun e=>(by rw[hc.1] at e;cases e),fun k _=>by rw[h6]⟩
       ·have hs':=h8 tm hev (X0 h7 hc.2 hfr)
        obtain⟨S2,e2,hs2⟩:=wk hX hs'
        cases e2
        rw[hd0]
        exact hs2
    | false=>
    rw[hmc,abA] at h
    obtain⟨x,h1,h2,_⟩:=nW hX h
    cases hp:lY x with
    | false=>rw[hp] at h1;cases h1
    | true=>
     rw[hp,abB] at h1
     obtain⟨p1,p2,p3⟩:=x7 hp
     have e:x=⟨x.sv,none,none,none⟩:=by cases x;simp only at p1 p2 p3;subst p1;subst p2;subst p3;rfl
     have happ:∀ T:St,T.app o.dst x=T.wt (Jv T.tmps o.dst x.sv):=fun T=>by
      rw[e];cases o.dst<;>rfl
     refine cons x.sv (S.app o.dst x) ⟨?_, ?_,fun tm hev _=> ?_⟩ h1
     ·rw[happ];rfl
     ·rw[happ];exact⟨fun _=>⟨rfl,rfl⟩,fun _ _=>rfl⟩
     ·intro C G ρ w a Q hM
      have:=h2 C G ρ (S.wt tm) w a Q hM ⟨hev,fun _ _ h=>h,fun _ _ h=>h,fun _ _ h=>h⟩ (fun d' _ h=>by rw[p1] at h;cases h) (fun d' _ h=>by rw[p2] at h;cases h) (fun d' _ h=>by rw[p3] at h;cases h)
      rw[happ] at this ⊢
      exact this
theorem Il {t i:Nat} {m:Msk} {ds:List Msk}:∀ {l:List (Option Nat)} {c:Nat},CP t i m ds l c=true→∀ {k:Nat},l[k]? =some (some t)→c+k∈m∨i∈ds.getD (c+k) m0
 | [],_,_,_,h=>by simp at h
 | d::r,c,h,0,hk=>by
  simp only[CP,Zd] at h
  have:d=some t:=by simpa using hk
  subst this
  have h1:=h.1
  simp only[Nat.beq_refl,Zo,Zj,Zq] at h1
  exact h1.imp lI.1 lI.1
 | d::r,c,h,k+1,hk=>by
  simp only[CP,Zd] at h
  have:=Il h.2 (k:=k) (by simpa using hk)
  rw[show c+(k+1)=c+1+k by omega]
  exact this
section
variable {ops:List Oper} {m n:Nat} {S Sn:St} {listed:Array Bool} {outs:List (Option Del)}
theorem bQ.keep (K:bQ X ops m S outs Sn):(∀ k cs,look S.boxes k=some cs→look Sn.boxes k=some cs)∧(∀ k q,look S.rows k=some q→look Sn.rows k=some q)∧(∀ k q,look S.objs k=some q→look Sn.objs k=some q):=by
 have nolook:∀ k,(look S.boxes k).isSome=true∨(look S.rows k).isSome=true∨(look S.objs k).isSome=true→look Sn.boxes k=look S.boxes k∧look Sn.rows k=look S.rows k∧look Sn.objs k=look S.objs k:=fun k hk=>by
  have hnd:∀ j,j<m→bF ops j≠some k:=fun j hj hdj=>by
   obtain⟨_,m3,m4,m5,_⟩:=K.new j k hj hdj
   rcases hk with hk | hk | hk
   ·rw[m3] at hk;cases hk
   ·rw[m4] at hk;cases hk
   ·rw[m5] at hk;cases hk
  have:k∉dV (ops.take m):=fun hm=>by
   simp only[dV,aaz] at hm
   obtain⟨p,hp,hpd⟩:=hm
   obtain⟨j,hj⟩:=aaA.1 hp
   have hmn:j<m:=by
    have:=(Z6.1 hj).1
    simp at this;omega
   rw[bX hmn] at hj
   exact hnd j hmn (by unfold bF;rw[hj];exact hpd)
  rw[K.sn]
  exact (di this).2
 exact⟨fun k cs hk=>by rw[(nolook k (.inl (by rw[hk];rfl))).1];exact hk,fun k q hk=>by rw[(nolook k (.inr (.inl (by rw[hk];rfl)))).2.1];exact hk,
  fun k q hk=>by rw[(nolook k (.inr (.inr (by rw[hk];rfl)))).2.2];exact hk⟩
def tY (a b:Touch):Prop:=(b.rt=false→a.rt=false)∧∀ k,kP b k=true→kP a k=true
structure si (X:Cx) (ops:List Oper) (m n:Nat) (S:St) (outs:List (Option Del)) (Sn:St) (tf:Nat→Touch) (t1:Oper→Touch) (T:Nat→St) (sv:Nat→SV):Prop where
 lt:m<n
 le:n≤ops.length
 t0:T 0=Sn
 step:∀ c o,m+c<n→ops[m+c]? =some o→Fl X.P (t1 o) S.ids o (T c) (sv c) (T (c+1))
 cover:∀ i c o,i<m→m+c<n→ops[m+c]? =some o→i∉(deps ops).getD (m+c) m0→tY (t1 o) (tf i)
 late:∀ i o,i<m→ops[i]? =some o→i∉(deps ops).getD m m0→∀ y,outs[i]? =some (some y)→cr X.P o (states ((ops.take m).take i) S (outs.take i)) (cF (tf i) S) y∧lY y=true
 guard:∀ i o,m≤i→i<n→ops[i]? =some o→o.guard=none
 wait:∀ i j,m≤j→j<i→i<n→j∈(deps ops).getD i m0
 looks:∀ i o,i<n→ops[i]? =some o→∀ t,t∈o.looksAt ops.toArray→∀ j,j<n→bF ops j=some t→j∈(deps ops).getD i m0∨i∈(deps ops).getD j m0
 uniq:∀ i j d,i<n→j<n→bF ops i=some d→bF ops j=some d→i=j
variable {tf:Nat→Touch} {t1:Oper→Touch} {T:Nat→St} {sv:Nat→SV}
theorem si.len (Z:si X ops m n S outs Sn tf t1 T sv) (K:bQ X ops m S outs Sn):∀ c,m+c≤n→(T c).tmps.length=S.tmps.length
 | 0,_=>by rw[Z.t0,K.se]
 | c+1,h=>by
  have hlt:m+c<ops.length:=by have:=Z.le;omega
  have hs:=(Z.step c _ (by omega) (Z4 hlt)).tmps
  rw[hs]
  have:=Z.len K c (by omega)
  cases (ops[m+c]).dst<;>simp[Jv,this]
theorem si.other (Z:si X ops m n S outs Sn tf t1 T sv):∀ c,m+c≤n→∀ t,(∀ j,m≤j→j<m+c→bF ops j≠some t)→(T c).tmps[t]? =Sn.tmps[t]?
 | 0,_,t,_=>by rw[Z.t0]
 | c+1,h,t,ht=>by
  have hlt:m+c<ops.length:=by have:=Z.le;omega
  have hs:=(Z.step c _ (by omega) (Z4 hlt)).tmps
  rw[hs, ← Z.other c (by omega) t (fun j h1 h2=>ht j h1 (by omega))]
  cases hd:(ops[m+c]).dst with
  | none=>rfl
  | some d=>
   have hne:d≠t:=fun e=>ht (m+c) (by omega) (by omega) (by unfold bF;rw[Z4 hlt];simp[hd,e])
   exact aaa hne
theorem si.mem (Z:si X ops m n S outs Sn tf t1 T sv) {i:Nat} (hi:i<m):∀ c,m+c≤n→(∀ j,m≤j→j<m+c→i∉(deps ops).getD j m0)→Rest (tf i) Sn (T c)
 | 0,_,_=>by rw[Z.t0];exact⟨fun _=>⟨rfl,rfl⟩,fun _ _=>rfl⟩
 | c+1,h,hnd=>by
  have hlt:m+c<ops.length:=by have:=Z.le;omega
  have hs:=(Z.step c _ (by omega) (Z4 hlt)).rest
  have hle:=Z.cover i c _ hi (by omega) (Z4 hlt) (hnd (m+c) (by omega) (by omega))
  have ih:=Z.mem hi c (by omega) (fun j h1 h2=>hnd j h1 (by omega))
  exact⟨fun e=>⟨(hs.1 (hle.1 e)).1.trans (ih.1 e).1,(hs.1 (hle.1 e)).2.trans (ih.1 e).2⟩,fun k hk=>(hs.2 k (hle.2 k hk)).trans (ih.2 k hk)⟩
theorem si.near (Z:si X ops m n S outs Sn tf t1 T sv) (K:bQ X ops m S outs Sn) {i:Nat} (hi:i<m) (c:Nat) (hc:m+c≤n) (hnd:∀ j,m≤j→j<m+c→i∉(deps ops).getD j m0) {N:St} (h1:N.boxes=(T c).boxes) (h2:N.rows=(T c).rows) (h3:N.objs=(T c).objs):
 (∀ k cs,look (cF (tf i) S).boxes k=some cs→look N.boxes k=some cs)∧(∀ k q,look (cF (tf i) S).rows k=some q→look N.rows k=some q)∧(∀ k q,look (cF (tf i) S).objs k=some q→look N.objs k=some q):=by
 have hm:=Z.mem hi c hc hnd
 obtain⟨k1,k2,k3⟩:=K.keep
 obtain⟨r1,r2,r3⟩:=xd (tf i) S
 exact⟨fun k cs hk=>by rw[h1,hm.2 k (r1 k cs hk).1];exact k1 k cs (r1 k cs hk).2,fun k q hk=>by rw[h2,(hm.1 (r2 k q hk).1).1];exact k2 k q (r2 k q hk).2,fun k q hk=>by rw[h3,(hm.1 (r3 k q hk).1).2];exact k3 k q (r3 k q hk).2⟩
def uv {P0:Program} (C:Fr P0) (G:Gh) (ρ:Env) (ops:List Oper) (m:Nat) (S Sn:St) (T:Nat→St) (c:Nat) (listed:Array Bool) (w:World) (a:Act):Prop:=
 if c=0 then Mod C G ρ (aK S Sn (az ops m listed)) w a else Mod C G ρ ((T c).wt (aK S (T c) (az ops m listed)).tmps) w a
theorem si.started (Z:si X ops m n S outs Sn tf t1 T sv) (K:bQ X ops m S outs Sn) {c:Nat} {a:Act} (hdone:∀ j,j∈(deps ops).getD m m0→listed.getD j true=true) (hM:uv C G ρ ops m S Sn T c listed w a):
 Mod C G ρ ((T c).wt (aK S (T c) (az ops m listed)).tmps) w a:=by
 unfold uv at hM
 by_cases e:c=0
 ·subst e
  rw[abO rfl] at hM
  rw[Z.t0]
  have hunb:∀ t,az ops m listed t=true→look Sn.boxes t=none∧look Sn.rows t=none∧look Sn.objs t=none:=fun t hu=>by
   obtain⟨j,h1,h2,h3⟩:=cD.1 hu
   obtain⟨oj,h4,h5⟩:=gF h3
   have hnd:j∉(deps ops).getD m m0:=fun hmem=>by
    have:=hdone j hmem
    rw[h2] at this;cases this
   obtain⟨x,hx⟩:∃ x,outs[j]? =some x:=⟨outs[j]'(by rw[K.len];exact h1),Z4 _⟩
   have hp:uO x=none∧uh x=none∧x4 x=none:=by
    cases x with
    | none=>exact⟨rfl,rfl,rfl⟩
    | some y=>exact x7 (Z.late j oj h1 h4 hnd y hx).2
   obtain⟨_,n3,n4,n5,_⟩:=K.new j t h1 h3
   have hat:=qK (S:=S) (outs:=outs) (by rw[K.len,aaq,abf K.n_le]) K.dupl (i:=j) (o:=oj) (x:=x) (by rw[bX h1];exact h4) hx h5
   rw[← K.sn] at hat
   refine⟨?_, ?_, ?_⟩
   ·rw[hat.2.1,n3,hp.1];rfl
   ·rw[hat.2.2.1,n4,hp.2.1];rfl
   ·rw[hat.2.2.2,n5,hp.2.2];rfl
  refine hM.equiv rfl (fun k cs hk=> ?_) (fun k q hk=> ?_) (fun k q hk=> ?_)
  ·simp only[aK,bu]
   cases hu:az ops m listed k with
   | true=>rw[show look (Sn.wt (aK S Sn (az ops m listed)).tmps).boxes k=look Sn.boxes k from rfl,(hunb k hu).1] at hk;cases hk
   | false=>exact hk
  ·simp only[aK,bu]
   cases hu:az ops m listed k with
   | true=>rw[show look (Sn.wt (aK S Sn (az ops m listed)).tmps).rows k=look Sn.rows k from rfl,(hunb k hu).2.1] at hk;cases hk
   | false=>exact hk
  ·simp only[aK,bu]
   cases hu:az ops m listed k with
   | true=>rw[show look (Sn.wt (aK S Sn (az ops m listed)).tmps).objs k=look Sn.objs k from rfl,(hunb k hu).2.2] at hk;cases hk
   | false=>exact hk
 ·rw[abN e] at hM;exact hM
theorem bQ.spine (K:bQ X ops m S outs Sn) (Z:si X ops m n S outs Sn tf t1 T sv) (hwaits:∀ k,n≤k→k<ops.length→∀ j,j<k→j∈(deps ops).getD k m0)
 {Q:Exit→Act→World→Prop} (hseq:Region.seqB .any ops.toArray (ops.length - n) n (mask n ops.length)=true)
 (htail:∀ G ρ w a,Mod C G ρ (T (n - m)) w a→wpList X.P ops.toArray Q (ops.drop n) a w):∀ (u c:Nat) (listed:Array Bool) (a:Act) (w:World) (G:Gh) (ρ:Env),m+c≤n→listed.size=ops.length→qd ops listed→
 (∀ k,m≤k→k<m+c→listed.getD k true=true)→(∀ k,m+c≤k→k<ops.length→listed.getD k true=false)→(List.range n).countP (fun i=> !listed.getD i true)=u→uv C G ρ ops m S Sn T c listed w a→wpAny X.P .any ops.toArray Q (u+(ops.length - n)) listed a w:=by
 have hmn:=Z.lt
 have hnl:=Z.le
 intro u
 induction u with
 | zero=>
  intro c listed a w G ρ hc hsz hcl hdn htl hcnt hM
  have hall:∀ i,i<n→listed.getD i true=true:=fun i hi=>by
   rw[ZM] at hcnt
   have:=hcnt i (by simpa using hi)
   simpa using this
  have ec:c=n - m:=by
   by_cases h:m+c<n
   ·have:=htl (m+c) (aa7 _) (by omega)
    rw[hall (m+c) h] at this;cases this
   ·omega
  have hU:∀ t,az ops m listed t=false:=fun t=>by
   cases hu:az ops m listed t with
   | false=>rfl
   | true=>obtain⟨j,h1,h2,_⟩:=cD.1 hu;rw[hall j (by omega)] at h2;cases h2
  have hMn:Mod C G ρ (T (n - m)) w a:=by
   unfold uv at hM
   rw[abN (by omega),ec] at hM
   refine hM.equiv ?_ (fun k cs hk=>hk) (fun k q hk=>hk) (fun k q hk=>hk)
   show (aK S (T (n - m)) (az ops m listed)).tmps=_
   apply ZV
   intro t
   rw[dh,hU t]
   have hl:=Z.len K (n - m) (by omega)
   by_cases hlt:t<S.tmps.length
   ·have:t<(T (n - m)).tmps.length:=by rw[hl];exact hlt
    simp[hlt,this]
   ·rw[abN hlt,Z5 (by omega)]
  have hmask:=Hs (n:=n) hsz hnl hall (fun i h1 h2=>htl i (by omega) h2)
  have hl:(ops.drop n).length=ops.length - n:=by simp
  have:=wpAny_of_seq (P:=X.P) (md:= .any) (ops:=ops.toArray) (Q':=Q) (ops.drop n) n listed a w (fun j=>by simp[Z3]) (by rw[hl,hmask];exact hseq) (htail G ρ w a hMn)
  rw[hl] at this
  rw[abm]
  exact this
 | succ u ih=>
  intro c listed a w G ρ hc hsz hcl hdn htl hcnt hM
  have hsome:∃ i,i<n∧listed.getD i true=false:=by
   have:0<(List.range n).countP (fun i=> !listed.getD i true):=by omega
   rw[ZN] at this
   obtain⟨i,h1,h2⟩:=this
   exact⟨i,by simpa using h1,by simpa using h2⟩
  rw[show u+1+(ops.length - n)=(u+(ops.length - n))+1 by omega]
  refine⟨fun hr=> ?_,fun i hi=> ?_⟩
  ·exfalso
   have hall:∀ i,i<n→listed.getD i true=true:=by
    intro i
    induction i using Nat.strongRecOn with
    | _ i ihi=>
     intro hin
     cases hl:listed.getD i true with
     | true=>rfl
     | false=>
      exfalso
      have hlt:i<ops.length:=by omega
      have hoi:ops[i]? =some ops[i]:=Z4 hlt
      have:i∈Region.ready .any ops.toArray listed:=by
       rw[mem_ready]
       refine⟨hl,ops[i],by simp,fun e he hb=> ?_⟩
       have hE:=K.edges
       simp only[jh,ZF] at hE
       have h7:=hE i (by simp;exact hlt)
       rw[hoi] at h7
       simp only[ZF] at h7
       have h8:=h7 e (by simpa using he)
       simp only[hb,Zo,Zj] at h8
       have h9:e.on<i:=aa9 (abd _) (aa5 h8)
       have h10:=ihi e.on h9 (by omega)
       rw[YZ] at h10 ⊢
       rw[Y0 (by omega)] at h10 ⊢
       simpa using h10
      rw[hr] at this
      cases this
   obtain⟨i,h1,h2⟩:=hsome
   rw[hall i h1] at h2;cases h2
  ·rw[mem_ready] at hi
   obtain⟨hun,o,hio,hed⟩:=hi
   have hoi:ops[i]? =some o:=by simpa using hio
   have hed':∀ e,e∈o.after.toList→Region.binds .any e=true→listed.getD e.on false=true:=fun e he hb=>hed e (by simpa using he) hb
   have hlt:i<ops.length:=(Z6.1 hoi).1
   have hdeps:=cR K.edges hcl i o hoi hed'
   by_cases hin:i<n
   ·-- what the next round asks for
    have cl':qd ops (listed.setIfInBounds i true):=by
     intro j oj hj hlj e he hb
     by_cases eji:j=i
     ·subst eji
      rw[hoi] at hj
      cases hj
      have:=hed' e he hb
      by_cases e2:e.on=j
      ·rw[e2];exact bP (by omega)
      ·rw[aW e2];exact this
     ·rw[aW eji] at hlj
      have:=hcl j oj hj hlj e he hb
      by_cases e2:e.on=i
      ·rw[e2];exact bP (by omega)
      ·rw[aW e2];exact this
    have cnt':(List.range n).countP (fun j=> !(listed.setIfInBounds i true).getD j true)=u:=by
     have:=uB (p:=fun j=> !listed.getD j true) (q:=fun j=> !(listed.setIfInBounds i true).getD j true) (i:=i) (l:=List.range n) List.nodup_range (by simpa using hin) (by simp[hun]) (fun j=>by
      by_cases e:j=i
      ·subst e;simp only[bP (listed:=listed) (b:=true) (by omega:j<listed.size)];simp
      ·simp only[aW (listed:=listed) (b:=true) e];simp[e])
     omega
    by_cases him:i<m
    ·have dn':∀ k,m≤k→k<m+c→(listed.setIfInBounds i true).getD k true=true:=fun k h1 h2=>by
      rw[aW (by omega)];exact hdn k h1 h2
     have tl':∀ k,m+c≤k→k<ops.length→(listed.setIfInBounds i true).getD k true=false:=fun k h1 h2=>by
      rw[aW (by omega)];exact htl k h1 h2
     have go:∀ G' ρ' w' a',uv C G' ρ' ops m S Sn T c (listed.setIfInBounds i true) w' a'→wpAny X.P .any ops.toArray Q (u+(ops.length - n)) (listed.setIfInBounds i true) a' w':=
      fun G' ρ' w' a' hM'=>ih c (listed.setIfInBounds i true) a' w' G' ρ' hc (by simpa using hsz) cl' dn' tl' cnt' hM'
     by_cases ec:c=0
     ·unfold uv at hM
      rw[abO ec] at hM
      refine K.wpOp him hoi hsz hcl hun hed' hM (fun G' ρ' w' a' hM'=>go G' ρ' w' a' ?_)
      unfold uv
      rw[abO ec]
      exact hM'
     ·unfold uv at hM
      rw[abN ec] at hM
      have hom:ops[m]? =some ops[m]:=Z4 (by omega)
      have hlm:=hdn m (aa7 m) (by omega)
      have hnd:i∉(deps ops).getD m m0:=fun hmem=>by
       have:=cR K.edges hcl m _ hom (fun e h1 h2=>hcl m _ hom hlm e h1 h2) i hmem
       rw[hun] at this;cases this
      obtain⟨x,hx⟩:∃ x,outs[i]? =some x:=⟨outs[i]'(by rw[K.len];exact him),Z4 _⟩
      have hst:=K.step i o x him hoi hx
      obtain⟨hds,_⟩:=K.head i o him hoi
      obtain⟨d,hd⟩:=abr.1 hds
      have hdA:bF ops i=some d:=by unfold bF;rw[hoi];exact hd
      have hTlen:=Z.len K c hc
      have hlook:∀ t,t∈o.looksAt ops.toArray→(aK S (T c) (az ops m listed)).tmps.getD t (.v false [.any])=(aK S Sn (az ops m listed)).tmps.getD t (.v false [.any]):=fun t ht=>by
       have hno:∀ j,m≤j→j<m+c→bF ops j≠some t:=fun j h1 h2 h3=>by
        rcases Z.looks i o hin hoi t ht j (by omega) h3 with h4 | h4
        ·have:=Ma K.edges i o hoi j h4
         omega
        ·have hoj:ops[j]? =some (ops[j]'(by omega)):=Z4 (by omega)
         have:=cR K.edges hcl j _ hoj (fun e k1 k2=>hcl j _ hoj (hdn j h1 h2) e k1 k2) i h4
         rw[hun] at this;cases this
       have ho:=Z.other c hc t hno
       rw[ZX,ZX,dh,dh,CQ ho]
      have hev:=K.evs him hoi hdeps
      have hgev:∀ j want o' d,o.guard=some (j,want)→ops[j]? =some o'→o'.dst=some d→((T c).wt (aK S (T c) (az ops m listed)).tmps).ev (.tmp d)=(states ((ops.take m).take i) S (outs.take i)).ev (.tmp d):=fun j want o' d hg ho' hd'=>by
       have hl:d∈o.looksAt ops.toArray:=by
        simp only[Oper.looksAt,hg,aau]
        right
        simp[ho',hd']
       have h1:=hlook d hl
       have h2:=K.looks him hoi hdeps d hl
       exact Eq.trans h1 h2
      have hgd:guardOf ops o ((T c).wt (aK S (T c) (az ops m listed)).tmps)=guardOf ops o (states ((ops.take m).take i) S (outs.take i)):=by
       unfold guardOf
       cases hg:o.guard with
       | none=>rfl
       | some p=>
        obtain⟨j,want⟩:=p
        simp only
        cases ho':ops[j]? with
        | none=>rfl
        | some o'=>
         simp only
         cases hd':o'.dst with
         | none=>rfl
         | some d'=>
          simp only
          rw[hgev j want o' d' hg ho' hd']
      have hsk:kY ops o ((T c).wt (aK S (T c) (az ops m listed)).tmps)=kY ops o (states ((ops.take m).take i) S (outs.take i)):=by
       unfold kY
       cases hg:o.guard with
       | none=>rfl
       | some p=>
        obtain⟨j,want⟩:=p
        simp only
        cases ho':ops[j]? with
        | none=>rfl
        | some o'=>
         simp only
         cases hd':o'.dst with
         | none=>rfl
         | some d'=>
          simp only
          rw[hgev j want o' d' hg ho' hd']
      have fin:∀ (s:SV) G' ρ' w' a',(∀ hlt:d<S.tmps.length,Sn.tmps[d]? =some s)→Mod C G' ρ' (((T c).wt (aK S (T c) (az ops m listed)).tmps).put (some d) s) w' a'→wpAny X.P .any ops.toArray Q (u+(ops.length - n)) (listed.setIfInBounds i true) a' w':=fun s G' ρ' w' a' hsn hM'=>by
       refine go G' ρ' w' a' ?_
       unfold uv
       rw[abN ec]
       have htm:(aK S (T c) (az ops m (listed.setIfInBounds i true))).tmps=(aK S (T c) (az ops m listed)).tmps.set d s:=by
        have hU:=K.zq him hdA hsz hun
        have ho:=Z.other c hc d (fun j h1 h2 h3=>by have:=Z.uniq i j d hin (by omega) hdA h3;omega)
        apply ZV
        intro t
        rw[Z9,dh,dh,hU t]
        by_cases e:d=t
        ·subst e
         have hlen:(aK S (T c) (az ops m listed)).tmps.length=S.tmps.length:=by simp[aK]
         rw[hlen]
         by_cases hlt:d<S.tmps.length
         ·simp only[hlt,abP,abz,Ze,Zh,abM]
          rw[CQ ho,ZX,hsn hlt];rfl
         ·simp[hlt]
        ·rw[abN e]
         have:(t != d)=true:=by simp only[bne_iff_ne,ne_eq];exact fun h=>e h.symm
         rw[this,Zf]
       rw[htm]
       exact hM'
      have hat:=qK (S:=S) (outs:=outs) (by rw[K.len,aaq,abf K.n_le]) K.dupl (i:=i) (o:=o) (x:=x) (by rw[bX him];exact hoi) hx hd
      rw[← K.sn] at hat
      unfold Go.wpOp
      rw[hio]
      simp only
      cases x with
      | none=>
       have hw:Region.wanted o (yielded ops.toArray a.tmps)=false:=by
        rcases hst with ⟨dg,b,want,hg,hb⟩ | hs
        ·have hw:=fV hM.tmps (by rw[hgd];exact hg)
         simp only at hw
         rw[hw.2,hb]
        ·exact El hM.tmps (by rw[hsk];exact hs)
       rw[abN (by rw[hw];simp)]
       have:=hM.put o.dst (s:=oA) (fun _ _=>Lo)
       rw[hd] at this ⊢
       exact fin oA G ρ w _ (fun hlt=>hat.1 hlt) this
      | some y=>
       obtain⟨_,hg⟩:=hst
       obtain⟨hL,hp⟩:=Z.late i o him hoi hnd y hx
       obtain⟨p1,p2,p3⟩:=x7 hp
       have hwt:Region.wanted o (yielded ops.toArray a.tmps)=true:=by
        rcases hg with hg | ⟨dg,b,want,hg,hb⟩
        ·exact fV hM.tmps (g:=none) (by rw[hgd];exact hg)
        ·have hw:=fV hM.tmps (by rw[hgd];exact hg)
         simp only at hw
         rw[hw.2,hb]
       rw[abO hwt]
       left
       have hndj:∀ j,m≤j→j<m+c→i∉(deps ops).getD j m0:=fun j h1 h2 hmem=>by
        have hoj:ops[j]? =some (ops[j]'(by omega)):=Z4 (by omega)
        have:=cR K.edges hcl j _ hoj (fun e k1 k2=>hcl j _ hoj (hdn j h1 h2) e k1 k2) i hmem
        rw[hun] at this;cases this
       obtain⟨r1,r2,r3⟩:=Z.near K him c hc hndj (N:=(T c).wt (aK S (T c) (az ops m listed)).tmps) rfl rfl rfl
       have hnear:Fk o (states ((ops.take m).take i) S (outs.take i)) (cF (tf i) S) ((T c).wt (aK S (T c) (az ops m listed)).tmps):=
        ⟨fun z hz=>by
          rw[← hev z hz]
          cases z with
          | tmp t=>exact hlook t (by
           simp only[Oper.looksAt,aau,aaz]
           exact .inl ⟨.tmp t,by simpa using hz,rfl⟩)
          | const v=>rfl
          | global g=>rfl
          | func f=>rfl,r1,r2,r3⟩
       have hwp:=hL C G ρ _ w a Q hM hnear (fun d' _ h=>by rw[p1] at h;cases h) (fun d' _ h=>by rw[p2] at h;cases h) (fun d' _ h=>by rw[p3] at h;cases h)
       refine Oper.wp_mono (fun a' w' h=> ?_) hwp
       obtain⟨G',ρ',hM'⟩:=h
       have e:y=⟨y.sv,none,none,none⟩:=by cases y;simp only at p1 p2 p3;subst p1;subst p2;subst p3;rfl
       rw[hd,e] at hM'
       exact fin y.sv G' ρ' w' a' (fun hlt=>hat.1 hlt) hM'
    ·-- the next of the stores' row
     have ei:i=m+c:=by
      by_cases h1:i<m+c
      ·have:=hdn i (by omega) h1
       rw[hun] at this;cases this
      ·by_cases h2:m+c<i
       ·have h3:=hdeps (m+c) (Z.wait i (m+c) (by omega) h2 hin)
        have:=htl (m+c) (aa7 _) (by omega)
        rw[h3] at this;cases this
       ·omega
     subst ei
     have hdm:∀ j,j∈(deps ops).getD m m0→listed.getD j true=true:=fun j hj=>by
      by_cases ec:c=0
      ·subst ec;exact hdeps j hj
      ·have hom:ops[m]? =some ops[m]:=Z4 (by omega)
       have hlm:=hdn m (aa7 m) (by omega)
       exact cR K.edges hcl m _ hom (fun e h1 h2=>hcl m _ hom hlm e h1 h2) j hj
     have hM2:=Z.started K hdm hM
     have hstep:=Z.step c o hin hoi
     have hTlen:=Z.len K c hc
     have hTlen':=Z.len K (c+1) (by omega)
     have hog:=Z.guard (m+c) o (by omega) hin hoi
     have hev:∀ x,x∈o.op.operands→((T c).wt (aK S (T c) (az ops m listed)).tmps).ev x=(T c).ev x:=fun x hx=>by
      cases x with
      | tmp t=>
       show (aK S (T c) (az ops m listed)).tmps.getD t (.v false [.any])=(T c).tmps.getD t (.v false [.any])
       have hu:az ops m listed t=false:=by
        cases hu:az ops m listed t with
        | false=>rfl
        | true=>
         obtain⟨j,h1,h2,h3⟩:=cD.1 hu
         rcases Z.looks (m+c) o hin hoi t (by
          simp only[Oper.looksAt,aau,aaz]
          exact .inl ⟨.tmp t,by simpa using hx,rfl⟩) j (by omega) h3 with h4 | h4
         ·have:=hdeps j h4
          rw[h2] at this;cases this
         ·have hoj:ops[j]? =some (ops[j]'(by omega)):=Z4 (by omega)
          have:=Ma K.edges j _ hoj (m+c) h4
          omega
       rw[ZX,dh]
       by_cases hlt:t<S.tmps.length
       ·simp[hlt,hu]
       ·rw[abN hlt]
        have:(T c).tmps[t]? =none:=Z5 (by rw[hTlen];exact Nat.le_of_not_lt hlt)
        rw[ZX,this]
      | const v=>rfl
      | global g=>rfl
      | func f=>rfl
     unfold Go.wpOp
     rw[hio]
     simp only
     have hwt:Region.wanted o (yielded ops.toArray a.tmps)=true:=fV (g:=none) hM2.tmps (by simp[guardOf,hog])
     rw[abO hwt]
     left
     have hfr:∀ s,s∈(aK S (T c) (az ops m listed)).tmps→s∈(T c).tmps∨Pj S.ids s:=by
      intro s hs
      simp only[aK,aaB,aaF] at hs
      obtain⟨t,ht,rfl⟩:=hs
      split
      ·right
       intro d hd
       have hmem:S.tmps.getD t (.v false [.any])∈S.tmps:=by
        rw[ZX,Z4 ht];exact aaf ht
       have:=(z7 (Ta hd).1).2
       simp only[St.aY,St.bz,St.bg,Zp,ZH] at this
       exact⟨by simpa using this.1.1 _ hmem,by simpa using this.2.1.1 _ hmem,by simpa using this.2.2.1 _ hmem⟩
      ·left
       rw[ZX,Z4 (by rw[hTlen];exact ht)];exact aaf _
     have hwp:=hstep.sound _ hev hfr C G ρ w a Q hM2
     refine Oper.wp_mono (fun a' w' h=> ?_) hwp
     obtain⟨G',ρ',hM'⟩:=h
     refine ih (c+1) (listed.setIfInBounds (m+c) true) a' w' G' ρ' (by omega) (by simpa using hsz) cl' (fun k h1 h2=> ?_) (fun k h1 h2=> ?_) cnt' ?_
     ·by_cases e:k=m+c
      ·subst e;exact bP (by omega)
      ·rw[aW e];exact hdn k h1 (by omega)
     ·rw[aW (by omega)];exact htl k (by omega) h2
     ·unfold uv
      rw[abN (by omega)]
      have e:az ops m (listed.setIfInBounds (m+c) true)=az ops m listed:=funext (Eu (by omega))
      rw[e]
      have htm:(aK S (T (c+1)) (az ops m listed)).tmps=Jv (aK S (T c) (az ops m listed)).tmps o.dst (sv c):=by
       have ht:=hstep.tmps
       cases hd:o.dst with
       | none=>
        rw[hd] at ht
        simp only[Jv] at ht ⊢
        simp only[aK,ht]
       | some d=>
        rw[hd] at ht
        simp only[Jv] at ht ⊢
        have hdA:bF ops (m+c)=some d:=by unfold bF;rw[hoi];exact hd
        have hu:az ops m listed d=false:=by
         cases hu:az ops m listed d with
         | false=>rfl
         | true=>
          obtain⟨j,h1,_,h3⟩:=cD.1 hu
          have:=Z.uniq j (m+c) d (by omega) hin h3 hdA
          omega
        apply ZV
        intro t
        rw[Z9,dh,dh]
        by_cases e:d=t
        ·subst e
         have hlen:(aK S (T c) (az ops m listed)).tmps.length=S.tmps.length:=by simp[aK]
         rw[hlen,hu]
         by_cases hlt:d<S.tmps.length
         ·simp only[hlt,abP,Zh,abM]
          rw[ht,ZX,aab (by rw[hTlen];exact hlt)];rfl
         ·simp[hlt]
        ·rw[abN e,ht]
         rw[show ((T c).tmps.set d (sv c)).getD t (.v false [.any])=(T c).tmps.getD t (.v false [.any]) from CQ (aaa e)]
      rw[htm]
      exact hM'
   ·exfalso
    obtain⟨j,h1,h2⟩:=hsome
    have hd:=hwaits i (by omega) hlt j (by omega)
    have:=hdeps j hd
    rw[h2] at this;cases this
end
theorem Ln (A:Op→Bool) (ops:List Oper) (S:St) (o:Oper) (l:List Oper):tY (cG A ops S [o]) (cG A ops S (o::l))∧tY (cG A ops S l) (cG A ops S (o::l)):=by
 simp only[cG]
 cases TP o.op with
 | some a=>
  dsimp only
  cases JG ops 9 a with
  | true=>exact⟨⟨nofun,fun k _=>by simp[kP,inL]⟩,⟨nofun,fun k h=>h⟩⟩
  | false=>
   simp only[abA]
   cases Cq ops S 9 a with
   | none=>exact⟨⟨nofun,fun k h=>by simp[kP] at h⟩,⟨nofun,fun k h=>by simp[kP] at h⟩⟩
   | some b=>
    refine⟨⟨fun _=>rfl,fun k h=> ?_⟩,⟨fun h=>h,fun k h=> ?_⟩⟩
    ·cases hb:(cG A ops S l).bs with
     | none=>simp[kP,hb] at h
     | some q=>simp only[kP,hb,inL,ZG,Bool.not_or,Zd,List.any_nil,Zn,abw] at h ⊢;exact h.1
    ·cases hb:(cG A ops S l).bs with
     | none=>simp[kP,hb] at h
     | some q=>simp only[kP,hb,inL,ZG,Bool.not_or,Zd] at h ⊢;exact h.2
 | none=>
  dsimp only
  cases A o.op with
  | true=>exact⟨⟨nofun,fun k _=>by simp[kP,inL]⟩,⟨nofun,fun k h=>h⟩⟩
  | false=>exact⟨⟨fun _=>rfl,fun k _=>by simp[kP,inL]⟩,⟨fun h=>h,fun k h=>h⟩⟩
theorem tY.trans {a b c:Touch} (h:tY a b) (g:tY b c):tY a c:=⟨fun e=>h.1 (g.1 e),fun k hk=>h.2 k (g.2 k hk)⟩
theorem NZ (A:Op→Bool) (ops:List Oper) (S:St) (o:Oper):∀ l:List Oper,o∈l→tY (cG A ops S [o]) (cG A ops S l)
 | [],h=>by cases h
 | p::l,h=>by
  rcases aaw.1 h with rfl | h
  ·exact (Ln A ops S o l).1
  ·exact (NZ A ops S o l h).trans (Ln A ops S p l).2
theorem GQ (hX:bT X) {ops:List Oper} {S:St} {k:St→Option β} {r:β} {m n:Nat} (hchk:DD ops m n=true) (h:Ej X ops S k m n=some r) {Q:Exit→Act→World→Prop}
 (hQ:∀ S' G ρ w a,k S'=some r→Mod C G ρ S' w a→Q .normal a w) {a:Act} (hM:Mod C G ρ S w a):
 Go.wpAny X.P .any ops.toArray Q ops.toArray.size (Array.replicate ops.toArray.size false) a { w with drawn:=w.drawn+1 }:=by
 unfold Ej at h
 obtain⟨outs,h1,h2,h3⟩:=wj hX h
 split at h2
 ·rename_i hnew
  simp only[DD,Zd] at hchk
  obtain⟨c0,c1,c2,c3,c4,c5,c6⟩:=hchk
  have hmn:m<n:=aa9 (abd _) (aa5 c0)
  have hn:n≤ops.length:=aa5 c1
  have K:=bQ.of (X:=X) (aa6 (aa9 hmn hn)) c2 c4 h1 (fun i o x hi hx=>(h3 i o x hi hx).1) hnew
  obtain⟨T,sv,t0,h4,h5⟩:=C9 hX h2
  simp only[TF,Zd,Zm,ZF] at c6
  obtain⟨cdup,call⟩:=c6
  have hget:∀ i o,i<n→ops[i]? =some o→(∀ t,t∈o.looksAt ops.toArray→∀ j,j<n→bF ops j=some t→j∈(deps ops).getD i m0∨i∈(deps ops).getD j m0)∧(m≤i→o.guard=none)∧(m≤i→∀ j,m≤j→j<i→j∈(deps ops).getD i m0):=fun i o hin hi=>by
   have h6:=call i (by simpa using hin)
   rw[hi] at h6
   simp only[Zd,ZF,Zq,abq] at h6
   obtain⟨g1,g2,g3⟩:=h6
   refine⟨fun t ht j hj hdj=> ?_,fun hmi=> ?_,fun hmi j hmj hji=> ?_⟩
   ·have h7:=Il (g1 t ht) (k:=j) (by
     obtain⟨o',ho',hd'⟩:=gF hdj
     rw[Z7,bX hj,ho',abu,hd'])
    rw[abm] at h7;exact h7
   ·rcases g2 with g2 | g2
    ·have:i<m:=aa9 (abd _) (aa5 g2)
     omega
    ·exact g2
   ·rcases g3 with g3 | g3
    ·have:i<m:=aa9 (abd _) (aa5 g3)
     omega
    ·rcases g3 j (by simpa using hji) with g4 | g4
     ·have:j<m:=aa9 (abd _) (aa5 g4)
      omega
     ·exact lI.1 g4
  have hgd:∀ i o,m≤i→i<n→ops[i]? =some o→o.guard=none:=fun i o hmi hin hi=>(hget i o hin hi).2.1 hmi
  have Z:si X ops m n S outs (states (ops.take m) S outs) (fun i=>cG (isApp X) ops S (QZ ops m n i)) (fun o=>cG (isApp X) ops S [o]) T sv:={
   lt:=hmn
   le:=hn
   t0:=t0
   step:=fun c o hc hi=>h5 c o (by rw[Z3,bX hc];exact hi)
   cover:=fun i c o him hc hi hnd=>NZ (isApp X) ops S o _ (by
    simp only[QZ,aaz,aaF]
    refine⟨m+c,hc, ?_⟩
    have h1:Nat.ble m (m+c)=true:=Nat.ble_eq_true_of_le (by omega)
    have h2:inM ((deps ops).getD (m+c) m0) i=false:=by
     cases h3:inM ((deps ops).getD (m+c) m0) i with
     | false=>rfl
     | true=>exact absurd (lI.1 h3) hnd
    rw[h1,h2]
    exact hi)
   late:=fun i o him hi hnd y hy=>by
    have h6:=(h3 i o (some y) (by rw[bX him];exact hi) hy).2 (by
     rw[abm]
     cases hm:inM ((deps ops).getD m m0) i with
     | false=>rfl
     | true=>exact absurd (lI.1 hm) hnd) y rfl
    rw[abm] at h6
    exact h6
   guard:=hgd
   wait:=fun i j hmj hji hin=>(hget i _ hin (Z4 (show i<ops.length by omega))).2.2 (by omega) j hmj hji
   looks:=fun i o hin hi=>(hget i o hin hi).1
   uniq:=fun i j d hin hjn hdi hdj=>by
    obtain⟨oi,e1,e2⟩:=gF hdi
    obtain⟨oj,e3,e4⟩:=gF hdj
    rcases abe i j with h | h | h
    ·have:=(iQ (l:=ops.take n) cdup (i:=j) (o:=oj) (d:=d) (by rw[bX hjn];exact e3) e4).2
     exact absurd (sC (ops:=ops.take n) (i:=j) (j:=i) (by rw[bX hin];exact e1) e2 h) this
    ·exact h
    ·have:=(iQ (l:=ops.take n) cdup (i:=i) (o:=oi) (d:=d) (by rw[bX hin];exact e1) e2).2
     exact absurd (sC (ops:=ops.take n) (i:=i) (j:=j) (by rw[bX hjn];exact e3) e4 h) this }
  have hM':=hM.of_heap (w':={ w with drawn:=w.drawn+1 }) rfl rfl rfl
  have hll:((ops.take n).drop m).length=n - m:=by simp;omega
  rw[hll] at h4
  have hsp:=K.spine (C:=C) (Q:=Q) Z (AX c3) c5 (fun G ρ w a hMn=>qE hX ops (ops.drop n) h4 hQ hMn) n 0 (Array.replicate ops.toArray.size false) a { w with drawn:=w.drawn+1 } G ρ (by omega) (by simp) qJ
   (fun k h1 h2=>by omega) (fun k _ hk2=>oz hk2 true) (sg hn) (by
     unfold uv
     rw[abO rfl]
     exact ya (aa6 (aa9 hmn hn)) hM')
  rw[show n+(ops.length - n)=ops.toArray.size by simp;omega] at hsp
  exact hsp
 ·cases h2
theorem AB (hX:bT X) {ops:List Oper} {S:St} {k:St→Option β} {els:Option β} {r:β} (h:AA X ops S k els=some r) {Q:Exit→Act→World→Prop}
 (hQ:∀ S' G ρ w a,k S'=some r→Mod C G ρ S' w a→Q .normal a w) {a:Act} (hM:Mod C G ρ S w a)
 (hels:els=some r→Go.wpAny X.P .any ops.toArray Q ops.toArray.size (Array.replicate ops.toArray.size false) a { w with drawn:=w.drawn+1 }):
 Go.wpAny X.P .any ops.toArray Q ops.toArray.size (Array.replicate ops.toArray.size false) a { w with drawn:=w.drawn+1 }:=by
 unfold AA at h
 simp only at h
 split at h
 ·rename_i hchk
  generalize AS (deps ops) ops.length=n at h hchk
  obtain⟨outs,h1,h2,h3⟩:=sW hX h
  split at h2
  ·rename_i hnew
   simp only[CO,Zd] at hchk
   obtain⟨⟨⟨⟨⟨c1,c2⟩,c3⟩,c4⟩,c5⟩,_⟩:=hchk
   have hn:n≤ops.length:=aa5 c1
   have K:=bQ.of (X:=X) hn c2 c4 h1 h3 hnew
   have hM':=hM.of_heap (w':={ w with drawn:=w.drawn+1 }) rfl rfl rfl
   have hany:=K.any (C:=C) (Q:=Q) (AX c3) c5 (fun G ρ w a hMn=>qE hX ops (ops.drop n) h2 hQ hMn) n (Array.replicate ops.toArray.size false) a { w with drawn:=w.drawn+1 } G ρ (by simp) qJ
    (fun m _ hm2=>oz hm2 true) (sg hn) (ya hn hM')
   rw[show n+(ops.length - n)=ops.toArray.size by simp;omega] at hany
   exact hany
  ·cases h2
 ·split at h
  ·rename_i hchk
   generalize AS (deps ops) ops.length - 1=m at h hchk
   obtain⟨outs,h1,h2,h3⟩:=sW hX h
   split at h2
   ·rename_i hnew
    simp only[Qr,Zd] at hchk
    obtain⟨⟨⟨⟨⟨⟨c1,c2⟩,c3⟩,c4⟩,c5⟩,c6⟩,_⟩:=hchk
    have hm:m<ops.length:=aa5 c1
    have K:=bQ.of (X:=X) (aa6 hm) c2 c4 h1 h3 hnew
    have hos:ops[m]? =some ops[m]:=Z4 hm
    unfold VF at c6
    rw[hos] at c6
    simp only[Zd,abq,ZF] at c6
    obtain⟨⟨⟨⟨g1,g2⟩,g3⟩,g4⟩,g5⟩:=c6
    have hst:∃ t ad x,ops[m].op= .store t ad x:=by
     revert g1
     cases ops[m].op<;>intro g1<;>first | exact⟨_,_,_,rfl⟩ | exact absurd g1 Zi
    obtain⟨ty,ad,x,hop⟩:=hst
    rw[ZP hm] at h2
    have h2':cm X ops[m] (states (ops.take m) S outs) (fun S=>kI X ops (ops.drop (m+1)) S k)=some r:=by
     simpa [kI,guardOf,g2] using h2
    obtain⟨S',h4,h5,h6⟩:=Lj hop h2'
    have hM':=hM.of_heap (w':={ w with drawn:=w.drawn+1 }) rfl rfl rfl
    have hlate:=K.late (C:=C) (Q:=Q) hm (AX c3) hos g2 (fun i him=>by
     have:=g4 i (by simpa using him)
     simp only[Zq] at this
     rcases this with h | h
     ·exact .inl (lI.1 h)
     ·right
      have hoi:ops[i]? =some ops[i]:=Z4 (by omega)
      rw[hoi] at h
      simp only[Zd,abq] at h
      exact⟨_,hoi,h⟩)
     (fun t ht j hj hdj=>by
       have:=g5 t (by simpa using ht) j (by simpa using hj)
       rw[abO (by simp[hdj])] at this
       exact lI.1 this)
     (S':=S') ⟨h5,fun tm hev=>by
       have hs:=h6 tm (hev ad (by simp[hop,Op.operands])) (hev x (by simp[hop,Op.operands]))
       obtain⟨S2,e2,hs2⟩:=wk hX hs
       cases e2
       exact hs2⟩ c5
     (fun G ρ w a hMn=>qE hX ops (ops.drop (m+1)) h4 hQ hMn) (m+1) (Array.replicate ops.toArray.size false) a { w with drawn:=w.drawn+1 } G ρ (by simp) qJ
     (fun k _ hk2=>oz hk2 true) (sg hm) (by
       unfold o9
       rw[abN (by rw[oz hm];simp)]
       exact ya (aa6 hm) hM')
    rw[show m+1+(ops.length - (m+1))=ops.toArray.size by simp;omega] at hlate
    exact hlate
   ·cases h2
  ·split at h
   ·rename_i hchk
    generalize AS (deps ops) ops.length - 1=m at h hchk
    obtain⟨outs,h1,h2,h3⟩:=sW hX h
    split at h2
    ·rename_i hnew
     simp only[Qs,Zd] at hchk
     obtain⟨⟨⟨⟨⟨⟨c1,c2⟩,c3⟩,c4⟩,c5⟩,c6⟩,_⟩:=hchk
     have hm:m<ops.length:=aa5 c1
     have K:=bQ.of (X:=X) (aa6 hm) c2 c4 h1 h3 hnew
     have hos:ops[m]? =some ops[m]:=Z4 hm
     unfold Th at c6
     rw[hos] at c6
     simp only[Zd,abq,ZF] at c6
     obtain⟨⟨⟨⟨g1,g2⟩,g3⟩,g4⟩,g5⟩:=c6
     unfold runM at h2
     rw[hos] at h2
     simp only at h2
     split at h2
     ·rename_i ty ad x hop
      split at h2
      ·rename_i b off had
       obtain⟨S',h4,h5,h6,h7,h8⟩:=Wc hop had h2
       cases hfc:(Gk ops m).all fun d=> !S'.boxes.any fun p=>p.2.any (CV.aY d) with
       | false=>rw[hfc] at h4;cases h4
       | true=>
        rw[hfc,abB] at h4
        simp only[ZF,Zm] at hfc
        have hM':=hM.of_heap (w':={ w with drawn:=w.drawn+1 }) rfl rfl rfl
        have hlate:=K.YB (C:=C) (Q:=Q) hm (AX c3) hos g2 (fun i him=>by
         have:=g4 i (by simpa using him)
         simp only[Zq] at this
         rcases this with h | h
         ·exact .inl (lI.1 h)
         ·right
          have hoi:ops[i]? =some ops[i]:=Z4 (by omega)
          rw[hoi] at h
          simp only[Zd,abq] at h
          exact⟨_,hoi,h⟩)
         (fun t ht j hj hdj=>by
           have:=g5 t (by simpa using ht) j (by simpa using hj)
           rw[abO (by simp[hdj])] at this
           exact lI.1 this)
         (S':=S') ⟨h5,h6,h7,fun tm rw ob hev=>by
           have hs:=h8 tm rw ob (hev ad (by simp[hop,Op.operands])) (hev x (by simp[hop,Op.operands]))
           obtain⟨S2,e2,hs2⟩:=wk hX hs
           cases e2
           exact hs2⟩
         (fun i d p him hnd hpi hmk hpd=>hfc d (by
           simp only[Gk,aaz,aaF]
           refine⟨i,him, ?_⟩
           rw[hpi]
           have h9:inM ((deps ops).getD m m0) i=false:=by
            cases h3:inM ((deps ops).getD m m0) i with
            | false=>rfl
            | true=>exact absurd (lI.1 h3) hnd
           simp only[hmk,h9,Zn,Bool.and_self,abP]
           exact hpd)) c5
         (fun G ρ w a hMn=>qE hX ops (ops.drop (m+1)) h4 hQ hMn) (m+1) (Array.replicate ops.toArray.size false) a { w with drawn:=w.drawn+1 } G ρ (by simp) qJ
         (fun k _ hk2=>oz hk2 true) (sg hm) (by
           unfold mu
           rw[abN (by rw[oz hm];simp)]
           exact ya (aa6 hm) hM')
        rw[show m+1+(ops.length - (m+1))=ops.toArray.size by simp;omega] at hlate
        exact hlate
      ·cases h2
     ·cases h2
    ·cases h2
   ·split at h
    ·rename_i hchk
     exact GQ hX hchk h hQ hM
    ·split at h
     ·rename_i hchk
      simp only[Zd] at hchk
      exact GQ hX hchk.1 h hQ hM
     ·exact hels h
end Go.Dn
namespace Go.Dn
variable {P:Program}
theorem gU {ops:Array Oper} {Q:Exit→Act→World→Prop} {i:Nat} {o:Oper} {K:Act→World→Prop} {a:Act} {w:World} (hi:ops[i]? =some o) (hg:o.guard=none) (h:o.wp P a w K Q):Go.wpOp P ops Q i K a w:=by
 unfold Go.wpOp
 rw[hi]
 simp only
 rw[abO (by simp[Region.wanted,hg])]
 exact .inl h
theorem wN {o:Oper} {a:Act} {w w':World} {v:Value} {K:Act→World→Prop} {Q:Exit→Act→World→Prop} (hr:(execOp a.eval o).run P w= .ok (.value v) w') (hK:K (a.put o.dst v) w'):o.wp P a w K Q:=by
 unfold Oper.wp
 rw[hr]
 exact hK
theorem mE {ops:List Oper} {mask:Array Bool} {may:List Nat} (h:sD ops mask may=true) {n:Nat} {a:Act} {w:World} {Q:Exit→Act→World→Prop}
 (hs:∀ i,inL may i=true→Go.wpOp P ops.toArray Q i (Go.wpAny P .any ops.toArray Q n (mask.setIfInBounds i true)) a w):Go.wpAny P .any ops.toArray Q (n+1) mask a w:=by
 simp only[sD,Zd,Zm,ZF] at h
 refine⟨fun h0=> ?_,fun i hi=>hs i (h.2 i hi)⟩
 rw[h0] at h
 cases h.1
theorem EB (xs:Array MapEntry) (p:MapEntry→Bool):xs.findIdx? p=xs.toList.findIdx? p:=by
 cases xs
 simp
theorem EC {α:Type} (f:α→α) (a:α):∀ l:List α,(l++[a]).modify l.length f=l++[f a]
 | []=>rfl
 | b::r=>by simp[List.modify_succ_cons,EC f a r]
theorem DE {α:Type}:∀ (l:List α) (j:Nat) (a:α),l[j]? =some a→l.set j a=l
 | [],_,_,h=>by simp at h
 | b::r,0,a,h=>by simp at h;simp[h]
 | b::r,j+1,a,h=>by simp at h;simp[DE r j a h]
theorem uE {α:Type} (f:α→α):∀ (l:List α) (j:Nat) (a:α),l[j]? =some a→l.modify j f=l.set j (f a)
 | [],_,_,h=>by simp at h
 | b::r,0,a,h=>by simp at h;simp[h]
 | b::r,j+1,a,h=>by simp at h;simp[List.modify_succ_cons,uE f r j a h]
theorem Ui {k v:Ty} {a:k.den} {l:List (k.den×v.den)} {z:v.den} (h:∀ p,p∈l→k.beq a p.1=false):(cO (l++[(a,z)]) a).getD z=z:=by
 unfold cO
 rw[List.find?_append,List.find?_eq_none.2 (by intro p hp;simp[h p hp])]
 simp only[Option.none_or,List.find?_cons,List.find?_nil]
 cases k.beq a a<;>rfl
theorem Ld {t kt et:TypeId} {kk vv:Ty} {key:kk.den} {z:vv.den} {l:List (kk.den×vv.den)} {kv:Value} {b:Nat} {es:Array MapEntry} {clock:Nat} {G:Gh} {w:World} (ht:P.underlying t=some (.map kt et)) (hchk:dR P kt kk=true)
 (hz:ur P et vv=some z) (hk:bD G kk key kv) (hb:w.heap[b]? =some (.map es clock)) (hl:aI (qi G kk vv) l es.toList):
 ∃ v,(Instr.lookup t (.map (some b)) kv false).run P w= .ok v w∧bD G vv ((cO l key).getD z) v:=by
 obtain⟨iz,zv,hiz,hzi,hzr,hzv⟩:=zy hz
 obtain⟨fr,hf1,hf2⟩:=yV (w:=w) hchk hk hl
 have hg:=hf2.get
 have hobj:(getObj b).run P w= .ok (.map es clock) w:=jR hb
 cases fr with
 | none=>
  simp only at hg
  refine⟨zv, ?_,by rw[hg];exact hzv G⟩
  simp only[Instr.lookup,Sem.run_bind,run_underlying ht,Result.andThen_ok,hobj,Sem.run_pure,ko hchk hk,hf1,hzr w]
  rfl
 | some p=>
  obtain⟨i,u⟩:=p
  simp only at hg
  obtain⟨q,e,g1,g2,g3,g4⟩:=hg
  obtain⟨e',ge,gr⟩:=hl.get g1
  rw[g2] at ge
  cases ge
  refine⟨u, ?_,by rw[g4,g3];exact gr.2⟩
  simp only[Instr.lookup,Sem.run_bind,run_underlying ht,Result.andThen_ok,hobj,Sem.run_pure,ko hchk hk,hf1]
  rfl
theorem find_born:∀ {l:List MapEntry},l.Pairwise (fun a b=>a.born<b.born)→∀ {i:Nat} {e:MapEntry},l[i]? =some e→l.findIdx? (fun x=>((x.born:Nat):Int)==((e.born:Nat):Int))=some i
 | [],_,i,e,h=>by simp at h
 | a::r,hp,0,e,h=>by
  simp only[Z2,Option.some.injEq] at h
  subst h
  simp[List.findIdx?_cons]
 | a::r,hp,i+1,e,h=>by
  simp only[Z1] at h
  rw[aaL] at hp
  have hne:=hp.1 e (aaC h)
  have hb:(((a.born:Nat):Int)==((e.born:Nat):Int))=false:=by
   simp only[abx,ne_eq,Int.natCast_inj]
   omega
  rw[List.findIdx?_cons,hb]
  simp[find_born hp.2 h]
def SX (P:Program) (G:Gh) (kk vv:Ty) (l:List (kk.den×vv.den)) (key:kk.den) (b:Nat) (es:Array MapEntry) (clock st:Nat):Prop:=
 ∀ (t:TypeId) (w2:World) (val:Value) (y:vv.den),w2.heap[b]? =some (.map es clock)→bD G vv y val→
  ∃ es':Array MapEntry,(Instr.entryStore t (.map (some b)) (goInt st) val).run P w2= .ok () { w2 with heap:=w2.heap.setIfInBounds b (.map es' clock) }∧aI (qi G kk vv) (tD l key y) es'.toList∧
   es'.toList.map (·.born)=es.toList.map (·.born)
theorem Rv {t kt et:TypeId} {kk vv:Ty} {key:kk.den} {z:vv.den} {l:List (kk.den×vv.den)} {kv:Value} {b:Nat} {es:Array MapEntry} {clock:Nat} {G:Gh} {w:World} (ht:P.underlying t=some (.map kt et)) (hchk:dR P kt kk=true)
 (hz:ur P et vv=some z) (hk:bD G kk key kv) (hb:w.heap[b]? =some (.map es clock)) (hl:aI (qi G kk vv) l es.toList) (h1:∀ (i:Nat) (e:MapEntry),es.toList[i]? =some e→e.born<clock) (h2:es.toList.Pairwise (fun a b=>a.born<b.born)):
 ∃ (l1:List (kk.den×vv.den)) (es1:Array MapEntry) (clock1 st:Nat) (v0:Value),(Instr.mapEntry t (.map (some b)) kv).run P w= .ok (.tuple #[v0,goInt st]) { w with heap:=w.heap.setIfInBounds b (.map es1 clock1) }∧aI (qi G kk vv) l1 es1.toList∧
  (cO l1 key).getD z=(cO l key).getD z∧(∀ (i:Nat) (e:MapEntry),es1.toList[i]? =some e→e.born<clock1)∧es1.toList.Pairwise (fun a b=>a.born<b.born)∧SX P G kk vv l key b es1 clock1 st:=by
 obtain⟨iz,zv,hiz,hzi,hzr,hzv⟩:=zy hz
 obtain⟨fr,hf1,hf2⟩:=yV (w:=w) hchk hk hl
 have hg:=hf2.get
 have hset:=fun y=>hf2.set (y:vv.den)
 cases hf2 with
 | no hn=>
  simp only at hg hset
  have hpw:(es.push ⟨kv,zv,clock⟩).toList.Pairwise (fun a b=>a.born<b.born):=by
   rw[Zc,aaK]
   refine⟨h2,by simp,fun a ha b' hb'=> ?_⟩
   rcases aaG.1 hb' with rfl
   obtain⟨i,hi⟩:=aaA.1 ha
   exact h1 i a hi
  refine⟨l++[(key,z)],es.push ⟨kv,zv,clock⟩,clock+1,clock,zv, ?_, ?_, ?_, ?_,hpw, ?_⟩
  ·simp[Instr.mapEntry,run_underlying ht,jR hb,ko hchk hk,hf1,hzr,rD _ hb]
  ·rw[Zc]
   exact hl.append ⟨_,_,rfl,⟨hk,hzv G⟩,rfl⟩
  ·rw[hg,Ui hn];rfl
  ·intro i e hi
   rw[Zc,ZY] at hi
   split at hi
   ·have:=h1 i e hi;omega
   ·simp only[List.getElem?_singleton] at hi
    split at hi
    ·cases hi;simp
    ·cases hi
  ·intro t2 w2 val y hw2 hy
   have hidx:(es.push ⟨kv,zv,clock⟩).findIdx? (fun e=>((e.born:Nat):Int)==((clock:Nat):Int))=some es.size:=by
    have:=find_born hpw (i:=es.size) (e:=⟨kv,zv,clock⟩) (by simp)
    simpa [EB] using this
   have hmod:(es.push ⟨kv,zv,clock⟩).modify es.size (fun e=>{ e with val:=val })=es.push ⟨kv,val,clock⟩:=by
    apply Array.ext'
    rw[Array.toList_modify,Zc,Zc, ← Y8,EC]
   refine⟨es.push ⟨kv,val,clock⟩, ?_, ?_, ?_⟩
   ·simp[Instr.entryStore,jR hw2,asInt,asIntOf,goInt,hidx,hmod,rD _ hw2]
   ·rw[hset,Zc]
    exact hl.append ⟨_,_,rfl,⟨hk,hy⟩,rfl⟩
   ·simp
 | yes i p e hp he hbq hne=>
  simp only at hg hset
  obtain⟨e',he',hr⟩:=hl.get hp
  rw[he] at he'
  cases he'
  have hkey:e.key=kv:=by
   have:=ND hchk hbq
   subst this
   exact IB hchk hr.1 hk
  have hgi:es[i]? =some e:=by simpa using he
  have hsame:es.modify i (fun e=>{ e with key:=kv })=es:=by
   apply Array.ext'
   rw[Array.toList_modify,uE _ _ _ _ he]
   have:({ e with key:=kv }:MapEntry)=e:=by rw[← hkey]
   rw[this]
   exact DE _ _ _ he
  have hkt:(Instr.keyThatStays (((es[i]?).map (·.key)).getD kv) kv).run P w= .ok kv w:=by
   simp[Instr.keyThatStays,hgi,hkey,sameBits_self hchk hk]
  rw[hgi] at hkt
  refine⟨l,es,clock,e.born,e.val, ?_,hl,rfl,h1,h2, ?_⟩
  ·simp only[Instr.mapEntry,Sem.run_bind,run_underlying ht,Result.andThen_ok,jR hb,ko hchk hk,hf1,hkt,hsame,rD _ hb,hgi]
   rfl
  ·intro t2 w2 val y hw2 hy
   have hidx:es.findIdx? (fun x=>((x.born:Nat):Int)==((e.born:Nat):Int))=some i:=by
    rw[EB]
    exact find_born h2 he
   have hml:(es.modify i fun e=>{ e with val:=val }).toList=es.toList.set i { e with val:=val }:=by
    rw[Array.toList_modify,uE _ _ _ _ he]
   refine⟨es.modify i fun e=>{ e with val:=val }, ?_, ?_, ?_⟩
   ·simp[Instr.entryStore,jR hw2,asInt,asIntOf,goInt,hidx,rD _ hw2]
   ·rw[hset,hml]
    refine hl.setAt ⟨?_,hy⟩ i
    show bD G kk key e.key
    rw[hkey];exact hk
   ·rw[hml,List.map_set]
    have hlt:i<(es.toList.map (·.born)).length:=by
     have:=(Z6.1 he).1
     simpa using this
    have:(es.toList.map (·.born))[i]? =some e.born:=by rw[Z7,he];rfl
    exact DE _ _ _ this
variable {X:Cx}
theorem dH {a:Act} {d t:Nat} {v:Value} (h:t≠d):(a.put (some d) v).eval (.tmp t)=a.eval (.tmp t):=
 Act.eval_put fun e he hx=>by cases he;cases hx;exact h rfl
theorem ED {a:Act} {d:Nat} {v:Value} (h:d<a.tmps.size):(a.put (some d) v).eval (.tmp d)=v:=by
 simp[Act.eval,Act.put,h]
def St.obj (S:St) (j:Nat) (q:mW):St:={ S with objs:=(j,q)::S.objs }
structure qg (X:Cx) (ops:List Oper) (o2 o4 o5 o6 o7:Oper) (t kt et:TypeId) (m x d2 d4 d5 d6 j b:Nat) (kk vv:Ty) (l:List (kk.den×vv.den)) (key:kk.den) (z y:vv.den) (kv:Value) (s4:SV) (S:St):Prop where
 i2:ops.toArray[2]? =some o2
 i4:ops.toArray[4]? =some o4
 i5:ops.toArray[5]? =some o5
 i6:ops.toArray[6]? =some o6
 i7:ops.toArray[7]? =some o7
 g2:o2.guard=none
 g4:o4.guard=none
 g5:o5.guard=none
 g6:o6.guard=none
 g7:o7.guard=none
 p2:o2.op= .lookup t (.tmp m) (.tmp x) false
 p5:o5.op= .mapEntry t (.tmp m) (.tmp x)
 p6:o6.op= .extract (.tmp d5) 1
 p7:∃ t',o7.op= .entryStore t' (.tmp m) (.tmp d6) (.tmp d4)
 e2:o2.dst=some d2
 e4:o4.dst=some d4
 e5:o5.dst=some d5
 e6:o6.dst=some d6
 e7:o7.dst=none
 ne:m≠d2∧m≠d4∧m≠d5∧m≠d6∧x≠d2∧x≠d4∧x≠d5∧x≠d6
 nd:d2≠d4∧d2≠d5∧d2≠d6∧d4≠d5∧d4≠d6∧d5≠d6
 ord:Kr ops=true
 ht:X.P.underlying t=some (.map kt et)
 hchk:dR X.P kt kk=true
 hz:ur X.P et vv=some z
 q4:fB X.P o4 (S.put (some d2) (dU vv ((cO l key).getD z))) jG s4
 stp:∀ T,T=S∨T=S.put (some d2) (dU vv ((cO l key).getD z))∨T=(S.put (some d2) (dU vv ((cO l key).getD z))).put (some d4) s4→T.bg j=false
 any:∀ T,T=S∨T=S.put (some d2) (dU vv ((cO l key).getD z))∨T=(S.put (some d2) (dU vv ((cO l key).getD z))).put (some d4) s4→T.tmps.set d5 (.v false [.any])=T.tmps∧T.tmps.set d6 (.v false [.any])=T.tmps
 lt5:d5<S.tmps.length
 lt6:d6<S.tmps.length
 hobj:look S.objs j=some (.map kk vv l)
 pk:iB ((S.put (some d2) (dU vv ((cO l key).getD z))).put (some d4) s4) [] vv (((S.put (some d2) (dU vv ((cO l key).getD z))).put (some d4) s4).ev (.tmp d4))=some y
variable {ops:List Oper} {o2 o4 o5 o6 o7:Oper} {t kt et:TypeId} {m x d2 d4 d5 d6 j b:Nat} {kk vv:Ty} {l:List (kk.den×vv.den)} {key:kk.den} {z y:vv.den} {kv:Value} {s4:SV} {S:St} {C:Fr X.P}
structure Fj (C:Fr X.P) (G:Gh) (m x j b:Nat) (kk:Ty) (key:kk.den) (kv:Value) (T:St) (a:Act) (w:World):Prop where
 mod:∃ ρ,Mod C G ρ T w a∧ρ.ob j= .map (some b)
 hm:a.eval (.tmp m)= .map (some b)
 hx:a.eval (.tmp x)=kv
 hk:bD G kk key kv
structure Inv1 (C:Fr X.P) (G:Gh) (m x j b:Nat) (kk vv:Ty) (l:List (kk.den×vv.den)) (key:kk.den) (z:vv.den) (kv:Value) (st:Value→Act→Prop) (T:St) (a:Act) (w:World):Prop where
 mod:∃ ρ l1 es clock s,Mod C G ρ (T.obj j (.map kk vv l1)) w a∧ρ.ob j= .map (some b)∧w.heap[b]? =some (.map es clock)∧(cO l1 key).getD z=(cO l key).getD z∧SX X.P G kk vv l key b es clock s∧st (goInt s) a
 hm:a.eval (.tmp m)= .map (some b)
 hx:a.eval (.tmp x)=kv
 hk:bD G kk key kv
def Es (d5:Nat) (s:Value) (a:Act):Prop:=∃ v0,a.eval (.tmp d5)= .tuple #[v0,s]
def Er (d6:Nat) (s:Value) (a:Act):Prop:=a.eval (.tmp d6)=s
section
variable {G:Gh} {a:Act} {w:World} {K:Act→World→Prop} {Q:Exit→Act→World→Prop} {T:St}
theorem qg.entry (E:qg X ops o2 o4 o5 o6 o7 t kt et m x d2 d4 d5 d6 j b kk vv l key z y kv s4 S) (hT:T=S∨T=S.put (some d2) (dU vv ((cO l key).getD z))∨T=(S.put (some d2) (dU vv ((cO l key).getD z))).put (some d4) s4)
 (h:Fj C G m x j b kk key kv T a w) (hK:∀ a w,Inv1 C G m x j b kk vv l key z kv (Es d5) T a w→K a w):o5.wp X.P a w K Q:=by
 obtain⟨⟨ρ,hM,hb⟩,hm,hx,hk⟩:=h
 have hobj:look T.objs j=some (.map kk vv l):=by
  rcases hT with e | e | e<;>subst e<;>exact E.hobj
 obtain⟨b',es,clock,h2,h3,h4,h5,h6,h7⟩:=hM.objs j _ hobj
 rw[hb] at h2
 cases h2
 obtain⟨l1,es1,clock1,s,v0,hrun,g1,g2,g3,g4,g5⟩:=Rv (w:=w) E.ht E.hchk E.hz hk h4 h5 (fun i e hi=>(h6 i e hi).2) h7
 have hlen:T.tmps.length=S.tmps.length:=by
  rcases hT with e | e | e<;>subst e<;>simp[St.put]
 refine wN (v:= .tuple #[v0,goInt s]) (w':={ w with heap:=w.heap.setIfInBounds b (.map es1 clock1) }) ?_ (hK _ _ ?_)
 ·simp only[execOp,E.p5,hm,hx,Sem.run_bind,hrun,Result.andThen_ok,Sem.run_pure]
 ·have hM2:=hM.setObj (j:=j) (b:=b) (q:= .map kk vv l1) (st:=fun i=>((es1.toList[i]?).map fun e=>(e.born:Int)).getD 0) (.inl (E.stp T hT)) h3 (fun t l _ e=>by cases e) (w':={ w with heap:=w.heap.setIfInBounds b (.map es1 clock1) }) Grow.setObj
   ⟨b,es1,clock1,hb,h3,by rw[Y6 (bL h4)],g1,fun i e hi=>⟨by simp only[abP,hi,abu,abp],g3 i e hi⟩,g4⟩
  have hM3:=hM2.put (some d5) (s:= .v false [.any]) (v:= .tuple #[v0,goInt s]) (fun _ _=>trivial)
  have hst:({ T with objs:=(j,mW.map kk vv l1)::T.objs }:St).put (some d5) (.v false [.any])=T.obj j (.map kk vv l1):=by
   show (⟨T.tmps.set d5 (.v false [.any]),_,_,_⟩:St)=_
   rw[(E.any T hT).1]
   rfl
  rw[hst] at hM3
  rw[E.e5]
  refine⟨⟨_,l1,es1,clock1,s,hM3,hb,by rw[Y6 (bL h4)],g2,g5,v0,ED ?_⟩, ?_, ?_,hk⟩
  ·rw[hM.tmps.1,hlen];exact E.lt5
  ·rw[dH E.ne.2.2.1];exact hm
  ·rw[dH E.ne.2.2.2.2.2.2.1];exact hx
theorem qg.stamp (E:qg X ops o2 o4 o5 o6 o7 t kt et m x d2 d4 d5 d6 j b kk vv l key z y kv s4 S) (hT:T=S∨T=S.put (some d2) (dU vv ((cO l key).getD z))∨T=(S.put (some d2) (dU vv ((cO l key).getD z))).put (some d4) s4)
 (h:Inv1 C G m x j b kk vv l key z kv (Es d5) T a w) (hK:∀ a w,Inv1 C G m x j b kk vv l key z kv (Er d6) T a w→K a w):o6.wp X.P a w K Q:=by
 obtain⟨⟨ρ,l1,es1,clock1,s,hM,hb,hw,g2,g5,v0,hv0⟩,hm,hx,hk⟩:=h
 have hlen:T.tmps.length=S.tmps.length:=by
  rcases hT with e | e | e<;>subst e<;>simp[St.put]
 refine wN (v:=goInt s) (w':=w) ?_ (hK _ _ ?_)
 ·simp[execOp,E.p6,hv0,Instr.extract]
 ·have hM3:=hM.put (some d6) (s:= .v false [.any]) (v:=goInt s) (fun _ _=>trivial)
  have hst:(T.obj j (.map kk vv l1)).put (some d6) (.v false [.any])=T.obj j (.map kk vv l1):=by
   show (⟨T.tmps.set d6 (.v false [.any]),_,_,_⟩:St)=_
   rw[(E.any T hT).2]
   rfl
  rw[hst] at hM3
  rw[E.e6]
  refine⟨⟨_,l1,es1,clock1,s,hM3,hb,hw,g2,g5,ED ?_⟩, ?_, ?_,hk⟩
  ·have:=hM.tmps.1
   rw[this]
   show d6<T.tmps.length
   rw[hlen];exact E.lt6
  ·rw[dH E.ne.2.2.2.1];exact hm
  ·rw[dH E.ne.2.2.2.2.2.2.2];exact hx
theorem qg.YC (E:qg X ops o2 o4 o5 o6 o7 t kt et m x d2 d4 d5 d6 j b kk vv l key z y kv s4 S)
 (h:Fj C G m x j b kk key kv S a w) (hK:∀ a w,Fj C G m x j b kk key kv (S.put (some d2) (dU vv ((cO l key).getD z))) a w→K a w):o2.wp X.P a w K Q:=by
 obtain⟨⟨ρ,hM,hb⟩,hm,hx,hk⟩:=h
 obtain⟨b',es,clock,h2,h3,h4,h5,h6,h7⟩:=hM.objs j _ E.hobj
 rw[hb] at h2
 cases h2
 obtain⟨v,hrun,hv⟩:=Ld (w:=w) E.ht E.hchk E.hz hk h4 h5
 refine wN (v:=v) (w':=w) ?_ (hK _ _ ?_)
 ·simp only[execOp,E.p2,hm,hx,Sem.run_bind,hrun,Result.andThen_ok,Sem.run_pure]
 ·rw[E.e2]
  exact⟨⟨ρ,hM.put (some d2) (fun _ _=>wG ρ hv),hb⟩,by rw[dH E.ne.1];exact hm,by rw[dH E.ne.2.2.2.2.1];exact hx,hk⟩
theorem qg.Xj (E:qg X ops o2 o4 o5 o6 o7 t kt et m x d2 d4 d5 d6 j b kk vv l key z y kv s4 S) {st:Value→Act→Prop} (hst:∀ s a v,st s a→st s (a.put (some d2) v))
 (h:Inv1 C G m x j b kk vv l key z kv st S a w) (hK:∀ a w,Inv1 C G m x j b kk vv l key z kv st (S.put (some d2) (dU vv ((cO l key).getD z))) a w→K a w):o2.wp X.P a w K Q:=by
 obtain⟨⟨ρ,l1,es1,clock1,s,hM,hb,hw,g2,g5,hs⟩,hm,hx,hk⟩:=h
 obtain⟨b',es,clock,h2,h3,h4,h5,h6,h7⟩:=hM.objs j (.map kk vv l1) (by simp[St.obj,av])
 rw[hb] at h2
 cases h2
 rw[hw] at h4
 cases h4
 obtain⟨v,hrun,hv⟩:=Ld (w:=w) E.ht E.hchk E.hz hk hw h5
 refine wN (v:=v) (w':=w) ?_ (hK _ _ ?_)
 ·simp only[execOp,E.p2,hm,hx,Sem.run_bind,hrun,Result.andThen_ok,Sem.run_pure]
 ·rw[E.e2]
  refine⟨⟨ρ,l1,es1,clock1,s,hM.put (some d2) (fun _ _=> ?_),hb,hw,g2,g5,hst _ _ _ hs⟩,by rw[dH E.ne.1];exact hm,by rw[dH E.ne.2.2.2.2.1];exact hx,hk⟩
  rw[← g2]
  exact wG ρ hv
theorem Tk {ρ:Env} {w:World} {T:St} (h:Mem C G ρ T w):Mem C G ρ jG w:=h.sub (fun _ _ h=>by simp[jG,look] at h) (fun _ _ h=>by simp[jG,look] at h) (fun _ _ h=>by simp[jG,look] at h)
theorem qg.Yx (E:qg X ops o2 o4 o5 o6 o7 t kt et m x d2 d4 d5 d6 j b kk vv l key z y kv s4 S)
 (h:Fj C G m x j b kk key kv (S.put (some d2) (dU vv ((cO l key).getD z))) a w) (hK:∀ a w,Fj C G m x j b kk key kv ((S.put (some d2) (dU vv ((cO l key).getD z))).put (some d4) s4) a w→K a w):o4.wp X.P a w K Q:=by
 obtain⟨⟨ρ,hM,hb⟩,hm,hx,hk⟩:=h
 obtain⟨v,hrun,hv⟩:=E.q4 C G ρ w a (Tk hM.toMem) (fun x _=>hM.tmps.ev x)
 refine wN (v:=v) (w':=w) hrun (hK _ _ ?_)
 rw[E.e4]
 exact⟨⟨ρ,hM.put (some d4) (fun _ _=>hv),hb⟩,by rw[dH E.ne.2.1];exact hm,by rw[dH E.ne.2.2.2.2.2.1];exact hx,hk⟩
theorem qg.Xa (E:qg X ops o2 o4 o5 o6 o7 t kt et m x d2 d4 d5 d6 j b kk vv l key z y kv s4 S) {st:Value→Act→Prop} (hst:∀ s a v,st s a→st s (a.put (some d4) v))
 (h:Inv1 C G m x j b kk vv l key z kv st (S.put (some d2) (dU vv ((cO l key).getD z))) a w) (hK:∀ a w,Inv1 C G m x j b kk vv l key z kv st ((S.put (some d2) (dU vv ((cO l key).getD z))).put (some d4) s4) a w→K a w):o4.wp X.P a w K Q:=by
 obtain⟨⟨ρ,l1,es1,clock1,s,hM,hb,hw,g2,g5,hs⟩,hm,hx,hk⟩:=h
 obtain⟨v,hrun,hv⟩:=E.q4 C G ρ w a (Tk hM.toMem) (fun x _=>by
  have:=hM.tmps.ev x
  cases x<;>exact this)
 refine wN (v:=v) (w':=w) hrun (hK _ _ ?_)
 rw[E.e4]
 exact⟨⟨ρ,l1,es1,clock1,s,hM.put (some d4) (fun _ _=>hv),hb,hw,g2,g5,hst _ _ _ hs⟩,by rw[dH E.ne.2.1];exact hm,by rw[dH E.ne.2.2.2.2.2.1];exact hx,hk⟩
theorem qg.store (E:qg X ops o2 o4 o5 o6 o7 t kt et m x d2 d4 d5 d6 j b kk vv l key z y kv s4 S)
 (h:Inv1 C G m x j b kk vv l key z kv (Er d6) ((S.put (some d2) (dU vv ((cO l key).getD z))).put (some d4) s4) a w)
 (hK:∀ ρ a w,Mod C G ρ (((S.put (some d2) (dU vv ((cO l key).getD z))).put (some d4) s4).obj j (.map kk vv (tD l key y))) w a→K a w):o7.wp X.P a w K Q:=by
 obtain⟨⟨ρ,l1,es1,clock1,s,hM,hb,hw,g2,g5,hs⟩,hm,hx,hk⟩:=h
 obtain⟨t',p7⟩:=E.p7
 obtain⟨b',es,clock,h2,h3,h4,h5,h6,h7⟩:=hM.objs j (.map kk vv l1) (by simp[St.obj,av])
 rw[hb] at h2
 cases h2
 rw[hw] at h4
 cases h4
 have hy:bD G vv y (a.eval (.tmp d4)):=iT (ρ:=ρ) (S:=(S.put (some d2) (dU vv ((cO l key).getD z))).put (some d4) s4) hM.toMem.frozen (jO.nil _ _ _) E.pk (hM.tmps.ev (.tmp d4))
 obtain⟨es',hrun,f1,f2⟩:=g5 t' w _ y hw hy
 have hbn:∀ (i:Nat) (e:MapEntry),es'.toList[i]? =some e→∃ e1,es1.toList[i]? =some e1∧e1.born=e.born:=fun i e hi=>by
  have h1:=congrArg (fun l=>l[i]?) f2
  simp only[Z7,hi,abu] at h1
  cases he:es1.toList[i]? with
  | none=>rw[he] at h1;cases h1
  | some e1=>rw[he] at h1;simp only[abu,Option.some.injEq] at h1;exact⟨e1,rfl,h1.symm⟩
 have hM2:=hM.setObj (j:=j) (b:=b) (q:= .map kk vv (tD l key y)) (st:=ρ.st j) (.inr rfl) h3 (fun t l _ e=>by cases e) (w':={ w with heap:=w.heap.setIfInBounds b (.map es' clock1) }) Grow.setObj
  ⟨b,es',clock1,hb,h3,by rw[Y6 (bL hw)],f1,fun i e hi=>by
    obtain⟨e1,k1,k2⟩:=hbn i e hi
    obtain⟨k3,k4⟩:=h6 i e1 k1
    refine⟨?_,by omega⟩
    simp only[abP]
    rw[← k2];exact k3,by
    have:(es'.toList.map (·.born)).Pairwise (fun a b=>a<b):=by
     rw[f2,aaN];exact h7
    rwa [aaN] at this⟩
 unfold Oper.wp
 simp only[execOp,p7,hm,show a.eval (.tmp d6)=goInt s from hs,Sem.run_bind,hrun,Result.andThen_ok,Sem.run_pure]
 simp only[Oper.upon,E.e7,Act.put]
 refine hK _ _ _ ({ hM2.toMem.sub (M:=((S.put (some d2) (dU vv ((cO l key).getD z))).put (some d4) s4).obj j (.map kk vv (tD l key y))) (fun _ _ h=>h) (fun _ _ h=>h) (fun i q hi=> ?_) with tmps:=hM2.tmps,defers:=hM2.defers })
 simp only[St.obj,av] at hi ⊢
 split at hi
 ·rename_i e;rw[abO e];exact hi
 ·rename_i e;rw[abN e,abN e];exact hi
end
theorem TI {d5 d:Nat} (h:d5≠d):∀ s a v,Es d5 s a→Es d5 s (a.put (some d) v):=fun _ _ _ ⟨v0,h0⟩=>⟨v0,(dH h).trans h0⟩
theorem TH {d6 d:Nat} (h:d6≠d):∀ s a v,Er d6 s a→Er d6 s (a.put (some d) v):=fun _ _ _ h0=>(dH h).trans h0
theorem Mt {i c:Nat} (h:inL [c] i=true):i=c:=by
 simpa [inL] using h
theorem Uf {i c d:Nat} (h:inL [c,d] i=true):i=c∨i=d:=by
 simpa [inL] using h
theorem UA {ops:Array Oper} {n:Nat}:Region.ready .any ops (Array.replicate n true)=[]:=by
 rw[ZT]
 intro i hi
 have:=(mem_ready.1 hi).1
 simp only[YZ,Y4] at this
 split at this<;>simp at this
section
variable {G:Gh} {Q:Exit→Act→World→Prop}
theorem qg.YN (E:qg X ops o2 o4 o5 o6 o7 t kt et m x d2 d4 d5 d6 j b kk vv l key z y kv s4 S)
 (hQ:∀ ρ a w,Mod C G ρ (((S.put (some d2) (dU vv ((cO l key).getD z))).put (some d4) s4).obj j (.map kk vv (tD l key y))) w a→Q .normal a w) {a:Act} {w:World} (h:Fj C G m x j b kk key kv S a w):
 Go.wpAny X.P .any ops.toArray Q 5 #[true,true,false,true,false,false,false,false] a w:=by
 have ho:=E.ord
 simp only[Kr,Zd] at ho
 obtain⟨_,_,_,_,n00,n01,n02,n10,n11,n12,n20,n21,n22⟩:=ho
 have s22:∀ a w,Inv1 C G m x j b kk vv l key z kv (Er d6) ((S.put (some d2) (dU vv ((cO l key).getD z))).put (some d4) s4) a w→Go.wpAny X.P .any ops.toArray Q 1 #[true,true,true,true,true,true,true,false] a w:=fun a w h=>
  mE n22 fun i hi=>by
   cases Mt hi
   exact gU E.i7 E.g7 (E.store h fun ρ a w hM=>⟨UA (n:=8),hQ ρ a w hM⟩)
 have s21:∀ a w,Inv1 C G m x j b kk vv l key z kv (Er d6) (S.put (some d2) (dU vv ((cO l key).getD z))) a w→Go.wpAny X.P .any ops.toArray Q 2 #[true,true,true,true,false,true,true,false] a w:=fun a w h=>
  mE n21 fun i hi=>by
   cases Mt hi
   exact gU E.i4 E.g4 (E.Xa (TH (Ne.symm E.nd.2.2.2.2.1)) h s22)
 have s20:∀ a w,Inv1 C G m x j b kk vv l key z kv (Er d6) S a w→Go.wpAny X.P .any ops.toArray Q 3 #[true,true,false,true,false,true,true,false] a w:=fun a w h=>
  mE n20 fun i hi=>by
   cases Mt hi
   exact gU E.i2 E.g2 (E.Xj (TH (Ne.symm E.nd.2.2.1)) h s21)
 have s12:∀ a w,Inv1 C G m x j b kk vv l key z kv (Es d5) ((S.put (some d2) (dU vv ((cO l key).getD z))).put (some d4) s4) a w→Go.wpAny X.P .any ops.toArray Q 2 #[true,true,true,true,true,true,false,false] a w:=fun a w h=>
  mE n12 fun i hi=>by
   cases Mt hi
   exact gU E.i6 E.g6 (E.stamp (.inr (.inr rfl)) h s22)
 have s11:∀ a w,Inv1 C G m x j b kk vv l key z kv (Es d5) (S.put (some d2) (dU vv ((cO l key).getD z))) a w→Go.wpAny X.P .any ops.toArray Q 3 #[true,true,true,true,false,true,false,false] a w:=fun a w h=>
  mE n11 fun i hi=>by
   rcases Uf hi with e | e<;>subst e
   ·exact gU E.i4 E.g4 (E.Xa (TI (Ne.symm E.nd.2.2.2.1)) h s12)
   ·exact gU E.i6 E.g6 (E.stamp (.inr (.inl rfl)) h s21)
 have s10:∀ a w,Inv1 C G m x j b kk vv l key z kv (Es d5) S a w→Go.wpAny X.P .any ops.toArray Q 4 #[true,true,false,true,false,true,false,false] a w:=fun a w h=>
  mE n10 fun i hi=>by
   rcases Uf hi with e | e<;>subst e
   ·exact gU E.i2 E.g2 (E.Xj (TI (Ne.symm E.nd.2.1)) h s11)
   ·exact gU E.i6 E.g6 (E.stamp (.inl rfl) h s20)
 have s02:∀ a w,Fj C G m x j b kk key kv ((S.put (some d2) (dU vv ((cO l key).getD z))).put (some d4) s4) a w→Go.wpAny X.P .any ops.toArray Q 3 #[true,true,true,true,true,false,false,false] a w:=fun a w h=>
  mE n02 fun i hi=>by
   cases Mt hi
   exact gU E.i5 E.g5 (E.entry (.inr (.inr rfl)) h s12)
 have s01:∀ a w,Fj C G m x j b kk key kv (S.put (some d2) (dU vv ((cO l key).getD z))) a w→Go.wpAny X.P .any ops.toArray Q 4 #[true,true,true,true,false,false,false,false] a w:=fun a w h=>
  mE n01 fun i hi=>by
   rcases Uf hi with e | e<;>subst e
   ·exact gU E.i4 E.g4 (E.Yx h s02)
   ·exact gU E.i5 E.g5 (E.entry (.inr (.inl rfl)) h s11)
 exact mE n00 fun i hi=>by
  rcases Uf hi with e | e<;>subst e
  ·exact gU E.i2 E.g2 (E.YC h s01)
  ·exact gU E.i5 E.g5 (E.entry (.inl rfl) h s10)
end
theorem XT {α:Type} (L:List α) (i k:Nat) (u:α):((L.set i u).set k u).set i u=(L.set i u).set k u:=by
 by_cases h:i=k
 ·subst h;simp
 ·rw[aaP _ _ (Ne.symm h),aaQ]
theorem VH {o:Op} {t:TypeId} {m x:Nat} (h:WJ o=some (t,m,x)):o= .lookup t (.tmp m) (.tmp x) false:=by
 unfold WJ at h
 split at h
 ·cases h;rfl
 ·cases h
theorem Vi {o:Op} {t:TypeId} {m x:Nat} (h:T7 o=some (t,m,x)):o= .mapEntry t (.tmp m) (.tmp x):=by
 unfold T7 at h
 split at h
 ·cases h;rfl
 ·cases h
theorem Vm {o:Op} {e:Nat} (h:Wu o=some e):o= .extract (.tmp e) 1:=by
 unfold Wu at h
 split at h
 ·split at h
  ·rename_i hi
   cases h
   rw[aa3 hi]
  ·cases h
 ·cases h
theorem Wb {o:Op} {m s v:Nat} (h:stOp o=some (m,s,v)):∃ t,o= .entryStore t (.tmp m) (.tmp s) (.tmp v):=by
 unfold stOp at h
 split at h
 ·cases h;exact⟨_,rfl⟩
 ·cases h
theorem NH {o:Op} {x:Operand} (h:Um o=some x):o= .move x:=by
 unfold Um at h
 split at h
 ·cases h;rfl
 ·cases h
variable {G:Gh} {ρ:Env} {w:World} {β:Type}
theorem NG {ops:List Oper} {i:Nat} {o:Oper} {x:Operand} {d:Nat} {mask:Array Bool} {n:Nat} {Q:Exit→Act→World→Prop} (hQ:∀ e a w,Q e a w→e= .normal) (hi:ops.toArray[i]? =some o) (hg:o.guard=none) (ho:o.op= .move x) (hd:o.dst=some d)
 (hs:Region.noSelect ops.toArray=true) (hf:Region.free .any ops.toArray mask i=true) (hr:(Region.ready .any ops.toArray mask).contains i=true) {a:Act} {S:St} (hM:Mod C G ρ S w a)
 (hK:∀ a,Mod C G ρ (S.put (some d) (S.ev x)) w a→Go.wpAny X.P .any ops.toArray Q n (mask.setIfInBounds i true) a w):Go.wpAny X.P .any ops.toArray Q (n+1) mask a w:=by
 have hrun:∀ w,(execOp a.eval o).run X.P w= .ok (.value (a.eval x)) w:=fun w=>by simp[execOp,ho]
 have w1:∀ y,Region.wanted o y=true:=fun y=>by simp[Region.wanted,hg]
 refine wpAny_take hi hs hf hr (fun c a w q=>by cases hQ _ _ _ q) (.inl ⟨w1 _,hrun⟩) (hK _ ?_)
 rw[hd]
 exact hM.put (some d) (fun _ _=>hM.tmps.ev x)
theorem V7 (hX:bT X) {ops:List Oper} {S:St} {k:St→Option β} {r:β} (h:Ru X ops S k=some r) {Q:Exit→Act→World→Prop} (hn:∀ e a w,Q e a w→e= .normal)
 (hQ:∀ S' G ρ w a,k S'=some r→Mod C G ρ S' w a→Q .normal a w) {a:Act} (hM:Mod C G ρ S w a):Go.wpAny X.P .any ops.toArray Q ops.toArray.size (Array.replicate ops.toArray.size false) a w:=by
 unfold Ru at h
 split at h
 ·rename_i o0 o1 o2 o3 o4 o5 o6 o7
  split at h
  ·rename_i x0 t m x x3 t' m' x' d5 m'' d6 d4 h0 h2 h3 h5 h6 h7
   split at h
   ·rename_i d0 d2 d3 d4' d5' d6' c0 c2 c3 c4 c5 c6 c7
    split at h
    ·cases h
    ·rename_i hc
     simp only[Zq,abS,Zl,Zk] at hc
     obtain⟨k1,k2,k3,k4,k5,k6,k7,k8,k9,k10,k11,k12,k13⟩:=hc
     cases aa3 k3
     cases aa3 k4
     cases aa3 k5
     cases aa3 k6
     cases aa3 k7
     cases aa3 k8
     have ord:=k1
     simp only[Kr,Zd,ZF,abq] at k1
     obtain⟨⟨hs,hg⟩,⟨f0,r0⟩,⟨f3,r3⟩,n1,_⟩:=k1
     have g:=fun o (ho:o∈[o0,o1,o2,o3,o4,o5,o6,o7])=>hg o ho
     refine NG (n:=7) hn (i:=0) (o:=o0) rfl (g _ (by simp)) (NH h0) c0 hs f0 r0 hM fun a hM=> ?_
     refine NG (n:=6) hn (i:=3) (o:=o3) rfl (g _ (by simp)) (NH h3) c3 hs f3 r3 hM fun a hM=> ?_
     refine mE (n:=5) n1 fun i hi=> ?_
     cases Mt hi
     refine gU (o:=o1) rfl (g _ (by simp)) ?_
     obtain⟨z1,h,hL,hF⟩:=nW hX h
     refine Oper.wp_mono ?_ (dJ.Q3 hL hF C G ρ w a Q hM)
     rintro a w ⟨G,ρ,hM⟩
     generalize ((S.put (some d0) (S.ev x0)).put (some d3) ((S.put (some d0) (S.ev x0)).ev x3)).app o1.dst z1=S3 at hM h
     unfold Vk at h
     simp only at h
     have hM:Mod C G ρ ((S3.put (some d5) (.v false [.any])).put (some d6) (.v false [.any])) w a:=by
      refine { hM.toMem.CZ (S':=(S3.put (some d5) (.v false [.any])).put (some d6) (.v false [.any])) rfl rfl rfl with tmps:=⟨by simpa [St.put] using hM.tmps.1,fun i s hi=> ?_⟩,defers:=hM.defers }
      have hi':((S3.tmps.set d5 (.v false [.any])).set d6 (.v false [.any]))[i]? =some s:=hi
      simp only[Z9] at hi'
      split at hi'
      ·split at hi'
       ·cases hi';trivial
       ·cases hi'
      ·split at hi'
       ·split at hi'
        ·cases hi';trivial
        ·cases hi'
       ·exact hM.tmps.2 i s hi'
     have any0:((S3.put (some d5) (.v false [.any])).put (some d6) (.v false [.any])).tmps.set d5 (.v false [.any])=((S3.put (some d5) (.v false [.any])).put (some d6) (.v false [.any])).tmps:=XT _ _ _ _
     have any1:((S3.put (some d5) (.v false [.any])).put (some d6) (.v false [.any])).tmps.set d6 (.v false [.any])=((S3.put (some d5) (.v false [.any])).put (some d6) (.v false [.any])).tmps:=by
      show ((S3.tmps.set d5 _).set d6 _).set d6 _=_
      rw[aaQ];rfl
     generalize (S3.put (some d5) (.v false [.any])).put (some d6) (.v false [.any])=S at hM h any0 any1
     split at h
     ·cases h
     ·rename_i hlt
      simp only[Zq,abS,Zl,Zk] at hlt
      split at h
      ·rename_i kt et j ht hm
       split at h
       ·rename_i kk vv l hl
        split at h
        ·rename_i key z hkey hz
         split at h
         ·rename_i hchk
          unfold Vj at h
          simp only at h
          obtain⟨s4,h,hq4⟩:=Jw h
          split at h
          ·cases h
          ·rename_i hst
           simp only[Zq,abS,Zl,Zk] at hst
           obtain⟨t1,t2,t3,t4⟩:=hst
           cases aa3 t4
           split at h
           ·rename_i y hy
            obtain⟨q1,q2⟩:=tv k9
            obtain⟨q3,q4⟩:=tv q2
            obtain⟨q5,q6⟩:=tv q4
            simp only[aaw,List.not_mem_nil,or_false,abS] at q1 q3 q5
            simp only[inL,ZG,List.any_nil,Bool.or_false,Zp] at k10 k11
            have nb:∀ {a b:Nat},Nat.beq a b=false→a≠b:=fun h e=>by subst e;simp at h
            have h1:=one_cell (hM.tmps.ev (.tmp m)) hm
            obtain⟨b,es,clock,b1,_⟩:=hM.objs j _ hl
            have hkv:=iT hM.frozen (jO.nil _ _ _) hkey (hM.tmps.ev (.tmp x))
            have E:qg X [o0,o1,o2,o3,o4,o5,o6,o7] o2 o4 o5 o6 o7 t kt et m x d2 d4 d5 d6 j b kk vv l key z y (a.eval (.tmp x)) s4 S:=
             { i2:=rfl,i4:=rfl,i5:=rfl,i6:=rfl,i7:=rfl,g2:=g _ (by simp),g4:=g _ (by simp),g5:=g _ (by simp),g6:=g _ (by simp),g7:=g _ (by simp),
               p2:=VH h2,p5:=Vi h5,p6:=Vm h6,p7:=Wb h7,e2:=c2,e4:=c4,e5:=c5,e6:=c6,e7:=c7,
               ne:=⟨nb k10.1,nb k10.2.1,nb k10.2.2.1,nb k10.2.2.2,nb k11.1,nb k11.2.1,nb k11.2.2.1,nb k11.2.2.2⟩,
               nd:=⟨q1.1,q1.2.1,q1.2.2,q3.1,q3.2,q5⟩,ord:=ord,ht:=ht,hchk:=hchk,hz:=hz,q4:=hq4,
               stp:=fun T hT=>by rcases hT with e | e | e<;>subst e<;>assumption,
               any:=fun T hT=>by
                rcases hT with e | e | e<;>subst e
                ·exact⟨any0,any1⟩
                ·simp only[St.put]
                 rw[aaP _ _ q1.2.1,any0,aaP _ _ q1.2.2,any1]
                 exact⟨rfl,rfl⟩
                ·simp only[St.put]
                 rw[aaP _ _ q3.1,aaP _ _ q1.2.1,any0,aaP _ _ q3.2,aaP _ _ q1.2.2,any1]
                 exact⟨rfl,rfl⟩,
               lt5:=aa5 hlt.1,lt6:=aa5 hlt.2,hobj:=hl,pk:=hy }
            exact E.YN (C:=C) (G:=G) (Q:=Q) (fun ρ a w hM=>hQ _ G ρ w a h hM) ⟨⟨ρ,hM,b1⟩,h1.1.trans b1,rfl,hkv⟩
           ·cases h
         ·cases h
        ·cases h
       ·cases h
      ·cases h
   ·cases h
  ·cases h
 ·cases h
end Go.Dn
namespace Go.Dn
structure TM (ops ops':Array Oper) (σ τ:Nat→Nat):Prop where
 size:ops'.size=ops.size
 lt:∀ i,i<ops.size→σ i<ops.size∧τ (σ i)=i
 lt':∀ j,j<ops.size→τ j<ops.size∧σ (τ j)=j
 op:∀ (i:Nat) (o:Oper),ops[i]? =some o→ops'[σ i]? =some (HB σ o)
 guard:∀ (i:Nat) (o:Oper),ops[i]? =some o→o.guard=none
 edge:∀ (i:Nat) (o:Oper),ops[i]? =some o→∀ e:Edge,e∈o.after→e.on<ops.size
theorem TM.wpAny {P:Program} {ops ops':Array Oper} {σ τ:Nat→Nat} (H:TM ops ops' σ τ) {Q:Exit→Act→World→Prop}:∀ (u:Nat) (listed listed':Array Bool) (a:Act) (w:World),listed.size=ops.size→listed'.size=ops.size→
 (∀ i b,i<ops.size→listed'.getD (σ i) b=listed.getD i b)→Go.wpAny P .any ops' Q u listed' a w→Go.wpAny P .any ops Q u listed a w:=by
 have rd:∀ (listed listed':Array Bool),(∀ i b,i<ops.size→listed'.getD (σ i) b=listed.getD i b)→∀ i,i<ops.size→(σ i∈Region.ready .any ops' listed'↔i∈Region.ready .any ops listed):=by
  intro listed listed' hl i hi
  have hoi:ops[i]? =some ops[i]:=Y0 hi
  have hop:=H.op i _ hoi
  rw[mem_ready,mem_ready,hl i true hi]
  constructor
  ·rintro⟨h1,o',ho',h2⟩
   refine⟨h1,ops[i],hoi,fun e he hb=> ?_⟩
   rw[hop] at ho'
   cases ho'
   have:=h2 { e with on:=σ e.on } (by simp only[HB,Array.mem_map];exact⟨e,he,rfl⟩) hb
   rw[← hl e.on false (H.edge i _ hoi e he)]
   exact this
  ·rintro⟨h1,o,ho,h2⟩
   refine⟨h1,_,hop,fun e' he' hb=> ?_⟩
   simp only[HB,Array.mem_map] at he'
   obtain⟨e,he,rfl⟩:=he'
   rw[hoi] at ho
   cases ho
   have:=h2 e he hb
   show listed'.getD (σ e.on) false=true
   rw[hl e.on false (H.edge i _ hoi e he)]
   exact this
 have rlt:∀ (ops:Array Oper) (listed:Array Bool) i,i∈Region.ready .any ops listed→i<ops.size:=by
  intro ops listed i hi
  rw[mem_ready] at hi
  obtain⟨_,o,ho,_⟩:=hi
  exact (Y2.1 ho).1
 have emp:∀ (listed listed':Array Bool),(∀ i b,i<ops.size→listed'.getD (σ i) b=listed.getD i b)→(Region.ready .any ops' listed'=[]↔Region.ready .any ops listed=[]):=by
  intro listed listed' hl
  constructor
  ·intro h
   rw[ZT] at h ⊢
   intro i hi
   exact h (σ i) ((rd listed listed' hl i (rlt _ _ i hi)).2 hi)
  ·intro h
   rw[ZT] at h ⊢
   intro j hj
   have hjl:j<ops.size:=by rw[← H.size];exact rlt _ _ j hj
   obtain⟨t1,t2⟩:=H.lt' j hjl
   exact h (τ j) ((rd listed listed' hl (τ j) t1).1 (by rw[t2];exact hj))
 intro u
 induction u with
 | zero=>
  intro listed listed' a w s1 s2 hl h
  exact⟨(emp listed listed' hl).1 h.1,h.2⟩
 | succ u ih=>
  intro listed listed' a w s1 s2 hl h
  refine⟨fun hr=>h.1 ((emp listed listed' hl).2 hr),fun i hi=> ?_⟩
  have hil:=rlt _ _ i hi
  have hoi:ops[i]? =some ops[i]:=Y0 hil
  have hop:=H.op i _ hoi
  have hg:=H.guard i _ hoi
  have h1:=h.2 (σ i) ((rd listed listed' hl i hil).2 hi)
  have next:∀ a w,Go.wpAny P .any ops' Q u (listed'.setIfInBounds (σ i) true) a w→Go.wpAny P .any ops Q u (listed.setIfInBounds i true) a w:=by
   intro a w h
   refine ih _ _ a w (by simpa using s1) (by simpa using s2) (fun j b hj=> ?_) h
   by_cases e:j=i
   ·subst e
    rw[bP (by rw[s2];exact (H.lt j hj).1),bP (by omega)]
   ·have hne:σ j≠σ i:=fun e2=>e (by have:=congrArg τ e2;rw[(H.lt j hj).2,(H.lt i hil).2] at this;exact this)
    rw[aW hne,aW e]
    exact hl j b hj
  unfold Go.wpOp at h1 ⊢
  rw[hop] at h1
  rw[hoi]
  simp only at h1 ⊢
  have w1:∀ y,Region.wanted ops[i] y=true:=fun y=>by simp[Region.wanted,hg]
  have w2:∀ y,Region.wanted (HB σ ops[i]) y=true:=fun y=>by simp[Region.wanted,HB,hg]
  rw[abO (w2 _)] at h1
  rw[abO (w1 _)]
  rcases h1 with h1 | h1
  ·left
   exact Oper.wp_mono (fun a' w' h'=>next a' w' h') h1
  ·exact .inr h1
theorem Rn {ops:List Oper} {p:List Nat} (h:MR ops p=true):TM ops.toArray (C4 ops p).toArray (posOf p) (fun j=>p.getD j ops.length):=by
 simp only[MR,Zd,ZF,aaF,abq] at h
 obtain⟨h1,h2,h3,h4⟩:=h
 have h1':=aa3 h1
 have lt:∀ {a b:Nat},Nat.blt a b=true→a<b:=fun h=>aa5 h
 have hlen:(C4 ops p).length=ops.length:=by
  unfold C4
  split
  ·rfl
  ·rw[aal,h1']
 refine⟨by simpa using hlen,fun i hi=> ?_,fun j hj=> ?_,fun i o hi=> ?_,fun i o hi=> ?_,fun i o hi e he=> ?_⟩
 ·have hi':i<ops.length:=by simpa using hi
  exact⟨by simpa using lt (h2 i hi').1,aa3 (h2 i hi').2⟩
 ·have hj':j<ops.length:=by simpa using hj
  exact⟨by simpa using lt (h3 j hj').1,aa3 (h3 j hj').2⟩
 ·have hi1:ops[i]? =some o:=by simpa using hi
  have hi':i<ops.length:=(Z6.1 hi1).1
  have e1:=aa3 (h2 i hi').2
  have e2:=lt (h2 i hi').1
  have e3:p[posOf p i]? =some i:=by
   have hlt:posOf p i<p.length:=by omega
   rw[ZX,Z4 hlt] at e1
   rw[Z4 hlt]
   exact congrArg some e1
  rw[aae]
  unfold C4
  split
  ·rename_i hn;simp at hi1
  ·rename_i o0 r
   rw[Z7,e3,abu,ZX,hi1]
   rfl
 ·have hi1:ops[i]? =some o:=by simpa using hi
  exact (h4 o (aaC hi1)).1
 ·have hi1:ops[i]? =some o:=by simpa using hi
  simpa using lt ((h4 o (aaC hi1)).2 e (by simpa using he))
theorem YS {P:Program} {o:Oper} {a:Act} {w:World} {K:Act→World→Prop} {Q Q':Exit→Act→World→Prop} (h:∀ e a w,Q' e a w→Q e a w) (hh:o.wp P a w K Q'):o.wp P a w K Q:=by
 unfold Oper.wp at*
 generalize (execOp a.eval o).run P w=r at*
 cases r with
 | ok n w'=>
  cases n<;>simp only[Oper.upon] at hh ⊢ <;>first
   | exact hh
   | exact Calls.mono hh (fun e w'' he=>by
    cases e with
    | returned v=>exact he
    | panicked c=>exact h _ _ _ he
    | outgrown=>obtain⟨a,w,q⟩:=he;exact⟨a,w,h _ _ _ q⟩)
 | halt x w'=>cases x<;>simp only[Oper.upon] at hh ⊢ <;>first | exact hh | exact h _ _ _ hh
theorem Yv {P:Program} {ops:Array Oper} {i:Nat} {K:Act→World→Prop} {Q Q':Exit→Act→World→Prop} (h:∀ e a w,Q' e a w→Q e a w) {a:Act} {w:World} (hh:Go.wpOp P ops Q' i K a w):Go.wpOp P ops Q i K a w:=by
 unfold Go.wpOp at*
 split
 ·rename_i ho
  simpa [ho] using hh
 ·rename_i o ho
  simp only[ho] at hh
  split
  ·rename_i hw
   simp only[hw,abP] at hh
   exact hh.imp (YS h) fun ⟨h1,a,w,q⟩=>⟨h1,a,w,h _ _ _ q⟩
  ·rename_i hw
   simpa [hw] using hh
theorem Nf {P:Program} {ops:Array Oper} {Q Q':Exit→Act→World→Prop} (h:∀ e a w,Q' e a w→Q e a w):∀ (u:Nat) (listed:Array Bool) (a:Act) (w:World),Go.wpAny P .any ops Q' u listed a w→Go.wpAny P .any ops Q u listed a w
 | 0,_,_,_,hh=>⟨hh.1,h _ _ _ hh.2⟩
 | u+1,_,_,_,hh=>⟨fun hr=>h _ _ _ (hh.1 hr),fun i hi=>wpOp_mono (fun a' w' h'=>Nf h u _ a' w' h') (Yv h (hh.2 i hi))⟩
theorem Wj {P:Program} {o0:Oper} {r:List Oper} {Q:Exit→Act→World→Prop} (hg:∀ o,o∈o0::r→o.guard=none):∀ (u:Nat) (listed:Array Bool) (a:Act) (w:World),listed.getD 0 false=true→
 Go.wpAny P .any (o0::r.map vE).toArray Q u listed a w→Go.wpAny P .any (o0::r).toArray Q u listed a w:=by
 have get:∀ (i:Nat) (o:Oper),(o0::r)[i]? =some o→(o0::r.map vE)[i]? =some (if i=0 then o else vE o):=fun i o hi=>by
  cases i with
  | zero=>simpa using hi
  | succ i=>
   rw[Z1] at hi ⊢
   rw[Z7,hi,abN (by omega)];rfl
 have rd:∀ (listed:Array Bool),listed.getD 0 false=true→∀ i,i∈Region.ready .any (o0::r.map vE).toArray listed↔i∈Region.ready .any (o0::r).toArray listed:=fun listed h0 i=>by
  rw[mem_ready,mem_ready]
  constructor
  ·rintro⟨h1,o',ho',h2⟩
   have hlt:i<(o0::r).length:=by
    have:=(Z6.1 (show (o0::r.map vE)[i]? =some o' by simpa using ho')).1
    simpa using this
   have hoi:(o0::r)[i]? =some (o0::r)[i]:=Z4 hlt
   have hop:=get i _ hoi
   refine⟨h1,(o0::r)[i],by rw[aae];exact hoi,fun e he hb=>h2 e ?_ hb⟩
   rw[aae,hop] at ho'
   cases ho'
   split
   ·exact he
   ·exact Array.mem_push.2 (.inl he)
  ·rintro⟨h1,o,ho,h2⟩
   have hoi:(o0::r)[i]? =some o:=by simpa using ho
   refine⟨h1,_,by rw[aae];exact get i o hoi,fun e he hb=> ?_⟩
   split at he
   ·exact h2 e he hb
   ·rcases Array.mem_push.1 he with he | he
    ·exact h2 e he hb
    ·subst he;exact h0
 have emp:∀ (listed:Array Bool),listed.getD 0 false=true→(Region.ready .any (o0::r.map vE).toArray listed=[]↔Region.ready .any (o0::r).toArray listed=[]):=fun listed h0=>by
  constructor<;>intro h<;>rw[ZT] at h ⊢ <;>intro i hi
  ·exact h i ((rd listed h0 i).2 hi)
  ·exact h i ((rd listed h0 i).1 hi)
 intro u
 induction u with
 | zero=>intro listed a w h0 h;exact⟨(emp listed h0).1 h.1,h.2⟩
 | succ u ih=>
  intro listed a w h0 h
  refine⟨fun hr=>h.1 ((emp listed h0).2 hr),fun i hi=> ?_⟩
  have h1:=h.2 i ((rd listed h0 i).2 hi)
  obtain⟨_,o,ho,_⟩:=mem_ready.1 hi
  have hoi:(o0::r)[i]? =some o:=by simpa using ho
  have hop:(o0::r.map vE).toArray[i]? =some (if i=0 then o else vE o):=by rw[aae];exact get i o hoi
  have hgo:=hg o (aaC hoi)
  have next:∀ a w,Go.wpAny P .any (o0::r.map vE).toArray Q u (listed.setIfInBounds i true) a w→Go.wpAny P .any (o0::r).toArray Q u (listed.setIfInBounds i true) a w:=fun a w h=>ih _ a w (getD_set_true h0) h
  unfold Go.wpOp at h1 ⊢
  rw[hop] at h1
  rw[ho]
  simp only at h1 ⊢
  have w1:∀ y,Region.wanted o y=true:=fun y=>by simp[Region.wanted,hgo]
  have w2:∀ y,Region.wanted (if i=0 then o else vE o) y=true:=fun y=>by split<;>simp[Region.wanted,vE,hgo]
  rw[abO (w2 _)] at h1
  rw[abO (w1 _)]
  rcases h1 with h1 | h1
  ·left
   have h2:o.wp P a w (Go.wpAny P .any (o0::r.map vE).toArray Q u (listed.setIfInBounds i true)) Q:=by split at h1<;>exact h1
   exact Oper.wp_mono (fun a' w' h'=>next a' w' h') h2
  ·right
   have h2:o.asks P a w:=by
    have:=h1.1
    split at this<;>exact this
   exact⟨h2,h1.2⟩
theorem VM {P:Program} {ops:List Oper} (h:Ul ops=true) {Q:Exit→Act→World→Prop} (hQ:∀ e a w,Q e a w→e= .normal) {a:Act} {w:World}
 (hh:Go.wpAny P .any (Hu ops).toArray Q ops.length (Array.replicate ops.length false) a w):Go.wpAny P .any ops.toArray Q ops.length (Array.replicate ops.length false) a w:=by
 match ops,h with
 | o0::r,h=>
  simp only[Ul,Zd,ZF,abq] at h
  obtain⟨hm,hg,haf,hd,hs,hf⟩:=h
  obtain⟨x,hx⟩:∃ x,o0.op= .move x:=by
   split at hm
   ·rename_i x hx;exact⟨x,hx⟩
   ·cases hm
  have hg0:=hg o0 (by simp)
  have hrun:∀ w,(execOp a.eval o0).run P w= .ok (.value (a.eval x)) w:=fun w=>by simp[execOp,hx]
  have w1:∀ y,Region.wanted o0 y=true:=fun y=>by simp[Region.wanted,hg0]
  have hr0:∀ (l:List Oper),0∈Region.ready .any (o0::l).toArray (Array.replicate (r.length+1) false):=fun l=>by
   rw[mem_ready]
   refine⟨by simp,o0,by simp,fun e he=> ?_⟩
   rw[Array.isEmpty_iff.1 haf] at he
   simp at he
  have h1:=hh.2 0 (hr0 _)
  unfold Go.wpOp at h1
  rw[show (Hu (o0::r)).toArray[0]? =some o0 by simp[Hu]] at h1
  simp only at h1
  rw[abO (w1 _)] at h1
  rcases h1 with h1 | ⟨_,a',w',h1⟩
  ·unfold Oper.wp at h1
   rw[hrun] at h1
   have h2:=Wj hg r.length _ _ _ (by simp) h1
   refine wpAny_take (by simp) hs hf (by simpa using hr0 r) (fun c a w q=>by cases hQ _ _ _ q) (.inl ⟨w1 _,hrun⟩) h2
  ·cases hQ _ _ _ h1
variable {X:Cx} {C:Fr X.P} {G:Gh} {ρ:Env} {w:World} {β:Type}
theorem UE (hX:bT X) (hmix:X.P.follows .mixedOrders=true) {ops:List Oper} {S:St} {k:St→Option β} {r:β} (h:M3 X ops S k=some r) {Q:Exit→Act→World→Prop}
 (hQ:∀ S' G ρ w a,k S'=some r→Mod C G ρ S' w a→Q .normal a w) {a:Act} (hM:Mod C G ρ S w a) (id:Nat):(Code.region id ops.toArray true).wp X.P Q a w:=by
 refine wp_region_any hmix ?_
 unfold M3 at h
 split at h
 ·let Q':Exit→Act→World→Prop:=fun e a w=>e= .normal∧Q .normal a w
  have h3:=V7 (Q:=Q') hX h (fun _ _ _ q=>q.1) (fun S' G ρ w a hk hm=>⟨rfl,hQ S' G ρ w a hk hm⟩) (hM.of_heap (w':={ w with drawn:=w.drawn+1 }) rfl rfl rfl)
  exact Nf (Q':=Q') (fun e a w q=>by obtain⟨e1,q⟩:=q;subst e1;exact q) _ _ _ _ h3
 split at h
 ·rename_i hc
  rw[Zd] at hc
  let Q':Exit→Act→World→Prop:=fun e a w=>e= .normal∧Q .normal a w
  have h3:=AB (Q:=Q') hX h (fun S' G ρ w a hk hm=>⟨rfl,hQ S' G ρ w a hk hm⟩) hM (fun h=>by cases h)
  have hl:(Hu ops).toArray.size=ops.length:=by cases ops<;>simp[Hu]
  rw[hl] at h3
  have h4:=VM hc.2 (Q:=Q') (fun e a w q=>q.1) h3
  refine Nf (Q':=Q') (fun e a w q=>by obtain⟨e1,q⟩:=q;subst e1;exact q) _ _ _ _ ?_
  simpa using h4
 refine AB hX h hQ hM fun h'=> ?_
 split at h'
 ·rename_i hp
  have H:=Rn hp
  have h2:=AB hX h' hQ hM (fun h=>by cases h)
  rw[H.size] at h2
  refine H.wpAny _ _ _ _ _ (by simp) (by simp) (fun i b hi=> ?_) h2
  have:=(H.lt i hi).1
  simp only[YZ,Y4,hi,this,abP]
 ·cases h'
end Go.Dn
namespace Go.Dn
variable {X:Cx} {C:Fr X.P} {G:Gh} {ρ:Env} {w:World} {β:Type}
structure pQ (ops:List Oper) (S S':St):Prop where
 boxes:S'.boxes=S.boxes
 rows:S'.rows=S.rows
 objs:S'.objs=S.objs
 len:S'.tmps.length=S.tmps.length
 tmp:∀ t,(∀ o,o∈ops→o.dst≠some t)→S'.tmps[t]? =S.tmps[t]?
theorem pQ.refl (ops:List Oper) (S:St):pQ ops S S:=⟨rfl,rfl,rfl,rfl,fun _ _=>rfl⟩
theorem pQ.put {ops:List Oper} {S S':St} (h:pQ ops S S') {o:Oper} (ho:o∈ops) (s:SV):pQ ops S (S'.put o.dst s):=by
 cases hd:o.dst with
 | none=>exact h
 | some d=>
  refine⟨h.boxes,h.rows,h.objs,by simp[St.put,h.len],fun t ht=> ?_⟩
  have hne:d≠t:=fun e=>ht o ho (by rw[hd,e])
  simp only[St.put]
  rw[aaa hne]
  exact h.tmp t ht
theorem pQ.app {ops:List Oper} {S S':St} (h:pQ ops S S') {o:Oper} (ho:o∈ops) {x:Del} (hp:lY x=true):pQ ops S (S'.app o.dst x):=by
 obtain⟨p1,p2,p3⟩:=x7 hp
 have e:x=⟨x.sv,none,none,none⟩:=by cases x;simp only at p1 p2 p3;subst p1;subst p2;subst p3;rfl
 rw[e,St.Cv]
 exact h.put ho _
theorem UD (S:St):(cF pn S).boxes=S.boxes∧(cF pn S).rows=S.rows∧(cF pn S).objs=S.objs:=by
 refine⟨?_,rfl,rfl⟩
 simp only[cF]
 exact List.filter_eq_self.2 fun p _=>by simp[kP,pn,inL]
theorem VP (i:Nat):inM m0 i=false:=by simp[inM,m0];rfl
theorem Jy (hX:bT X) {ops:List Oper} {M:St}:∀ {l:List Oper} {c:Nat} {S:St} {k:St→Option β} {r:β},(∀ o,o∈l→o∈ops)→gh X ops M (fun _=>cF pn M) m0 c l S k=some r→pQ ops M S→∀ {Q:Exit→Act→World→Prop},
 (∀ S' G ρ w a,k S'=some r→pQ ops M S'→Mod C G ρ S' w a→Q .normal a w)→∀ {G ρ w a},Mod C G ρ S w a→wpList X.P ops.toArray Q l a w
 | [],c,S,k,r,hl,h,hJ,Q,hQ,G,ρ,w,a,hM=>hQ S G ρ w a h hJ hM
 | o::rest,c,S,k,r,hl,h,hJ,Q,hQ,G,ρ,w,a,hM=>by
  have hmem:o∈ops:=hl o (by simp)
  have hl':∀ o,o∈rest→o∈ops:=fun o ho=>hl o (by simp[ho])
  have step:(dz X o S (cF pn M) fun x=>bif lY x then gh X ops M (fun _=>cF pn M) m0 (c+1) rest (S.app o.dst x) k else none)=some r→o.wp X.P a w (wpList X.P ops.toArray Q rest) Q:=fun h=>by
   obtain⟨x,h1,h2,_⟩:=nW hX h
   cases hp:lY x with
   | false=>rw[hp] at h1;cases h1
   | true=>
    rw[hp,abB] at h1
    obtain⟨p1,p2,p3⟩:=x7 hp
    obtain⟨e1,e2,e3⟩:=UD M
    have:=h2 C G ρ S w a Q hM ⟨fun _ _=>rfl,fun k cs hk=>by rw[hJ.boxes, ← e1];exact hk,fun k cs hk=>by rw[hJ.rows, ← e2];exact hk,fun k cs hk=>by rw[hJ.objs, ← e3];exact hk⟩
     (fun d _ h=>by rw[p1] at h;cases h) (fun d _ h=>by rw[p2] at h;cases h) (fun d _ h=>by rw[p3] at h;cases h)
    exact Oper.wp_mono (fun a' w' ⟨G',ρ',hM'⟩=>Jy hX hl' h1 (hJ.app hmem hp) hQ hM') this
  have skip:gh X ops M (fun _=>cF pn M) m0 (c+1) rest (S.put o.dst oA) k=some r→wpList X.P ops.toArray Q rest (a.put o.dst undef) w:=fun h=>
   Jy hX hl' h (hJ.put hmem _) hQ (hM.put o.dst (fun _ _=>Lo))
  simp only[gh,VP,abA] at h
  split at h
  ·cases hs:kY ops o S with
   | false=>rw[hs] at h;cases h
   | true=>
    rw[hs] at h
    have hw:=El hM.tmps hs
    simp only[wpList,hw]
    rw[abN (by simp)];exact skip h
  ·rename_i hg
   have hw:=fV hM.tmps hg
   simp only at hw
   simp only[wpList,hw,abP]
   exact .inl (step h)
  ·rename_i d b want hg
   obtain⟨hS,hw⟩:=fV hM.tmps hg
   rcases Hl hS h with ⟨hb,h⟩ | ⟨hb,h⟩
   ·rw[hb] at hw
    simp only[wpList,hw,abP]
    exact .inl (step h)
   ·rw[hb] at hw
    simp only[wpList,hw]
    rw[abN (by simp)];exact skip h
theorem IC {ops:List Oper} {M:St}:∀ {l:List Oper} {S:St} {outs:List (Option Del)},(∀ o,o∈l→o∈ops)→pQ ops M S→(∀ y,some y∈outs→lY y=true)→pQ ops M (states l S outs)
 | [],S,outs,_,h,_=>by cases outs<;>exact h
 | o::l,S,[],_,h,_=>h
 | o::l,S,x::xs,hl,h,hp=>by
  simp only[states]
  refine IC (fun o ho=>hl o (by simp[ho])) ?_ (fun y hy=>hp y (by simp[hy]))
  cases x with
  | none=>exact h.put (hl o (by simp)) _
  | some y=>exact h.app (hl o (by simp)) (hp y (by simp))
theorem XQ (hX:bT X) (hmix:X.P.follows .mixedOrders=true) {ops:List Oper} {dr:Bool} {S:St} {k:St→Option β} {r:β} (h:UB X ops dr S k=some r) {Q:Exit→Act→World→Prop}
 (hQ:∀ S' G ρ w a,k S'=some r→pQ ops S S'→Mod C G ρ S' w a→Q .normal a w) {a:Act} (hM:Mod C G ρ S w a) (id:Nat):(Code.region id ops.toArray dr).wp X.P Q a w:=by
 cases dr with
 | false=>
  simp only[UB,abA,UF] at h
  refine wp_region_list ?_
  have:=Jy hX (fun _ h=>h) h (.refl ops S) (Q:=Q) hQ hM
  simpa using this
 | true=>
  simp only[UB,abB] at h
  cases hchk:(CO ops ops.length&& !(ops.any fun o=>tw o.op)) with
  | false=>rw[hchk] at h;cases h
  | true=>
   rw[hchk,abB] at h
   unfold UF at h
   obtain⟨outs,h1,h2,h3⟩:=wj (tf:=fun _=>pn) hX h
   cases hnew:xQ ops ops.length S (states ops S outs) with
   | false=>rw[hnew] at h2;cases h2
   | true=>
    rw[hnew,abB] at h2
    have htk:ops.take ops.length=ops:=List.take_length
    simp only[CO,Zd] at hchk
    obtain⟨⟨⟨⟨⟨c1,c2⟩,c3⟩,c4⟩,c5⟩,_⟩:=hchk
    have K:=bQ.of (X:=X) (ops:=ops) (n:=ops.length) (S:=S) (outs:=outs) (aa7 _) c2 c4 (by rw[htk];exact h1) (fun i o x hi hx=>by
     rw[htk] at hi ⊢
     exact (h3 i o x hi hx).1) (by rw[htk];exact hnew)
    rw[htk] at K
    have hpure:∀ y,some y∈outs→lY y=true:=fun y hy=>by
     obtain⟨i,hi⟩:=aaA.1 hy
     have hlt:i<outs.length:=(Z6.1 hi).1
     have hlt':i<ops.length:=by rw[← h1];exact hlt
     exact ((h3 i _ (some y) (Z4 hlt') hi).2 (VP _) y rfl).2
    have hJ:=IC (ops:=ops) (M:=S) (outs:=outs) (fun _ h=>h) (.refl ops S) hpure
    refine wp_region_any hmix ?_
    have hM':=hM.of_heap (w':={ w with drawn:=w.drawn+1 }) rfl rfl rfl
    have hany:=K.any (C:=C) (Q:=Q) (AX c3) c5 (fun G ρ w a hMn=>by
     rw[List.drop_length]
     exact hQ _ G ρ w a h2 hJ hMn) ops.length (Array.replicate ops.toArray.size false) a { w with drawn:=w.drawn+1 } G ρ (by simp) qJ
     (fun m _ hm2=>oz hm2 true) (sg (aa7 _)) (by
       have:=ya (X:=X) (C:=C) (ops:=ops) (n:=ops.length) (S:=S) (outs:=outs) (aa7 _) hM'
       rw[htk] at this
       exact this)
    rw[show ops.length+(ops.length - ops.length)=ops.toArray.size by simp] at hany
    exact hany
theorem BN:∀ (l:List Oper) (T:List SV),(qU l T).length=T.length
 | [],_=>rfl
 | o::r,T=>by
  simp only[qU]
  rw[BN r]
  cases o.dst<;>simp
theorem Ih:∀ (l:List Oper) (T:List SV) (t:Nat) (s:SV),(qU l T)[t]? =some s→s= .v false [.any]∨((∀ o,o∈l→o.dst≠some t)∧T[t]? =some s)
 | [],T,t,s,h=> .inr ⟨(fun _ h'=>nomatch h'),h⟩
 | o::r,T,t,s,h=>by
  simp only[qU] at h
  rcases Ih r _ t s h with h1 | ⟨h1,h2⟩
  ·exact .inl h1
  ·cases hd:o.dst with
   | none=>
    rw[hd] at h2
    refine .inr ⟨fun o' ho=> ?_,h2⟩
    rcases aaw.1 ho with e | e
    ·subst e;rw[hd];exact nofun
    ·exact h1 o' e
   | some d=>
    rw[hd] at h2
    simp only[Z9] at h2
    by_cases e:d=t
    ·subst e
     rw[abO rfl] at h2
     split at h2
     ·cases h2;exact .inl rfl
     ·cases h2
    ·rw[abN e] at h2
     refine .inr ⟨fun o' ho=> ?_,h2⟩
     rcases aaw.1 ho with e' | e'
     ·subst e';rw[hd];intro h;cases h;exact e rfl
     ·exact h1 o' e'
theorem Ji:∀ (l:List (Nat×Ty)) (v:Mv l) (T:List SV),(DO l v T).length=T.length
 | [],_,_=>rfl
 | p::r,v,T=>by simp[DO,Ji r]
theorem Tf {S':St} {ρ:Env} {a:Act} (hF:gC G ρ S') (hT:eX G ρ S' a):∀ (l:List (Nat×Ty)) (v:Mv l) (T:List SV),KL S' l=some v→T.length=S'.tmps.length→(∀ (i:Nat) (s:SV),T[i]? =some s→bn G ρ s (a.tmps.getD i undef))→
 ∀ (i:Nat) (s:SV),(DO l v T)[i]? =some s→bn G ρ s (a.tmps.getD i undef)
 | [],_,T,_,_,h,i,s,hi=>h i s hi
 | p::r,v,T,hv,hl,h,i,s,hi=>by
  simp only[KL] at hv
  split at hv
  ·rename_i x hx
   split at hv
   ·rename_i y hy
    cases hv
    simp only[DO,Z9] at hi
    by_cases e:p.1=i
    ·subst e
     rw[abO rfl] at hi
     split at hi
     ·rename_i hlt
      cases hi
      rw[Ji,hl] at hlt
      have hd:=hT.2 p.1 _ (Z4 hlt)
      have:bn G ρ (S'.tmps.getD p.1 (.v false [.any])) (a.tmps.getD p.1 undef):=by
       rw[ZX,Z4 hlt];exact hd
      exact wG ρ (iT hF (jO.nil _ _ _) hx this)
     ·cases hi
    ·rw[abN e] at hi
     exact Tf hF hT r y T hy hl h i s hi
   ·cases hv
  ·cases hv
theorem Vw {S S':St} {ops:List Oper} {l:List (Nat×Ty)} {v:Mv l} {a:Act} (hJ:pQ ops S S') (hv:KL S' l=some v) (hM:Mod C G ρ S' w a):Mod C G ρ { S with tmps:=DO l v (qU ops S.tmps) } w a:=by
 have h0:Mem C G ρ { S with tmps:=DO l v (qU ops S.tmps) } w:=hM.toMem.CZ (by rw[hJ.boxes]) (by rw[hJ.rows]) (by rw[hJ.objs])
 refine { h0 with tmps:=⟨?_, ?_⟩,defers:=hM.defers }
 ·show a.tmps.size=(DO l v (qU ops S.tmps)).length
  rw[Ji,BN, ← hJ.len];exact hM.tmps.1
 ·refine Tf hM.toMem.frozen hM.tmps l v _ hv (by rw[BN,hJ.len]) (fun i s hi=> ?_)
  rcases Ih ops S.tmps i s hi with e | ⟨h1,h2⟩
  ·subst e;trivial
  ·exact hM.tmps.2 i s (by rw[hJ.tmp i h1];exact h2)
end Go.Dn
