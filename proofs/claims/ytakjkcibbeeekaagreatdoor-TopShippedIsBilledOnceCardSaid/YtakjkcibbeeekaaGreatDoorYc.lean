/-
  An executor of Go code on plain data, proved sound against the model, a part. No condition.
-/
import Derived.Test.YtakjkcibbeeekaaGreatDoorYb
import Derived.LoopN
set_option linter.all false
namespace Go.Dn
variable {β:Type} {X:Cx} {o:Oper} {S:St} {r:β} {P0:Program} {C:Fr P0} {G:Gh} {ρ:Env} {w:World}
theorem UY {a b j:Nat} (h1:a<=j) (h2:j<b) (c:CV):c.bG j=true\/c.bV j=true\/c.bN j=true->c.ni a b=true:=by
 have hb:∀ i,Nat.beq i j=true->(Nat.ble a i&&Nat.blt i b)=true:=fun i hi=>by
  simp_all
 intro h
 cases c<;>simp only[CV.bG,CV.bV,CV.bN,CV.ni] at h ⊢ <;>grind
theorem aaQ {S:St} {a b j:Nat} (h:S.ni a b=false) (h1:a<=j) (h2:j<b):S.bG j=false/\S.bV j=false/\S.bN j=false:=by
 simp only[St.ni,ahe,ahJ] at h
 have sv:∀ s,s∈S.tmps->s.bG j=false/\s.bV j=false/\s.bN j=false:=fun s hs=>by
  have hn:=h.1 s hs
  cases s with
  | v a' cs=>
   simp only[SV.ni,ahK,aj2,aj1] at hn
   have key:∀ c,c∈cs->¬ (c.bG j=true\/c.bV j=true\/c.bN j=true):=fun c hc hx=>hn c hc (UY h1 h2 c hx)
   simp only[SV.bG,SV.bV,SV.bN,ahJ]
   grind
  | tup l=>
   simp only[SV.ni,ahK,aj2,aj1] at hn
   have key:∀ p,p∈l->∀ c,c∈p.2->¬ (c.bG j=true\/c.bV j=true\/c.bN j=true):=fun p hp c hc hx=>hn p hp c hc (UY h1 h2 c hx)
   simp only[SV.bG,SV.bV,SV.bN,ahJ,ahK,aj2,aj1]
   grind
 have bv:∀ p,p∈S.boxes->∀ c,c∈p.2->¬ (c.bG j=true\/c.bV j=true\/c.bN j=true):=fun p hp c hc hx=>by
  have hn:=h.2 p hp
  simp only[ahK,aj2,aj1] at hn
  exact hn c hc (UY h1 h2 c hx)
 simp only[St.bG,St.bV,St.bN,ahe,ahJ,ahK,aj2,aj1]
 grind
theorem afp {ρ ρ':Env} (hb:∀ k,S.cN k=true->ρ'.bx k=ρ.bx k) (hr:∀ k,S.bG k=true->ρ'.rw k=ρ.rw k) (ho:∀ k,S.bV k=true->ρ'.ob k=ρ.ob k) (hs:∀ k,S.bN k=true->ρ'.st k=ρ.st k):S.gZ ρ ρ':=by
 have inT:∀ s,s∈S.tmps->∀ c,(∀ f:CV->Bool,f c=true->(match s with | .v _ cs=>cs.any f | .tup l=>l.any fun p=>p.2.any f)=true)->c.gZ ρ ρ':=fun s hs' c hc=>
  ⟨fun k hk=>hb k (by
    simp only[St.cN,ahf,ahK];left
    refine⟨s,hs', ?_⟩
    have:=hc (CV.cN k) hk
    cases s<;>exact this),
   fun k hk=>hr k (by
    simp only[St.bG,ahf,ahK];left
    refine⟨s,hs', ?_⟩
    have:=hc (CV.bG k) hk
    cases s<;>exact this),
   fun k hk=>ho k (by
    simp only[St.bV,ahf,ahK];left
    refine⟨s,hs', ?_⟩
    have:=hc (CV.bV k) hk
    cases s<;>exact this),
   fun k hk=>hs k (by
    simp only[St.bN,ahf,ahK];left
    refine⟨s,hs', ?_⟩
    have:=hc (CV.bN k) hk
    cases s<;>exact this)⟩
 refine⟨fun s hs'=> ?_,fun p hp c hc=>⟨fun k hk=>hb k ?_,fun k hk=>hr k ?_,fun k hk=>ho k ?_,fun k hk=>hs k ?_⟩⟩
 ·cases s with
  | v a cs=>exact fun c hc=>inT _ hs' c fun f hf=>by grind
  | tup l=>exact fun p hp c hc=>inT _ hs' c fun f hf=>by grind
 ·simp only[St.cN,ahf,ahK];grind
 ·simp only[St.bG,ahf,ahK];grind
 ·simp only[St.bV,ahf,ahK];grind
 ·simp only[St.bN,ahf,ahK];grind
def cE:List (bE×Value)->bE->Option Value
 | [],_=>none
 | (o,n)::r,x=>if o=x then some n else cE r x
theorem IA {l:List (bE×Value)} {o:bE} {v:Value} (h:cE l o=some v):(o,v)∈l:=by
 induction l with
 | nil=>simp[cE] at h
 | cons p r ih=>
  obtain⟨o',n'⟩:=p
  simp only[cE] at h
  grind
theorem HB {l:List (bE×Value)} {its:List (bE×Nat)} (he:l.map (·.1)=its.map (·.1)) (hd:BJ its=false) {o:bE} {v:Value} (h:(o,v)∈l):cE l o=some v:=by
 induction l generalizing its with
 | nil=>simp at h
 | cons p r ih=>
  cases its with
  | nil=>grind
  | cons q its=>
   obtain⟨o',v'⟩:=p
   obtain⟨o2,n2⟩:=q
   simp only[aiv,List.cons.injEq] at he
   obtain⟨e1,e2⟩:=he
   subst e1
   simp only[BJ,ahe] at hd
   simp only[cE]
   rcases aiz.1 h with h | h
   ·grind
   ·split
    ·rename_i e
     subst e
     have hm:o'∈its.map (·.1):=by grind
     obtain⟨x,hx,ex⟩:=aiE.1 hm
     have:=LS (l:=its) (o:=o') (n:=x.2) (by grind)
     grind
    grind
theorem Ah {l:List (bE×Value)} {its:List (bE×Nat)} (he:l.map (·.1)=its.map (·.1)) {o:bE} (h:cE l o≠none):∃ n,(o,n)∈its:=by
 cases hv:cE l o with
 | none=>grind
 | some v=>
  have hm:o∈its.map (·.1):=by rw[<- he];exact aiE.2 ⟨_,IA hv,rfl⟩
  grind
def mS:List (bE×Nat)->Nat->Option bE
 | [],_=>none
 | (o,n)::r,x=>if n=x then some o else mS r x
theorem Ab {l:List (bE×Nat)} (hd:dup (l.map (·.2))=false) {o:bE} {n:Nat} (h:(o,n)∈l):mS l n=some o:=by
 induction l with
 | nil=>simp at h
 | cons p r ih=>
  obtain⟨o',n'⟩:=p
  rw[aiv] at hd
  obtain⟨h1,h2⟩:=Lp hd
  simp only[mS]
  grind
theorem vi {α:Type} (f:Nat->Bool):∀ (l:List (Nat×α)) (i:Nat),look (l.filter fun p=>f p.1) i=if f i=true then look l i else none
 | [],i=>by simp[look]
 | (j,y)::r,i=>by
  have ih:=vi f r i
  cases hU:f j with
  | false=>
   have:(List.filter (fun p:Nat×α=>f p.1) ((j,y)::r))=r.filter fun p=>f p.1:=by simp[hU]
   rw[this,ih,aD]
   grind
  | true=>
   have:(List.filter (fun p:Nat×α=>f p.1) ((j,y)::r))=(j,y)::r.filter fun p=>f p.1:=by simp[hU]
   rw[this,aD,aD,ih]
   grind
def DB (w:World) (v:Value) (i:Nat):Int:=
 match v with
 | .map (some b)=>match w.heap[b]? with
  | some (.map es _)=>((es.toList[i]?).map fun e=>(e.born:Int)).getD 0
  | _=>0
 | _=>0
def Gj:Value->Nat
 | .pointer (some ⟨b,_,_⟩)=>b
 | _=>0
theorem QJ (S:St) (js:List Nat):∀ (i:Nat) (ps:List PM) (args:List SV),iM (aX S js) i ps args=iM S i ps args
 | _,[],_=>rfl
 | i,p::r,l=>by
  have h1:∀ s,nO (aX S js) i p s=nO S i p s:=fun s=>by rfl
  simp only[iM,QJ S js (i+1) r,h1]
theorem acJ {d n:Nat} (hd:d<2000) (hn:n<2048):nid d 0 0+n<10000000:=by simp only[nid];omega
theorem V9 {S:St}:∀ {ps:List PM} {args:List SV} {i:Nat},mz ps=true->∃ n,(.ob bQ,n)∈iM S i ps args
 | [],args,i,h=>by simp[mz] at h
 | p::r,args,i,h=>by
  simp only[iM,aiy]
  cases p with
  | ar t=>exact⟨64*i,.inl (by simp[PM.arg,nO])⟩
  | _=>
   obtain⟨n,hn⟩:=V9 (S:=S) (ps:=r) (args:=(bif PM.arg _ then args.tail else args)) (i:=i+1) h
   exact⟨n,.inr hn⟩
theorem Wa {V:St} {fb:List Nat}:∀ {ps:List PM} {args:List SV} {x:eL ps},lQ V fb ps args=some x->mz ps=true->∃ t l,look V.objs bQ=some (.ar false t l)
 | [],args,x,h,ha=>by simp[mz] at ha
 | p::r,args,x,h,ha=>by
  simp only[lQ] at h
  split at h
  ·rename_i s hs
   split at h
   ·rename_i y hy
    split at h
    ·rename_i z hz
     cases p with
     | ar t=>
      obtain⟨f,hl,hf⟩:=zl (show A7 V false t=some y from hy)
      grind
     | _=>exact Wa hz ha
    ·cases h
   ·cases h
  ·cases h
theorem Al {d i:Nat}:∀ {l:List OT} {c:Nat} {x:rE l} {j:Nat} {q:vS},look (qU d i c l x) j=some q->∃ k v l,q= .map k v l
 | [],c,x,j,q,h=>by simp[qU,look] at h
 | .val _::r,c,x,j,q,h=>Al (l:=r) h
 | .row _ _::r,c,x,j,q,h=>Al (l:=r) h
 | .map k v::r,c,x,j,q,h=>by
  simp only[qU,aD] at h
  split at h
  ·grind
  ·exact Al (l:=r) h
theorem Db {ps:List PM} {d:Nat}:∀ {rs:List RM} {c:Nat} {y:dc ps rs} {j:Nat} {q:vS},look (pF ps d rs c y) j=some q->∃ k v l,q= .map k v l
 | [],c,y,j,q,h=>by simp[pF,look] at h
 | .val _::r,c,y,j,q,h=>Db (rs:=r) h
 | .row _ _::r,c,y,j,q,h=>Db (rs:=r) h
 | .map k v::r,c,y,j,q,h=>by
  simp only[pF,aD] at h
  split at h
  ·grind
  ·exact Db (rs:=r) h
 | .box l::r,c,y,j,q,h=>by
  simp only[pF,dJ] at h
  rcases or_some h with h | ⟨_,h⟩
  ·exact Al h
  ·exact Db (rs:=r) h
theorem wj {d:Nat}:∀ {ps:List PM} {args:List SV} {i:Nat} {y:ia ps} {j:Nat} {q:vS},mz ps=false->look (fD d i ps args y) j=some q->∃ k v l,q= .map k v l
 | [],args,i,y,j,q,_,h=>by simp[fD,look] at h
 | .val _::r,[],i,y,j,q,_,h=>by simp[fD,look] at h
 | .row _ _::r,[],i,y,j,q,_,h=>by simp[fD,look] at h
 | .mrow _ _::r,[],i,y,j,q,_,h=>by simp[fD,look] at h
 | .map _ _::r,[],i,y,j,q,_,h=>by simp[fD,look] at h
 | .box _::r,[],i,y,j,q,_,h=>by simp[fD,look] at h
 | .val _::r,s::t,i,y,j,q,ha,h=>wj (ps:=r) (args:=t) ha h
 | .row _ _::r,s::t,i,y,j,q,ha,h=>wj (ps:=r) (args:=t) ha h
 | .mrow _ _::r,s::t,i,y,j,q,ha,h=>wj (ps:=r) (args:=t) ha h
 | .arR _::r,t,i,y,j,q,ha,h=>wj (d:=d) (ps:=r) (args:=t) (i:=i+1) (y:=y) (j:=j) ha (by cases t<;>exact h)
 | .ar _::r,t,i,y,j,q,ha,h=>by simp[mz] at ha
 | .map k v::r,s::t,i,y,j,q,ha,h=>by
  simp only[fD,dJ] at h
  rcases or_some h with h | ⟨_,h⟩
  ·split at h
   ·simp only[aD] at h
    split at h
    ·grind
    ·simp[look] at h
   ·simp[look] at h
  ·exact wj (ps:=r) (args:=t) ha h
 | .box l::r,s::t,i,y,j,q,ha,h=>by
  simp only[fD,dJ] at h
  rcases or_some h with h | ⟨_,h⟩
  ·split at h
   ·exact Al h
   ·simp[look] at h
  ·exact wj (ps:=r) (args:=t) ha h
theorem TS {args:List SV} {sp:ay} {k:St->Option β} (h:u6 sp S args o.dst k=some r):∃ S',k S'=some r/\∀ (C:Fr X.P) (G:Gh) (ρ:Env) (w:World) (a:Act) (Q:Exit->Act->World->Prop),Mod C G ρ S w a-> (∀ G1 ρ1,Mod C G1 ρ1 (aX S (iK S (mX sp.ps args))) w a->ρ1.bx=ρ.bx->∃ vs f avs,aR (bK G1 ρ1) args vs/\(execOp a.eval o).run X.P w= .ok (.enter f avs) w/\ ∀ G2 x y,Agr G2 w->(∀ b i,fe ρ1 (iM S 0 sp.ps args) b=some i->G2 b=none/\b<w.heap.size)-> (∀ b,G2 b≠G1 b->(∃ k',ρ1.own b=some (.inl k')/\inL (mB S (mX sp.ps args)) k'=true)\/ρ1.own b=some (.ob bQ))-> kF G2 w (fe ρ1 (iM S 0 sp.ps args)) 0 sp.ps x vs->sp.m x=some y->vT X.P G2-> Calls X.P f avs w fun e w'=>∃ w1 G' ow' us,R5 G2 w (fe ρ1 (iM S 0 sp.ps args)) sp vs y e w1 G' ow' us/\ (∀ G3 ρ3 a',Mod C G3 ρ3 S' w1 a'->(∀ k',S.cN k'=true->ρ3.bx k'=ρ.bx k')->∃ G4 ρ4,Mod C G4 ρ4 S' w' a'))-> o.wp X.P a w (fun a' w'=>∃ G' ρ',Mod C G' ρ' S' w' a') Q:=by
 unfold u6 at h
 simp only at h
 split at h
 ·cases h
 ·rename_i hc
  simp only[ahf,aj4,aha,ag9] at hc
  obtain⟨⟨⟨⟨⟨⟨⟨⟨⟨⟨⟨⟨hdO,hdI⟩,hdC⟩,hcode⟩,hfbo⟩,hjso⟩,harx⟩,hfresh⟩,howold⟩,hnostp⟩,hflx⟩,hnbx⟩,hdd⟩:=hc
  generalize hits:di (o.dst.getD 0) 0 sp.ps args++gp (o.dst.getD 0) 0 sp.rs=its at*
  generalize how:iM S 0 sp.ps args=ow at*
  split at h
  ·rename_i x hx
   obtain⟨y,hy,h⟩:=bind_some h
   refine⟨_,h,fun C G ρ w a Q hM hCall=> ?_⟩
   clear h
   generalize hva:mX sp.ps args=va at*
   obtain⟨G1,ρ1,G2,hfz,hM1,hle2,hhn2,hagr2,hlent,harok,hG2⟩:=hM.adS (iK S va) (mB S va) (C5 sp.ps)
   obtain⟨vs,f,avs,hvs,hrun,hCall⟩:=hCall G1 ρ1 hM1 hfz.bx
   have hF:mc G2 ρ1 (aX S (iK S va)):=fun j q hj hq=>iH.mono hle2 (hM1.toMem.frozen j q hj hq)
   have hargs:=OQ (ow:=ow) hM1.toMem hle2 hhn2 hF hlent 0 (fun e fz t l hl=>harok e fz t l hl) (fun q hq=>by
    rw[QJ,how] at hq
    exact qR hdO hq) hx hvs
   have howG:∀ b i,fe ρ1 ow b=some i->G2 b=none/\b<w.heap.size:=fun b i hb=>by
    unfold fe at hb
    cases h1:ρ1.own b with
    | none=>rw[h1] at hb;cases hb
    | some o'=>
     rw[h1] at hb
     simp only[ajA] at hb
     have hbb:=hM1.owned b o' h1
     refine⟨?_,hbb.2.1⟩
     by_cases e:G2 b=G1 b
     ·rw[e];exact hbb.1
     ·rcases hG2 b e with ⟨k',hk1,hk2⟩ | ⟨hk1,hk2⟩
      ·rw[h1] at hk1
       cases hk1
       simp only[ahJ] at hfbo
       have hm:k'∈mB S va:=by
        simp only[inL,ahK] at hk2
        obtain⟨x',hx1,hx2⟩:=hk2
        rw[ai8 hx2];exact hx1
       have:=hfbo k' hm
       rw[hb] at this;simp at this
      ·rw[h1] at hk2
       cases hk2
       rw[hk1,hb] at harx;simp at harx
   have hcall:=hCall G2 x y hagr2 howG (fun b hb=>(hG2 b hb).imp id (·.2)) hargs hy (C.tab.mono (Gh.le_trans hM1.le0 hle2))
   unfold Oper.wp
   rw[hrun]
   refine hcall.mono ?_
   rintro e w0 ⟨w',G',ow',us,hg,hfin⟩
   rw[hg.ret]
   have base:∃ Gb ρb Sb,Mod C Gb ρb Sb w a/\Sb.tmps=S.tmps/\Sb.boxes=S.boxes/\Sb.objs=S.objs/\Sb.rows=(if (mV sp.rs&&lF sp.ps)=true then S else aX S (iK S va)).rows/\ρb.bx=ρ1.bx/\ρb.rw=ρ1.rw/\ρb.ob=ρ1.ob/\ρb.st=ρ1.st/\Gb.hnd=G2.hnd/\
    (∀ b o',ρ1.own b=some o'->ρb.own b=some o')/\((mV sp.rs&&lF sp.ps)=true\/∀ b,G2 b=Gb b):=by
    by_cases hfl:(mV sp.rs&&lF sp.ps)=true
    ·exact⟨G,ρ,S,hM,rfl,rfl,rfl,by rw[ajZ hfl],hfz.bx.symm,hfz.rw.symm,hfz.ob.symm,hfz.st.symm,(hhn2.trans hfz.hnd).symm,hfz.own,.inl hfl⟩
    ·refine⟨G1,ρ1,_,hM1,rfl,rfl,rfl,by rw[ajY hfl],rfl,rfl,rfl,rfl,hhn2.symm,fun _ _ h=>h,.inr fun b=> ?_⟩
     have hfe:(mB S va).isEmpty=true/\C5 sp.ps=false:=by
      rcases hflx with h1 | h1
      ·exact absurd h1 hfl
      ·simpa using h1
     cases Classical.em (G2 b=G1 b) with
     | inl e=>exact e
     | inr e=>
      rcases hG2 b e with ⟨k',_,hk2⟩ | ⟨hk1,_⟩
      ·have:mB S va=[]:=by simpa using hfe.1
       rw[this] at hk2;simp[inL] at hk2
      ·rw[hfe.2] at hk1;cases hk1
   obtain⟨Gb,ρb,Sb,hMb,eT,eB,eO,eR,ebx,erw,eob,est,ehn,hown1,hflat⟩:=base
   have howN:∀ b o',ρb.own b=some o'->cq ow o'=none->fe ρ1 ow b=none:=fun b o' hb hn=>by
    unfold fe
    cases h1:ρ1.own b with
    | none=>rfl
    | some o2=>
     have:=hown1 b o2 h1
     rw[hb] at this
     cases this
     simpa using hn
   have hownb:∀ b,fe ρ1 ow b≠none->∃ o',ρb.own b=some o':=fun b hb=>by
    unfold fe at hb
    cases h1:ρ1.own b with
    | none=>rw[h1] at hb;exact absurd rfl hb
    | some o'=>exact⟨o',hown1 b o' h1⟩
   have hgb:∀ b,fe ρ1 ow b≠none->Gb b=none:=fun b hb=>by
    obtain⟨o',h1⟩:=hownb b hb
    exact (hMb.owned b o' h1).1
   let G3:Gh:=⟨fun b=>if b<w.heap.size/\fe ρ1 ow b=none then Gb b else G' b,G'.hnd⟩
   have hle3:Gb.le G3:=⟨fun b o' hb=>by
    have h1:=dU (hMb.agr b o' hb)
    have h2:fe ρ1 ow b=none:=by
     cases h3:fe ρ1 ow b with
     | none=>rfl
     | some i=>have:=hgb b (by rw[h3];simp);rw[hb] at this;cases this
    simp only[G3,h1,h2,ajI,aj0];exact hb,fun i b hb=>hg.le.hnd i b (by rw[<- ehn];exact hb)⟩
   have hagr3:Agr G3 w':=fun b o' hb=>by
    simp only[G3] at hb
    split at hb
    ·rename_i hb'
     rw[(hg.old b hb'.1 hb'.2).1];exact hMb.agr b o' hb
    ·exact hg.agr b o' hb
   have hTr:Trans G' G3 (mV sp.rs&&lF sp.ps):=⟨fun _ _ h=>h,by
    rcases hflat with h1 | h1
    ·exact .inl h1
    ·right
     refine⟨fun b o' hb=> ?_,fun _ _ h=>h⟩
     simp only[G3]
     by_cases hb':b<w.heap.size/\fe ρ1 ow b=none
     ·rw[ajZ hb', <- h1, <- (hg.old b hb'.1 hb'.2).2];exact hb
     ·rw[ajY hb'];exact hb⟩
   obtain⟨hbk,vals1,hv1,hpt1,hr1⟩:=HL (d:=o.dst.getD 0) (Trans.left hTr) hg.out
   obtain⟨vals2,hv2,hold2,hr2⟩:=Cb (d:=o.dst.getD 0) (G:=G1) (ρ:=ρ1) (show G3.hnd=G'.hnd from rfl) (Trans.right hTr) hbk hvs
   generalize hvals:vals2++vals1=vals
   have hvits:vals.map (·.1)=its.map (·.1):=by rw[<- hvals, <- hits];simp[hv1,hv2]
   have hmem1:∀ p,p∈vals1->p∈vals:=fun p hp=>by rw[<- hvals];simp[hp]
   have hmem2:∀ p,p∈vals2->p∈vals:=fun p hp=>by rw[<- hvals];simp[hp]
   let ρ3:Env:=⟨fun i=>match cE vals (.inl i) with | some v=>Gj v | none=>ρb.bx i,
    fun i=>(cE vals (.inr i)).getD (ρb.rw i),
    fun b=>match ow' b with | some n=>mS its n | none=>if fe ρ1 ow b=none then ρb.own b else none,
    fun i=>match cE vals (.ob i) with | some (.map (some b))=> .map (some b) | _=>ρb.ob i,
    fun i=>match cE vals (.ob i) with | some v=>DB w' v | none=>ρb.st i⟩
   have hA3:∀ o v,(o,v)∈vals->Asg ρ3 w' o v:=fun o v hm=>by
    have hl:=HB hvits hdI hm
    cases o with
    | inl k'=>
     have hp:∃ b,v= .pointer (some ⟨b,0,none⟩):=by
      rw[<- hvals] at hm
      rcases aiy.1 hm with h1 | h1
      ·rcases hold2 _ _ h1 with h2 | ⟨n,_,h2⟩
       ·exact⟨_,h2⟩
       ·rcases h2 with h2 | h2<;>cases h2
      ·exact hpt1 k' v h1
     obtain⟨b,hb⟩:=hp
     show v= .pointer (some ⟨match cE vals (.inl k') with | some v=>Gj v | none=>ρb.bx k',0,none⟩)
     rw[hl,hb];rfl
    | inr j=>show (cE vals (.inr j)).getD (ρb.rw j)=v;rw[hl];rfl
    | ob j=>
     intro b hb
     subst hb
     refine⟨?_,fun es clock hw i e' hi=> ?_⟩
     ·show (match cE vals (.ob j) with | some (.map (some b))=>Value.map (some b) | _=>ρb.ob j)=_
      rw[hl]
     ·show (e'.born:Int)=(match cE vals (.ob j) with | some v=>DB w' v | none=>ρb.st j) i
      rw[hl]
      simp[DB,hw,hi]
   have hO3:∀ o n,(o,n)∈its->∀ b,ow' b=some n->ρ3.own b=some o:=fun o n hm b hb=>by
    show (match ow' b with | some n=>mS its n | none=>_)=_
    rw[hb];exact Ab hdC hm
   have hi1:∀ p,p∈gp (o.dst.getD 0) 0 sp.rs->p∈its:=fun p hp=>by rw[<- hits];simp[hp]
   have hi2:∀ p,p∈di (o.dst.getD 0) 0 sp.ps args->p∈its:=fun p hp=>by rw[<- hits];simp[hp]
   obtain⟨hxv,hP1⟩:=hr1 ρ3 (fun o v h=>hA3 o v (hmem1 _ h)) (fun o n h=>hO3 o n (hi1 _ h))
   have hP2:=hr2 ρ3 (fun o v h=>hA3 o v (hmem2 _ h)) (fun o n h=>hO3 o n (hi2 _ h))
   have hnew:∀ o' n,(o',n)∈its->LJ (o.dst.getD 0) o' n->∀ j,o'= .inr j\/o'= .ob j->S.bG j=false/\S.bV j=false:=fun o' n hm hn j hj=>by
    have hlt:n<2048:=by
     have:=ahH.1 hcode (o',n) hm
     simpa using this
    have hj2:j=nid (o.dst.getD 0) 0 0+n:=by
     rcases hn with hn | hn<;>rcases hj with hj | hj<;>rw[hn] at hj<;>cases hj<;>rfl
    have hf:S.ni (nid (o.dst.getD 0) 0 0) (nid (o.dst.getD 0+1) 0 0)=false:=by simpa [Ht] using hfresh
    have:=aaQ (j:=j) hf (by omega) (by rw[hj2];simp only[nid];omega)
    exact⟨this.1,this.2.1⟩
   have hval:∀ o' v,(o',v)∈vals->(Old ρ1 o' v)\/(o'= .inl (o.dst.getD 0)/\0<HC sp.rs)\/∃ n,(o',n)∈its/\LJ (o.dst.getD 0) o' n:=fun o' v hm=>by
    rw[<- hvals] at hm
    rcases aiy.1 hm with h1 | h1
    ·rcases hold2 _ _ h1 with h2 | ⟨n,h2,h3⟩
     ·exact .inl h2
     ·exact .inr (.inr ⟨n,hi2 _ h2,h3⟩)
    ·have hm2:o'∈(gp (o.dst.getD 0) 0 sp.rs).map (·.1):=by rw[<- hv1];exact aiE.2 ⟨_,h1,rfl⟩
     obtain⟨p,hp,e1⟩:=aiE.1 hm2
     obtain⟨p1,p2⟩:=p
     simp only at e1
     subst e1
     rcases OS hp with h2 | h2
     ·subst h2
      exact .inr (.inl ⟨rfl,((Cq (y:=y)).2.2 _ _ hp).2.1⟩)
     ·exact .inr (.inr ⟨p2,hi1 _ hp,h2⟩)
   have hnb:0<HC sp.rs->S.cN (o.dst.getD 0)=false/\o.dst.getD 0<2000:=fun h0=>by
    have h1:Nat.blt 0 (HC sp.rs)=true:=by simpa using h0
    rw[h1] at hnbx
    simp only[ahh,ahe] at hnbx
    exact⟨hnbx.1,by simpa using hdd⟩
   have sbx:∀ k',S.cN k'=true\/2000<=k'->ρ3.bx k'=ρb.bx k':=fun k' hk'=>by
    show (match cE vals (.inl k') with | some v=>Gj v | none=>ρb.bx k')=_
    cases hl:cE vals (.inl k') with
    | none=>rfl
    | some v=>
     rcases hval _ _ (IA hl) with h1 | ⟨h1,h2⟩ | ⟨n,_,h1⟩
     ·have h1':v= .pointer (some ⟨ρ1.bx k',0,none⟩):=h1
      rw[h1',ebx];rfl
     ·cases h1
      rcases hk' with hk' | hk'
      ·rw[(hnb h2).1] at hk';cases hk'
      ·exact absurd (hnb h2).2 (Nat.not_lt.2 hk')
     ·rcases h1 with h1 | h1<;>cases h1
   have hsmall:∀ o' n,(o',n)∈its->LJ (o.dst.getD 0) o' n->∀ j,o'= .inr j\/o'= .ob j->j<10000000:=fun o' n hm hn j hj=>by
    have hlt:n<2048:=by
     have:=ahH.1 hcode (o',n) hm
     simpa using this
    have hd2:o.dst.getD 0<2000:=by simpa using hdd
    have hj2:j=nid (o.dst.getD 0) 0 0+n:=by
     rcases hn with hn | hn<;>rcases hj with hj | hj<;>rw[hn] at hj<;>cases hj<;>rfl
    rw[hj2];exact acJ hd2 hlt
   have srw:∀ j,S.bG j=true\/10000000<=j->ρ3.rw j=ρb.rw j:=fun j hj=>by
    show (cE vals (.inr j)).getD (ρb.rw j)=_
    cases hl:cE vals (.inr j) with
    | none=>rfl
    | some v=>
     rcases hval _ _ (IA hl) with h1 | ⟨h1,_⟩ | ⟨n,h0,h1⟩
     ·have h1':ρ1.rw j=v:=h1
      rw[erw,h1'];rfl
     ·cases h1
     ·rcases hj with hj | hj
      ·have:=(hnew _ _ h0 h1 j (.inl rfl)).1
       rw[hj] at this;cases this
      ·have:=hsmall _ _ h0 h1 j (.inl rfl);omega
   have sob:∀ j,S.bV j=true\/10000000<=j->ρ3.ob j=ρb.ob j:=fun j hj=>by
    show (match cE vals (.ob j) with | some (.map (some b))=>Value.map (some b) | _=>ρb.ob j)=_
    split
    ·rename_i b hl
     rcases hval _ _ (IA hl) with h1 | ⟨h1,_⟩ | ⟨n,h0,h1⟩
     ·rw[eob,h1 b rfl]
     ·cases h1
     ·rcases hj with hj | hj
      ·have:=(hnew _ _ h0 h1 j (.inr rfl)).2
       rw[hj] at this;cases this
      ·have:=hsmall _ _ h0 h1 j (.inr rfl);omega
    ·rfl
   have inIts:∀ o' v,cE vals o'=some v->∃ n,(o',n)∈its:=fun o' v hl=>Ah hvits (by rw[hl];simp)
   have sst:∀ j,S.bN j=true->ρ3.st j=ρb.st j:=fun j hj=>by
    show (match cE vals (.ob j) with | some v=>DB w' v | none=>ρb.st j)=_
    cases hl:cE vals (.ob j) with
    | none=>rfl
    | some v=>
     obtain⟨n,hn⟩:=inIts _ _ hl
     have:=ahH.1 hnostp _ hn
     simp only[ahb] at this
     rw[hj] at this;cases this
   have hsame:S.gZ ρb ρ3:=afp (fun k' hk'=>sbx k' (.inl hk')) (fun j hj=>srw j (.inl hj)) (fun j hj=>sob j (.inl hj)) sst
   have hkeep:∀ b o',ρb.own b=some o'->fe ρ1 ow b=none->ρ3.own b=some o':=fun b o' hb h1=>by
    have h2:ow' b=none:=by
     cases h3:ow' b with
     | none=>rfl
     | some i=>
      rcases (hg.own b i h3).2.2 with h4 | h4
      ·have:=(hMb.owned b o' hb).2.1;omega
      ·exact absurd h1 h4
    show (match ow' b with | some n=>mS its n | none=>if fe ρ1 ow b=none then ρb.own b else none)=_
    rw[h2]
    simp only[h1,aj0];exact hb
   refine hfin G3 ρ3 _ ?_ (fun k' hk'=>(sbx k' (.inl hk')).trans (by rw[ebx,hfz.bx]))
   refine { agr:=hagr3,le0:=Gh.le_trans hMb.le0 hle3,old:= ?_,frame:= ?_,size:=ajd hMb.size hg.size,os:=hg.os.trans hMb.os,output:=hg.output.trans hMb.output,pin:=fun k' hk'=>(sbx k' (.inr hk')).trans (hMb.pin k' hk'),pinR:=fun k' hk'=>⟨(srw k' (.inr hk')).trans (hMb.pinR k' hk').1,(sob k' (.inr hk')).trans (hMb.pinR k' hk').2⟩,owned:= ?_,boxes:= ?_,rows:= ?_,objs:= ?_,hndI:=fun hn=> ?_,tmps:= ?_,defers:= ?_ }
   ·intro b hb hB
    have h1:b<w.heap.size:=ajh hb hMb.size
    have h2:fe ρ1 ow b=none:=by
     cases h3:fe ρ1 ow b with
     | none=>rfl
     | some i=>
      obtain⟨o2,h4⟩:=hownb b (by rw[h3];simp)
      rcases (hMb.owned b o2 h4).2.2 with h5 | h5
      ·omega
      ·exact absurd h5 hB
    simp only[G3,h1,h2,ajI,aj0];exact hMb.old b hb hB
   ·intro b hb hB
    have h1:b<w.heap.size:=ajh hb hMb.size
    have h2:fe ρ1 ow b=none:=by
     cases h3:fe ρ1 ow b with
     | none=>rfl
     | some i=>
      obtain⟨o2,h4⟩:=hownb b (by rw[h3];simp)
      rcases (hMb.owned b o2 h4).2.2 with h5 | h5
      ·omega
      ·exact absurd h5 hB
    rw[(hg.old b h1 h2).1];exact hMb.frame b hb hB
   ·intro b o' hb
    have hb':(match ow' b with | some n=>mS its n | none=>if fe ρ1 ow b=none then ρb.own b else none)=some o':=hb
    cases h1:ow' b with
    | some i=>
     obtain⟨h2,h3,h4⟩:=hg.own b i h1
     refine⟨?_,h3, ?_⟩
     ·simp only[G3]
      rw[ajY]
      ·exact h2
      ·rintro⟨h5,h6⟩
       rcases h4 with h4 | h4
       ·omega
       ·exact h4 h6
     ·rcases h4 with h4 | h4
      ·exact .inl (ajd hMb.size h4)
      ·obtain⟨o2,h5⟩:=hownb b h4
       exact (hMb.owned b o2 h5).2.2
    | none=>
     rw[h1] at hb'
     simp only at hb'
     split at hb'
     ·rename_i h2
      have h3:=hMb.owned b o' hb'
      refine⟨?_,ajh h3.2.1 hg.size,h3.2.2⟩
      simp only[G3,h3.2.1,h2,ajI,aj0];exact h3.1
     ·cases hb'
   ·intro k' cs hk'
    simp only[dJ] at hk'
    rcases or_some hk' with h1 | ⟨n1,hk'⟩
    ·exact hP1.bx k' cs h1
    ·rcases or_some hk' with h1 | ⟨n2,hk'⟩
     ·exact hP2.bx k' cs h1
     ·rw[vi (fun i=>(cq ow (.inl i)).isNone)] at hk'
      split at hk'
      ·rename_i hn
       have hnv:cE vals (.inl k')=none:=by
        cases hl:cE vals (.inl k') with
        | none=>rfl
        | some v=>
         obtain⟨n,hn⟩:=inIts _ _ hl
         rw[<- hits] at hn
         rcases aiy.1 hn with h1 | h1
         ·have:=(xF (y:=L3 sp.ps sp.rs y)).2.2 k' n h1
          rw[n2] at this;cases this
         ·have:=((Cq (y:=y)).2.2 k' n h1).2.2
          rw[n1] at this;cases this
       have ebk:ρ3.bx k'=ρb.bx k':=by
        show (match cE vals (.inl k') with | some v=>Gj v | none=>ρb.bx k')=_
        rw[hnv]
       obtain⟨h2,ws,T,h3,h4⟩:=hMb.boxes k' cs (by rw[eB];exact hk')
       have h5:=howN _ _ h2 (by simpa using hn)
       rw[ebk]
       refine⟨hkeep _ _ h2 h5,ws,T, ?_,aR.BQ (fun c hc v=>br.congr hle3 (hsame.boxes (k',cs) (ur hk') c hc)) h4⟩
       rw[(hg.old _ (dU h3) h5).1];exact h3
      ·cases hk'
   ·intro j q hj
    simp only[dJ] at hj
    rcases or_some hj with h1 | ⟨n1,hj⟩
    ·exact hP1.rw j q h1
    ·rcases or_some hj with h1 | ⟨n2,hj⟩
     ·exact hP2.rw j q h1
     ·rw[vi (fun i=>(cq ow (.inr i)).isNone)] at hj
      split at hj
      ·rename_i hn
       have hnv:cE vals (.inr j)=none:=by
        cases hl:cE vals (.inr j) with
        | none=>rfl
        | some v=>
         obtain⟨n,hn⟩:=inIts _ _ hl
         rw[<- hits] at hn
         rcases aiy.1 hn with h1 | h1
         ·have:=(xF (y:=L3 sp.ps sp.rs y)).1 j n h1
          rw[n2] at this;cases this
         ·have:=(Cq (y:=y)).1 j n h1
          rw[n1] at this;cases this
       have erj:ρ3.rw j=ρb.rw j:=by
        show (cE vals (.inr j)).getD (ρb.rw j)=_
        rw[hnv];rfl
       have hrow:=hMb.rows j q (by rw[eR];exact hj)
       have hk1:dI Gb ρb w' j q:=by
        unfold dI at hrow ⊢
        split
        ·rename_i hf;rw[ajZ hf] at hrow;exact hrow
        ·rename_i hf
         rw[ajY hf] at hrow
         obtain⟨xs,⟨hlen,hor⟩,hl,hb⟩:=hrow
         refine⟨xs,⟨hlen, ?_⟩,hl,hb⟩
         rcases hor with h1 | ⟨g,cap,cur,hv,h0,hgg,rest⟩
         ·exact .inl h1
         ·refine .inr ⟨g,cap,cur,hv,h0, ?_,rest⟩
          have h5:=howN g _ (hb g (by rw[hv];rfl)) (by simpa using hn)
          rw[(hg.old g (dU hgg) h5).1];exact hgg
       exact hk1.congr hle3 erj (fun b hb=>hkeep b _ hb (howN b _ hb (by simpa using hn)))
      ·cases hj
   ·intro j q hj
    simp only[dJ] at hj
    rcases or_some hj with h1 | ⟨n1,hj⟩
    ·exact hP1.ob j q h1
    ·rcases or_some hj with h1 | ⟨n2,hj⟩
     ·exact hP2.ob j q h1
     ·rw[vi (fun i=>(cq ow (.ob i)).isNone)] at hj
      split at hj
      ·rename_i hn
       have hn':cq ow (.ob j)=none:=by simpa using hn
       have hnv:cE vals (.ob j)=none:=by
        cases hl:cE vals (.ob j) with
        | none=>rfl
        | some v=>
         obtain⟨n,hn⟩:=inIts _ _ hl
         rw[<- hits] at hn
         rcases aiy.1 hn with h1 | h1
         ·have:=(xF (y:=L3 sp.ps sp.rs y)).2.1 j n h1
          rw[n2] at this;cases this
         ·have:=(Cq (y:=y)).2.1 j n h1
          rw[n1] at this;cases this
       have eoj:ρ3.ob j=ρb.ob j:=by
        show (match cE vals (.ob j) with | some (.map (some b))=>Value.map (some b) | _=>ρb.ob j)=_
        rw[hnv]
       have esj:ρ3.st j=ρb.st j:=by
        show (match cE vals (.ob j) with | some v=>DB w' v | none=>ρb.st j)=_
        rw[hnv]
       have hobj:=hMb.objs j q (by rw[eO];exact hj)
       cases q with
       | map kk vv l=>
        obtain⟨b,es,clock,h1,h2,h3,h4,h5,h6⟩:=hobj
        have h7:=howN b _ h2 hn'
        exact⟨b,es,clock,by rw[eoj];exact h1,hkeep b _ h2 h7,by rw[(hg.old b (dU h3) h7).1];exact h3,h4.mono fun x y hxy=>hxy.mono hle3,by rw[esj];exact h5,h6⟩
       | ar fz t l=>
        obtain⟨hja,hA⟩:=hobj
        subst hja
        have hna:mz sp.ps=false:=by
         cases hh:mz sp.ps with
         | false=>rfl
         | true=>
          obtain⟨n,hn2⟩:=V9 (S:=S) (args:=args) (i:=0) hh
          rw[how] at hn2
          have:=LS hn2
          rw[hn'] at this;cases this
        have hhn:G3.hnd=Gb.hnd:=(hg.hnd hna).trans ehn.symm
        refine⟨rfl,fun i b hb=>hA.1 i b (by rw[<- hhn];exact hb),fun i i' b hb hb'=>hA.2.1 i i' b (by rw[<- hhn];exact hb) (by rw[<- hhn];exact hb'),fun i z hz=> ?_⟩
        obtain⟨b,ws,T,f1,f2,f3,f4,f5⟩:=hA.2.2 i z hz
        have hob:fe ρ1 ow b=none:=by
         cases hx2:fe ρ1 ow b with
         | none=>rfl
         | some n=>
          cases fz with
          | true=>have:=hgb b (by rw[hx2];simp);rw[f2 rfl] at this;cases this
          | false=>have:=howN b _ (f3 rfl) hn';rw[hx2] at this;cases this
        exact⟨b,ws,T,by rw[hhn];exact f1,fun e'=>hle3 _ _ (f2 e'),fun e'=>hkeep b _ (f3 e') hob,by rw[(hg.old b (dU f4) hob).1];exact f4,aN.mono hle3 t z _ f5⟩
      ·cases hj
   ·obtain⟨q1,q2⟩:=hMb.hndI hn
    have hna:mz sp.ps=false:=by
     cases hh:mz sp.ps with
     | false=>rfl
     | true=>
      obtain⟨t,l,hl⟩:=Wa hx hh
      exact absurd (show look Sb.objs bQ=_ by rw[eO];exact hl) (q2 t l)
    refine⟨(hg.hnd hna).trans (ehn.symm.trans q1),fun t l hl=> ?_⟩
    simp only[dJ] at hl
    rcases or_some hl with h1 | ⟨_,hl⟩
    ·obtain⟨_,_,_,e⟩:=Db h1;cases e
    ·rcases or_some hl with h1 | ⟨_,hl⟩
     ·obtain⟨_,_,_,e⟩:=wj hna h1;cases e
     ·rw[vi (fun i=>(cq ow (.ob i)).isNone)] at hl
      split at hl
      ·exact q2 t l (by rw[eO];exact hl)
      ·cases hl
   ·have hT:jO G3 ρ3 S a:=by
     have h1:jO Gb ρb S a:=by
      have:=hMb.tmps
      unfold jO at this ⊢
      rw[eT] at this;exact this
     exact h1.congr hle3 hsame
    have:=hT.put o.dst (s:=KP (Fg sp.ps (o.dst.getD 0) sp.rs 0 y)) (v:=xB us) (fun _ _=>TZ hxv)
    cases hd:o.dst with
    | none=>rw[hd] at this;exact this
    | some d=>rw[hd] at this;exact this
   ·cases hd:o.dst<;>exact hMb.defers
  ·cases h
theorem Wi {c:Call} {f:Nat} {args:List SV} {sp:ay} {k:St->Option β} (hX:cD X) (ho:o.op= .call c) (hcal:fL S c=some (f,args)) (hsp:(f,sp)∈X.specs) (h:u6 sp S args o.dst k=some r):∃ S',k S'=some r/\gY X.P o S S':=by
 obtain⟨hfun,hbody⟩:=hX.fn f sp hsp
 obtain⟨S',hk,hS⟩:=TS h
 refine⟨S',hk,fun C G ρ w a Q hM=>hS C G ρ w a Q hM fun G1 ρ1 hM1 _=> ?_⟩
 obtain⟨vs,hvs,hrun⟩:=kK (S:=S) (w:=w) (G:=G1) (ρ:=ρ1) (a:=a) ho hcal (fun z _=>by
  have:=hM1.tmps.ev z;rw[Cj] at this;exact this) hbody
 refine⟨vs,f,_,hvs,hrun,fun G2 x y h1 h2 _ h3 h4 h5=>(hfun G2 w _ vs x y h1 h2 h3 h4 h5).mono ?_⟩
 rintro e w' ⟨G',ow',us,hg⟩
 exact⟨w',G',ow',us,hg,fun G3 ρ3 a' h _=>⟨G3,ρ3,h⟩⟩
theorem Mod.Ec {P0:Program} {C:Fr P0} {G:Gh} {ρ:Env} {S:St} {w:World} {a:Act} (h:Mod C G ρ S w a) (d:Option Tmp):Mod C G ρ (Ec S d) w a:=by
 unfold Dn.Ec
 split
 ·rename_i d
  split
  ·rename_i k _ _
   cases Nat.beq k d with
   | false=>exact h
   | true=>
    refine { h.toMem.PA (S':={ S with tmps:=S.tmps.set d (.v false [.any]) }) rfl rfl rfl with tmps:=⟨by simpa using h.tmps.1,fun i s hi=> ?_⟩,defers:=h.defers }
    have hi':(S.tmps.set d (.v false [.any]))[i]? =some s:=hi
    rw[aie] at hi'
    split at hi'
    ·split at hi'
     ·cases hi';trivial
     grind
    ·exact h.tmps.2 i s hi'
  ·exact h
 ·exact h
theorem Y8 {sp:ay} {S:St} {args:List SV} {d:Option Tmp} {k:St->Option β} {e:Option β} {r:β} (h:Rc sp S args d k e=some r):u6 sp S args d k=some r\/e=some r:=by
 unfold Rc at h
 unfold u6
 simp only at h ⊢
 split at h
 ·cases h
 ·rename_i hc
  rw[ajY hc]
  split at h
  ·rename_i x hx
   cases hm:sp.m x with
   | none=>rw[hm] at h;exact .inr h
   | some y=>rw[hm] at h;exact .inl h
  ·cases h
theorem Zq {α:Type} {l:List (Nat×α)} {k:Nat} {x:α} (h:x∈Ag l k):(k,x)∈l:=by
 induction l with
 | nil=>simp[Ag] at h
 | cons p r ih=>
  obtain⟨j,y⟩:=p
  simp only[Ag] at h
  cases hb:Nat.beq j k with
  | true=>
   rw[hb] at h
   simp only[ajO,aiz] at h
   have:=ai8 hb
   grind
  | false=>grind
theorem TR {c:Call} {f:Nat} {args:List SV} {k:St->Option β} (hX:cD X) (ho:o.op= .call c) (hcal:fL S c=some (f,args)):∀ {l:List ay},(∀ sp,sp∈l->(f,sp)∈X.specs)-> D7 S args o.dst k l=some r->∃ S',k S'=some r/\gY X.P o S S'
 | [],_,h=>by cases h
 | [sp],hl,h=>Wi hX ho hcal (hl sp (by simp)) h
 | sp::sp'::q,hl,h=>by
  rcases Y8 h with h | h
  ·exact Wi hX ho hcal (hl sp (by simp)) h
  ·exact TR hX ho hcal (fun s hs=>hl s (by grind)) h
theorem aR.acL {α β:Type} {R:α->β->Prop}:∀ {l:List α} {r:List β},l.length=r.length->(∀ (k:Nat) x y,l[k]? =some x->r[k]? =some y->R x y)->aR R l r
 | [],[],_,_=>rfl
 | [],_::_,h,_=>by cases h
 | _::_,[],h,_=>by cases h
 | x::l,y::r,h,hr=>⟨y,r,rfl,hr 0 x y rfl rfl,aR.acL (by grind) fun k a b ha hb=>hr (k+1) a b (by grind) (by grind)⟩
theorem Mod.ZQ {P0:Program} {C:Fr P0} {G:Gh} {ρ:Env} {S:St} {w:World} {a:Act} {k:Nat} {cs:List CV} (h:Mod C G ρ { S with boxes:=(k,cs)::S.boxes } w a) (hl:look S.boxes k=some cs):Mod C G ρ S w a:=
 { agr:=h.agr,le0:=h.le0,old:=h.old,frame:=h.frame,size:=h.size,os:=h.os,output:=h.output,pin:=h.pin,pinR:=h.pinR,owned:=h.owned,
   boxes:=fun i c hi=>h.boxes i c (by
    simp only[aD]
    grind),rows:=h.rows,objs:=h.objs,hndI:=h.hndI,tmps:=h.tmps,defers:=h.defers }
theorem af8 {c:Call} {f:Nat} {args:List SV} {p:Nat} {sp:ay} {k:St->Option β} (hX:cD X) (ho:o.op= .call c) (hcal:fL S c=some (f,args)) (hk:look X.keys f=some (.nest p sp)) (h:Pj (.nest p sp) S args o.dst k=some r):∃ S',k S'=some r/\gY X.P o S S':=by
 obtain⟨hkey,hbody0⟩:=hX.key f _ (ur hk)
 have hbody:=hbody0 nofun
 simp only[Pj] at h
 split at h
 ·rename_i km o0 hp
  split at h
  ·cases h
  rename_i hc0
  simp only[ahf,aj4,aha,ag9] at hc0
  obtain⟨ho0,hbk⟩:=hc0
  have e0:=ai8 ho0
  subst e0
  split at h
  ·rename_i kk o2 hbx
   split at h
   ·cases h
   rename_i hc1
   simp only[ahf,aj4,aha,ag9] at hc1
   obtain⟨⟨ho2,hlent⟩,how⟩:=hc1
   have e2:=ai8 ho2
   subst e2
   obtain⟨S',hk',hS⟩:=TS h
   split at hk'
   ·rename_i k1 o1 hb'
    split at hk'
    ·rename_i hc2
     simp only[ag1] at hc2
     obtain⟨⟨h1,h2⟩,hkk⟩:=hc2
     have e3:=ai8 h1
     have e4:=ai8 h2
     subst e3;subst e4
     refine⟨S',hk',fun C G ρ w a Q hM=>hS C G ρ w a Q hM fun G1 ρ1 hM1 eb=> ?_⟩
     obtain⟨vs0,hvs,hrun⟩:=kK (S:=S) (w:=w) (G:=G1) (ρ:=ρ1) (a:=a) ho hcal (fun z _=>by
      have:=hM1.tmps.ev z;rw[Cj] at this;exact this) hbody
     obtain⟨u,hu,hud⟩:=hvs.get hp
     have hu':u= .pointer (some ⟨ρ1.bx km,0,none⟩):=hud
     subst hu'
     obtain⟨hob,bvs,T,hbh,hbv⟩:=hM1.boxes km _ hbx
     obtain⟨v,ebv,hv⟩:=hbv.single
     subst ebv
     refine⟨vs0.set p v,f,_,hvs.set (show bK G1 ρ1 (.v false [.ref k1 0]) v from hv) p,hrun,fun G2 x y q1 q2 q3 q4 q5 q6=> ?_⟩
     have hG2:G2 (ρ1.bx km)=none:=by
      by_cases e:G2 (ρ1.bx km)=G1 (ρ1.bx km)
      ·rw[e];exact (hM1.owned _ _ hob).1
      ·rcases q3 _ e with ⟨k',z1,z2⟩ | z1
       ·rw[hob] at z1;cases z1;rw[hlent] at z2;cases z2
       ·rw[hob] at z1;cases z1
     have how':fe ρ1 (iM S 0 sp.ps (args.set p (.v false [.ref k1 0]))) (ρ1.bx km)=none:=by
      unfold fe
      rw[hob]
      simpa using how
     have hlt:p<vs0.length:=(aia.1 hu).1
     have hc:=hkey G2 w _ (vs0.set p v) x y (ρ1.bx km) v T q1 q2 q4 q5 q6 (by rw[aih hlt]) how' hG2 hbh
     have eset:(vs0.set p v).set p (.pointer (some ⟨ρ1.bx km,0,none⟩))=vs0:=by
      rw[aiS]
      refine ahW fun i=> ?_
      rw[aie]
      split
      ·rename_i e
       subst e
       first | exact hu.symm | (rw[ajZ hlt];exact hu.symm)
      ·rfl
     rw[eset] at hc
     refine hc.mono ?_
     rintro e w' ⟨w1,G',ow',us,T',z1,z2,z3,z4,z5,hg⟩
     refine⟨w1,G',ow',us,hg,fun G3 ρ3 a' hM3 hsame=> ?_⟩
     have eb3:ρ3.bx km=ρ1.bx km:=(hsame km hbk).trans (by rw[eb])
     have hv':v= .pointer (some ⟨ρ1.bx k1,0,none⟩):=hv
     have hM4:=hM3.TU (w':=w') (k:=km) (cs:=[.ref k1 0]) (vs:=[v]) (T:=T') ⟨_,hb'⟩ ⟨z1.symm,z2.symm,by omega,fun b _ hne=>(z4 b (fun e=>hne (by rw[eb3,e]))).symm⟩ (by rw[eb3];exact z5)
      ⟨v,[],rfl,by show v=_;rw[hv',hsame k1 hkk,eb],rfl⟩
     exact⟨G3,ρ3,hM4.ZQ hb'⟩
    ·cases hk'
   ·cases hk'
  ·cases h
 ·cases h
theorem agz {c:Call} {f:Nat} {args:List SV} {kf:BH} {k:St->Option β} (hX:cD X) (ho:o.op= .call c) (hcal:fL S c=some (f,args)) (hk:look X.keys f=some kf) (h:Pj kf S args o.dst k=some r):∃ S',k S'=some r/\gY X.P o S S':=by
 by_cases hn:∃ p sp,kf= .nest p sp
 ·obtain⟨p,sp,e⟩:=hn
  subst e
  exact af8 hX ho hcal hk h
 obtain⟨hkey,hbody0⟩:=hX.key f _ (ur hk)
 unfold Pj at h
 split at h
 ·rename_i lo nb tb te m
  have hbody:=hbody0 nofun
  split at h
  ·rename_i kb o0 j sz i off
   split at h
   ·cases h
   rename_i hc0
   simp only[ahf,aj4,aha,ag9] at hc0
   obtain⟨ho0,hoff⟩:=hc0
   have e0:=ai8 ho0
   have e1:=ai8 hoff
   subst e0;subst e1
   split at h
   ·rename_i cs q hcs hq
    split at h
    ·cases h
    rename_i hc1
    simp only[ahf,aj4,aha,ag9] at hc1
    obtain⟨⟨hfz,hsz⟩,hnb⟩:=hc1
    have hsz':=ai8 hsz
    have hnb':=ai8 hnb
    subst hsz'
    split at h
    ·rename_i t0 l0 hlo
     split at h
     ·rename_i l ql hl hql
      obtain⟨ql',hm,h2⟩:=bind_some h
      clear h
      obtain⟨et,el⟩:=mo hl
      obtain⟨eqt,eql⟩:=mo hql
      subst et;subst el
      obtain⟨qf,qe,qt,qll⟩:=q
      dsimp only at eqt eql hfz hql
      subst eqt;subst eql;subst hfz
      refine⟨_,h2,fun C G ρ w a Q hM=> ?_⟩
      obtain⟨vs,hvs,hrun⟩:=kK (S:=S) (w:=w) (G:=G) (ρ:=ρ) (a:=a) ho hcal (fun z _=>hM.tmps.ev z) hbody
      obtain⟨v1,us1,ev1,hv1,hr1⟩:=hvs
      subst ev1
      obtain⟨v2,ev2,hv2⟩:=hr1.single
      subst ev2
      have hp1:v1= .pointer (some ⟨ρ.bx kb,0,none⟩):=hv1
      obtain⟨b,len,cap,e1,e2⟩:∃ b len cap,ρ.rw j= .slice (some ⟨b,0,none⟩) len cap/\v2= .pointer (some ⟨b,i*qt.size+0,none⟩):=hv2
      rw[ai5] at e2
      subst hp1;subst e2
      obtain⟨hob,bvs,T,hbh,hbv⟩:=hM.boxes kb cs hcs
      have hrow:=hM.rows j _ hq
      unfold dI at hrow
      rw[ajY (by simp)] at hrow
      obtain⟨xs,hor,hlr,hown⟩:=hrow
      have hlen:len=qll.length:=by
       rcases hor.2 with hn | ⟨g,cap',cur,hv,_⟩
       all_goals grind
      subst hlen
      have hgo:=hown b (by rw[e1];rfl)
      obtain⟨u,hu1,hu2⟩:=hbv.get hlo
      have hBR:ρ.bx kb≠b:=fun e=>by grind
      have hbl:=hbv.len
      rw[e1] at hor
      have hcall:=hkey G w (ρ.bx kb) b i cap qe T bvs l0 qll ql' xs hM.agr (C.tab.mono hM.le0) hBR hbh (by omega) ⟨u,hu1,hu2⟩ (hM.owned _ _ hgo).2.1 hor hlr (hM.owned _ _ hob).1 (hM.owned _ _ hgo).1 hm
      unfold Oper.wp
      rw[hrun]
      refine hcall.mono ?_
      rintro e w' ⟨rfl,G',vs',xs',T',hle,hhnd,hagr',hG',hos,hout,hsize,hold,hB',hvl,hvk,⟨u',hu',hul'⟩,hor',hlr'⟩
      have hbs:=(hM.owned _ _ hob).2.1
      have hgs:=(hM.owned _ _ hgo).2.1
      obtain⟨oR,hoR⟩:∃ oR,w.heap[b]? =some oR:=⟨_,agP hgs⟩
      let w2:World:={ w' with heap:=w'.heap.setIfInBounds b oR }
      let w1:World:={ w2 with heap:=w2.heap.setIfInBounds (ρ.bx kb) (.cells bvs.toArray T (0,0)) }
      have s2:w2.heap.size=w'.heap.size:=by simp[w2]
      have s1:w1.heap.size=w'.heap.size:=by simp[w1,w2]
      have h2o:∀ b',b'≠b->w2.heap[b']? =w'.heap[b']? :=fun b' hb'=>by
       show (w'.heap.setIfInBounds b oR)[b']? =_
       rw[agT (Ne.symm hb')]
      have h2b:w2.heap[b]? =some oR:=by
       show (w'.heap.setIfInBounds b oR)[b]? =_
       rw[agU (by omega)]
      have h1o:∀ b',b'≠ρ.bx kb->w1.heap[b']? =w2.heap[b']? :=fun b' hb'=>by
       show (w2.heap.setIfInBounds _ _)[b']? =_
       rw[agT (Ne.symm hb')]
      have h1b:w1.heap[ρ.bx kb]? =some (.cells bvs.toArray T (0,0)):=by
       show (w2.heap.setIfInBounds _ _)[ρ.bx kb]? =_
       rw[agU (by omega)]
      have hsame:∀ b',b'<w.heap.size->w1.heap[b']? =w.heap[b']? :=fun b' hb'=>by
       by_cases c1:b'=ρ.bx kb
       ·subst c1;rw[h1b,hbh]
       ·rw[h1o b' c1]
        by_cases c2:b'=b
        ·subst c2;rw[h2b,hoR]
        ·rw[h2o b' c2];exact hold b' hb' c1 c2
      have hagr1:Agr G' w1:=fun b' o' hb'=>by
       by_cases c1:b'=ρ.bx kb
       ·subst c1;rw[hG' _ hbs,(hM.owned _ _ hob).1] at hb';cases hb'
       ·rw[h1o b' c1]
        by_cases c2:b'=b
        ·subst c2;rw[hG' _ hgs,(hM.owned _ _ hgo).1] at hb';cases hb'
        ·rw[h2o b' c2];exact hagr' b' o' hb'
      have hM1:=hM.after (w':=w1) hle hhnd hagr1 (by omega) hos hout hsame hG'
      have hM2:=hM1.TU (w':=w2) (k:=kb) (cs:=cs) (vs:=vs') (T:=T') ⟨cs,hcs⟩ ⟨rfl,rfl,by omega,fun b' _ hne=>(h1o b' (fun e=>hne (by rw[e]))).symm⟩ (by rw[h2o _ hBR];exact hB')
       (aR.acL (by omega) (fun k x y hx hy=>by
         by_cases c1:k=lo
         ·subst c1
          rw[hlo] at hx;cases hx
          rw[hu'] at hy;cases hy
          exact hul'
         ·rw[hvk k c1] at hy
          obtain⟨z,hz,hzd⟩:=hbv.get hx
          rw[hy] at hz;cases hz
          exact br.congr hle (.refl ρ x) hzd))
      have hM3:=hM2.setRow (w':=w') (j:=j) (q:=⟨false,qe,qt,qll⟩) (r:=⟨false,qe,qt,ql'⟩) hq rfl rfl (b:=b) (by rw[e1];rfl) ⟨rfl,rfl,by omega,fun b' _ hne=>(h2o b' (fun e=>hne (by rw[e]))).symm⟩ xs' (by rw[e1];exact hor') hlr'
      exact⟨G',ρ,hM3.put o.dst (fun _ _=>trivial)⟩
     ·cases h
    ·cases h
   ·cases h
  ·cases h
 all_goals grind
theorem En {k:St->Option β} (hX:cD X) (h:dV X o S k=some r):∃ S',k S'=some r/\gY X.P o S S':=by
 have dflt:gz X o S S (fun x=>k (S.app o.dst x))=some r->∃ S',k S'=some r/\gY X.P o S S':=fun h=>by
  obtain⟨x,hk,hl,hf⟩:=zf hX h
  exact⟨_,hk,.abb hl hf⟩
 cases ho:o.op with
 | store t x y=>
  unfold dV at h
  rw[ho] at h
  simp only at h
  split at h
  ·cases h
  rename_i hd0
  have hd:o.dst=none:=by simp_all
  split at h
  ·rename_i b off ag cs hx hy
   exact abn ho hd hx hy h
  ·rename_i j sz i off ag cs hx hy
   obtain⟨S',h1,h2⟩:=abo (S:=aX S (kP cs)) ho hd (by rw[Cj];exact hx) (by rw[Cj];exact hy) h
   exact⟨S',h1,h2.freeze _⟩
  ·rename_i i off ag cs hx hy
   obtain⟨S',h1,h2⟩:=ac3 (S:=aX S (kP cs)) ho hd (by rw[Cj];exact hx) (by rw[Cj];exact hy) h
   exact⟨S',h1,h2.freeze _⟩
  ·cases h
 | mapUpdate t m kx x=>
  unfold dV at h
  rw[ho] at h
  simp only at h
  split at h
  ·cases h
  rename_i hd0
  have hd:o.dst=none:=by simp_all
  split at h
  ·rename_i kt et j ht hm
   split at h
   ·rename_i kk vv l hl
    split at h
    ·rename_i key y hk hy
     split at h
     ·rename_i hc
      simp only[ag1,ahb] at hc
      exact⟨_,h,((ZB ho hd ht hm hl hk hy hc.1 hc.2).intern _).freeze _⟩
     ·cases h
    ·cases h
   ·cases h
  ·cases h
 | slice t x lo hi mx=>
  unfold dV at h
  rw[ho] at h
  simp only at h
  obtain⟨x,hk,hl,hf⟩:=zf hX h
  exact⟨_,hk,(gY.abb hl hf).freeze _⟩
 | alloc t=>
  unfold dV at h
  rw[ho] at h
  simp only at h
  obtain⟨x,hk,hl,hf⟩:=zf hX h
  exact⟨_,hk,fun C G ρ w a Q hM=>gY.abb hl hf C G ρ w a Q (hM.Ec _)⟩
 | buildSlice t len parts=>
  unfold dV at h
  rw[ho] at h
  simp only at h
  obtain⟨x,hk,hl,hf⟩:=Ov ho h
  exact⟨_,hk,((gY.abb hl hf).intern _).freeze _⟩
 | call c=>
  obtain⟨callee,args,argTypes⟩:=c
  by_cases hb:callee= .builtin .append
  ·subst hb
   exact aed ho h
  ·have key:dV X o S k=(match fL S ⟨callee,args,argTypes⟩ with
    | some (f,args)=>(match look X.keys f with
     | some kf=>if kf.aev then Pj kf S args o.dst k else gz X o S S fun x=>k (S.app o.dst x)
     | none=>D7 S args o.dst k (Ag X.specs f))
    | none=>gz X o S S fun x=>k (S.app o.dst x)):=by
    unfold dV
    grind
   rw[key] at h
   split at h
   ·rename_i f args' hcal
    split at h
    ·rename_i kf hkf
     split at h
     ·exact agz hX ho hcal hkf h
     grind
    ·exact TR hX ho hcal (fun _ h=>Zq h) h
   grind
 | _=>
  unfold dV at h
  grind
end Go.Dn
namespace Go.Dn
variable {β:Type} {X:Cx} {S:St} {r:β} {C:Fr X.P} {G:Gh} {ρ:Env} {w:World}
theorem aeV {a:Act} {d:Nat} {b:Bool} (hT:jO G ρ S a) (h:S.ev (.tmp d)= .v false [.bool b]):S.put (some d) (.v false [.bool b])=S/\a.tmps[d]? =some (.bool b):=by
 have hv:=hT.ev (.tmp d)
 rw[h] at hv
 have hv':a.eval (.tmp d)= .bool b:=hv
 simp only[St.ev] at h
 rw[ah1] at h
 cases hs:S.tmps[d]? with
 | none=>grind
 | some s=>
  rw[hs] at h
  simp only[ajB] at h
  subst h
  obtain⟨hlt,he⟩:=aia.1 hs
  constructor
  ·simp only[St.put]
   have:S.tmps.set d (.v false [.bool b])=S.tmps:=by rw[<- he];simp
   rw[this]
  ·simp only[Act.eval,agO] at hv'
   have hlt':d<a.tmps.size:=by rw[hT.1];exact hlt
   grind
theorem lu {ops:List Oper} {o:Oper} {a:Act} {g:Option (Nat×Bool×Bool)} (hT:jO G ρ S a) (h:guardOf ops o S=some g): match g with
 | none=>Region.wanted o (yielded ops.toArray a.tmps)=true
 | some (d,b,want)=>S.put (some d) (.v false [.bool b])=S/\Region.wanted o (yielded ops.toArray a.tmps)=(b==want):=by
 unfold guardOf at h
 cases hg:o.guard with
 | none=>
  rw[hg] at h
  cases h
  simp[Region.wanted,hg]
 | some p=>
  obtain⟨j,want⟩:=p
  rw[hg] at h
  simp only at h
  split at h
  ·rename_i o' ho'
   split at h
   ·rename_i d hd
    split at h
    ·rename_i b hb
     cases h
     obtain⟨h1,h2⟩:=aeV hT hb
     refine⟨h1, ?_⟩
     have hy:yielded ops.toArray a.tmps j=some b:=by
      simp[yielded,ho',hd,h2]
     simp only[Region.wanted,hg,hy]
     rfl
    ·cases h
   ·cases h
  ·cases h
theorem T6:bK G ρ wU undef:=⟨[],rfl,rfl⟩
theorem Mi {ops:List Oper} {o:Oper} {a:Act} (hT:jO G ρ S a) (h:rR ops o S=true):Region.wanted o (yielded ops.toArray a.tmps)=false:=by
 unfold rR at h
 cases hg:o.guard with
 | none=>grind
 | some p=>
  obtain⟨j,want⟩:=p
  rw[hg] at h
  simp only at h
  split at h
  ·rename_i o' ho'
   split at h
   ·rename_i d hd
    split at h
    ·rename_i hb
     have hv:=hT.ev (.tmp d)
     rw[hb] at hv
     obtain⟨vs,hv,hn⟩:=hv
     have hn':vs=[]:=hn
     subst hn'
     have hy:yielded ops.toArray a.tmps j=none:=by
      have hv':a.tmps.getD d undef= .tuple #[]:=hv
      simp only[yielded]
      have:(ops.toArray[j]?).bind (fun x=>x.dst)=some d:=by grind
      rw[this]
      simp only[ajA]
      cases hs:a.tmps[d]? with
      | none=>rfl
      | some v=>
       simp_all
     simp[Region.wanted,hg,hy]
    ·cases h
   ·cases h
  ·cases h
theorem Pm {d:Nat} {b want:Bool} {yes no:St->Option β} (hS:S.put (some d) (.v false [.bool b])=S) (h:fork S d b want yes no=some r):((b==want)=true/\yes S=some r)\/((b==want)=false/\no S=some r):=by
 unfold fork at h
 grind
theorem zy (hX:cD X) (ops:List Oper):∀ (l:List Oper) {S:St} {k:St->Option β} {r:β},qX X ops l S k=some r->∀ {Q:Exit->Act->World->Prop}, (∀ S' G ρ w a,k S'=some r->Mod C G ρ S' w a->Q .normal a w)->∀ {G ρ w a},Mod C G ρ S w a->wpList X.P ops.toArray Q l a w
 | [],S,k,r,h,Q,hQ,G,ρ,w,a,hM=>hQ S G ρ w a h hM
 | o::rest,S,k,r,h,Q,hQ,G,ρ,w,a,hM=>by
  have step:dV X o S (fun S=>qX X ops rest S k)=some r->o.wp X.P a w (wpList X.P ops.toArray Q rest) Q:=fun h=>by
   obtain⟨S',h1,h2⟩:=En hX h
   have:=h2 C G ρ w a Q hM
   exact Oper.wp_mono (fun a' w' ⟨G',ρ',hM'⟩=>zy hX ops rest h1 hQ hM') this
  have skip:qX X ops rest (S.put o.dst wU) k=some r->wpList X.P ops.toArray Q rest (a.put o.dst undef) w:=fun h=>
   zy hX ops rest h hQ (hM.put o.dst (fun _ _=>T6))
  simp only[qX] at h
  split at h
  ·cases hs:rR ops o S with
   | false=>grind
   | true=>
    rw[hs] at h
    have hw:=Mi hM.tmps hs
    simp only[wpList,hw]
    grind
  ·rename_i hg
   have hw:=lu hM.tmps hg
   simp only at hw
   simp only[wpList,hw,aj0]
   grind
  ·rename_i d b want hg
   obtain⟨hS,hw⟩:=lu hM.tmps hg
   simp only[wpList,hw]
   rcases Pm hS h with ⟨hb,h⟩ | ⟨hb,h⟩
   all_goals grind
theorem wp_region_list {P:Program} {id:Nat} {ops:Array Oper} {Q:Exit->Act->World->Prop} {a:Act} {w:World} (h:wpList P ops Q ops.toList a w):(Code.region id ops false).wp P Q a w:=by
 apply wp_region
 have e:=wpOps_eq_wpList (P:=P) (ops:=ops) (Q:=Q) ops.toList 0 (fun j=>by simp)
 have e2:List.range ops.size=List.range' 0 ops.toList.length:=by rw[List.range_eq_range'];simp
 simp_all
def bO (base:Nat):List CK->List Value->List (Nat×Value)
 | .val t::r,vs=>bO base r (vs.drop t.size)
 | .own _ _::r,v::q=>(base,v)::bO (base+1) r q
 | .map _ _::r,v::q=>(base,v)::bO (base+1) r q
 | .ref _ _::r,_::q=>bO base r q
 | .fn _ _::r,_::q=>bO base r q
 | .ar _::r,q=>bO base r q
 | .arF _::r,q=>bO base r q
 | .rowR _::r,_::q=>bO base r q
 | .rpR _ _::r,_::q=>bO base r q
 | .mapR _::r,_::q=>bO base r q
 | .rowC _ _ _::r,q=>bO base r q
 | .mapC _ _ _::r,q=>bO base r q
 | _,_=>[]
theorem jm:∀ {cks:List CK} {base:Nat} {vs:List Value} {i:Nat} {v:Value},look (bO base cks vs) i=some v->base<=i/\i<base+cks.length
 | [],base,vs,i,v,h=>by simp[bO,look] at h
 | .val t::r,base,vs,i,v,h=>by
  simp only[bO] at h
  have:=jm (cks:=r) h;grind
 | .ar t::r,base,vs,i,v,h=>by
  have:look (bO base r vs) i=some v:=by cases vs<;>exact h
  have:=jm (cks:=r) this;grind
 | .arF t::r,base,vs,i,v,h=>by
  have:look (bO base r vs) i=some v:=by cases vs<;>exact h
  have:=jm (cks:=r) this;grind
 | .rowC _ _ _::r,base,vs,i,v,h=>by
  have:look (bO base r vs) i=some v:=by cases vs<;>exact h
  have:=jm (cks:=r) this;grind
 | .mapC _ _ _::r,base,vs,i,v,h=>by
  have:look (bO base r vs) i=some v:=by cases vs<;>exact h
  have:=jm (cks:=r) this;grind
 | .own _ _::r,base,[],i,v,h=>by simp[bO,look] at h
 | .map _ _::r,base,[],i,v,h=>by simp[bO,look] at h
 | .ref _ _::r,base,[],i,v,h=>by simp[bO,look] at h
 | .fn _ _::r,base,[],i,v,h=>by simp[bO,look] at h
 | .rowR _::r,base,[],i,v,h=>by simp[bO,look] at h
 | .rpR _ _::r,base,[],i,v,h=>by simp[bO,look] at h
 | .mapR _::r,base,[],i,v,h=>by simp[bO,look] at h
 | .own _ _::r,base,u::q,i,v,h=>by
  simp only[bO,aD] at h
  split at h
  ·grind
  ·have:=jm h;grind
 | .map _ _::r,base,u::q,i,v,h=>by
  simp only[bO,aD] at h
  split at h
  ·grind
  ·have:=jm h;grind
 | .ref _ _::r,base,u::q,i,v,h=>by have:=jm (cks:=r) (vs:=q) h;grind
 | .fn _ _::r,base,u::q,i,v,h=>by have:=jm (cks:=r) (vs:=q) h;grind
 | .rowR _::r,base,u::q,i,v,h=>by have:=jm (cks:=r) (vs:=q) h;grind
 | .rpR _ _::r,base,u::q,i,v,h=>by have:=jm (cks:=r) (vs:=q) h;grind
 | .mapR _::r,base,u::q,i,v,h=>by have:=jm (cks:=r) (vs:=q) h;grind
theorem Vb:∀ (cks:List CK),sg cks<=cks.length
 | []=>ajc _
 | c::r=>by
  have:=Vb r
  cases c<;>simp only[sg,ain]<;>omega
theorem jF:∀ {cks:List CK} {base:Nat} {vs:List Value} {i:Nat} {v:Value},look (bO base cks vs) i=some v->i<base+sg cks
 | [],base,vs,i,v,h=>by simp[bO,look] at h
 | .val t::r,base,vs,i,v,h=>by
  simp only[bO] at h
  have:=jF (cks:=r) h;simp only[sg];omega
 | .ar t::r,base,vs,i,v,h=>by
  have:look (bO base r vs) i=some v:=by cases vs<;>exact h
  have:=jF (cks:=r) this;simp only[sg];omega
 | .arF t::r,base,vs,i,v,h=>by
  have:look (bO base r vs) i=some v:=by cases vs<;>exact h
  have:=jF (cks:=r) this;simp only[sg];omega
 | .rowC _ _ _::r,base,vs,i,v,h=>by
  have:look (bO base r vs) i=some v:=by cases vs<;>exact h
  have:=jF (cks:=r) this;simp only[sg];omega
 | .mapC _ _ _::r,base,vs,i,v,h=>by
  have:look (bO base r vs) i=some v:=by cases vs<;>exact h
  have:=jF (cks:=r) this;simp only[sg];omega
 | .own _ _::r,base,[],i,v,h=>by simp[bO,look] at h
 | .map _ _::r,base,[],i,v,h=>by simp[bO,look] at h
 | .ref _ _::r,base,[],i,v,h=>by simp[bO,look] at h
 | .fn _ _::r,base,[],i,v,h=>by simp[bO,look] at h
 | .rowR _::r,base,[],i,v,h=>by simp[bO,look] at h
 | .rpR _ _::r,base,[],i,v,h=>by simp[bO,look] at h
 | .mapR _::r,base,[],i,v,h=>by simp[bO,look] at h
 | .own _ _::r,base,u::q,i,v,h=>by
  simp only[bO,aD] at h
  split at h
  ·simp only[sg];omega
  ·have:=jF h;simp only[sg];omega
 | .map _ _::r,base,u::q,i,v,h=>by
  simp only[bO,aD] at h
  split at h
  ·simp only[sg];omega
  ·have:=jF h;simp only[sg];omega
 | .ref _ _::r,base,u::q,i,v,h=>by have:=jF (cks:=r) (vs:=q) h;simp only[sg];omega
 | .fn _ _::r,base,u::q,i,v,h=>by have:=jF (cks:=r) (vs:=q) h;simp only[sg];omega
 | .rowR _::r,base,u::q,i,v,h=>by have:=jF (cks:=r) (vs:=q) h;simp only[sg];omega
 | .rpR _ _::r,base,u::q,i,v,h=>by have:=jF (cks:=r) (vs:=q) h;simp only[sg];omega
 | .mapR _::r,base,u::q,i,v,h=>by have:=jF (cks:=r) (vs:=q) h;simp only[sg];omega
theorem abc {t:Ty} {l:List t.den} (h:Ve S t=some l):look S.objs bQ=some (.ar true t l):=by
 unfold Ve at h
 split at h
 ·rename_i ty l' hl
  unfold ym at h
  grind
 ·cases h
theorem lG {ow:List (bE×Nat)} (hM:Mem C G ρ S w) (ρ':Env) (hbx:ρ'.bx=ρ.bx) (hor:∀ j n,cq ow (.inr j)=some n->∀ b,ρ.own b=some (.inr j)->ρ'.own b=some (.inr n)) (hoo:∀ j n,cq ow (.ob j)=some n->(∀ b,ρ.own b=some (.ob j)->ρ'.own b=some (.ob n))/\ρ'.st n=ρ.st j) {nn:Nat} (hfx:∀ j,(j<fO\/fO+nn<=j)->ρ'.rw j=ρ.rw j/\ρ'.ob j=ρ.ob j):∀ {cks:List CK} {cvs:List CV} {x:dO cks} {vs:List Value} {base:Nat}, cks.all (CK.yx nn)=true->bM S cks cvs=some x->aR (br G ρ) cvs vs->(∀ i v,look (bO base cks vs) i=some v->ρ'.rw i=v/\ρ'.ob i=v)->(∀ p,p∈carried base cks cvs->cq ow p.1=some p.2)-> aR (br G ρ') (qM base cks x) vs/\(∀ j q,look (jq base cks x) j=some q->dI G ρ' w j q)/\(∀ j q,look (eH base cks x) j=some q->sE G ρ' w j q)
 | [],[],x,vs,base,_,h,hv,_,_=>⟨hv,fun j q hj=>by simp[jq,look] at hj,fun j q hj=>by simp[eH,look] at hj⟩
 | [],_::_,x,vs,base,_,h,hv,_,_=>by simp[bM] at h
 | .own e t::r,[],x,vs,base,_,h,hv,_,_=>by simp[bM] at h
 | .map e t::r,[],x,vs,base,_,h,hv,_,_=>by simp[bM] at h
 | .ref _ _::r,[],x,vs,base,_,h,hv,_,_=>by simp[bM] at h
 | .rowR _::r,[],x,vs,base,_,h,hv,_,_=>by simp[bM] at h
 | .rpR _ _::r,[],x,vs,base,_,h,hv,_,_=>by simp[bM] at h
 | .mapR _::r,[],x,vs,base,_,h,hv,_,_=>by simp[bM] at h
 | .fn _ _::r,[],x,vs,base,_,h,hv,_,_=>by simp[bM] at h
 | .val t::r,cvs,x,vs,base,hfo,h,hv,hval,hcar=>by
  have hfo':r.all (CK.yx nn)=true:=by grind
  simp only[bM] at h
  split at h
  ·rename_i y q hy
   split at h
   ·rename_i z hz
    cases h
    obtain⟨a,b,e,h1,h2⟩:=aaf hM.frozen t cvs y q vs hy hv
    have hr:=Dc t hy
    have hlen:=h1.len
    have hb:vs.drop t.size=b:=by grind
    obtain⟨g1,g2,g3⟩:=lG hM ρ' hbx hor hoo hfx (base:=base) hfo' hz h2 (fun i v hi=>hval i v (by simp only[bO,hb];exact hi)) (fun p hp=>hcar p (by simp only[carried, <- hr];exact hp))
    refine⟨?_,g2,g3⟩
    rw[e]
    exact (jy ρ' h1).append g1
   ·cases h
  ·cases h
 | .ref k off::r,c::q,x,vs,base,hfo,h,⟨v,us,e,hc,hq⟩,hval,hcar=>by
  have hfo':r.all (CK.yx nn)=true:=by grind
  subst e
  simp only[bM] at h
  split at h
  ·rename_i k' off'
   replace h:(if (k.beq k'&&off.beq off')=true then bM S r q else none)=(some x:Option (dO r)):=h
   split at h
   ·rename_i hk
    simp only[ag1] at hk
    have e1:=ai8 hk.1
    have e2:=ai8 hk.2
    subst e1;subst e2
    obtain⟨g1,g2,g3⟩:=lG (cks:=r) hM ρ' hbx hor hoo hfx (base:=base) hfo' h hq hval hcar
    exact⟨⟨v,us,rfl,by show v=_;rw[hbx];exact hc,g1⟩,g2,g3⟩
   ·cases h
  ·cases h
 | .fn g ks::r,c::q,x,vs,base,hfo,h,⟨v,us,e,hc,hq⟩,hval,hcar=>by
  have hfo':r.all (CK.yx nn)=true:=by grind
  subst e
  simp only[bM] at h
  split at h
  ·rename_i g' ks'
   replace h:(if (g.beq g'&&ks==ks')=true then bM S r q else none)=(some x:Option (dO r)):=h
   split at h
   ·rename_i hk
    simp only[ag1] at hk
    have e1:=ai8 hk.1
    have e2:ks=ks':=by grind
    subst e1;subst e2
    obtain⟨g1,g2,g3⟩:=lG (cks:=r) hM ρ' hbx hor hoo hfx (base:=base) hfo' h hq hval hcar
    exact⟨⟨v,us,rfl,by show v=_;rw[hbx];exact hc,g1⟩,g2,g3⟩
   ·cases h
  ·cases h
 | .ar t::r,q,x,vs,base,hfo,h,hv,hval,hcar=>by
  have hfo':r.all (CK.yx nn)=true:=by grind
  simp only[bM] at h
  split at h
  ·rename_i l y hl hy
   cases h
   obtain⟨f,hlk,hf⟩:=zl hl
   have:=hf rfl
   subst this
   have ec:carried base (.ar t::r) q=(.ob bQ,bQ)::carried base r q:=by rfl
   have ev:bO base (.ar t::r) vs=bO base r vs:=by rfl
   rw[ec] at hcar
   rw[ev] at hval
   obtain⟨g1,g2,g3⟩:=lG (cks:=r) hM ρ' hbx hor hoo hfx (base:=base) hfo' hy hv hval (fun p hp=>hcar p (by simp[hp]))
   refine⟨g1,g2,fun j q' hj=> ?_⟩
   simp only[eH,aD] at hj
   split at hj
   ·rename_i ej
    subst ej
    cases hj
    obtain⟨_,h1,h2,h3⟩:=hM.objs bQ _ hlk
    have hown:=(hoo bQ bQ (hcar (.ob bQ,bQ) (by simp))).1
    refine⟨rfl,h1,h2,fun i z hz=> ?_⟩
    grind
   grind
  ·cases h
 | .arF t::r,q,x,vs,base,hfo,h,hv,hval,hcar=>by
  have hfo':r.all (CK.yx nn)=true:=by grind
  simp only[bM] at h
  split at h
  ·rename_i l y hl hy
   cases h
   have hlk:=abc hl
   have ec:carried base (.arF t::r) q=carried base r q:=by cases q<;>rfl
   have ev:bO base (.arF t::r) vs=bO base r vs:=by cases vs<;>rfl
   rw[ec] at hcar
   rw[ev] at hval
   obtain⟨g1,g2,g3⟩:=lG (cks:=r) hM ρ' hbx hor hoo hfx (base:=base) hfo' hy hv hval hcar
   refine⟨g1,g2,fun j q' hj=> ?_⟩
   simp only[eH,aD] at hj
   split at hj
   ·rename_i ej
    subst ej
    cases hj
    obtain⟨_,h1,h2,h3⟩:=hM.objs bQ _ hlk
    refine⟨rfl,h1,h2,fun i z hz=> ?_⟩
    obtain⟨b,ws,T,f1,f2,f3,f4,f5⟩:=h3 i z hz
    exact⟨b,ws,T,f1,f2,nofun,f4,f5⟩
   ·exact g3 j q' hj
  ·cases h
 | .own e' t::r,c::q,x,vs,base,hfo,h,⟨v,us,e,hc,hq⟩,hval,hcar=>by
  have hfo':r.all (CK.yx nn)=true:=by simp only[ahG,ag1] at hfo;exact hfo.2
  subst e
  have hv:ρ'.rw base=v:=(hval base v (by simp[bO,aD])).1
  have hval':∀ i u,look (bO (base+1) r us) i=some u->ρ'.rw i=u/\ρ'.ob i=u:=fun i u hi=>hval i u (by
   simp only[bO,aD]
   rw[ajY (by have:=jm hi;omega)]
   exact hi)
  simp only[bM] at h
  split at h
  ·rename_i l y hl hy
   cases h
   obtain⟨g1,g2,g3⟩:=lG hM ρ' hbx hor hoo hfx (base:=base+1) hfo' hy hq hval' (fun p hp=>hcar p (by simp[carried,hp]))
   obtain⟨h1,h2⟩:=xI (ow:=ow) (n:=base) hM (Gh.le_refl G) hl hc (fun p hp=>hcar p (by simp[carried,hp]))
   refine⟨⟨v,us,rfl,⟨hv.symm, ?_⟩,g1⟩,fun j q' hj=> ?_,g3⟩
   ·obtain⟨xs,ho,_⟩:=h1
    rcases ho.2 with ⟨e,_⟩ | ⟨g,cap,cur,e,_⟩
    ·exact⟨_,_,_,e⟩
    ·exact⟨_,_,_,e⟩
   ·simp only[jq,aD] at hj
    split at hj
    ·rename_i ej
     subst ej
     cases hj
     unfold dI
     rw[ajY (by simp),hv]
     obtain⟨xs,ho,hr⟩:=h1
     refine⟨xs,ho,hr,fun b hb=> ?_⟩
     have hown:=h2 b hb
     unfold fe at hown
     cases h3:ρ.own b with
     | none=>rw[h3] at hown;cases hown
     | some o'=>
      rw[h3] at hown
      simp only[ajA] at hown
      have:∃ j,o'= .inr j:=by
       cases c<;>simp only[mH] at hl<;>try cases hl
       case row j0=>
        split at hl
        ·rename_i q0 hq0
         split at hl
         ·cases hl
         ·rename_i hcnd
          simp only[ahf,aj4,aha,ag9] at hcnd
          have hrow:=hM.rows j0 q0 hq0
          unfold dI at hrow
          rw[ajY (by simp[hcnd.1])] at hrow
          obtain⟨_,_,_,hob⟩:=hrow
          have hc1:=hc.1
          rw[hc1] at hb
          have:=hob b hb
          rw[h3] at this
          exact⟨j0,by simpa using this⟩
        ·cases hl
       case nils=>
        have hvn:v= .slice none 0 0:=hc
        rw[hvn] at hb;cases hb
      obtain⟨j0,rfl⟩:=this
      exact hor j0 base hown b h3
    ·exact g2 j q' hj
  ·cases h
 | .map kk vv::r,c::q,x,vs,base,hfo,h,⟨v,us,e,hc,hq⟩,hval,hcar=>by
  have hfo':r.all (CK.yx nn)=true:=by simp only[ahG,ag1] at hfo;exact hfo.2
  subst e
  have hv:ρ'.ob base=v:=(hval base v (by simp[bO,aD])).2
  have hval':∀ i u,look (bO (base+1) r us) i=some u->ρ'.rw i=u/\ρ'.ob i=u:=fun i u hi=>hval i u (by
   simp only[bO,aD]
   rw[ajY (by have:=jm hi;omega)]
   exact hi)
  simp only[bM] at h
  split at h
  ·rename_i l y hl hy
   cases h
   obtain⟨g1,g2,g3⟩:=lG hM ρ' hbx hor hoo hfx (base:=base+1) hfo' hy hq hval' (fun p hp=>hcar p (by simp[carried,hp]))
   cases c<;>simp only[uz] at hl<;>try cases hl
   case mp j0=>
    split at hl
    ·rename_i k' v' l' hlk
     obtain⟨e1,e2,e3⟩:=K8 hl
     subst e1;subst e2;subst e3
     obtain⟨b,es,clock,f1,f2,f3,f4,f5,f6⟩:=hM.objs j0 _ hlk
     have hlo:=hcar (.ob j0,base) (by simp[carried,s7])
     obtain⟨ho1,ho2⟩:=hoo j0 base hlo
     have hvb:v= .map (some b):=hc.1.trans f1
     refine⟨⟨v,us,rfl,⟨hv.symm,b,hvb⟩,g1⟩,g2,fun j q' hj=> ?_⟩
     simp only[eH,aD] at hj
     split at hj
     ·rename_i ej
      subst ej
      cases hj
      exact⟨b,es,clock,hv.trans hvb,ho1 b f2,f3,f4,by rw[ho2];exact f5,f6⟩
     ·exact g3 j q' hj
    ·cases hl
  ·cases h
 | .rowR j::r,c::q,x,vs,base,hfo,h,⟨v,us,e,hc,hq⟩,hval,hcar=>by
  simp only[ahG,ag1] at hfo
  subst e
  simp only[bM] at h
  split at h
  ·rename_i j'
   replace h:(if j.beq j'=true then bM S r q else none)=(some x:Option (dO r)):=h
   split at h
   ·rename_i hk
    have e1:=ai8 hk
    subst e1
    obtain⟨g1,g2,g3⟩:=lG (cks:=r) hM ρ' hbx hor hoo hfx (base:=base) hfo.2 h hq hval hcar
    have hj:=(hfx j (by have:=hfo.1;simp only[CK.yx,ahf] at this;exact this.imp (fun h=>by simpa using h) aja)).1
    exact⟨⟨v,us,rfl,⟨by rw[hj];exact hc.1,hc.2⟩,g1⟩,g2,g3⟩
   ·cases h
  ·cases h
 | .rpR j sz::r,c::q,x,vs,base,hfo,h,⟨v,us,e,hc,hq⟩,hval,hcar=>by
  simp only[ahG,ag1] at hfo
  subst e
  simp only[bM] at h
  split at h
  ·rename_i j' sz' i off
   replace h:(if (j.beq j'&&(sz.beq sz'&&off.beq 0))=true then (match bM S r q with | some y=>some (i,y) | none=>none) else none)=(some x:Option (Nat×dO r)):=h
   split at h
   ·rename_i hk
    simp only[ag1] at hk
    have e1:=ai8 hk.1
    have e2:=ai8 hk.2.1
    have e3:=ai8 hk.2.2
    subst e1;subst e2;subst e3
    split at h
    ·rename_i y hy
     cases h
     obtain⟨g1,g2,g3⟩:=lG (cks:=r) hM ρ' hbx hor hoo hfx (base:=base) hfo.2 hy hq hval hcar
     have hj:=(hfx j (by have:=hfo.1;simp only[CK.yx,ahf] at this;exact this.imp (fun h=>by simpa using h) aja)).1
     obtain⟨b,len,cap,c1,c2⟩:=hc
     exact⟨⟨v,us,rfl,⟨b,len,cap,by rw[hj];exact c1,c2⟩,g1⟩,g2,g3⟩
    ·cases h
   ·cases h
  ·cases h
 | .mapR j::r,c::q,x,vs,base,hfo,h,⟨v,us,e,hc,hq⟩,hval,hcar=>by
  simp only[ahG,ag1] at hfo
  subst e
  simp only[bM] at h
  split at h
  ·rename_i j'
   replace h:(if j.beq j'=true then bM S r q else none)=(some x:Option (dO r)):=h
   split at h
   ·rename_i hk
    have e1:=ai8 hk
    subst e1
    obtain⟨g1,g2,g3⟩:=lG (cks:=r) hM ρ' hbx hor hoo hfx (base:=base) hfo.2 h hq hval hcar
    have hj:=(hfx j (by have:=hfo.1;simp only[CK.yx,ahf] at this;exact this.imp (fun h=>by simpa using h) aja)).2
    exact⟨⟨v,us,rfl,⟨by rw[hj];exact hc.1,hc.2⟩,g1⟩,g2,g3⟩
   ·cases h
  ·cases h
 | .rowC j e' t::r,q,x,vs,base,hfo,h,hv,hval,hcar=>by
  simp only[ahG,ag1] at hfo
  have hj:=(hfx j (by have:=hfo.1;simp only[CK.yx,ahf] at this;exact this.imp (fun h=>by simpa using h) aja)).1
  simp only[bM] at h
  split at h
  ·rename_i l y hl hy
   cases h
   have ec:carried base (.rowC j e' t::r) q=(.inr j,j)::carried base r q:=by cases q<;>rfl
   have ev:bO base (.rowC j e' t::r) vs=bO base r vs:=by cases vs<;>rfl
   rw[ec] at hcar
   rw[ev] at hval
   obtain⟨g1,g2,g3⟩:=lG (cks:=r) hM ρ' hbx hor hoo hfx (base:=base) hfo.2 hy hv hval (fun p hp=>hcar p (by simp[hp]))
   refine⟨g1,fun i q' hi=> ?_,g3⟩
   simp only[jq,aD] at hi
   split at hi
   ·rename_i ej
    subst ej
    cases hi
    have hlo:=hcar (.inr j,j) (by simp)
    simp only[mH] at hl
    split at hl
    ·rename_i q0 hq0
     split at hl
     ·cases hl
     ·rename_i hc
      simp only[ahf,aj4,aha,ag9] at hc
      obtain⟨et,el⟩:=mo hl
      have hrow:=hM.rows j q0 hq0
      obtain⟨qf,qe,qt,ql⟩:=q0
      dsimp only at et el hc
      subst et;subst el
      have hee:qe=e':=ai8 hc.2
      subst hee
      unfold dI at hrow ⊢
      rw[ajY (by simp[hc.1])] at hrow
      rw[ajY (by simp),hj]
      obtain⟨xs,h1,h2,h3⟩:=hrow
      exact⟨xs,h1,h2,fun b hb=>hor j j hlo b (h3 b hb)⟩
    ·cases hl
   ·exact g2 i q' hi
  ·cases h
 | .mapC j kk vv::r,q,x,vs,base,hfo,h,hv,hval,hcar=>by
  simp only[ahG,ag1] at hfo
  have hj:=(hfx j (by have:=hfo.1;simp only[CK.yx,ahf] at this;exact this.imp (fun h=>by simpa using h) aja)).2
  simp only[bM] at h
  split at h
  ·rename_i l y hl hy
   cases h
   have ec:carried base (.mapC j kk vv::r) q=(.ob j,j)::carried base r q:=by cases q<;>rfl
   have ev:bO base (.mapC j kk vv::r) vs=bO base r vs:=by cases vs<;>rfl
   rw[ec] at hcar
   rw[ev] at hval
   obtain⟨g1,g2,g3⟩:=lG (cks:=r) hM ρ' hbx hor hoo hfx (base:=base) hfo.2 hy hv hval (fun p hp=>hcar p (by simp[hp]))
   refine⟨g1,g2,fun i q' hi=> ?_⟩
   simp only[eH,aD] at hi
   split at hi
   ·rename_i ej
    subst ej
    cases hi
    obtain⟨ho1,ho2⟩:=hoo j j (hcar (.ob j,j) (by simp))
    simp only[uz] at hl
    split at hl
    ·rename_i k' v' l' hlk
     obtain⟨e1,e2,e3⟩:=K8 hl
     subst e1;subst e2;subst e3
     obtain⟨b,es,clock,f1,f2,f3,f4,f5,f6⟩:=hM.objs j _ hlk
     exact⟨b,es,clock,by rw[hj];exact f1,ho1 b f2,f3,f4,by rw[ho2];exact f5,f6⟩
    ·cases hl
   ·exact g3 i q' hi
  ·cases h
def zR (a:Act) (p:Nat×CK):List Value:=match p.2.agg with
 | false=>[a.tmps.getD p.1 undef]
 | true=>match a.tmps.getD p.1 undef with
  | .agg vs=>vs.toList
  | _=>[]
def Uc (a:Act) (l:List (Nat×CK)):Prop:=∀ p,p∈l->(zR a p).length=p.2.size/\(p.2.agg=true->a.tmps.getD p.1 undef= .agg (zR a p).toArray)
theorem Wk {a:Act} (hT:jO G ρ S a):∀ {l:List (Nat×CK)} {cs:List CV},O4 S l=some cs->aR (br G ρ) cs (l.flatMap (zR a))/\Uc a l
 | [],cs,h=>by simp only[O4] at h;cases h;exact⟨rfl,fun p hp=>by cases hp⟩
 | p::r,cs,h=>by
  simp only[O4] at h
  split at h
  ·rename_i ag c hc
   split at h
   ·rename_i l hl
    split at h
    ·rename_i hsz
     cases h
     simp only[ag1,ajL,ahf] at hsz
     obtain⟨e1,e2,e3⟩:=hsz
     have hlen:=ai8 e2
     have:=hT.ev (.tmp p.1)
     simp only[St.ev] at this
     rw[hc] at this
     obtain⟨h1,h2⟩:=Wk hT hl
     have key:aR (br G ρ) c (zR a p)/\(p.2.agg=true->a.tmps.getD p.1 undef= .agg (zR a p).toArray):=by
      unfold zR
      rw[<- e1]
      cases ag with
      | true=>
       obtain⟨vs,ev,hv⟩:=this
       have ev':a.tmps.getD p.1 undef= .agg vs.toArray:=ev
       grind
      | false=>
       have e3':c.length=1:=by
        simp_all
       match c,e3' with
       | [c],_=>exact⟨⟨_,_,rfl,this,rfl⟩,nofun⟩
     refine⟨by simpa using key.1.append h1,fun q hq=> ?_⟩
     rcases aiz.1 hq with rfl | hq
     ·exact⟨by rw[key.1.len];omega,key.2⟩
     ·exact h2 q hq
    ·cases h
   ·cases h
  ·cases h
theorem VG (hM:Mem C G ρ S w):∀ {l:List (Nat×List CK)} {cs:List CV},Ny S l=some cs->∃ vss:List (List Value),aR (br G ρ) cs vss.flatten/\ aR (fun (p:Nat×List CK) vs=>vs.length=sK p.2/\ρ.own (ρ.bx p.1)=some (.inl p.1)/\∃ T,w.heap[ρ.bx p.1]? =some (.cells (List.toArray vs) T (0,0))) l vss
 | [],cs,h=>by simp only[Ny] at h;cases h;exact⟨[],rfl,rfl⟩
 | p::r,cs,h=>by
  simp only[Ny] at h
  split at h
  ·rename_i c hc
   split at h
   ·rename_i hlen
    split at h
    ·rename_i l hl
     cases h
     obtain⟨vss,h1,h2⟩:=VG hM hl
     obtain⟨ho,vs,T,hw,hv⟩:=hM.boxes p.1 c hc
     refine⟨vs::vss,by simpa using hv.append h1,vs,vss,rfl,⟨?_,ho,T,hw⟩,h2⟩
     rw[hv.len];simp_all
    ·cases h
   ·cases h
  ·cases h
theorem Wd {a:Act}:∀ {l:List (Nat×CK)} {cs:List CV} {t:List SV},Uc a l->aR (br G ρ) cs (l.flatMap (zR a))->jO G ρ ⟨t,[],[],[]⟩ a->jO G ρ ⟨Fk l cs t,[],[],[]⟩ a
 | [],cs,t,_,h,ht=>ht
 | p::r,cs,t,hk,h,ht=>by
  obtain⟨h1,h2⟩:=hk p aiB
  simp only[ah0] at h
  have g1:=h.take p.2.size
  have g2:=h.drop p.2.size
  rw[<- h1,aiX] at g1
  rw[<- h1,ahS] at g2
  rw[h1] at g1 g2
  simp only[Fk]
  refine Wd (fun q hq=>hk q (aiA _ hq)) g2 ⟨by simpa using ht.1,fun i s hi=> ?_⟩
  simp only[aie] at hi
  split at hi
  ·rename_i e
   split at hi
   ·cases hi;subst e
    show oz G ρ p.2.agg (cs.take p.2.size) (a.tmps.getD p.1 undef)
    cases hag:p.2.agg with
    | true=>rw[h2 hag];exact⟨_,rfl,g1⟩
    | false=>
     have e:zR a p=[a.tmps.getD p.1 undef]:=by unfold zR;rw[hag]
     rw[e] at g1
     obtain⟨x,y,e2,g3,g4⟩:∃ x y,cs.take p.2.size=x::y/\br G ρ x (a.tmps.getD p.1 undef)/\y=[]:=by
      cases hc:cs.take p.2.size with
      | nil=>rw[hc] at g1;cases g1
      | cons x y=>
       rw[hc] at g1
       obtain⟨v,s,e5,e6,e7⟩:=g1
       cases e5
       cases y with
       | nil=>grind
       | cons z y=>obtain⟨_,_,e8,_⟩:=e7;cases e8
     rw[e2,g4];exact g3
   grind
  ·exact ht.2 i s hi
theorem VF {R:CV->Value->Prop} {H:Nat->List Value->Prop}:∀ {l:List (Nat×List CK)} {cs:List CV} {vss:List (List Value)},aR R cs vss.flatten->aR (fun (p:Nat×List CK) vs=>vs.length=sK p.2/\H p.1 vs) l vss-> ∀ k cells,look (Nx l cs) k=some cells->∃ vs,H k vs/\aR R cells vs
 | [],cs,vss,_,_,k,cells,hk=>by simp[Nx,look] at hk
 | p::r,cs,vss,h,⟨vs,us,e,⟨hl,hH⟩,hr⟩,k,cells,hk=>by
  subst e
  simp only[Nx,aD] at hk
  have h1:=h.take (sK p.2)
  have h2:=h.drop (sK p.2)
  simp only[List.flatten_cons] at h1 h2
  rw[<- hl,aiX] at h1
  rw[<- hl,ahS] at h2
  split at hk
  ·grind
  ·exact VF (by grind) hr k cells hk
theorem aR.ad1 {α γ:Type} {R:α->γ->Prop} {l:List α} {a b:List γ} (h:aR R l (a++b)):aR R (l.take a.length) a/\aR R (l.drop a.length) b:=by
 have h1:=h.take a.length
 have h2:=h.drop a.length
 grind
theorem JF:∀ (l:List (Nat×CK)) (cs:List CV) (t:List SV),Fk l cs t=Fk l (cs.take (sK (l.map (·.2)))) t
 | [],cs,t=>rfl
 | p::r,cs,t=>by
  simp only[Fk,aiv,sK]
  rw[JF r,JF r ((cs.take _).drop _)]
  grind
theorem Uc.len {a:Act}:∀ {l:List (Nat×CK)},Uc a l->(l.flatMap (zR a)).length=sK (l.map (·.2))
 | [],_=>rfl
 | p::r,h=>by
  have ih:=Uc.len (l:=r) fun q hq=>h q (aiA _ hq)
  simp only[ah0,aim,aiv,sK,ih,(h p aiB).1]
theorem jD:∀ {cks:List CK} {cvs:List CV} {x:dO cks} {base:Nat} {t:Ty} {l:List t.den},bM S cks cvs=some x->look (eH base cks x) bQ=some (.ar false t l)->∃ t l,look S.objs bQ=some (.ar false t l)
 | [],cvs,x,base,t,l,h,hl=>by simp[eH,look] at hl
 | .val _::r,cvs,x,base,t,l,h,hl=>by
  simp only[bM] at h
  split at h
  ·split at h
   ·rename_i z hz
    cases h
    exact jD (cks:=r) hz hl
   ·cases h
  ·cases h
 | .own _ _::r,[],x,base,t,l,h,hl=>by simp[bM] at h
 | .own _ _::r,c::q,x,base,t,l,h,hl=>by
  simp only[bM] at h
  split at h
  ·rename_i y z hz
   cases h
   exact jD (cks:=r) hz hl
  ·cases h
 | .map _ _::r,[],x,base,t,l,h,hl=>by simp[bM] at h
 | .map _ _::r,c::q,x,base,t,l,h,hl=>by
  simp only[bM] at h
  split at h
  ·rename_i y z hz
   cases h
   simp only[eH,aD] at hl
   split at hl
   ·cases hl
   ·exact jD (cks:=r) hz hl
  ·cases h
 | .ref k off::r,[],x,base,t,l,h,hl=>by simp[bM] at h
 | .ref k off::r,c::q,x,base,t,l,h,hl=>by
  simp only[bM] at h
  split at h
  ·rename_i k' off'
   replace h:(if (k.beq k'&&off.beq off')=true then bM S r q else none)=(some x:Option (dO r)):=h
   split at h
   ·exact jD (cks:=r) h hl
   ·cases h
  ·cases h
 | .fn g ks::r,[],x,base,t,l,h,hl=>by simp[bM] at h
 | .fn g ks::r,c::q,x,base,t,l,h,hl=>by
  simp only[bM] at h
  split at h
  ·rename_i g' ks'
   replace h:(if (g.beq g'&&ks==ks')=true then bM S r q else none)=(some x:Option (dO r)):=h
   split at h
   ·exact jD (cks:=r) h hl
   ·cases h
  ·cases h
 | .rowR j::r,[],x,base,t,l,h,hl=>by simp[bM] at h
 | .rowR j::r,c::q,x,base,t,l,h,hl=>by
  simp only[bM] at h
  split at h
  ·rename_i j'
   replace h:(if j.beq j'=true then bM S r q else none)=(some x:Option (dO r)):=h
   split at h
   ·exact jD (cks:=r) h hl
   ·cases h
  ·cases h
 | .rpR j sz::r,[],x,base,t,l,h,hl=>by simp[bM] at h
 | .rpR j sz::r,c::q,x,base,t,l,h,hl=>by
  simp only[bM] at h
  split at h
  ·rename_i j' sz' i off
   replace h:(if (j.beq j'&&(sz.beq sz'&&off.beq 0))=true then (match bM S r q with | some y=>some (i,y) | none=>none) else none)=(some x:Option (Nat×dO r)):=h
   split at h
   ·split at h
    ·rename_i y hy
     cases h
     exact jD (cks:=r) hy hl
    ·cases h
   ·cases h
  ·cases h
 | .mapR j::r,[],x,base,t,l,h,hl=>by simp[bM] at h
 | .mapR j::r,c::q,x,base,t,l,h,hl=>by
  simp only[bM] at h
  split at h
  ·rename_i j'
   replace h:(if j.beq j'=true then bM S r q else none)=(some x:Option (dO r)):=h
   split at h
   ·exact jD (cks:=r) h hl
   ·cases h
  ·cases h
 | .rowC j e t'::r,q,x,base,t,l,h,hl=>by
  simp only[bM] at h
  split at h
  ·rename_i y z hz
   cases h
   exact jD (cks:=r) hz hl
  ·cases h
 | .mapC j k v::r,q,x,base,t,l,h,hl=>by
  simp only[bM] at h
  split at h
  ·rename_i y z hz
   cases h
   simp only[eH,aD] at hl
   split at hl
   ·cases hl
   ·exact jD (cks:=r) hz hl
  ·cases h
 | .arF t'::r,q,x,base,t,l,h,hl=>by
  simp only[bM] at h
  split at h
  ·rename_i y z hz
   cases h
   simp only[eH,aD] at hl
   grind
  ·cases h
 | .ar t'::r,q,x,base,t,l,h,hl=>by
  simp only[bM] at h
  split at h
  ·rename_i y z hy hz
   obtain⟨f,hl,hf⟩:=zl hy
   grind
  ·cases h
theorem adG {a:Act} {A:Ann} {x:dO A.cks} (hM:Mod C G ρ S w a) (h:XC A S=some x):∃ ρ',Mod C G ρ' (head A S.tmps.length x) w a:=by
 unfold XC at h
 split at h
 ·rename_i cvs hpl
  split at h
  ·cases h
  ·rename_i hdup
   simp only[ahf,aj4,aha,ag9] at hdup
   obtain⟨⟨⟨hfix,hlen1⟩,hdup'⟩,hcod⟩:=hdup
   have hlen2:A.cks.length<1000:=by simp_all
   generalize hcar:carried fO A.cks cvs=ow at*
   unfold St.places at hpl
   split at hpl
   ·rename_i ct cb hct hcb
    cases hpl
    obtain⟨hvT,hszT⟩:=Wk hM.tmps hct
    obtain⟨vss,hvB,hbs⟩:=VG hM.toMem hcb
    have hvs:=hvT.append hvB
    generalize hvals:bO fO A.cks (A.tmps.flatMap (zR a)++vss.flatten)=hv
    let ρ':Env:=⟨ρ.bx,fun i=>(look hv i).getD (ρ.rw i),
     fun b=>match ρ.own b with | some (.inl k)=>some (.inl k) | some (.inr j)=>(cq ow (.inr j)).map .inr | some (.ob j)=>(cq ow (.ob j)).map .ob | none=>none,
     fun i=>(look hv i).getD (ρ.ob i),
     fun i=>match mS ow i with | some (.ob j)=>ρ.st j | _=>ρ.st i⟩
    have hfxv:∀ j,(j<fO\/fO+sg A.cks<=j)->ρ'.rw j=ρ.rw j/\ρ'.ob j=ρ.ob j:=fun j hj=>by
     have:look hv j=none:=by
      cases hl:look hv j with
      | none=>rfl
      | some v=>
       rw[<- hvals] at hl
       have:=jm hl
       have:=jF hl
       omega
     grind
    obtain⟨h1,h2,h2'⟩:=lG (ow:=ow) hM.toMem ρ' rfl (fun j n hl b hb=>by
     show ((match ρ.own b with | some (.inl k)=>some (bE.inl k) | some (.inr j)=>(cq ow (.inr j)).map bE.inr | some (.ob j)=>(cq ow (.ob j)).map bE.ob | none=>none):Option bE)=_
     rw[hb];simp[hl])
     (fun j n hl=>⟨fun b hb=>by
       show ((match ρ.own b with | some (.inl k)=>some (bE.inl k) | some (.inr j)=>(cq ow (.inr j)).map bE.inr | some (.ob j)=>(cq ow (.ob j)).map bE.ob | none=>none):Option bE)=_
       rw[hb];simp[hl],by
       show (match mS ow n with | some (.ob j)=>ρ.st j | _=>ρ.st n)=_
       rw[Ab hcod (acv hl)]⟩) hfxv (base:=fO) hfix h hvs (fun i v hi=>by
       rw[hvals] at hi
       exact⟨by show (look hv i).getD _=_;rw[hi];rfl,by show (look hv i).getD _=_;rw[hi];rfl⟩) (fun p hp=>by
       rw[hcar] at hp
       exact qR hdup' hp)
    obtain⟨h3,h4⟩:=h1.ad1
    rw[Uc.len hszT] at h3 h4
    refine⟨ρ',{ agr:=hM.agr,le0:=hM.le0,old:=hM.old,frame:=hM.frame,size:=hM.size,os:=hM.os,output:=hM.output,pin:=hM.pin,pinR:=fun k hk=>⟨(hfxv k (by have:=Vb A.cks;simp only[fO];omega)).1.trans (hM.pinR k hk).1,(hfxv k (by have:=Vb A.cks;simp only[fO];omega)).2.trans (hM.pinR k hk).2⟩,owned:= ?_,boxes:= ?_,rows:=h2,objs:=h2',hndI:=fun hn=>⟨(hM.hndI hn).1,fun t l hl=>by obtain⟨t',l',h'⟩:=jD h hl;exact (hM.hndI hn).2 t' l' h'⟩,tmps:= ?_,defers:=hM.defers }⟩
    ·intro b o ho
     have ho':(match ρ.own b with | some (.inl k)=>some (.inl k) | some (.inr j)=>(cq ow (.inr j)).map .inr | some (.ob j)=>(cq ow (.ob j)).map .ob | none=>none)=some o:=ho
     cases h5:ρ.own b with
     | none=>rw[h5] at ho';cases ho'
     | some o'=>exact hM.owned b o' h5
    ·intro k cs hk
     obtain⟨vs,⟨h5,T,h6⟩,h7⟩:=VF (R:=br G ρ') (H:=fun k vs=>ρ.own (ρ.bx k)=some (.inl k)/\∃ T,w.heap[ρ.bx k]? =some (.cells (List.toArray vs) T (0,0))) h4 hbs k cs hk
     exact⟨by simp only[ρ',h5],vs,T,h6,h7⟩
    ·have:jO G ρ' ⟨Fk A.tmps ((qM fO A.cks x).take (sK (A.tmps.map (·.2)))) (List.replicate S.tmps.length (.v false [.any])),[],[],[]⟩ a:=
      Wd hszT h3 ⟨by simpa using hM.tmps.1,fun i s hi=>by
       simp only[aid] at hi
       split at hi
       ·cases hi;exact trivial
       ·cases hi⟩
     rw[<- JF] at this
     exact this
   grind
 ·cases h
theorem UW {a:Act} {A:Ann} {x:dO A.cks} (hM:Mod C G ρ S w a) (h:carry A S=some x):∃ G' ρ',Mod C G' ρ' (head A S.tmps.length x) w a:=by
 unfold carry at h
 split at h
 ·rename_i cvs _
  obtain⟨G1,ρ1,_,hM1⟩:=hM.freeze (Og A.cks cvs)
  obtain⟨ρ2,h2⟩:=adG hM1 h
  exact⟨G1,ρ2,h2⟩
 ·cases h
end Go.Dn
namespace Go.Dn
variable {β:Type} {X:Cx} {C:Fr X.P} {G:Gh} {ρ:Env} {w:World}
def Xe:Option Del->SV
 | some x=>x.sv
 | none=>wU
def Da:Option Del->Option (List CV)
 | some x=>x.box
 | none=>none
def Cm:Option Del->Option rY
 | some x=>x.row
 | none=>none
def Ff:Option Del->Option vS
 | some x=>x.obj
 | none=>none
def St.out (S:St) (o:Oper):Option Del->St
 | some x=>S.app o.dst x
 | none=>S.put o.dst wU
def states:List Oper->St->List (Option Del)->St
 | o::l,S,x::xs=>states l (S.out o x) xs
 | _,S,_=>S
theorem ab3 {S:St} {d:Nat} {b:Bool} (h:S.ev (.tmp d)= .v false [.bool b]):S.put (some d) (.v false [.bool b])=S:=by
 simp only[St.ev] at h
 rw[ah1] at h
 cases hs:S.tmps[d]? with
 | none=>grind
 | some s=>
  rw[hs] at h
  simp only[ajB] at h
  subst h
  obtain⟨hlt,he⟩:=aia.1 hs
  simp only[St.put]
  have:S.tmps.set d (.v false [.bool b])=S.tmps:=by rw[<- he];simp
  rw[this]
theorem Ya {ops:List Oper} {o:Oper} {S:St} {d:Nat} {b want:Bool} (h:guardOf ops o S=some (some (d,b,want))):S.ev (.tmp d)= .v false [.bool b]:=by
 unfold guardOf at h
 grind
structure abv (P:Program) (o:Oper) (S:St) (x:Del):Prop where
 blind:Cc o.op=true->eo P o S zh x/\x.box=none/\x.row=none/\x.obj=none
 make:zb o.op=true->eo P o S zh x/\x.box=none/\x.obj=none
def Il (X:Cx) (ops:List Oper) (M:St) (o:Oper) (S:St):Option Del->Prop
 | some x=>(eo X.P o S M x/\abv X.P o S x)/\(guardOf ops o S=some none\/∃ d b want,guardOf ops o S=some (some (d,b,want))/\(b==want)=true)
 | none=>(∃ d b want,guardOf ops o S=some (some (d,b,want))/\(b==want)=false)\/rR ops o S=true
theorem eo.Z6 {P:Program} {o:Oper} {S M:St} {x:Del} (h:eo P o S zh x):eo P o S M x:=
 fun C G ρ S1 w a Q hM hN h1 h2 h3=>h C G ρ S1 w a Q hM ⟨hN.ops,fun k cs hk=>(by cases hk),fun k cs hk=>(by cases hk),fun k cs hk=>(by cases hk)⟩ h1 h2 h3
theorem xG (hX:cD X) {o:Oper} {S M:St} {k:Del->Option β} {r:β} (h:gz X o S M k=some r):∃ x,k x=some r/\eo X.P o S M x/\abv X.P o S x:=by
 cases hb:Cc o.op with
 | false=>
  cases hk:zb o.op with
  | false=>
   obtain⟨x,h1,h2,_⟩:=zf hX h
   exact⟨x,h1,h2,⟨fun h=>(by grind),fun h=>(by grind)⟩⟩
  | true=>
   have e:gz X o S zh (fun x=>bif x.box.isNone&&x.obj.isNone then k x else none)=some r:=by
    obtain⟨dst,op,ty,pos,af,g⟩:=o
    cases op<;>first | exact absurd hk ag7 | exact h
   obtain⟨x,h1,h2,_⟩:=zf hX e
   cases hc:x.box.isNone&&x.obj.isNone with
   | false=>grind
   | true=>
    rw[hc] at h1
    simp only[ag1,ajC] at hc
    exact⟨x,h1,h2.Z6,⟨fun h=>(by grind),fun _=>⟨h2,hc⟩⟩⟩
 | true=>
  have e:gz X o S zh (fun x=>bif x.box.isNone&&(x.row.isNone&&x.obj.isNone) then k x else none)=some r:=by
   obtain⟨dst,op,ty,pos,af,g⟩:=o
   cases op<;>first | exact absurd hb ag7 | exact h
  have hk:zb o.op=false:=by
   revert hb
   cases o.op<;>intro hb<;>first | rfl | exact absurd hb ag7
  obtain⟨x,h1,h2,_⟩:=zf hX e
  cases hc:x.box.isNone&&(x.row.isNone&&x.obj.isNone) with
  | false=>rw[hc] at h1;cases h1
  | true=>
   rw[hc] at h1
   simp only[ag1,ajC] at hc
   exact⟨x,h1,h2.Z6,⟨fun _=>⟨h2,hc⟩,fun h=>(by rw[hk] at h;cases h)⟩⟩
theorem BA (hX:cD X) {ops:List Oper} {M:St}:∀ {l:List Oper} {S:St} {k:St->Option β} {r:β},xM X ops M l S k=some r-> ∃ outs:List (Option Del),outs.length=l.length/\k (states l S outs)=some r/\∀ i o x,l[i]? =some o->outs[i]? =some x->Il X ops M o (states (l.take i) S (outs.take i)) x
 | [],S,k,r,h=>⟨[],rfl,h,fun i o x hi=>by simp⟩
 | o::l,S,k,r,h=>by
  have cons:∀ (x:Option Del),Il X ops M o S x->xM X ops M l (S.out o x) k=some r->
   ∃ outs:List (Option Del),outs.length=(o::l).length/\k (states (o::l) S outs)=some r/\∀ i o' x,(o::l)[i]? =some o'->outs[i]? =some x->Il X ops M o' (states ((o::l).take i) S (outs.take i)) x:=by
   intro x hx hr
   obtain⟨outs,h1,h2,h3⟩:=BA hX hr
   refine⟨x::outs,by simp[h1],h2,fun i o' y hi hy=> ?_⟩
   cases i with
   | zero=>
    simp only[ah6,Option.some.injEq] at hi hy
    subst hi;subst hy
    exact hx
   | succ i=>
    simp only[ah5] at hi hy
    exact h3 i o' y hi hy
  simp only[xM] at h
  split at h
  ·cases hs:rR ops o S with
   | false=>grind
   | true=>rw[hs] at h;exact cons none (.inr hs) h
  ·rename_i hg
   obtain⟨x,h1,h2⟩:=xG hX h
   exact cons (some x) ⟨h2,.inl hg⟩ h1
  ·rename_i d b want hg
   rcases Pm (ab3 (Ya hg)) h with ⟨hb,h⟩ | ⟨hb,h⟩
   ·obtain⟨x,h1,h2⟩:=xG hX h
    exact cons (some x) ⟨h2,.inr ⟨d,b,want,hg,hb⟩⟩ h1
   ·exact cons none (.inl ⟨d,b,want,hg,hb⟩) h
section
variable {S:St} {o:Oper} {x:Option Del} {d:Nat}
theorem RL (hd:o.dst=some d):(S.out o x).tmps=S.tmps.set d (Xe x):=by
 cases x<;>simp[St.out,St.app,St.put,hd,Xe]
theorem OO (hd:o.dst=some d) (k:Nat):look (S.out o x).boxes k=if k=d then (Da x).or (look S.boxes k) else look S.boxes k:=by
 cases x with
 | none=>simp[St.out,St.put,hd,Da]
 | some y=>
  simp only[St.out,St.app,hd,Da]
  cases y.box with
  | none=>simp
  | some c=>
   simp only[aD]
   grind
theorem RJ (hd:o.dst=some d) (k:Nat):look (S.out o x).rows k=if k=d then (Cm x).or (look S.rows k) else look S.rows k:=by
 cases x with
 | none=>simp[St.out,St.put,hd,Cm]
 | some y=>
  simp only[St.out,St.app,hd,Cm]
  cases y.row with
  | none=>simp
  | some c=>
   simp only[aD]
   grind
theorem RI (hd:o.dst=some d) (k:Nat):look (S.out o x).objs k=if k=d then (Ff x).or (look S.objs k) else look S.objs k:=by
 cases x with
 | none=>simp[St.out,St.put,hd,Ff]
 | some y=>
  simp only[St.out,St.app,hd,Ff]
  cases y.obj with
  | none=>simp
  | some c=>
   simp only[aD]
   grind
end
def iF (l:List Oper):List Nat:=l.filterMap (·.dst)
theorem Mj:∀ {l:List Oper} {S:St} {outs:List (Option Del)},(states l S outs).tmps.length=S.tmps.length
 | [],S,outs=>by rfl
 | o::l,S,[]=>rfl
 | o::l,S,x::xs=>by
  simp only[states]
  rw[Mj]
  cases x<;>cases hd:o.dst<;>simp[St.out,St.app,St.put,hd]
theorem fU:∀ {l:List Oper} {S:St} {outs:List (Option Del)} {t:Nat},t∉iF l->(states l S outs).tmps[t]? =S.tmps[t]? /\look (states l S outs).boxes t=look S.boxes t/\look (states l S outs).rows t=look S.rows t/\look (states l S outs).objs t=look S.objs t
 | [],S,outs,t,_=>by cases outs<;>exact⟨rfl,rfl,rfl,rfl⟩
 | o::l,S,[],t,_=>⟨rfl,rfl,rfl,rfl⟩
 | o::l,S,x::xs,t,h=>by
  simp only[states]
  cases hd:o.dst with
  | none=>
   have hl:t∉iF l:=by simpa [iF,hd] using h
   obtain⟨h1,h2,h3,h4⟩:=fU (S:=S.out o x) (outs:=xs) hl
   rw[h1,h2,h3,h4]
   cases x<;>simp[St.out,St.app,St.put,hd]
  | some d=>
   have hl:t≠d/\t∉iF l:=by simpa [iF,hd] using h
   obtain⟨h1,h2,h3,h4⟩:=fU (S:=S.out o x) (outs:=xs) hl.2
   rw[h1,h2,h3,h4,RL hd,OO hd,RJ hd,RI hd]
   grind
theorem HX:∀ (l:List Oper) (S:St) (outs:List (Option Del)) (i:Nat),outs.length=l.length->states l S outs=states (l.drop i) (states (l.take i) S (outs.take i)) (outs.drop i)
 | l,S,outs,0,_=>by rfl
 | [],S,outs,i+1,h=>by
  rfl
 | o::l,S,[],i+1,h=>by simp at h
 | o::l,S,x::xs,i+1,h=>by
  simp only[List.drop_succ_cons,ai1,states]
  exact HX l _ xs i (by grind)
theorem nZ {l:List Oper} {i:Nat} {o:Oper} {d:Nat} (h:dup (iF l)=false) (hi:l[i]? =some o) (hd:o.dst=some d):d∉iF (l.drop (i+1))/\d∉iF (l.take i):=by
 induction l generalizing i with
 | nil=>grind
 | cons p l ih=>
  cases i with
  | zero=>
   simp only[ah6,Option.some.injEq] at hi
   subst hi
   simp only[iF,List.filterMap_cons,hd] at h
   refine⟨?_,by simp[iF]⟩
   simpa [iF] using (Lp h).1
  | succ i=>
   simp only[ah5] at hi
   have hm:d∈iF l:=by
    simp only[iF,aiC];grind
   cases hp:p.dst with
   | none=>
    have h':dup (iF l)=false:=by simpa [iF,hp] using h
    obtain⟨h1,h2⟩:=ih h' hi
    exact⟨by grind,by simpa [iF,hp] using h2⟩
   | some dp=>
    have h':dup (dp::iF l)=false:=by simpa [iF,hp] using h
    obtain⟨h3,h4⟩:=Lp h'
    obtain⟨h1,h2⟩:=ih h4 hi
    refine⟨by grind, ?_⟩
    have hne:d≠dp:=fun e=>h3 (e ▸ hm)
    simp only[ai1,iF,List.filterMap_cons,hp,aiz,aj4]
    exact⟨hne,h2⟩
theorem zN {l:List Oper} {S:St} {outs:List (Option Del)} {i d:Nat} {o:Oper} {x:Option Del} (hl:outs.length=l.length) (hdup:dup (iF l)=false) (hi:l[i]? =some o) (hx:outs[i]? =some x) (hd:o.dst=some d): (d<S.tmps.length->(states l S outs).tmps[d]? =some (Xe x))/\look (states l S outs).boxes d=(Da x).or (look S.boxes d)/\look (states l S outs).rows d=(Cm x).or (look S.rows d)/\look (states l S outs).objs d=(Ff x).or (look S.objs d):=by
 obtain⟨h1,h2⟩:=nZ hdup hi hd
 have e:=HX l S outs i hl
 have hlt:=(aia.1 hi).1
 have hlt':=(aia.1 hx).1
 have e1:l.drop i=o::l.drop (i+1):=by rw[ahR hlt,(aia.1 hi).2]
 have e2:outs.drop i=x::outs.drop (i+1):=by rw[ahR hlt',(aia.1 hx).2]
 rw[e1,e2] at e
 simp only[states] at e
 rw[e]
 obtain⟨g1,g2,g3,g4⟩:=fU (S:=(states (l.take i) S (outs.take i)).out o x) (outs:=outs.drop (i+1)) h1
 obtain⟨f1,f2,f3,f4⟩:=fU (S:=S) (outs:=outs.take i) h2
 rw[g1,g2,g3,g4,RL hd,OO hd,RJ hd,RI hd,f2,f3,f4]
 grind
end Go.Dn
namespace Go.Dn
variable {β:Type} {X:Cx} {C:Fr X.P} {G:Gh} {ρ:Env} {w:World}
def aW (S Sn:St) (U:Nat->Bool):St:=
 { tmps:=(List.range S.tmps.length).map fun t=>if U t then S.tmps.getD t (.v false [.any]) else Sn.tmps.getD t (.v false [.any]),
   boxes:=Sn.boxes.filter fun p=> !U p.1,rows:=Sn.rows.filter fun p=> !U p.1,objs:=Sn.objs.filter fun p=> !U p.1 }
theorem bS {α:Type} (U:Nat->Bool):∀ (l:List (Nat×α)) (i:Nat),look (l.filter fun p=> !U p.1) i=if U i=true then none else look l i
 | [],i=>by simp[look]
 | (j,y)::r,i=>by
  have ih:=bS U r i
  cases hU:U j with
  | true=>
   have:(List.filter (fun p:Nat×α=> !U p.1) ((j,y)::r))=r.filter fun p=> !U p.1:=by simp[hU]
   rw[this,ih,aD]
   grind
  | false=>
   have:(List.filter (fun p:Nat×α=> !U p.1) ((j,y)::r))=(j,y)::r.filter fun p=> !U p.1:=by simp[hU]
   rw[this,aD,aD,ih]
   grind
theorem fR {S Sn:St} {U:Nat->Bool} {t:Nat}:(aW S Sn U).tmps[t]? =if t<S.tmps.length then some (if U t then S.tmps.getD t (.v false [.any]) else Sn.tmps.getD t (.v false [.any])) else none:=by
 simp only[aW,aib]
 grind
theorem Mod.equiv {A B:St} {a:Act} (h:Mod C G ρ A w a) (ht:A.tmps=B.tmps) (hb:∀ k cs,look B.boxes k=some cs->look A.boxes k=some cs) (hr:∀ k q,look B.rows k=some q->look A.rows k=some q) (ho:∀ k q,look B.objs k=some q->look A.objs k=some q):Mod C G ρ B w a:=
 { h.toMem.sub hb hr ho with tmps:=by have:=h.tmps;unfold jO at this ⊢;grind,defers:=h.defers }
theorem aeX {l:List Nat} {j:Nat}:inL l j=true↔j∈l:=by
 simp only[inL,ahK]
 simp
theorem EH {s:Msk} {j:Nat}:inM s j=s.m.testBit j:=by
 unfold inM Nat.testBit
 rw[show Nat.land (Nat.shiftRight s.m j) 1=(1 &&& (s.m >>> j)) from Nat.and_comm _ _]
 have:(1 &&& (s.m >>> j))=(s.m >>> j) % 2:=by simp
 rw[this]
 rcases Nat.mod_two_eq_zero_or_one (s.m >>> j) with h | h<;>rw[h]<;>rfl
theorem Lm {acc:List Msk}:∀ {es:List Edge} {j:Nat},j∈sP acc es->∃ e,e∈es/\Region.binds .any e=true/\(j=e.on\/j∈acc.getD e.on m0)
 | [],j,h=>by
  change inM m0 j=true at h
  rw[EH] at h
  simp[m0] at h
 | e::r,j,h=>by
  simp only[sP] at h
  cases hb:Region.binds .any e with
  | false=>
   rw[hb] at h
   obtain⟨e',h1,h2⟩:=Lm h
   grind
  | true=>
   rw[hb] at h
   simp only[ajO] at h
   change inM _ j=true at h
   rw[EH] at h
   change (((1 <<< e.on) ||| (acc.getD e.on m0).m) ||| (sP acc r).m).testBit j=true at h
   rw[Nat.testBit_or,Nat.testBit_or,ahf,ahf] at h
   rcases h with (h | h) | h
   ·refine⟨e,by simp,hb,.inl ?_⟩
    rw[Nat.one_shiftLeft,Nat.testBit_two_pow] at h
    grind
   ·exact⟨e,by simp,hb,.inr (by change inM _ j=true;rw[EH];exact h)⟩
   ·have h':j∈sP acc r:=by change inM _ j=true;rw[EH];exact h
    obtain⟨e',h1,h2⟩:=Lm h'
    grind
theorem SM:∀ (l:List Oper) (acc:List Msk),(xd l acc).take acc.length=acc/\(xd l acc).length=acc.length+l.length/\ ∀ i o,l[i]? =some o->(xd l acc).getD (acc.length+i) m0=sP ((xd l acc).take (acc.length+i)) o.after.toList
 | [],acc=>⟨by simp[xd],by simp[xd],fun i o h=>by simp at h⟩
 | p::l,acc=>by
  obtain⟨h1,h2,h3⟩:=SM l (acc++[sP acc p.after.toList])
  simp only[aim,ain,aip,ajx] at h1 h2 h3
  simp only[xd]
  have hacc:(xd l (acc++[sP acc p.after.toList])).take acc.length=acc:=by
   have:=congrArg (List.take acc.length) h1
   grind
  refine⟨hacc,by grind,fun i o hi=> ?_⟩
  cases i with
  | zero=>
   simp only[ah6,Option.some.injEq] at hi
   subst hi
   rw[ai5,hacc]
   have:(xd l (acc++[sP acc p.after.toList]))[acc.length]? =some (sP acc p.after.toList):=by
    have h4:((xd l (acc++[sP acc p.after.toList])).take (acc.length+1))[acc.length]? =some (sP acc p.after.toList):=by grind
    grind
   grind
  | succ i=>
   grind
theorem XS {ops:List Oper} {i:Nat} {o:Oper} (hi:ops[i]? =some o) {j:Nat} (h:j∈(deps ops).getD i m0) (hE:oE ops=true): ∃ e,e∈o.after.toList/\Region.binds .any e=true/\e.on<i/\(j=e.on\/j∈(deps ops).getD e.on m0):=by
 obtain⟨_,_,h3⟩:=SM ops []
 have:=h3 i o hi
 simp only[aip,ajx] at this
 rw[deps,this] at h
 obtain⟨e,h4,h5,h6⟩:=Lm h
 have hlt:e.on<i:=by
  simp only[oE,ahH] at hE
  have h7:=hE i (by grind)
  rw[hi] at h7
  simp only[ahH] at h7
  have h8:=h7 e h4
  simp_all
 refine⟨e,h4,h5,hlt, ?_⟩
 rcases h6 with h6 | h6
 ·omega
 ·right
  rw[ah1,aii] at h6
  rw[ajZ hlt] at h6
  rw[deps,ah1];exact h6
def yP (ops:List Oper) (listed:Array Bool):Prop:=∀ i o,ops[i]? =some o->listed.getD i true=true->∀ e,e∈o.after.toList->Region.binds .any e=true->listed.getD e.on false=true
theorem fC {ops:List Oper} {listed:Array Bool} (hE:oE ops=true) (hc:yP ops listed):∀ (i:Nat) (o:Oper),ops[i]? =some o->(∀ e,e∈o.after.toList->Region.binds .any e=true->listed.getD e.on false=true)-> ∀ j,j∈(deps ops).getD i m0->listed.getD j true=true:=by
 intro i
 induction i using Nat.strongRecOn with
 | _ i ih=>
  intro o hi he j hj
  have hT:∀ m,listed.getD m false=true->listed.getD m true=true:=fun m hm=>by
   grind
  obtain⟨e,h1,h2,h3,h4⟩:=XS hi hj hE
  have h5:=he e h1 h2
  rcases h4 with rfl | h4
  ·grind
  ·have hlt:e.on<ops.length:=Nat.lt_trans h3 (aia.1 hi).1
   have h6:ops[e.on]? =some ops[e.on]:=ah8 hlt
   exact ih e.on h3 _ h6 (fun e' h7 h8=>hc e.on _ h6 (hT _ h5) e' h7 h8) j h4
theorem sw {s:Msk} {j:Nat}:inM s j=true↔j∈s:=Iff.rfl
theorem SO {t:Nat} {m:Msk}:∀ {l:List (Option Nat)} {j k:Nat},SN t m l j=true->l[k]? =some (some t)->j+k∈m
 | [],_,_,_,h=>by simp at h
 | d::r,j,k,h,hk=>by
  simp only[SN,ag1] at h
  cases k with
  | zero=>
   simp only[ah6,Option.some.injEq] at hk
   subst hk
   have:=h.1
   simp only[Nat.beq_refl,ahd,ag8] at this
   omega
  | succ k=>
   have:=SO h.2 (k:=k) (by grind)
   grind
theorem ab8 {d:Nat} {c:CV}:c.ez d=inL (aaR c) d:=by
 have hc:∀ k:Nat,Nat.beq k d=Nat.beq d k:=fun k=>by
  rw[ag5]
  exact⟨fun h=>by simp_all,fun h=>by rw[ai8 h];simp⟩
 cases c<;>simp[CV.ez,CV.cN,CV.bG,CV.bV,CV.bN,aaR,inL,hc]
theorem sS {a b:List Nat} {d:Nat}:inL (a++b) d=(inL a d||inL b d):=by simp[inL]
theorem Yc {a:Nat} {b:List Nat} {d:Nat}:inL (a::b) d=(Nat.beq d a||inL b d):=by simp[inL]
theorem C7 {d:Nat}:∀ {cs:List CV},cs.any (CV.ez d)=inL (Hz cs) d
 | []=>rfl
 | c::r=>by rw[Hz,sS, <- C7, <- ab8];rfl
theorem VT {d:Nat}:∀ {l:List (Bool×List CV)},(l.any fun p=>p.2.any (CV.ez d))=inL (Xc l) d
 | []=>rfl
 | c::r=>by rw[Xc,sS, <- VT, <- C7];rfl
theorem VS {d:Nat}:∀ {s:SV},s.ez d=inL (aaS s) d
 | .v _ _=>C7
 | .tup _=>VT
theorem Tf {d:Nat}:∀ {l:List SV},l.any (SV.ez d)=inL (Te l) d
 | []=>rfl
 | c::r=>by rw[Te,sS, <- Tf, <- VS];rfl
theorem VR {d:Nat}:∀ {l:List (Nat×List CV)},inL (Xb l) d=false->(l.any fun p=>p.2.any (CV.ez d))=false/\look l d=none
 | [],_=>⟨rfl,rfl⟩
 | (k,cs)::r,h=>by
  rw[Xb,Yc,sS,ahe,ahe] at h
  obtain⟨h1,h2⟩:=VR h.2.2
  refine⟨by rw[List.any_cons,h1,C7,h.2.1];rfl, ?_⟩
  have hk:Nat.beq k d=false:=by
   cases hb:Nat.beq k d with
   | false=>rfl
   | true=>simp_all
  rw[look,hk];exact h2
theorem Ot {α:Type} {d:Nat}:∀ {l:List (Nat×α)},inL (Tl l) d=false->look l d=none
 | [],_=>rfl
 | (k,cs)::r,h=>by
  rw[Tl,Yc,ahe] at h
  have hk:Nat.beq k d=false:=by
   cases hb:Nat.beq k d with
   | false=>rfl
   | true=>simp_all
  rw[look,hk];exact Ot h.2
theorem ZT {S:St} {d:Nat} (h:inL S.ids d=false):S.ez d=false/\look S.boxes d=none/\look S.rows d=none/\look S.objs d=none:=by
 rw[St.ids,sS,sS,sS] at h
 simp only[ahe] at h
 obtain⟨h1,h2,h3,h4⟩:=h
 obtain⟨h5,h6⟩:=VR h2
 exact⟨by rw[St.ez,Tf,h1,h5];rfl,h6,Ot h3,Ot h4⟩
theorem aee {Sn:St} {d dj:Nat}:Vk Sn d dj=inL (Xa Sn dj) d:=by
 rw[Vk,Xa,sS, <- VS]
 cases look Sn.boxes dj with
 | none=>rfl
 | some cs=>simp only;rw[C7]
def aH (ops:List Oper) (n:Nat) (listed:Array Bool) (t:Nat):Bool:=(List.range n).any fun i=> !listed.getD i true&&(cA ops i==some t)
theorem eS {ops:List Oper} {n t:Nat} {listed:Array Bool}:aH ops n listed t=true↔∃ i,i<n/\listed.getD i true=false/\cA ops i=some t:=by
 simp only[aH,ahK,aiI,ag1,ahb,ajL]
section
variable {ops:List Oper} {n:Nat} {S Sn:St} {listed:Array Bool} {outs:List (Option Del)}
structure dh (X:Cx) (ops:List Oper) (n:Nat) (S:St) (outs:List (Option Del)) (Sn:St):Prop where
 n_le:n<=ops.length
 dupl:dup (iF (ops.take n))=false
 head:∀ i o,i<n->ops[i]? =some o->o.dst.isSome=true/\∀ t,t∈o.looksAt ops.toArray->∀ j,j<n->cA ops j=some t->j∈(deps ops).getD i m0
 edges:oE ops=true
 len:outs.length=n
 sn:Sn=states (ops.take n) S outs
 step:∀ i o x,i<n->ops[i]? =some o->outs[i]? =some x->Il X ops S o (states ((ops.take n).take i) S (outs.take i)) x
 new:∀ i d,i<n->cA ops i=some d->S.ez d=false/\look S.boxes d=none/\look S.rows d=none/\look S.objs d=none/\
  ∀ j dj,j<n->cA ops j=some dj->i≠j->i∉(deps ops).getD j m0->Vk Sn d dj=false
theorem dx {l:List Oper} {n i:Nat} (h:i<n):(l.take n)[i]? =l[i]? :=aij h
theorem mu {i d:Nat} (h:cA ops i=some d):∃ o,ops[i]? =some o/\o.dst=some d:=by
 unfold cA at h
 grind
theorem UF (hE:oE ops=true):∀ (i:Nat) (o:Oper),ops[i]? =some o->∀ j,j∈(deps ops).getD i m0->j<i:=by
 intro i
 induction i using Nat.strongRecOn with
 | _ i ih=>
  intro o hi j hj
  obtain⟨e,h1,h2,h3,h4⟩:=XS hi hj hE
  grind
theorem Bw {i j d:Nat} {o:Oper} (hj:ops[j]? =some o) (hd:o.dst=some d) (hji:j<i):d∈iF (ops.take i):=by
 simp only[iF,aiC]
 exact⟨o,aiF (by rw[dx hji];exact hj),hd⟩
theorem dh.uniq (K:dh X ops n S outs Sn) {i j d:Nat} (hi:i<n) (hj:j<n) (hdi:cA ops i=some d) (hdj:cA ops j=some d):i=j:=by
 obtain⟨oi,h1,h2⟩:=mu hdi
 obtain⟨oj,h3,h4⟩:=mu hdj
 rcases ajm i j with h | h | h
 ·have:=(nZ K.dupl (i:=j) (o:=oj) (d:=d) (by grind) h4).2
  exact absurd (Bw (ops:=ops.take n) (i:=j) (j:=i) (by grind) h2 h) this
 ·exact h
 ·have:=(nZ K.dupl (i:=i) (o:=oi) (d:=d) (by grind) h2).2
  exact absurd (Bw (ops:=ops.take n) (i:=i) (j:=j) (by grind) h4 h) this
theorem dh.split (K:dh X ops n S outs Sn) (i:Nat):Sn=states ((ops.take n).drop i) (states ((ops.take n).take i) S (outs.take i)) (outs.drop i):=by
 rw[K.sn]
 exact HX _ _ _ i (by rw[K.len,ais,ajn K.n_le])
theorem dh.Bc (K:dh X ops n S outs Sn):Sn.tmps.length=S.tmps.length:=by rw[K.sn,Mj]
theorem Km {l m:List SV} {t:Nat} (h:l[t]? =m[t]?):l.getD t (.v false [.any])=m.getD t (.v false [.any]):=by
 grind
theorem dh.looks (K:dh X ops n S outs Sn) {i:Nat} {o:Oper} (hin:i<n) (hi:ops[i]? =some o) (hcl:∀ j,j∈(deps ops).getD i m0->listed.getD j true=true):∀ t,t∈o.looksAt ops.toArray-> (aW S Sn (aH ops n listed)).tmps.getD t (.v false [.any])=(states ((ops.take n).take i) S (outs.take i)).tmps.getD t (.v false [.any]):=by
 intro t ht
 have hund:aH ops n listed t=false:=by
  cases hu:aH ops n listed t with
  | false=>rfl
  | true=>
   obtain⟨j,h1,h2,h3⟩:=eS.1 hu
   have:=hcl j ((K.head i o hin hi).2 t ht j h1 h3)
   grind
 have key:Sn.tmps[t]? =(states ((ops.take n).take i) S (outs.take i)).tmps[t]? :=by
  by_cases hex:∃ j,j<n/\cA ops j=some t
  ·obtain⟨j,h1,h2⟩:=hex
   have hji:=UF K.edges i o hi j ((K.head i o hin hi).2 t ht j h1 h2)
   have hnd:t∉iF ((ops.take n).drop i):=by
    intro hm
    simp only[iF,aiC] at hm
    obtain⟨p,hp,hpd⟩:=hm
    obtain⟨m,hm⟩:=aiD.1 hp
    rw[ah7] at hm
    have hmn:i+m<n:=by
     grind
    rw[dx hmn] at hm
    have:=K.uniq h1 hmn h2 (by unfold cA;grind)
    omega
   rw[K.split i]
   exact (fU hnd).1
  ·have hnd:t∉iF (ops.take n):=by
    intro hm
    simp only[iF,aiC] at hm
    obtain⟨p,hp,hpd⟩:=hm
    obtain⟨m,hm⟩:=aiD.1 hp
    have hmn:m<n:=by
     grind
    rw[dx hmn] at hm
    exact hex ⟨m,hmn,by unfold cA;grind⟩
   have hnd':t∉iF ((ops.take n).take i):=fun hm=>hnd (by
    simp only[iF,aiC] at hm ⊢
    grind)
   rw[K.sn,(fU hnd).1,(fU hnd').1]
 rw[<- Km key,ah1,fR]
 by_cases hlt:t<S.tmps.length
 ·grind
 ·rw[ajY hlt]
  have:Sn.tmps[t]? =none:=ah9 (by rw[K.Bc];grind)
  grind
theorem dh.evs (K:dh X ops n S outs Sn) {i:Nat} {o:Oper} (hin:i<n) (hi:ops[i]? =some o) (hcl:∀ j,j∈(deps ops).getD i m0->listed.getD j true=true):∀ x,x∈o.op.operands->(aW S Sn (aH ops n listed)).ev x=(states ((ops.take n).take i) S (outs.take i)).ev x:=by
 intro x hx
 cases x with
 | tmp t=>
  refine K.looks hin hi hcl t ?_
  simp only[Oper.looksAt,aiy,aiC]
  exact .inl ⟨.tmp t,by grind,rfl⟩
 | const v=>rfl
 | global g=>rfl
 | func f=>rfl
theorem dh.guards (K:dh X ops n S outs Sn) {i:Nat} {o:Oper} (hin:i<n) (hi:ops[i]? =some o) (hcl:∀ j,j∈(deps ops).getD i m0->listed.getD j true=true):guardOf ops o (aW S Sn (aH ops n listed))=guardOf ops o (states ((ops.take n).take i) S (outs.take i)):=by
 unfold guardOf
 cases hg:o.guard with
 | none=>rfl
 | some p=>
  obtain⟨j,want⟩:=p
  simp only
  cases ho':ops[j]? with
  | none=>rfl
  | some o'=>
   simp only
   cases hd:o'.dst with
   | none=>rfl
   | some d=>
    simp only
    have:(aW S Sn (aH ops n listed)).ev (.tmp d)=(states ((ops.take n).take i) S (outs.take i)).ev (.tmp d):=by
     refine K.looks hin hi hcl d ?_
     simp only[Oper.looksAt,hg,aiy]
     grind
    rw[this]
theorem dh.afr (K:dh X ops n S outs Sn) {i:Nat} {o:Oper} (hin:i<n) (hi:ops[i]? =some o) (hcl:∀ j,j∈(deps ops).getD i m0->listed.getD j true=true):rR ops o (aW S Sn (aH ops n listed))=rR ops o (states ((ops.take n).take i) S (outs.take i)):=by
 unfold rR
 cases hg:o.guard with
 | none=>rfl
 | some p=>
  obtain⟨j,want⟩:=p
  simp only
  cases ho':ops[j]? with
  | none=>rfl
  | some o'=>
   simp only
   cases hd:o'.dst with
   | none=>rfl
   | some d=>
    simp only
    have:(aW S Sn (aH ops n listed)).ev (.tmp d)=(states ((ops.take n).take i) S (outs.take i)).ev (.tmp d):=by
     refine K.looks hin hi hcl d ?_
     simp only[Oper.looksAt,hg,aiy]
     grind
    rw[this]
end
end Go.Dn
namespace Go.Dn
variable {β:Type} {X:Cx} {C:Fr X.P} {G:Gh} {ρ:Env} {w:World}
theorem CU {p q:Nat->Bool} {i:Nat}:∀ {l:List Nat},l.Nodup->i∈l->p i=true->(∀ j,q j=(p j&&j != i))->l.countP p=l.countP q+1
 | [],_,hi,_,_=>by grind
 | j::l,hn,hi,hp,hq=>by
  rw[aiM] at hn
  by_cases e:j=i
  ·subst e
   have h1:q j=false:=by grind
   have h2:l.countP p=l.countP q:=by
    refine List.countP_congr fun m hm=> ?_
    grind
   grind
  ·have hi':i∈l:=by
    grind
   have h1:q j=p j:=by grind
   rw[List.countP_cons,List.countP_cons,h1,CU hn.2 hi' hp hq]
   omega
theorem HW:∀ {l:List Oper} {S:St} {outs:List (Option Del)} {p:Nat×List CV},p∈(states l S outs).boxes->p∈S.boxes\/∃ (j:Nat) (o:Oper) (x:Option Del) (d:Nat) (c:List CV),l[j]? =some o/\outs[j]? =some x/\o.dst=some d/\Da x=some c/\p=(d,c)
 | [],S,outs,p,h=>by cases outs<;>exact .inl h
 | o::l,S,[],p,h=> .inl h
 | o::l,S,x::xs,p,h=>by
  simp only[states] at h
  rcases HW h with h1 | ⟨j,o',x',d,c,h1,h2,h3⟩
  ·cases x with
   | none=>left;simpa [St.out] using h1
   | some y=>
    cases hd:o.dst with
    | none=>left;simpa [St.out,St.app,hd] using h1
    | some d=>
     cases hb:y.box with
     | none=>left;simpa [St.out,St.app,hd,hb] using h1
     | some c=>
      have h2:p=(d,c)\/p∈S.boxes:=by simpa [St.out,St.app,hd,hb] using h1
      rcases h2 with h2 | h2
      ·exact .inr ⟨0,o,some y,d,c,rfl,rfl,hd,hb,h2⟩
      grind
  ·exact .inr ⟨j+1,o',x',d,c,by grind,by grind,h3⟩
section
variable {ops:List Oper} {n:Nat} {S Sn:St} {listed:Array Bool} {outs:List (Option Del)}
theorem cW {i:Nat} {b:Bool} (h:i<listed.size):(listed.setIfInBounds i true).getD i b=true:=by
 simp_all
theorem bA {i j:Nat} {b:Bool} (h:j≠i):(listed.setIfInBounds i true).getD j b=listed.getD j b:=by
 rw[agO,agO,agT (by omega)]
theorem dh.GA (K:dh X ops n S outs Sn) {i d:Nat} (hin:i<n) (hd:cA ops i=some d) (hsz:listed.size=ops.length) (hun:listed.getD i true=false) (t:Nat): aH ops n (listed.setIfInBounds i true) t=(aH ops n listed t&&t != d):=by
 have his:i<listed.size:=by grind
 rw[ag5,eS,ag1,eS]
 constructor
 ·rintro⟨j,h1,h2,h3⟩
  have hji:j≠i:=fun e=>by simp_all
  rw[bA hji] at h2
  refine⟨⟨j,h1,h2,h3⟩, ?_⟩
  simp only[bne_iff_ne,ne_eq]
  intro e
  subst e
  exact hji (K.uniq h1 hin h3 hd)
 ·rintro⟨⟨j,h1,h2,h3⟩,h4⟩
  have hji:j≠i:=fun e=>by
   grind
  exact⟨j,h1,by rw[bA hji];exact h2,h3⟩
theorem Hv {S:St} {d:Nat} (h:S.ez d=false):S.cN d=false/\S.bG d=false/\S.bV d=false/\S.bN d=false:=by
 have cv:∀ c:CV,c.ez d=false->c.cN d=false/\c.bG d=false/\c.bV d=false/\c.bN d=false:=fun c hc=>by
  simpa [CV.ez] using hc
 have cs:∀ l:List CV,l.any (CV.ez d)=false->l.any (CV.cN d)=false/\l.any (CV.bG d)=false/\l.any (CV.bV d)=false/\l.any (CV.bN d)=false:=fun l hl=>by
  grind
 have sv:∀ s:SV,s.ez d=false->s.cN d=false/\s.bG d=false/\s.bV d=false/\s.bN d=false:=fun s hs=>by
  cases s with
  | v a l=>exact cs l hs
  | tup l=>
   simp only[SV.ez,ahJ] at hs
   simp only[SV.cN,SV.bG,SV.bV,SV.bN,ahJ]
   grind
 simp only[St.ez,ahe,ahJ] at h
 have h1:∀ s,s∈S.tmps->s.ez d=false:=fun s hs=>by grind
 have h2:∀ p,p∈S.boxes->p.2.any (CV.ez d)=false:=fun p hp=>by grind
 simp only[St.cN,St.bG,St.bV,St.bN,ahe,ahJ]
 grind
theorem dh.fresh (K:dh X ops n S outs Sn) (hcl:yP ops listed) {i d:Nat} (hin:i<n) (hd:cA ops i=some d) (hun:listed.getD i true=false): (aW S Sn (aH ops n listed)).ez d=false:=by
 obtain⟨n1,n3,n4,n4',n5⟩:=K.new i d hin hd
 have done:∀ j dj,j<n->cA ops j=some dj->aH ops n listed dj=false->Vk Sn d dj=false:=fun j dj hj hdj hu=>by
  have hlj:listed.getD j true=true:=by
   cases h:listed.getD j true with
   | true=>rfl
   | false=>have:=eS.2 ⟨j,hj,h,hdj⟩;grind
  refine n5 j dj hj hdj (fun e=>by grind) (fun hm=> ?_)
  obtain⟨oj,ho,_⟩:=mu hdj
  have:=fC K.edges hcl j oj ho (fun e h1 h2=>hcl j oj ho hlj e h1 h2) i hm
  grind
 simp only[St.ez,ahe,ahJ] at n1
 have tmpS:∀ t,(S.tmps.getD t (.v false [.any])).ez d=false:=fun t=>by
  rw[ah1]
  cases h:S.tmps[t]? with
  | none=>rfl
  | some s=>grind
 have tmpsOk:∀ s,s∈(aW S Sn (aH ops n listed)).tmps->s.ez d=false:=fun s hs=>by
  simp only[aW,aiE,aiI] at hs
  obtain⟨t,ht,rfl⟩:=hs
  cases hu:aH ops n listed t with
  | true=>grind
  | false=>
   simp only[ag6,ajX]
   by_cases hex:∃ j,j<n/\cA ops j=some t
   ·obtain⟨j,h1,h2⟩:=hex
    have:=done j t h1 h2 hu
    simp only[Vk,ahe] at this
    grind
   ·have hnd:t∉iF (ops.take n):=by
     intro hm
     simp only[iF,aiC] at hm
     obtain⟨p,hp,hpd⟩:=hm
     obtain⟨m,hm⟩:=aiD.1 hp
     have hmn:m<n:=by
      grind
     rw[dx hmn] at hm
     exact hex ⟨m,hmn,by unfold cA;grind⟩
    have:Sn.tmps[t]? =S.tmps[t]? :=by rw[K.sn];exact (fU hnd).1
    grind
 have boxesOk:∀ p,p∈(aW S Sn (aH ops n listed)).boxes->p.2.any (CV.ez d)=false:=fun p hp=>by
  simp only[aW,List.mem_filter,ahb] at hp
  obtain⟨hp,hu⟩:=hp
  rw[K.sn] at hp
  rcases HW hp with h | ⟨j,o',x',dj,cj,h1,h2,h3,h4,h5⟩
  ·grind
  ·subst h5
   have hjn:j<n:=by
    grind
   have hdj:cA ops j=some dj:=by unfold cA;grind
   have:=done j dj hjn hdj hu
   have hlook:look Sn.boxes dj=some cj:=by
    rw[K.sn,(zN (by rw[K.len,ais,ajn K.n_le]) K.dupl h1 h2 h3).2.1,h4];rfl
   simp only[Vk,hlook,ahe] at this
   grind
 simp only[St.ez,ahe,ahJ]
 grind
theorem dh.next (K:dh X ops n S outs Sn) {i d:Nat} {o:Oper} {x:Option Del} (hin:i<n) (hi:ops[i]? =some o) (hd:o.dst=some d) (hx:outs[i]? =some x) (hsz:listed.size=ops.length) (hun:listed.getD i true=false) {a:Act} (hM:Mod C G ρ ((aW S Sn (aH ops n listed)).out o x) w a):Mod C G ρ (aW S Sn (aH ops n (listed.setIfInBounds i true))) w a:=by
 have hdA:cA ops i=some d:=by unfold cA;grind
 have hU:=K.GA hin hdA hsz hun
 obtain⟨n1,n3,n4,n4',_⟩:=K.new i d hin hdA
 have hat:=zN (S:=S) (outs:=outs) (by rw[K.len,ais,ajn K.n_le]) K.dupl (i:=i) (o:=o) (x:=x) (by grind) hx hd
 rw[<- K.sn] at hat
 refine hM.equiv ?_ ?_ ?_ ?_
 ·rw[RL hd]
  apply ahW
  intro t
  rw[aie,fR,fR,hU t]
  by_cases e:d=t
  ·subst e
   have hlen:(aW S Sn (aH ops n listed)).tmps.length=S.tmps.length:=by simp[aW]
   grind
  grind
 ·intro k cs hk
  simp only[aW,bS,hU k] at hk
  rw[OO hd]
  split at hk
  ·cases hk
  ·rename_i hc
   by_cases e:k=d
   ·grind
   ·rw[ajY e]
    simp only[aW,bS]
    grind
 ·intro k q hk
  simp only[aW,bS,hU k] at hk
  rw[RJ hd]
  split at hk
  ·cases hk
  ·rename_i hc
   by_cases e:k=d
   ·grind
   ·rw[ajY e]
    simp only[aW,bS]
    grind
 ·intro k q hk
  simp only[aW,bS,hU k] at hk
  rw[RI hd]
  split at hk
  ·cases hk
  ·rename_i hc
   by_cases e:k=d
   ·grind
   ·rw[ajY e]
    simp only[aW,bS]
    grind
theorem dh.wpOp (K:dh X ops n S outs Sn) {Q:Exit->Act->World->Prop} {K':Act->World->Prop} {a:Act} {i:Nat} {o:Oper} (hin:i<n) (hi:ops[i]? =some o) (hsz:listed.size=ops.length) (hcl:yP ops listed) (hun:listed.getD i true=false) (hed:∀ e,e∈o.after.toList->Region.binds .any e=true->listed.getD e.on false=true) (hM:Mod C G ρ (aW S Sn (aH ops n listed)) w a) (hK:∀ G' ρ' w' a',Mod C G' ρ' (aW S Sn (aH ops n (listed.setIfInBounds i true))) w' a'->K' a' w'):Go.wpOp X.P ops.toArray Q i K' a w:=by
 obtain⟨hds,hlk⟩:=K.head i o hin hi
 obtain⟨d,hd⟩:=ajE.1 hds
 have hdA:cA ops i=some d:=by unfold cA;grind
 have hdeps:=fC K.edges hcl i o hi hed
 obtain⟨x,hx⟩:∃ x,outs[i]? =some x:=⟨outs[i]'(by rw[K.len];exact hin),ah8 _⟩
 have hst:=K.step i o x hin hi hx
 have hgd:=K.guards hin hi hdeps
 have hev:=K.evs hin hi hdeps
 unfold Go.wpOp
 have hio:ops.toArray[i]? =some o:=by grind
 rw[hio]
 simp only
 cases x with
 | none=>
  have hw:Region.wanted o (yielded ops.toArray a.tmps)=false:=by
   rcases hst with ⟨dg,b,want,hg,hb⟩ | hs
   ·have hw:=lu hM.tmps (by rw[hgd];exact hg)
    grind
   ·exact Mi hM.tmps (by rw[K.afr hin hi hdeps];exact hs)
  rw[ajY (by grind)]
  exact hK G ρ w _ (K.next hin hi hd hx hsz hun (hM.put o.dst (fun _ _=>T6)))
 | some y=>
  obtain⟨⟨hL,_⟩,hg⟩:=hst
  have hwt:Region.wanted o (yielded ops.toArray a.tmps)=true:=by
   rcases hg with hg | ⟨dg,b,want,hg,hb⟩
   ·exact lu hM.tmps (g:=none) (by grind)
   ·have hw:=lu hM.tmps (by rw[hgd];exact hg)
    grind
  rw[ajZ hwt]
  left
  have hfr:=Hv (K.fresh hcl hin hdA hun)
  have hnear:Nf o (states ((ops.take n).take i) S (outs.take i)) S (aW S Sn (aH ops n listed)):=by
   have nolook:∀ k,(look S.boxes k).isSome=true\/(look S.rows k).isSome=true\/(look S.objs k).isSome=true->aH ops n listed k=false/\look Sn.boxes k=look S.boxes k/\look Sn.rows k=look S.rows k/\look Sn.objs k=look S.objs k:=fun k hk=>by
    have hnd:∀ j,j<n->cA ops j≠some k:=fun j hj hdj=>by
     obtain⟨_,m3,m4,m5,_⟩:=K.new j k hj hdj
     grind
    refine⟨?_, ?_⟩
    ·cases hu:aH ops n listed k with
     | false=>rfl
     | true=>obtain⟨j,h1,_,h3⟩:=eS.1 hu;grind
    ·have:k∉iF (ops.take n):=fun hm=>by
      simp only[iF,aiC] at hm
      obtain⟨p,hp,hpd⟩:=hm
      obtain⟨m,hm⟩:=aiD.1 hp
      have hmn:m<n:=by
       grind
      rw[dx hmn] at hm
      exact hnd m hmn (by unfold cA;grind)
     rw[K.sn]
     exact (fU this).2
   refine⟨hev,fun k cs hk=> ?_,fun k q hk=> ?_,fun k q hk=> ?_⟩
   ·obtain⟨h1,h2,_⟩:=nolook k (.inl (by rw[hk];rfl))
    simp only[aW,bS,h1,ag6,ajX];rw[h2];exact hk
   ·obtain⟨h1,_,h2,_⟩:=nolook k (.inr (.inl (by rw[hk];rfl)))
    simp only[aW,bS,h1,ag6,ajX];rw[h2];exact hk
   ·obtain⟨h1,_,_,h2⟩:=nolook k (.inr (.inr (by rw[hk];rfl)))
    simp only[aW,bS,h1,ag6,ajX];rw[h2];exact hk
  have hwp:=hL C G ρ _ w a Q hM hnear (fun d' hd' _=>by rw[hd] at hd';cases hd';exact hfr.1) (fun d' hd' _=>by rw[hd] at hd';cases hd';exact hfr.2.1) (fun d' hd' _=>by rw[hd] at hd';cases hd';exact hfr.2.2)
  refine Oper.wp_mono (fun a' w' h=> ?_) hwp
  obtain⟨G',ρ',hM'⟩:=h
  exact hK G' ρ' w' a' (K.next hin hi hd hx hsz hun hM')
theorem Px {N:Nat} (hsz:listed.size=N) (hn:n<=N) (h1:∀ i,i<n->listed.getD i true=true) (h2:∀ i,n<=i->i<N->listed.getD i true=false):listed=mask n N:=by
 apply Array.ext_getElem?
 intro i
 simp only[mask,aik]
 by_cases c1:i<n
 ·rw[ah3 (by grind),List.getElem?_replicate_of_lt c1]
  have:=h1 i c1
  rw[agO,agP (by omega)] at this
  grind
 ·by_cases c2:i<N
  all_goals simp_all
theorem dh.any (K:dh X ops n S outs Sn) (hwaits:∀ k,n<=k->k<ops.length->∀ j,j<k->j∈(deps ops).getD k m0) {Q:Exit->Act->World->Prop} (hseq:Region.seqB .any ops.toArray (ops.length - n) n (mask n ops.length)=true) (htail:∀ G ρ w a,Mod C G ρ Sn w a->wpList X.P ops.toArray Q (ops.drop n) a w):∀ (u:Nat) (listed:Array Bool) (a:Act) (w:World) (G:Gh) (ρ:Env),listed.size=ops.length->yP ops listed-> (∀ k,n<=k->k<ops.length->listed.getD k true=false)->(List.range n).countP (fun i=> !listed.getD i true)=u->Mod C G ρ (aW S Sn (aH ops n listed)) w a->wpAny X.P .any ops.toArray Q (u+(ops.length - n)) listed a w:=by
 intro u
 induction u with
 | zero=>
  intro listed a w G ρ hsz hcl htl hcnt hM
  have hall:∀ i,i<n->listed.getD i true=true:=fun i hi=>by
   simp_all
  have hU:∀ t,aH ops n listed t=false:=fun t=>by
   cases hu:aH ops n listed t with
   | false=>rfl
   | true=>obtain⟨j,h1,h2,_⟩:=eS.1 hu;grind
  have hMn:Mod C G ρ Sn w a:=by
   refine hM.equiv ?_ (fun k cs hk=> ?_) (fun k q hk=> ?_) (fun k q hk=> ?_)
   ·apply ahW
    intro t
    rw[fR,hU t]
    by_cases hlt:t<S.tmps.length
    ·have:t<Sn.tmps.length:=by rw[K.Bc];exact hlt
     grind
    ·rw[ajY hlt,ah9 (by rw[K.Bc];omega)]
   ·simp only[aW,bS,hU k,ag6,ajX];exact hk
   ·simp only[aW,bS,hU k,ag6,ajX];exact hk
   ·simp only[aW,bS,hU k,ag6,ajX];exact hk
  have hmask:=Px (n:=n) hsz K.n_le hall htl
  have hl:(ops.drop n).length=ops.length - n:=by simp
  have:=wpAny_of_seq (P:=X.P) (md:= .any) (ops:=ops.toArray) (Q':=Q) (ops.drop n) n listed a w (fun j=>by simp[ah7]) (by grind) (htail G ρ w a hMn)
  grind
 | succ u ih=>
  intro listed a w G ρ hsz hcl htl hcnt hM
  have hsome:∃ i,i<n/\listed.getD i true=false:=by
   have:0<(List.range n).countP (fun i=> !listed.getD i true):=by omega
   rw[ahP] at this
   grind
  rw[show u+1+(ops.length - n)=(u+(ops.length - n))+1 by omega]
  refine⟨fun hr=> ?_,fun i hi=> ?_⟩
  ·exfalso
   have hall:∀ i,i<n->listed.getD i true=true:=by
    intro i
    induction i using Nat.strongRecOn with
    | _ i ihi=>
     intro hin
     cases hl:listed.getD i true with
     | true=>rfl
     | false=>
      exfalso
      have hlt:i<ops.length:=ajh hin K.n_le
      have hoi:ops[i]? =some ops[i]:=ah8 hlt
      have:i∈Region.ready .any ops.toArray listed:=by
       rw[mem_ready]
       refine⟨hl,ops[i],by simp,fun e he hb=> ?_⟩
       have hE:=K.edges
       simp only[oE,ahH] at hE
       have h7:=hE i (by simp;exact hlt)
       rw[hoi] at h7
       simp only[ahH] at h7
       have h8:=h7 e (by simpa using he)
       simp only[hb,ahd,ag8] at h8
       have h9:e.on<i:=ajh (ajl _) (aja h8)
       have h10:=ihi e.on h9 (by omega)
       rw[agO] at h10 ⊢
       rw[agP (by omega)] at h10 ⊢
       simpa using h10
      rw[hr] at this
      cases this
   grind
  ·rw[mem_ready] at hi
   obtain⟨hun,o,hio,hed⟩:=hi
   have hoi:ops[i]? =some o:=by simpa using hio
   have hed':∀ e,e∈o.after.toList->Region.binds .any e=true->listed.getD e.on false=true:=fun e he hb=>hed e (by simpa using he) hb
   by_cases hin:i<n
   ·refine K.wpOp hin hoi hsz hcl hun hed' hM (fun G' ρ' w' a' hM'=>ih (listed.setIfInBounds i true) a' w' G' ρ' (by simpa using hsz) ?_ ?_ ?_ hM')
    ·intro j oj hj hlj e he hb
     by_cases eji:j=i
     ·subst eji
      rw[hoi] at hj
      cases hj
      have:=hed' e he hb
      by_cases e2:e.on=j
      ·rw[e2];exact cW (by rw[hsz];exact ajh hin K.n_le)
      ·rw[bA e2];exact this
     ·rw[bA eji] at hlj
      have:=hcl j oj hj hlj e he hb
      by_cases e2:e.on=i
      ·rw[e2];exact cW (by rw[hsz];exact ajh hin K.n_le)
      ·rw[bA e2];exact this
    ·intro k hk1 hk2
     rw[bA (by omega)]
     exact htl k hk1 hk2
    ·have:=CU (p:=fun j=> !listed.getD j true) (q:=fun j=> !(listed.setIfInBounds i true).getD j true) (i:=i) (l:=List.range n) List.nodup_range (by simpa using hin) (by simp[hun]) (fun j=>by
      by_cases e:j=i
      ·subst e;simp only[cW (listed:=listed) (b:=true) (by rw[hsz];exact ajh hin K.n_le)];simp
      ·simp only[bA (listed:=listed) (b:=true) e];simp[e])
     omega
   ·exfalso
    have hlt:i<ops.length:=(aia.1 hoi).1
    obtain⟨m,h1,h2⟩:=hsome
    have hd:=hwaits i (by omega) hlt m (by omega)
    have:=fC K.edges hcl i o hoi hed' m hd
    rw[h2] at this;cases this
theorem dh.of (hn:n<=ops.length) (c2:Kn ops (deps ops) n=true) (c4:oE ops=true) (h1:outs.length=(ops.take n).length) (h3:∀ i o x,(ops.take n)[i]? =some o->outs[i]? =some x->Il X ops S o (states ((ops.take n).take i) S (outs.take i)) x) (hnew:Fe ops n S (states (ops.take n) S outs)=true):dh X ops n S outs (states (ops.take n) S outs):=by
 have hlen:(ops.take n).length=n:=by grind
 simp only[Kn,ag1,ahb] at c2
 exact {
  n_le:=hn
  dupl:=c2.1
  head:=fun i o hin hi=>by
   have:=c2.2
   simp only[ahH] at this
   have h5:=this i (by grind)
   rw[hi] at h5
   simp only[ag1,ahH] at h5
   refine⟨h5.1,fun t ht j hj hdj=> ?_⟩
   have h6:=SO (h5.2 t ht) (k:=j) (by
    obtain⟨o',ho',hd'⟩:=mu hdj
    grind)
   grind
  edges:=c4
  len:=by omega
  sn:=rfl
  step:=fun i o x hin hi hx=>h3 i o x (by grind) hx
  new:=fun i d hin hd=>by
   simp only[Fe,ag1,ahH] at hnew
   obtain⟨o',ho',hd'⟩:=mu hd
   have h5:=hnew.1 o' (aiF (by rw[dx hin];exact ho'))
   rw[hd'] at h5
   simp only[ahb] at h5
   obtain⟨g1,g2,g3,g4⟩:=ZT h5
   refine⟨g1,g2,g3,g4,fun j dj hj hdj hij hnd=> ?_⟩
   have h6:=hnew.2 j (by grind)
   rw[hdj] at h6
   simp only[ahH] at h6
   rw[aee]
   cases hin':inL (Xa (states (ops.take n) S outs) dj) d with
   | false=>rfl
   | true=>
    have h7:=h6 d (aeX.1 hin') i (by grind)
    rw[hd] at h7
    simp only[ahf,Nat.beq_refl,ahd] at h7
    rcases h7 with h7 | h7 | h7
    ·simp_all
    ·exact absurd (sw.1 h7) hnd
    grind }
theorem H8 {m:Nat} (c3:((List.range ops.length).all fun k=>Nat.blt k m||B6 (deps ops) k)=true):∀ k,m<=k->k<ops.length->∀ j,j<k->j∈(deps ops).getD k m0:=fun k hm1 hm2 j hj=>by
 simp only[ahH] at c3
 have h5:=c3 k (by grind)
 simp only[ahf] at h5
 rcases h5 with h5 | h5
 ·have:k<m:=ajh (ajl _) (aja h5)
  omega
 ·simp only[B6,ahH] at h5
  exact sw.1 (h5 j (by grind))
theorem zK:yP ops (Array.replicate ops.toArray.size false):=by
 intro i o hi hl
 have hlt:=(aia.1 hi).1
 simp_all
theorem wS {m:Nat} (hm:m<ops.length) (b:Bool):(Array.replicate ops.toArray.size false).getD m b=false:=by
 simp_all
theorem Bk {m:Nat} (hm:m<=ops.length):(List.range m).countP (fun i=> !(Array.replicate ops.toArray.size false).getD i true)=m:=by
 have:(List.range m).countP (fun i=> !(Array.replicate ops.toArray.size false).getD i true)=(List.range m).length:=by
  rw[List.countP_eq_length]
  intro i hi
  have hin:i<m:=by grind
  rw[wS (by omega)];rfl
 grind
theorem Fx (hn:n<=ops.length) {a:Act} (hM':Mod C G ρ S w a):Mod C G ρ (aW S (states (ops.take n) S outs) (aH ops n (Array.replicate ops.toArray.size false))) w a:=by
 have hother:∀ t,aH ops n (Array.replicate ops.toArray.size false) t=false->t∉iF (ops.take n):=fun t hu hm=>by
  simp only[iF,aiC] at hm
  obtain⟨p,hp,hpd⟩:=hm
  obtain⟨m,hm⟩:=aiD.1 hp
  have hmn:m<n:=by
   grind
  rw[dx hmn] at hm
  have:=eS.2 ⟨m,hmn,wS (ops:=ops) (by omega) true,show cA ops m=some t by unfold cA;grind⟩
  grind
 refine hM'.equiv ?_ (fun k cs hk=> ?_) (fun k q hk=> ?_) (fun k q hk=> ?_)
 ·apply ahW
  intro t
  rw[fR]
  by_cases hlt:t<S.tmps.length
  ·rw[ajZ hlt,ah8 hlt]
   congr 1
   cases hu:aH ops n (Array.replicate ops.toArray.size false) t with
   | true=>simp[hlt]
   | false=>
    have:=(fU (S:=S) (outs:=outs) (hother t hu)).1
    grind
  grind
 ·simp only[aW,bS] at hk
  split at hk
  ·cases hk
  ·rename_i hu
   rw[(fU (hother k (by grind))).2.1] at hk;exact hk
 ·simp only[aW,bS] at hk
  split at hk
  ·cases hk
  ·rename_i hu
   rw[(fU (hother k (by grind))).2.2.1] at hk;exact hk
 ·simp only[aW,bS] at hk
  split at hk
  ·cases hk
  ·rename_i hu
   rw[(fU (hother k (by grind))).2.2.2] at hk;exact hk
end
end Go.Dn
namespace Go.Dn
variable {β:Type} {X:Cx} {C:Fr X.P} {G:Gh} {ρ:Env} {w:World}
theorem vI {S T:St} {fb:List Nat} (hr:S.rows=T.rows) (hb:S.boxes=T.boxes):∀ (t:Ty) (cs:List CV),jd S fb t cs=jd T fb t cs
 | .int _,_=>rfl
 | .bool,_=>rfl
 | .str,_=>rfl
 | .unit,_=>rfl
 | .pair a b,cs=>by
  simp only[jd]
  rw[vI hr hb a cs]
  cases jd T fb a cs with
  | none=>rfl
  | some p=>simp only[vI hr hb b]
 | .st t,cs=>vI hr hb t cs
 | .slice t,cs=>by
  simp only[jd]
  congr 1
  funext c
  cases c<;>simp only[TG,hr]
 | .ptr t,cs=>by
  simp only[jd]
  congr 1
  have e:jd S fb t=jd T fb t:=funext (vI hr hb t)
  rw[e]
  funext c
  cases c<;>simp only[Vf,hb]
 | .clo g t,cs=>by
  simp only[jd]
  have e:jd S fb t=jd T fb t:=funext (vI hr hb t)
  rw[e]
 | .hnd,_=>rfl
def St.wt (S:St) (tm:List SV):St:={ S with tmps:=tm }
theorem TX {o:Oper} {S:St} {k:St->Option β} {r:β} {t:TypeId} {ad x:Operand} (ho:o.op= .store t ad x) (h:dV X o S k=some r): ∃ S',k S'=some r/\S'.tmps=S.tmps/\∀ tm,(S.wt tm).ev ad=S.ev ad->(S.wt tm).ev x=S.ev x->dV X o (S.wt tm) some=some (S'.wt tm):=by
 obtain⟨dst,op,ty,pos,af,g⟩:=o
 simp only at ho
 subst ho
 simp only[dV] at h
 split at h
 ·cases h
 ·rename_i hdst
  split at h
  ·rename_i b off a' cs ha hx
   unfold zO at h
   split at h
   ·rename_i l hl
    split at h
    ·rename_i hc
     split at h
     ·rename_i l' hl'
      refine⟨_,h,rfl,fun tm e1 e2=> ?_⟩
      simp only[dV]
      rw[ajY hdst,e1,e2,ha,hx]
      simp only
      unfold zO
      rw[show look (S.wt tm).boxes b=look S.boxes b from rfl,hl]
      simp only
      rw[ajZ hc,hl']
      rfl
     ·cases h
    ·cases h
   ·cases h
  ·rename_i j sz i off a' cs ha hx
   unfold Et at h
   split at h
   ·rename_i q hq
    split at h
    ·cases h
    ·rename_i hc
     cases hy:q.l[i]? with
     | none=>grind
     | some y=>
      rw[hy] at h
      simp only[ajA] at h
      split at h
      ·rename_i cs' hcs
       split at h
       ·rename_i y' hy'
        refine⟨_,h,rfl,fun tm e1 e2=> ?_⟩
        simp only[dV]
        rw[ajY hdst,e1,e2,ha,hx]
        simp only
        unfold Et
        rw[show look (aX (S.wt tm) (kP cs)).rows j=look (aX S (kP cs)).rows j from rfl,hq]
        simp only
        rw[ajY hc,hy]
        simp only[ajA,hcs]
        have e3:lP (pack (aX (S.wt tm) (kP cs)) q.t cs')=some y':=by
         rw[<- hy'];unfold pack;rw[vI (S:=aX (S.wt tm) (kP cs)) (T:=aX S (kP cs)) rfl rfl]
        rw[e3]
        rfl
       ·cases h
      ·cases h
   ·cases h
  ·rename_i hh off a' cs ha hx
   unfold GL at h
   split at h
   ·rename_i ty' l hq
    split at h
    ·cases h
    ·rename_i hc
     cases hy:l[hh]? with
     | none=>grind
     | some y=>
      rw[hy] at h
      simp only[ajA] at h
      split at h
      ·rename_i cs' hcs
       split at h
       ·rename_i y' hy'
        refine⟨_,h,rfl,fun tm e1 e2=> ?_⟩
        simp only[dV]
        rw[ajY hdst,e1,e2,ha,hx]
        simp only
        unfold GL
        rw[show look (aX (S.wt tm) (kP cs)).objs bQ=look (aX S (kP cs)).objs bQ from rfl,hq]
        simp only
        rw[ajY hc,hy]
        simp only[ajA,hcs]
        have e3:lP (pack (aX (S.wt tm) (kP cs)) ty' cs')=some y':=by
         rw[<- hy'];unfold pack;rw[vI (S:=aX (S.wt tm) (kP cs)) (T:=aX S (kP cs)) rfl rfl]
        rw[e3]
        rfl
       ·cases h
      ·cases h
   ·cases h
  ·cases h
section
variable {ops:List Oper} {m:Nat} {S Sn S':St} {listed:Array Bool} {outs:List (Option Del)} {os:Oper}
theorem dh.Z2 (K:dh X ops m S outs Sn) {i d:Nat} {o:Oper} (him:i<m) (hi:ops[i]? =some o) (hb:Cc o.op=true) (hg:o.guard=none) (hd:o.dst=some d): ∃ x:Del,outs[i]? =some (some x)/\eo X.P o (states ((ops.take m).take i) S (outs.take i)) zh x/\x.box=none/\x.row=none/\x.obj=none/\ look Sn.boxes d=none/\look Sn.rows d=none/\look Sn.objs d=none:=by
 obtain⟨y,hy⟩:∃ y,outs[i]? =some y:=⟨outs[i]'(by rw[K.len];exact him),ah8 _⟩
 have hst:=K.step i o y him hi hy
 cases y with
 | none=>
  rcases hst with ⟨dg,b,want,hgd,_⟩ | hs
  ·simp only[guardOf,hg] at hgd
   cases hgd
  ·simp only[Dn.rR,hg] at hs
   cases hs
 | some x=>
  obtain⟨⟨_,h2⟩,_⟩:=hst
  obtain⟨h3,h4,h5,h6⟩:=h2.1 hb
  have hdA:cA ops i=some d:=by unfold cA;grind
  obtain⟨_,n3,n4,n5,_⟩:=K.new i d him hdA
  have hat:=zN (S:=S) (outs:=outs) (by rw[K.len,ais,ajn K.n_le]) K.dupl (i:=i) (o:=o) (x:=some x) (by grind) hy hd
  rw[<- K.sn] at hat
  refine⟨x,hy,h3,h4,h5,h6, ?_, ?_, ?_⟩
  ·rw[hat.2.1,n3];simp[Da,h4]
  ·rw[hat.2.2.1,n4];simp[Cm,h5]
  ·rw[hat.2.2.2,n5];simp[Ff,h6]
theorem dh.V6 (K:dh X ops m S outs Sn) {i d:Nat} {o:Oper} {x:Option Del} (hin:i<m) (hi:ops[i]? =some o) (hd:o.dst=some d) (hx:outs[i]? =some x) (hsz:listed.size=ops.length) (hun:listed.getD i true=false): (aW S Sn (aH ops m (listed.setIfInBounds i true))).tmps=(aW S Sn (aH ops m listed)).tmps.set d (Xe x):=by
 have hdA:cA ops i=some d:=by unfold cA;grind
 have hU:=K.GA hin hdA hsz hun
 have hat:=zN (S:=S) (outs:=outs) (by rw[K.len,ais,ajn K.n_le]) K.dupl (i:=i) (o:=o) (x:=x) (by grind) hx hd
 rw[<- K.sn] at hat
 apply ahW
 intro t
 rw[aie,fR,fR,hU t]
 by_cases e:d=t
 ·subst e
  have hlen:(aW S Sn (aH ops m listed)).tmps.length=S.tmps.length:=by simp[aW]
  grind
 grind
theorem Mn {i:Nat} (hi:m<=i) (t:Nat):aH ops m (listed.setIfInBounds i true) t=aH ops m listed t:=by
 rw[ag5,eS,eS]
 constructor
 ·rintro⟨j,h1,h2,h3⟩;rw[bA (by omega)] at h2;grind
 ·rintro⟨j,h1,h2,h3⟩;exact⟨j,h1,by rw[bA (by omega)];exact h2,h3⟩
def xE {P0:Program} (C:Fr P0) (G:Gh) (ρ:Env) (ops:List Oper) (m:Nat) (S Sn S':St) (listed:Array Bool) (w:World) (a:Act):Prop:=
 if listed.getD m true=true then Mod C G ρ (S'.wt (aW S Sn (aH ops m listed)).tmps) w a else Mod C G ρ (aW S Sn (aH ops m listed)) w a
theorem dh.late (K:dh X ops m S outs Sn) (hm:m<ops.length) (hwaits:∀ k,m+1<=k->k<ops.length->∀ j,j<k->j∈(deps ops).getD k m0) (hos:ops[m]? =some os) (hog:os.guard=none) (hblind:∀ i,i<m->i∈(deps ops).getD m m0\/∃ p,ops[i]? =some p/\Cc p.op=true/\p.guard=none) (hlk:∀ t,t∈os.looksAt ops.toArray->∀ j,j<m->cA ops j=some t->j∈(deps ops).getD m m0) (hS':S'.tmps=Sn.tmps/\∀ tm,(∀ x,x∈os.op.operands->(Sn.wt tm).ev x=Sn.ev x)->gY X.P os (Sn.wt tm) (S'.wt tm)) {Q:Exit->Act->World->Prop} (hseq:Region.seqB .any ops.toArray (ops.length - (m+1)) (m+1) (mask (m+1) ops.length)=true) (htail:∀ G ρ w a,Mod C G ρ S' w a->wpList X.P ops.toArray Q (ops.drop (m+1)) a w):∀ (u:Nat) (listed:Array Bool) (a:Act) (w:World) (G:Gh) (ρ:Env),listed.size=ops.length->yP ops listed-> (∀ k,m+1<=k->k<ops.length->listed.getD k true=false)->(List.range (m+1)).countP (fun i=> !listed.getD i true)=u->xE C G ρ ops m S Sn S' listed w a->wpAny X.P .any ops.toArray Q (u+(ops.length - (m+1))) listed a w:=by
 intro u
 induction u with
 | zero=>
  intro listed a w G ρ hsz hcl htl hcnt hM
  have hall:∀ i,i<m+1->listed.getD i true=true:=fun i hi=>by
   simp_all
  have hU:∀ t,aH ops m listed t=false:=fun t=>by
   cases hu:aH ops m listed t with
   | false=>rfl
   | true=>obtain⟨j,h1,h2,_⟩:=eS.1 hu;grind
  have hMn:Mod C G ρ S' w a:=by
   unfold xE at hM
   rw[ajZ (hall m (by omega))] at hM
   refine hM.equiv ?_ (fun k cs hk=>hk) (fun k q hk=>hk) (fun k q hk=>hk)
   show (aW S Sn (aH ops m listed)).tmps=S'.tmps
   rw[hS'.1]
   apply ahW
   intro t
   rw[fR,hU t]
   by_cases hlt:t<S.tmps.length
   ·have:t<Sn.tmps.length:=by rw[K.Bc];exact hlt
    grind
   ·rw[ajY hlt,ah9 (by rw[K.Bc];omega)]
  have hmask:=Px (n:=m+1) hsz (by omega) hall htl
  have hl:(ops.drop (m+1)).length=ops.length - (m+1):=by simp
  have:=wpAny_of_seq (P:=X.P) (md:= .any) (ops:=ops.toArray) (Q':=Q) (ops.drop (m+1)) (m+1) listed a w (fun j=>by simp[ah7]) (by grind) (htail G ρ w a hMn)
  grind
 | succ u ih=>
  intro listed a w G ρ hsz hcl htl hcnt hM
  have hsome:∃ i,i<m+1/\listed.getD i true=false:=by
   have:0<(List.range (m+1)).countP (fun i=> !listed.getD i true):=by omega
   rw[ahP] at this
   grind
  rw[show u+1+(ops.length - (m+1))=(u+(ops.length - (m+1)))+1 by omega]
  refine⟨fun hr=> ?_,fun i hi=> ?_⟩
  ·exfalso
   have hall:∀ i,i<m+1->listed.getD i true=true:=by
    intro i
    induction i using Nat.strongRecOn with
    | _ i ihi=>
     intro hin
     cases hl:listed.getD i true with
     | true=>rfl
     | false=>
      exfalso
      have hlt:i<ops.length:=by omega
      have hoi:ops[i]? =some ops[i]:=ah8 hlt
      have:i∈Region.ready .any ops.toArray listed:=by
       rw[mem_ready]
       refine⟨hl,ops[i],by simp,fun e he hb=> ?_⟩
       have hE:=K.edges
       simp only[oE,ahH] at hE
       have h7:=hE i (by simp;exact hlt)
       rw[hoi] at h7
       simp only[ahH] at h7
       have h8:=h7 e (by simpa using he)
       simp only[hb,ahd,ag8] at h8
       have h9:e.on<i:=ajh (ajl _) (aja h8)
       have h10:=ihi e.on h9 (by omega)
       rw[agO] at h10 ⊢
       rw[agP (by omega)] at h10 ⊢
       simpa using h10
      rw[hr] at this
      cases this
   obtain⟨i,h1,h2⟩:=hsome
   rw[hall i h1] at h2;cases h2
  ·rw[mem_ready] at hi
   obtain⟨hun,o,hio,hed⟩:=hi
   have hoi:ops[i]? =some o:=by simpa using hio
   have hed':∀ e,e∈o.after.toList->Region.binds .any e=true->listed.getD e.on false=true:=fun e he hb=>hed e (by simpa using he) hb
   have hlt:i<ops.length:=(aia.1 hoi).1
   by_cases hin:i<m+1
   ·-- what the next round asks for
    have cl':yP ops (listed.setIfInBounds i true):=by
     intro j oj hj hlj e he hb
     by_cases eji:j=i
     ·subst eji
      rw[hoi] at hj
      cases hj
      have:=hed' e he hb
      by_cases e2:e.on=j
      ·rw[e2];exact cW (by omega)
      ·rw[bA e2];exact this
     ·rw[bA eji] at hlj
      have:=hcl j oj hj hlj e he hb
      by_cases e2:e.on=i
      ·rw[e2];exact cW (by omega)
      ·rw[bA e2];exact this
    have tl':∀ k,m+1<=k->k<ops.length->(listed.setIfInBounds i true).getD k true=false:=fun k hk1 hk2=>by
     rw[bA (by omega)];exact htl k hk1 hk2
    have cnt':(List.range (m+1)).countP (fun j=> !(listed.setIfInBounds i true).getD j true)=u:=by
     have:=CU (p:=fun j=> !listed.getD j true) (q:=fun j=> !(listed.setIfInBounds i true).getD j true) (i:=i) (l:=List.range (m+1)) List.nodup_range (by simpa using hin) (by simp[hun]) (fun j=>by
      by_cases e:j=i
      ·subst e;simp only[cW (listed:=listed) (b:=true) (by omega:j<listed.size)];simp
      ·simp only[bA (listed:=listed) (b:=true) e];simp[e])
     omega
    have go:∀ G' ρ' w' a',xE C G' ρ' ops m S Sn S' (listed.setIfInBounds i true) w' a'->wpAny X.P .any ops.toArray Q (u+(ops.length - (m+1))) (listed.setIfInBounds i true) a' w':=
     fun G' ρ' w' a' hM'=>ih (listed.setIfInBounds i true) a' w' G' ρ' (by simpa using hsz) cl' tl' cnt' hM'
    by_cases him:i<m
    ·have hmi:(listed.setIfInBounds i true).getD m true=listed.getD m true:=bA (by omega)
     cases hlm:listed.getD m true with
     | false=>
      unfold xE at hM
      rw[hlm,ajY (by simp)] at hM
      refine K.wpOp him hoi hsz hcl hun hed' hM (fun G' ρ' w' a' hM'=>go G' ρ' w' a' ?_)
      unfold xE
      rw[hmi,hlm,ajY (by simp)]
      exact hM'
     | true=>
      unfold xE at hM
      rw[hlm,ajZ rfl] at hM
      have hnd:i∉(deps ops).getD m m0:=fun hmem=>by
       have:=fC K.edges hcl m os hos (fun e h1 h2=>hcl m os hos hlm e h1 h2) i hmem
       rw[hun] at this;cases this
      obtain⟨p,hp,hb,hg⟩:=(hblind i him).resolve_left hnd
      rw[hoi] at hp
      cases hp
      obtain⟨hds,_⟩:=K.head i o him hoi
      obtain⟨d,hd⟩:=ajE.1 hds
      obtain⟨x,hx,hL,hx1,hx2,hx3,_⟩:=K.Z2 him hoi hb hg hd
      have hdeps:=fC K.edges hcl i o hoi hed'
      have hev:=K.evs him hoi hdeps
      unfold Go.wpOp
      rw[hio]
      simp only
      have hwt:Region.wanted o (yielded ops.toArray a.tmps)=true:=lu (g:=none) hM.tmps (by simp[guardOf,hg])
      rw[ajZ hwt]
      left
      have hnear:Nf o (states ((ops.take m).take i) S (outs.take i)) zh (S'.wt (aW S Sn (aH ops m listed)).tmps):=
       ⟨fun y hy=>by
         rw[<- hev y hy]
         cases y<;>rfl,fun k cs hk=>(by cases hk),fun k cs hk=>(by cases hk),fun k cs hk=>(by cases hk)⟩
      have hwp:=hL C G ρ _ w a Q hM hnear (fun d' _ h=>by rw[hx1] at h;cases h) (fun d' _ h=>by rw[hx2] at h;cases h) (fun d' _ h=>by rw[hx3] at h;cases h)
      refine Oper.wp_mono (fun a' w' h=> ?_) hwp
      obtain⟨G',ρ',hM'⟩:=h
      refine go G' ρ' w' a' ?_
      unfold xE
      rw[hmi,hlm,ajZ rfl,K.V6 him hoi hd hx hsz hun]
      have e:x=⟨x.sv,none,none,none⟩:=by cases x;simp only at hx1 hx2 hx3;subst hx1;subst hx2;subst hx3;rfl
      rw[hd,e] at hM'
      exact hM'
    ·have eim:i=m:=by omega
     subst eim
     rw[hos] at hoi
     cases hoi
     have hdeps:=fC K.edges hcl i os hos hed'
     unfold xE at hM
     rw[hun,ajY (by simp)] at hM
     have hunb:∀ t,aH ops i listed t=true->look Sn.boxes t=none/\look Sn.rows t=none/\look Sn.objs t=none:=fun t hu=>by
      obtain⟨j,h1,h2,h3⟩:=eS.1 hu
      obtain⟨oj,h4,h5⟩:=mu h3
      have hnd:j∉(deps ops).getD i m0:=fun hmem=>by
       have:=hdeps j hmem
       rw[h2] at this;cases this
      obtain⟨p,hp,hb,hg⟩:=(hblind j h1).resolve_left hnd
      rw[h4] at hp
      cases hp
      obtain⟨x,_,_,_,_,_,h6⟩:=K.Z2 h1 h4 hb hg h5
      exact h6
     have hM2:Mod C G ρ (Sn.wt (aW S Sn (aH ops i listed)).tmps) w a:=by
      refine hM.equiv rfl (fun k cs hk=> ?_) (fun k q hk=> ?_) (fun k q hk=> ?_)
      ·simp only[aW,bS]
       cases hu:aH ops i listed k with
       | true=>rw[show look (Sn.wt (aW S Sn (aH ops i listed)).tmps).boxes k=look Sn.boxes k from rfl,(hunb k hu).1] at hk;cases hk
       | false=>exact hk
      ·simp only[aW,bS]
       cases hu:aH ops i listed k with
       | true=>rw[show look (Sn.wt (aW S Sn (aH ops i listed)).tmps).rows k=look Sn.rows k from rfl,(hunb k hu).2.1] at hk;cases hk
       | false=>exact hk
      ·simp only[aW,bS]
       cases hu:aH ops i listed k with
       | true=>rw[show look (Sn.wt (aW S Sn (aH ops i listed)).tmps).objs k=look Sn.objs k from rfl,(hunb k hu).2.2] at hk;cases hk
       | false=>exact hk
     have hev:∀ x,x∈os.op.operands->(Sn.wt (aW S Sn (aH ops i listed)).tmps).ev x=Sn.ev x:=fun x hx=>by
      cases x with
      | tmp t=>
       show (aW S Sn (aH ops i listed)).tmps.getD t (.v false [.any])=Sn.tmps.getD t (.v false [.any])
       have hu:aH ops i listed t=false:=by
        cases hu:aH ops i listed t with
        | false=>rfl
        | true=>
         obtain⟨j,h1,h2,h3⟩:=eS.1 hu
         have:=hdeps j (hlk t (by
          simp only[Oper.looksAt,aiy,aiC]
          exact .inl ⟨.tmp t,by simpa using hx,rfl⟩) j h1 h3)
         rw[h2] at this;cases this
       rw[ah1,fR]
       by_cases hlt:t<S.tmps.length
       ·simp[hlt,hu]
       ·rw[ajY hlt]
        have:Sn.tmps[t]? =none:=ah9 (by rw[K.Bc];exact Nat.le_of_not_lt hlt)
        rw[ah1,this]
      | const v=>rfl
      | global g=>rfl
      | func f=>rfl
     unfold Go.wpOp
     rw[hio]
     simp only
     have hwt:Region.wanted os (yielded ops.toArray a.tmps)=true:=lu (g:=none) hM2.tmps (by simp[guardOf,hog])
     rw[ajZ hwt]
     left
     have hwp:=hS'.2 _ hev C G ρ w a Q hM2
     refine Oper.wp_mono (fun a' w' h=> ?_) hwp
     obtain⟨G',ρ',hM'⟩:=h
     refine go G' ρ' w' a' ?_
     unfold xE
     rw[ajZ (cW (by omega))]
     have e:aH ops i (listed.setIfInBounds i true)=aH ops i listed:=funext (Mn (ajc i))
     rw[e]
     exact hM'
   ·exfalso
    obtain⟨j,h1,h2⟩:=hsome
    have hd:=hwaits i (by omega) hlt j (by omega)
    have:=fC K.edges hcl i o hoi hed' j hd
    rw[h2] at this;cases this
end
end Go.Dn
namespace Go.Dn
variable {β:Type} {X:Cx} {C:Fr X.P} {G:Gh} {ρ:Env} {w:World}
theorem adf {o:Oper} {S:St} {k:St->Option β} {r:β} {t:TypeId} {ad x:Operand} {b off:Nat} (ho:o.op= .store t ad x) (hr:S.ev ad= .v false [.ref b off]) (h:dV X o S k=some r): ∃ S',k S'=some r/\S'.tmps=S.tmps/\S'.rows=S.rows/\S'.objs=S.objs/\ ∀ tm rw ob,(⟨tm,S.boxes,rw,ob⟩:St).ev ad=S.ev ad->(⟨tm,S.boxes,rw,ob⟩:St).ev x=S.ev x->dV X o ⟨tm,S.boxes,rw,ob⟩ some=some ⟨tm,S'.boxes,rw,ob⟩:=by
 obtain⟨dst,op,ty,pos,af,g⟩:=o
 simp only at ho
 subst ho
 simp only[dV,hr] at h
 split at h
 ·cases h
 ·rename_i hdst
  split at h
  ·rename_i b' off' a' cs ha hx
   cases ha
   unfold zO at h
   split at h
   ·rename_i l hl
    split at h
    ·rename_i hc
     split at h
     ·rename_i l' hl'
      refine⟨_,h,rfl,rfl,rfl,fun tm rw ob e1 e2=> ?_⟩
      simp only[dV]
      rw[ajY hdst,e1,e2,hr,hx]
      simp only
      unfold zO
      grind
     ·cases h
    ·cases h
   ·cases h
  all_goals grind
section
variable {ops:List Oper} {m:Nat} {S Sn S':St} {listed:Array Bool} {outs:List (Option Del)} {os:Oper}
theorem dh.Yk (K:dh X ops m S outs Sn) {i d:Nat} {o:Oper} (him:i<m) (hi:ops[i]? =some o) (hb:(Cc o.op||zb o.op)=true) (hg:o.guard=none) (hd:o.dst=some d):
 ∃ x:Del,outs[i]? =some (some x)/\eo X.P o (states ((ops.take m).take i) S (outs.take i)) zh x/\x.box=none/\x.obj=none/\(x.row.isSome=true->zb o.op=true)/\
  look Sn.boxes d=none/\look Sn.rows d=x.row/\look Sn.objs d=none:=by
 obtain⟨y,hy⟩:∃ y,outs[i]? =some y:=⟨outs[i]'(by rw[K.len];exact him),ah8 _⟩
 have hst:=K.step i o y him hi hy
 cases y with
 | none=>
  rcases hst with ⟨dg,b,want,hgd,_⟩ | hs
  ·simp only[guardOf,hg] at hgd
   cases hgd
  ·simp only[Dn.rR,hg] at hs
   cases hs
 | some x=>
  obtain⟨⟨_,h2⟩,_⟩:=hst
  have h3:eo X.P o (states ((ops.take m).take i) S (outs.take i)) zh x/\x.box=none/\x.obj=none/\(x.row.isSome=true->zb o.op=true):=by
   cases hk:zb o.op with
   | true=>exact⟨(h2.make hk).1,(h2.make hk).2.1,(h2.make hk).2.2,fun _=>rfl⟩
   | false=>
    rw[hk,ahg] at hb
    obtain⟨g1,g2,g3,g4⟩:=h2.blind hb
    grind
  obtain⟨h3,h4,h6,h7⟩:=h3
  have hdA:cA ops i=some d:=by unfold cA;grind
  obtain⟨_,n3,n4,n5,_⟩:=K.new i d him hdA
  have hat:=zN (S:=S) (outs:=outs) (by rw[K.len,ais,ajn K.n_le]) K.dupl (i:=i) (o:=o) (x:=some x) (by grind) hy hd
  rw[<- K.sn] at hat
  refine⟨x,hy,h3,h4,h6,h7, ?_, ?_, ?_⟩
  ·rw[hat.2.1,n3];simp[Da,h4]
  ·rw[hat.2.2.1,n4];simp[Cm]
  ·rw[hat.2.2.2,n5];simp[Ff,h6]
def mkM (R S':St):St:=⟨R.tmps,S'.boxes,R.rows,R.objs⟩
def uf {P0:Program} (C:Fr P0) (G:Gh) (ρ:Env) (ops:List Oper) (m:Nat) (S Sn S':St) (listed:Array Bool) (w:World) (a:Act):Prop:=
 if listed.getD m true=true then Mod C G ρ (mkM (aW S Sn (aH ops m listed)) S') w a else Mod C G ρ (aW S Sn (aH ops m listed)) w a
theorem dh.ago (K:dh X ops m S outs Sn) (hm:m<ops.length) (hwaits:∀ k,m+1<=k->k<ops.length->∀ j,j<k->j∈(deps ops).getD k m0) (hos:ops[m]? =some os) (hog:os.guard=none)
 (hblind:∀ i,i<m->i∈(deps ops).getD m m0\/∃ p,ops[i]? =some p/\(Cc p.op||zb p.op)=true/\p.guard=none)
 (hlk:∀ t,t∈os.looksAt ops.toArray->∀ j,j<m->cA ops j=some t->j∈(deps ops).getD m m0)
 (hS':S'.tmps=Sn.tmps/\S'.rows=Sn.rows/\S'.objs=Sn.objs/\∀ tm rw ob,(∀ x,x∈os.op.operands->(⟨tm,Sn.boxes,rw,ob⟩:St).ev x=Sn.ev x)->gY X.P os ⟨tm,Sn.boxes,rw,ob⟩ ⟨tm,S'.boxes,rw,ob⟩)
 (hfr:∀ i d p,i<m->i∉(deps ops).getD m m0->ops[i]? =some p->zb p.op=true->p.dst=some d->(S'.boxes.any fun q=>q.2.any (CV.bG d))=false)
 {Q:Exit->Act->World->Prop} (hseq:Region.seqB .any ops.toArray (ops.length - (m+1)) (m+1) (mask (m+1) ops.length)=true)
 (htail:∀ G ρ w a,Mod C G ρ S' w a->wpList X.P ops.toArray Q (ops.drop (m+1)) a w):∀ (u:Nat) (listed:Array Bool) (a:Act) (w:World) (G:Gh) (ρ:Env),listed.size=ops.length->yP ops listed->
 (∀ k,m+1<=k->k<ops.length->listed.getD k true=false)->(List.range (m+1)).countP (fun i=> !listed.getD i true)=u->uf C G ρ ops m S Sn S' listed w a->wpAny X.P .any ops.toArray Q (u+(ops.length - (m+1))) listed a w:=by
 intro u
 induction u with
 | zero=>
  intro listed a w G ρ hsz hcl htl hcnt hM
  have hall:∀ i,i<m+1->listed.getD i true=true:=fun i hi=>by
   simp_all
  have hU:∀ t,aH ops m listed t=false:=fun t=>by
   cases hu:aH ops m listed t with
   | false=>rfl
   | true=>obtain⟨j,h1,h2,_⟩:=eS.1 hu;grind
  have hMn:Mod C G ρ S' w a:=by
   unfold uf at hM
   rw[ajZ (hall m (by omega))] at hM
   refine hM.equiv ?_ (fun k cs hk=>hk) (fun k q hk=> ?_) (fun k q hk=> ?_)
   ·show (aW S Sn (aH ops m listed)).tmps=S'.tmps
    rw[hS'.1]
    apply ahW
    intro t
    rw[fR,hU t]
    by_cases hlt:t<S.tmps.length
    ·have:t<Sn.tmps.length:=by rw[K.Bc];exact hlt
     grind
    ·rw[ajY hlt,ah9 (by rw[K.Bc];omega)]
   ·show look (aW S Sn (aH ops m listed)).rows k=some q
    rw[hS'.2.1] at hk
    simp only[aW,bS,hU k]
    simpa using hk
   ·show look (aW S Sn (aH ops m listed)).objs k=some q
    rw[hS'.2.2.1] at hk
    simp only[aW,bS,hU k]
    simpa using hk
  have hmask:=Px (n:=m+1) hsz (by omega) hall htl
  have hl:(ops.drop (m+1)).length=ops.length - (m+1):=by simp
  have:=wpAny_of_seq (P:=X.P) (md:= .any) (ops:=ops.toArray) (Q':=Q) (ops.drop (m+1)) (m+1) listed a w (fun j=>by simp[ah7]) (by rw[hl,hmask];exact hseq) (htail G ρ w a hMn)
  rw[hl] at this
  rw[ajx]
  exact this
 | succ u ih=>
  intro listed a w G ρ hsz hcl htl hcnt hM
  have hsome:∃ i,i<m+1/\listed.getD i true=false:=by
   have:0<(List.range (m+1)).countP (fun i=> !listed.getD i true):=by omega
   rw[ahP] at this
   obtain⟨i,h1,h2⟩:=this
   exact⟨i,by simpa using h1,by simpa using h2⟩
  rw[show u+1+(ops.length - (m+1))=(u+(ops.length - (m+1)))+1 by omega]
  refine⟨fun hr=> ?_,fun i hi=> ?_⟩
  ·exfalso
   have hall:∀ i,i<m+1->listed.getD i true=true:=by
    intro i
    induction i using Nat.strongRecOn with
    | _ i ihi=>
     intro hin
     cases hl:listed.getD i true with
     | true=>rfl
     | false=>
      exfalso
      have hlt:i<ops.length:=by omega
      have hoi:ops[i]? =some ops[i]:=ah8 hlt
      have:i∈Region.ready .any ops.toArray listed:=by
       rw[mem_ready]
       refine⟨hl,ops[i],by simp,fun e he hb=> ?_⟩
       have hE:=K.edges
       simp only[oE,ahH] at hE
       have h7:=hE i (by simp;exact hlt)
       rw[hoi] at h7
       simp only[ahH] at h7
       have h8:=h7 e (by simpa using he)
       simp only[hb,ahd,ag8] at h8
       have h9:e.on<i:=ajh (ajl _) (aja h8)
       have h10:=ihi e.on h9 (by omega)
       rw[agO] at h10 ⊢
       rw[agP (by omega)] at h10 ⊢
       simpa using h10
      rw[hr] at this
      cases this
   obtain⟨i,h1,h2⟩:=hsome
   rw[hall i h1] at h2;cases h2
  ·rw[mem_ready] at hi
   obtain⟨hun,o,hio,hed⟩:=hi
   have hoi:ops[i]? =some o:=by simpa using hio
   have hed':∀ e,e∈o.after.toList->Region.binds .any e=true->listed.getD e.on false=true:=fun e he hb=>hed e (by simpa using he) hb
   have hlt:i<ops.length:=(aia.1 hoi).1
   by_cases hin:i<m+1
   ·have cl':yP ops (listed.setIfInBounds i true):=by
     intro j oj hj hlj e he hb
     by_cases eji:j=i
     ·subst eji
      rw[hoi] at hj
      cases hj
      have:=hed' e he hb
      by_cases e2:e.on=j
      ·rw[e2];exact cW (by omega)
      ·rw[bA e2];exact this
     ·rw[bA eji] at hlj
      have:=hcl j oj hj hlj e he hb
      by_cases e2:e.on=i
      ·rw[e2];exact cW (by omega)
      ·rw[bA e2];exact this
    have tl':∀ k,m+1<=k->k<ops.length->(listed.setIfInBounds i true).getD k true=false:=fun k hk1 hk2=>by
     rw[bA (by omega)];exact htl k hk1 hk2
    have cnt':(List.range (m+1)).countP (fun j=> !(listed.setIfInBounds i true).getD j true)=u:=by
     have:=CU (p:=fun j=> !listed.getD j true) (q:=fun j=> !(listed.setIfInBounds i true).getD j true) (i:=i) (l:=List.range (m+1)) List.nodup_range (by simpa using hin) (by simp[hun]) (fun j=>by
      by_cases e:j=i
      ·subst e;simp only[cW (listed:=listed) (b:=true) (by omega:j<listed.size)];simp
      ·simp only[bA (listed:=listed) (b:=true) e];simp[e])
     omega
    have go:∀ G' ρ' w' a',uf C G' ρ' ops m S Sn S' (listed.setIfInBounds i true) w' a'->wpAny X.P .any ops.toArray Q (u+(ops.length - (m+1))) (listed.setIfInBounds i true) a' w':=
     fun G' ρ' w' a' hM'=>ih (listed.setIfInBounds i true) a' w' G' ρ' (by simpa using hsz) cl' tl' cnt' hM'
    by_cases him:i<m
    ·have hmi:(listed.setIfInBounds i true).getD m true=listed.getD m true:=bA (by omega)
     cases hlm:listed.getD m true with
     | false=>
      unfold uf at hM
      rw[hlm,ajY (by simp)] at hM
      refine K.wpOp him hoi hsz hcl hun hed' hM (fun G' ρ' w' a' hM'=>go G' ρ' w' a' ?_)
      unfold uf
      rw[hmi,hlm,ajY (by simp)]
      exact hM'
     | true=>
      unfold uf at hM
      rw[hlm,ajZ rfl] at hM
      have hnd:i∉(deps ops).getD m m0:=fun hmem=>by
       have:=fC K.edges hcl m os hos (fun e h1 h2=>hcl m os hos hlm e h1 h2) i hmem
       rw[hun] at this;cases this
      obtain⟨p,hp,hb,hg⟩:=(hblind i him).resolve_left hnd
      rw[hoi] at hp
      cases hp
      obtain⟨hds,_⟩:=K.head i o him hoi
      obtain⟨d,hd⟩:=ajE.1 hds
      obtain⟨x,hx,hL,hx1,hx3,hx2,hy1,hy2,hy3⟩:=K.Yk him hoi hb hg hd
      have hdA:cA ops i=some d:=by unfold cA;rw[hoi];exact hd
      have hdeps:=fC K.edges hcl i o hoi hed'
      have hev:=K.evs him hoi hdeps
      have hfresh:=K.fresh hcl him hdA hun
      have hU:=K.GA him hdA hsz hun
      unfold Go.wpOp
      rw[hio]
      simp only
      have hwt:Region.wanted o (yielded ops.toArray a.tmps)=true:=lu (g:=none) hM.tmps (by simp[guardOf,hg])
      rw[ajZ hwt]
      left
      have hnear:Nf o (states ((ops.take m).take i) S (outs.take i)) zh (mkM (aW S Sn (aH ops m listed)) S'):=
       ⟨fun y hy=>by
         rw[<- hev y hy]
         cases y<;>rfl,fun k cs hk=>(by cases hk),fun k cs hk=>(by cases hk),fun k cs hk=>(by cases hk)⟩
      have hwp:=hL C G ρ _ w a Q hM hnear (fun d' _ h=>by rw[hx1] at h;cases h) (fun d' hd' h=>by
       rw[hd] at hd';cases hd'
       have h1:=(Hv hfresh).2.1
       simp only[St.bG,ahe] at h1 ⊢
       exact⟨h1.1,hfr i d o him hnd hoi (hx2 h) hd⟩) (fun d' _ h=>by rw[hx3] at h;cases h)
      refine Oper.wp_mono (fun a' w' h=> ?_) hwp
      obtain⟨G',ρ',hM'⟩:=h
      refine go G' ρ' w' a' ?_
      unfold uf
      rw[hmi,hlm,ajZ rfl]
      have e:x=⟨x.sv,none,x.row,none⟩:=by cases x;simp only at hx1 hx3;subst hx1;subst hx3;rfl
      rw[hd,e] at hM'
      refine hM'.equiv ?_ (fun k cs hk=>hk) (fun k q hk=> ?_) (fun k q hk=> ?_)
      ·show (aW S Sn (aH ops m listed)).tmps.set d x.sv=(aW S Sn (aH ops m (listed.setIfInBounds i true))).tmps
       rw[K.V6 him hoi hd hx hsz hun];rfl
      ·replace hk:look (aW S Sn (aH ops m (listed.setIfInBounds i true))).rows k=some q:=hk
       simp only[aW,bS,hU k] at hk
       show look (match x.row with | some r=>(d,r)::(aW S Sn (aH ops m listed)).rows | none=>(aW S Sn (aH ops m listed)).rows) k=some q
       by_cases ek:k=d
       ·subst ek
        simp only[ajM,ag2,ag6,ajX] at hk
        rw[hy2] at hk
        rw[hk]
        simp only[aD,aj0]
       ·have hbne:(k != d)=true:=by simpa using ek
        rw[hbne,ag3] at hk
        have h2:look (aW S Sn (aH ops m listed)).rows k=some q:=by
         simp only[aW,bS];exact hk
        cases x.row with
        | none=>exact h2
        | some r=>
         simp only[aD]
         rw[ajY (fun e=>ek e.symm)];exact h2
      ·replace hk:look (aW S Sn (aH ops m (listed.setIfInBounds i true))).objs k=some q:=hk
       simp only[aW,bS,hU k] at hk
       show look (aW S Sn (aH ops m listed)).objs k=some q
       simp only[aW,bS]
       by_cases ek:k=d
       ·subst ek
        simp only[ajM,ag2,ag6,ajX] at hk
        rw[hy3] at hk;cases hk
       ·have hbne:(k != d)=true:=by simpa using ek
        rw[hbne,ag3] at hk
        exact hk
    ·have eim:i=m:=by omega
     subst eim
     rw[hos] at hoi
     cases hoi
     have hdeps:=fC K.edges hcl i os hos hed'
     unfold uf at hM
     rw[hun,ajY (by simp)] at hM
     have hunb:∀ t,aH ops i listed t=true->look Sn.boxes t=none:=fun t hu=>by
      obtain⟨j,h1,h2,h3⟩:=eS.1 hu
      obtain⟨oj,h4,h5⟩:=mu h3
      have hnd:j∉(deps ops).getD i m0:=fun hmem=>by
       have:=hdeps j hmem
       rw[h2] at this;cases this
      obtain⟨p,hp,hb,hg⟩:=(hblind j h1).resolve_left hnd
      rw[h4] at hp
      cases hp
      obtain⟨x,_,_,_,_,_,h6,_⟩:=K.Yk h1 h4 hb hg h5
      exact h6
     have hM2:Mod C G ρ ⟨(aW S Sn (aH ops i listed)).tmps,Sn.boxes,(aW S Sn (aH ops i listed)).rows,(aW S Sn (aH ops i listed)).objs⟩ w a:=by
      refine hM.equiv rfl (fun k cs hk=> ?_) (fun k q hk=>hk) (fun k q hk=>hk)
      simp only[aW,bS]
      cases hu:aH ops i listed k with
      | true=>rw[show look (⟨(aW S Sn (aH ops i listed)).tmps,Sn.boxes,(aW S Sn (aH ops i listed)).rows,(aW S Sn (aH ops i listed)).objs⟩:St).boxes k=look Sn.boxes k from rfl,hunb k hu] at hk;cases hk
      | false=>exact hk
     have hev:∀ x,x∈os.op.operands->(⟨(aW S Sn (aH ops i listed)).tmps,Sn.boxes,(aW S Sn (aH ops i listed)).rows,(aW S Sn (aH ops i listed)).objs⟩:St).ev x=Sn.ev x:=fun x hx=>by
      cases x with
      | tmp t=>
       show (aW S Sn (aH ops i listed)).tmps.getD t (.v false [.any])=Sn.tmps.getD t (.v false [.any])
       have hu:aH ops i listed t=false:=by
        cases hu:aH ops i listed t with
        | false=>rfl
        | true=>
         obtain⟨j,h1,h2,h3⟩:=eS.1 hu
         have:=hdeps j (hlk t (by
          simp only[Oper.looksAt,aiy,aiC]
          exact .inl ⟨.tmp t,by simpa using hx,rfl⟩) j h1 h3)
         rw[h2] at this;cases this
       rw[ah1,fR]
       by_cases hlt:t<S.tmps.length
       ·simp[hlt,hu]
       ·rw[ajY hlt]
        have:Sn.tmps[t]? =none:=ah9 (by rw[K.Bc];exact Nat.le_of_not_lt hlt)
        rw[ah1,this]
      | const v=>rfl
      | global g=>rfl
      | func f=>rfl
     unfold Go.wpOp
     rw[hio]
     simp only
     have hwt:Region.wanted os (yielded ops.toArray a.tmps)=true:=lu (g:=none) hM2.tmps (by simp[guardOf,hog])
     rw[ajZ hwt]
     left
     have hwp:=hS'.2.2.2 _ _ _ hev C G ρ w a Q hM2
     refine Oper.wp_mono (fun a' w' h=> ?_) hwp
     obtain⟨G',ρ',hM'⟩:=h
     refine go G' ρ' w' a' ?_
     unfold uf
     rw[ajZ (cW (by omega))]
     have e:aH ops i (listed.setIfInBounds i true)=aH ops i listed:=funext (Mn (ajc i))
     rw[e]
     exact hM'
   ·exfalso
    obtain⟨j,h1,h2⟩:=hsome
    have hd:=hwaits i (by omega) hlt j (by omega)
    have:=fC K.edges hcl i o hoi hed' j hd
    rw[h2] at this;cases this
end
end Go.Dn
