/-
  An executor of Go code on plain data, proved sound against the model, a part. No condition.
-/
import Derived.Test.YtakjkcibbeeekaaGreatDoorYc
import Derived.Shelf.Spec.SlicesInsertGrow
import Derived.ReadAgain
import Derived.ChangeSame
import Derived.ChangeArms
import Derived.ChangeOld
import Derived.OpenShut
import Derived.ProofKit
import Derived.WalkKit
import Derived.Deep.DeepHandedRow
import Derived.Lib.LaidTab
import Derived.Shelf.Vars
import Derived.Sort.Grow
import Derived.Deep.Draws
import Derived.Test.YtakjkcibbeeekaaGreatDoorYb
import Derived.Maps.Own
import Derived.Maps.Range
import Derived.Sort.KeysCollected
import Derived.DeepKeys5
set_option linter.all false
namespace Go.Dn
variable {β:Type} {X:Cx} {C:Fr X.P} {G:Gh} {ρ:Env} {w:World}
theorem eo.more {P:Program} {o:Oper} {S M N:St} {x:Del} (h:eo P o S M x) (hb:∀ k cs,look M.boxes k=some cs->look N.boxes k=some cs) (hr:∀ k q,look M.rows k=some q->look N.rows k=some q) (ho:∀ k q,look M.objs k=some q->look N.objs k=some q):eo P o S N x:=
 fun C G ρ S1 w a Q hM hN h1 h2 h3=>h C G ρ S1 w a Q hM ⟨hN.ops,fun k cs hk=>hN.boxes k cs (hb k cs hk),fun k cs hk=>hN.rows k cs (hr k cs hk),fun k cs hk=>hN.objs k cs (ho k cs hk)⟩ h1 h2 h3
theorem EM (t:Touch) (M:St):(∀ k cs,look (eX t M).boxes k=some cs->rz t k=true/\look M.boxes k=some cs)/\(∀ k q,look (eX t M).rows k=some q->t.rt=false/\look M.rows k=some q)/\(∀ k q,look (eX t M).objs k=some q->t.rt=false/\look M.objs k=some q):=by
 refine⟨fun k cs hk=> ?_,fun k q hk=> ?_,fun k q hk=> ?_⟩
 ·simp only[eX] at hk
  rw[vi (fun i=>rz t i)] at hk
  split at hk
  ·rename_i h;exact⟨h,hk⟩
  ·cases hk
 ·simp only[eX] at hk
  cases ht:t.rt with
  | true=>rw[ht] at hk;cases hk
  | false=>rw[ht] at hk;exact⟨rfl,hk⟩
 ·simp only[eX] at hk
  cases ht:t.rt with
  | true=>rw[ht] at hk;cases hk
  | false=>rw[ht] at hk;exact⟨rfl,hk⟩
theorem eo.Z7 {P:Program} {o:Oper} {S M:St} {x:Del} {t:Touch} (h:eo P o S (eX t M) x):eo P o S M x:=
 h.more (fun k cs hk=>((EM t M).1 k cs hk).2) (fun k q hk=>((EM t M).2.1 k q hk).2) (fun k q hk=>((EM t M).2.2 k q hk).2)
theorem Fj {x:Del} (h:tO x=true):x.box=none/\x.row=none/\x.obj=none:=by
 simpa [tO] using h
theorem Em (hX:cD X) {ops:List Oper} {M:St} {tf:Nat->Touch} {dm:Msk}:∀ {l:List Oper} {c:Nat} {S:St} {k:St->Option β} {r:β},lE X ops M (fun i=>eX (tf i) M) dm c l S k=some r-> ∃ outs:List (Option Del),outs.length=l.length/\k (states l S outs)=some r/\∀ i o x,l[i]? =some o->outs[i]? =some x->Il X ops M o (states (l.take i) S (outs.take i)) x/\ (inM dm (c+i)=false->∀ y,x=some y->eo X.P o (states (l.take i) S (outs.take i)) (eX (tf (c+i)) M) y/\tO y=true)
 | [],c,S,k,r,h=>⟨[],rfl,h,fun i o x hi=>by simp at hi⟩
 | o::l,c,S,k,r,h=>by
  have cons:∀ (x:Option Del),Il X ops M o S x->(inM dm c=false->∀ y,x=some y->eo X.P o S (eX (tf c) M) y/\tO y=true)->lE X ops M (fun i=>eX (tf i) M) dm (c+1) l (S.out o x) k=some r->
   ∃ outs:List (Option Del),outs.length=(o::l).length/\k (states (o::l) S outs)=some r/\∀ i o' x,(o::l)[i]? =some o'->outs[i]? =some x->Il X ops M o' (states ((o::l).take i) S (outs.take i)) x/\
    (inM dm (c+i)=false->∀ y,x=some y->eo X.P o' (states ((o::l).take i) S (outs.take i)) (eX (tf (c+i)) M) y/\tO y=true):=by
   intro x hx hx2 hr
   obtain⟨outs,h1,h2,h3⟩:=Em hX hr
   refine⟨x::outs,by simp[h1],h2,fun i o' y hi hy=> ?_⟩
   cases i with
   | zero=>
    simp only[ah6,Option.some.injEq] at hi hy
    subst hi;subst hy
    exact⟨hx,hx2⟩
   | succ i=>
    simp only[ah5] at hi hy
    have:=h3 i o' y hi hy
    rw[show c+(i+1)=c+1+i by omega]
    exact this
  simp only[lE] at h
  split at h
  ·rename_i hg
   cases hs:rR ops o S with
   | false=>rw[hs] at h;cases h
   | true=>rw[hs] at h;exact cons none (.inr hs) (fun _ y e=>by cases e) h
  ·rename_i hg
   cases hm:inM dm c with
   | true=>
    rw[hm,ajO] at h
    obtain⟨x,h1,h2⟩:=xG hX h
    exact cons (some x) ⟨h2,.inl hg⟩ (fun e=>by rw[hm] at e;cases e) h1
   | false=>
    rw[hm,ajN] at h
    obtain⟨x,h1,h2⟩:=xG hX h
    cases hp:tO x with
    | false=>rw[hp] at h1;cases h1
    | true=>
     rw[hp,ajO] at h1
     exact cons (some x) ⟨⟨h2.1.Z7,h2.2⟩,.inl hg⟩ (fun _ y e=>by cases e;exact⟨h2.1,hp⟩) h1
  ·rename_i d b want hg
   rcases Pm (ab3 (Ya hg)) h with ⟨hb,h⟩ | ⟨hb,h⟩
   ·cases hm:inM dm c with
    | true=>
     rw[hm,ajO] at h
     obtain⟨x,h1,h2⟩:=xG hX h
     exact cons (some x) ⟨h2,.inr ⟨d,b,want,hg,hb⟩⟩ (fun e=>by rw[hm] at e;cases e) h1
    | false=>
     rw[hm,ajN] at h
     obtain⟨x,h1,h2⟩:=xG hX h
     cases hp:tO x with
     | false=>rw[hp] at h1;cases h1
     | true=>
      rw[hp,ajO] at h1
      exact cons (some x) ⟨⟨h2.1.Z7,h2.2⟩,.inr ⟨d,b,want,hg,hb⟩⟩ (fun _ y e=>by cases e;exact⟨h2.1,hp⟩) h1
   ·exact cons none (.inl ⟨d,b,want,hg,hb⟩) (fun _ y e=>by cases e) h
def Rest (t:Touch) (T T':St):Prop:=(t.rt=false->T'.rows=T.rows/\T'.objs=T.objs)/\∀ k,rz t k=true->look T'.boxes k=look T.boxes k
theorem abr {o:Oper} {S S':St} {t:TypeId} {ad x:Operand} {row:Touch} (ho:o.op= .store t ad x) (ha:Ud row (S.ev ad)=true) (h:dV X o S some=some S'):Rest row S S':=by
 obtain⟨dst,op,ty,pos,af,g⟩:=o
 simp only at ho
 subst ho
 simp only[dV] at h
 split at h
 ·cases h
 ·split at h
  ·rename_i b off a' cs ha' hx
   rw[ha'] at ha
   have hrow:rz row b=false:=by simpa [Ud] using ha
   unfold zO at h
   split at h
   ·split at h
    ·split at h
     ·cases h
      refine⟨fun _=>⟨rfl,rfl⟩,fun k hk=> ?_⟩
      simp only[aD]
      rw[ajY]
      intro e
      subst e
      rw[hrow] at hk;cases hk
     ·cases h
    ·cases h
   ·cases h
  ·rename_i j sz i off a' cs ha' hx
   rw[ha'] at ha
   have hrow:row.rt=true:=by simpa [Ud] using ha
   unfold Et at h
   split at h
   ·split at h
    ·cases h
    ·obtain⟨y,_,h⟩:=bind_some h
     split at h
     ·split at h
      ·cases h;exact⟨fun e=>(by rw[hrow] at e;cases e),fun _ _=>rfl⟩
      ·cases h
     ·cases h
   ·cases h
  ·rename_i hh off a' cs ha' hx
   rw[ha'] at ha
   have hrow:row.rt=true:=by simpa [Ud] using ha
   unfold GL at h
   split at h
   ·split at h
    ·cases h
    ·obtain⟨y,_,h⟩:=bind_some h
     split at h
     ·split at h
      ·cases h;exact⟨fun e=>(by rw[hrow] at e;cases e),fun _ _=>rfl⟩
      ·cases h
     ·cases h
   ·cases h
  ·cases h
def RQ (tm:List SV):Option Nat->SV->List SV
 | none,_=>tm
 | some d,s=>tm.set d s
def W5 (hs:List Nat) (s:SV):Prop:=∀ d,inL hs d=false->s.bG d=false/\s.bV d=false/\s.bN d=false
structure Ng (P:Program) (row:Touch) (hs:List Nat) (o:Oper) (T:St) (sv:SV) (T':St):Prop where
 tmps:T'.tmps=RQ T.tmps o.dst sv
 rest:Rest row T T'
 sound:∀ tm,(∀ x,x∈o.op.operands->(T.wt tm).ev x=T.ev x)->(∀ s,s∈tm->s∈T.tmps\/W5 hs s)->gY P o (T.wt tm) (T'.wt (RQ tm o.dst sv))
theorem Y4 {o:Oper} {S:St} {k:St->Option β} {r:β} {args:Array Operand} {argTypes:Array TypeId} (ho:o.op= .call { callee:= .builtin .append,args,argTypes }) (h:dV X o S k=some r): ∃ d S',o.dst=some d/\k S'=some r/\S'.tmps=S.tmps.set d (.v false [.row d])/\S'.boxes=S.boxes/\S.bG d=false/\ ∀ tm,(∀ x,x∈o.op.operands->(S.wt tm).ev x=S.ev x)->(S.wt tm).bG d=false->dV X o (S.wt tm) some=some (S'.wt (tm.set d (.v false [.row d]))):=by
 obtain⟨dst,op,ty0,pos,af,g⟩:=o
 simp only at ho
 subst ho
 simp only[dV] at h
 split at h
 ·rename_i s x t t' d he hty
  split at h
  ·rename_i e ht
   split at h
   ·rename_i ty zc htyo hzc
    split at h
    ·cases h
    ·rename_i hc
     split at h
     ·rename_i l j l' hsrc hnew
      obtain⟨hchk,h⟩:=lg h
      have hc':=hc
      simp only[ahf,aj4,aha,ag9] at hc'
      refine⟨d,_,rfl,h,rfl,rfl,hc'.1.1.1.1.1,fun tm hev hfr=> ?_⟩
      have hmap:args.toList.map (S.wt tm).ev=args.toList.map S.ev:=aiu fun y hy=>hev y (by simpa [Op.operands,Call.operands] using hy)
      simp only[dV]
      rw[hmap,he,hty]
      simp only
      rw[ht]
      simp only
      rw[htyo,hzc]
      simp only
      rw[ajY (by
       simp only[ahf,aj4,aha,ag9]
       exact⟨⟨⟨⟨⟨hfr,hc'.1.1.1.1.2⟩,hc'.1.1.1.2⟩,hc'.1.1.2⟩,hc'.1.2⟩,hc'.2⟩)]
      rw[show Si (S.wt tm) e ty s=Si S e ty s from rfl,show Nt (S.wt tm) ty x=Nt S ty x from rfl,hsrc,hnew]
      simp only
      rw[hchk]
      rfl
     ·cases h
   ·cases h
  ·cases h
 ·cases h
theorem adn {T:St} {tm:List SV} {hs:List Nat} {d:Nat} (h:T.bG d=false) (hd:inL hs d=false) (htm:∀ s,s∈tm->s∈T.tmps\/W5 hs s):(T.wt tm).bG d=false:=by
 simp only[St.bG,ahe,ahJ] at h ⊢
 refine⟨fun s hs'=> ?_,h.2⟩
 rcases htm s hs' with h1 | h1
 ·exact h.1 s h1
 ·simp[(h1 d hd).1]
theorem Yd {op:Op} (h:BP op=true):∃ args argTypes,op= .call { callee:= .builtin .append,args,argTypes }:=by
 unfold BP at h
 split at h
 ·exact⟨_,_,rfl⟩
 ·cases h
theorem XR {S:St} {tm:List SV}:∀ l:List Nat,SL (S.wt tm) l=SL S l
 | []=>rfl
 | k::r=>by
  simp only[SL]
  rw[XR r]
  rfl
theorem Nz {S:St} {tm:List SV}:∀ l:List Nat,Cd (S.wt tm) l=Cd S l
 | []=>rfl
 | k::r=>by
  simp only[Cd]
  rw[Nz r]
  rfl
theorem Yn {S:St} {tm:List SV} (l:List SV):mB (S.wt tm) l=mB S l:=by
 unfold mB
 rw[XR]
theorem adT {S:St} {tm:List SV} (l:List SV):iK (S.wt tm) l=iK S l:=by
 unfold iK
 rw[Yn,Nz]
theorem L7 {S T:St} {fb:List Nat} (hr:T.rows=S.rows) (hb:T.boxes=S.boxes):∀ {ps:List PM} {l:List SV},nU ps=true->lQ T fb ps l=lQ S fb ps l
 | [],[],_=>rfl
 | [],_::_,_=>rfl
 | .val t::r,l,h=>by
  simp only[lQ,Cn]
  have e:∀ s,pG T fb t s=pG S fb t s:=fun s=>by
   have hp:∀ (t:Ty) (cs:List CV),jd T fb t cs=jd S fb t cs:=vI hr hb
   unfold pG
   simp only[hp]
  simp only[e]
  rw[L7 (ps:=r) hr hb (by simpa [nU] using h)]
 | .row e t::r,l,h=>by
  simp only[lQ,Cn]
  have e:∀ c,mH T e t c=mH S e t c:=fun c=>by
   unfold mH
   rw[hr]
  simp only[e]
  rw[L7 (ps:=r) hr hb (by simpa [nU] using h)]
 | .mrow _ _::_,_,h=>by cases h
 | .map _ _::_,_,h=>by cases h
 | .box _::_,_,h=>by cases h
 | .ar _::_,_,h=>by cases h
 | .arR _::_,_,h=>by cases h
theorem L5 {S T:St}:∀ {ps:List PM} {i:Nat} {l:List SV},nU ps=true->iM T i ps l=iM S i ps l
 | [],_,_,_=>rfl
 | .val t::r,i,l,h=>by
  simp only[iM,nO]
  rw[L5 (ps:=r) (S:=S) (by simpa [nU] using h)]
 | .row e t::r,i,l,h=>by
  simp only[iM,nO]
  rw[L5 (ps:=r) (S:=S) (by simpa [nU] using h)]
 | .mrow _ _::_,_,_,h=>by cases h
 | .map _ _::_,_,_,h=>by cases h
 | .box _::_,_,_,h=>by cases h
 | .ar _::_,_,_,h=>by cases h
 | .arR _::_,_,_,h=>by cases h
theorem FZ {l l':List (bE×Nat)} {x:bE} (h:cq l x=none) (h':cq l' x=none):cq (l++l') x=none:=by
 induction l with
 | nil=>exact h'
 | cons p r ih=>
  obtain⟨o,n⟩:=p
  simp only[cq,ahN] at h ⊢
  cases hb:bE.beq o x with
  | true=>rw[hb] at h;cases h
  | false=>rw[hb] at h;exact ih h
theorem acO {n k:Nat} {c:CV}:cq (s7 n c) (.inl k)=none:=by
 cases c<;>rfl
theorem L4 {S:St} {k:Nat}:∀ {ps:List PM} {i:Nat} {l:List SV},nU ps=true->cq (iM S i ps l) (.inl k)=none
 | [],_,_,_=>rfl
 | .val t::r,i,l,h=>by
  simp only[iM,nO]
  refine FZ ?_ (L4 (by simpa [nU] using h))
  split<;>rfl
 | .row e t::r,i,l,h=>by
  simp only[iM,nO]
  refine FZ ?_ (L4 (by simpa [nU] using h))
  split
  ·split
   ·exact acO
   ·rfl
  ·rfl
 | .mrow _ _::_,_,_,h=>by cases h
 | .map _ _::_,_,_,h=>by cases h
 | .box _::_,_,_,h=>by cases h
 | .ar _::_,_,_,h=>by cases h
 | .arR _::_,_,_,h=>by cases h
theorem Nw {d:Nat}:∀ {ps:List PM} {i:Nat} {l:List SV},nU ps=true->di d i ps l=[]
 | [],_,_,_=>rfl
 | .val t::r,i,s::l,h=>by simp only[di];exact Nw (by simpa [nU] using h)
 | .val t::r,i,[],h=>rfl
 | .row e t::r,i,s::l,h=>by simp only[di];exact Nw (by simpa [nU] using h)
 | .row e t::r,i,[],h=>rfl
 | .mrow _ _::_,_,_,h=>by cases h
 | .map _ _::_,_,_,h=>by cases h
 | .box _::_,_,_,h=>by cases h
 | .ar _::_,_,_,h=>by cases h
 | .arR _::_,_,_,h=>by cases h
theorem Jb {d:Nat}:∀ {ps:List PM} {i:Nat} {l:List SV} {x:ia ps},nU ps=true->fN d i ps l x=[]
 | [],_,_,_,_=>rfl
 | .val t::r,i,s::l,x,h=>by simp only[fN];exact Jb (by simpa [nU] using h)
 | .val t::r,i,[],x,h=>rfl
 | .row e t::r,i,s::l,x,h=>by simp only[fN];exact Jb (by simpa [nU] using h)
 | .row e t::r,i,[],x,h=>rfl
 | .mrow _ _::_,_,_,_,h=>by cases h
 | .map _ _::_,_,_,_,h=>by cases h
 | .box _::_,_,_,_,h=>by cases h
 | .ar _::_,_,_,_,h=>by cases h
 | .arR _::_,_,_,_,h=>by cases h
theorem Qx {S:St} {ps:List PM} {i:Nat} {l:List SV} (h:nU ps=true):∀ b:List (Nat×List CV),(b.filter fun p=>(cq (iM S i ps l) (.inl p.1)).isNone)=b
 | []=>rfl
 | p::r=>by
  rw[List.filter_cons,L4 h,Qx h r]
  rfl
theorem XA {sp:ay} {S:St} {args:List SV} {d:Nat} {k:St->Option β} {r:β} (h1:nU sp.ps=true) (h2:aa6 sp.rs=true) (h:u6 sp S args (some d) k=some r): ∃ S',k S'=some r/\S'.tmps=S.tmps.set d (.v false [.row (nid d 24 0)])/\S'.boxes=S.boxes/\S.ni (nid d 0 0) (nid (d+1) 0 0)=false/\ ∀ tm,(S.wt tm).ni (nid d 0 0) (nid (d+1) 0 0)=false->u6 sp (S.wt tm) args (some d) some=some (S'.wt (tm.set d (.v false [.row (nid d 24 0)]))):=by
 obtain⟨ps,rs,m⟩:=sp
 simp only at h1 h2
 match rs,m,h2,h with
 | [.row e t],m,_,h=>
  unfold u6 at h
  simp only[ajB] at h
  split at h
  ·cases h
  ·rename_i hc
   have hc':=hc
   simp only[ahf,aj4,aha] at hc'
   obtain⟨⟨⟨⟨⟨⟨⟨⟨⟨⟨⟨⟨c1,c2⟩,c3⟩,c4⟩,c5⟩,c6⟩,c7⟩,c8⟩,c9⟩,c10⟩,c11⟩,c12⟩,c13⟩:=hc'
   split at h
   ·rename_i x hx
    obtain⟨y,hy,h⟩:=bind_some h
    have hfr:S.ni (nid d 0 0) (nid (d+1) 0 0)=false:=by simpa [Ht] using c8
    refine⟨_,h,rfl, ?_,hfr,fun tm htm=> ?_⟩
    ·show xu ps d [RM.row e t] 0 y++(fN d 0 ps args _++S.boxes.filter _)=S.boxes
     rw[Jb h1,Qx h1]
     rfl
    ·unfold u6
     simp only[ajB]
     rw[adT,Yn,L5 (T:=S.wt tm) (S:=S) h1]
     rw[ajY (by
      simp only[ahf,aj4,aha]
      refine⟨⟨⟨⟨⟨⟨⟨⟨⟨⟨⟨⟨c1,c2⟩,c3⟩,c4⟩,c5⟩,c6⟩,c7⟩, ?_⟩,c9⟩, ?_⟩,c11⟩, ?_⟩,c13⟩
      ·simpa [Ht] using htm
      ·rw[Nw h1];rfl
      ·rfl)]
     rw[show lQ (aX (S.wt tm) (iK S (mX ps args))) (mB S (mX ps args)) ps args=lQ (aX S (iK S (mX ps args))) (mB S (mX ps args)) ps args from L7 (T:=aX (S.wt tm) (iK S (mX ps args))) (S:=aX S (iK S (mX ps args))) rfl rfl h1]
     rw[hx]
     simp only
     rw[hy]
     simp only[ajA]
     congr 1
     cases hfl:(mV [RM.row e t]&&lF ps)<;>rfl
   ·cases h
theorem adW {op:Op} (h:Ko X op=true):∃ g sp args argTypes,op= .call { callee:= .value (.func g),args,argTypes }/\look X.keys g=none/\Ag X.specs g=[sp]/\nU sp.ps=true/\aa6 sp.rs=true:=by
 unfold Ko at h
 split at h
 ·rename_i c
  split at h
  ·rename_i g hg
   split at h
   ·rename_i hk
    split at h
    ·rename_i sp hsp
     simp only[ag1] at h
     obtain⟨callee,args,argTypes⟩:=c
     simp only at hg
     subst hg
     exact⟨g,sp,args,argTypes,rfl,hk,hsp,h.1,h.2.2⟩
    ·cases h
   ·cases h
  ·cases h
 ·cases h
theorem acA {o:Oper} {S:St} {k:St->Option β} {r:β} {d:Nat} (hop:Ko X o.op=true) (hd:o.dst=some d) (h:dV X o S k=some r): ∃ S',k S'=some r/\S'.tmps=S.tmps.set d (.v false [.row (nid d 24 0)])/\S'.boxes=S.boxes/\S.ni (nid d 0 0) (nid (d+1) 0 0)=false/\ ∀ tm,(∀ x,x∈o.op.operands->(S.wt tm).ev x=S.ev x)->(S.wt tm).ni (nid d 0 0) (nid (d+1) 0 0)=false->dV X o (S.wt tm) some=some (S'.wt (tm.set d (.v false [.row (nid d 24 0)]))):=by
 obtain⟨g,sp,args,argTypes,hop,hk,hsp,h1,h2⟩:=adW hop
 obtain⟨dst,op,ty0,pos,af,gd⟩:=o
 simp only at hop hd
 subst hop;subst hd
 have hcal:∀ T:St,fL T { callee:= .value (.func g),args,argTypes }=some (g,args.toList.map T.ev++[]):=fun T=>rfl
 simp only[dV] at h
 rw[hcal] at h
 simp only at h
 rw[hk] at h
 simp only at h
 rw[hsp] at h
 simp only[D7] at h
 obtain⟨S',a1,a2,a3,a4,a5⟩:=XA h1 h2 h
 refine⟨S',a1,a2,a3,a4,fun tm hev hfr=> ?_⟩
 have hmap:args.toList.map (S.wt tm).ev=args.toList.map S.ev:=aiu fun y hy=>hev y (by simp[Op.operands,Call.operands];exact .inr (by simpa using hy))
 simp only[dV]
 rw[hcal]
 simp only
 rw[hk]
 simp only
 rw[hsp]
 simp only[D7]
 rw[hmap]
 exact a5 tm hfr
theorem adH {a b:Nat} {s:SV} (h:∀ j,a<=j->j<b->s.bG j=false/\s.bV j=false/\s.bN j=false):s.ni a b=false:=by
 have key:∀ (j:Nat),(Nat.ble a j&&Nat.blt j b)=true->a<=j/\j<b:=fun j hj=>by
  simp only[ag1] at hj
  exact⟨aja hj.1,ajh (ajl _) (aja hj.2)⟩
 have cv:∀ c:CV,c.ni a b=true->∃ j,a<=j/\j<b/\(c.bG j=true\/c.bV j=true\/c.bN j=true):=fun c hc=>by
  cases c<;>simp only[CV.ni] at hc<;>first
   | cases hc
   | (obtain⟨h1,h2⟩:=key _ hc
      refine⟨_,h1,h2, ?_⟩
      simp[CV.bG,CV.bV,CV.bN])
 cases hb:s.ni a b with
 | false=>rfl
 | true=>
  exfalso
  cases s with
  | v g cs=>
   simp only[SV.ni,ahK] at hb
   obtain⟨c,hc,hi⟩:=hb
   obtain⟨j,h1,h2,h3⟩:=cv c hi
   have h4:=h j h1 h2
   simp only[SV.bG,SV.bV,SV.bN,ahJ] at h4
   rcases h3 with h3 | h3 | h3
   ·exact h4.1 c hc h3
   ·exact h4.2.1 c hc h3
   ·exact h4.2.2 c hc h3
  | tup l=>
   simp only[SV.ni,ahK] at hb
   obtain⟨p,hp,c,hc,hi⟩:=hb
   obtain⟨j,h1,h2,h3⟩:=cv c hi
   have h4:=h j h1 h2
   simp only[SV.bG,SV.bV,SV.bN,ahJ,ahK,aj2,aj1] at h4
   rcases h3 with h3 | h3 | h3
   ·exact h4.1 p hp c hc h3
   ·exact h4.2.1 p hp c hc h3
   ·exact h4.2.2 p hp c hc h3
theorem afy {T:St} {tm:List SV} {hs:List Nat} {d:Nat} (h:T.ni (nid d 0 0) (nid (d+1) 0 0)=false) (hd:Pn hs d=true) (htm:∀ s,s∈tm->s∈T.tmps\/W5 hs s):(T.wt tm).ni (nid d 0 0) (nid (d+1) 0 0)=false:=by
 simp only[St.ni,ahe,ahJ] at h ⊢
 refine⟨fun s hs'=> ?_,h.2⟩
 rcases htm s hs' with h1 | h1
 ·exact h.1 s h1
 ·rw[adH fun j hj1 hj2=>h1 j (by
   cases hb:inL hs j with
   | false=>rfl
   | true=>
    exfalso
    simp only[inL,ahK] at hb
    obtain⟨q,hq,hqj⟩:=hb
    simp only[Pn,ahH] at hd
    have this:j=q:=ai8 hqj
    subst this
    have h2:=hd j hq
    have e1:Nat.ble (nid d 0 0) j=true:=Nat.ble_eq_true_of_le hj1
    have e2:Nat.blt j (nid (d+1) 0 0)=true:=by simpa using hj2
    rw[e1,e2] at h2
    cases h2)]
  simp
theorem KA (hX:cD X) {ops:List Oper} {S0:St} {hs:List Nat}:∀ {l:List Oper} {S:St} {k:St->Option β} {r:β},zz X ops S0 hs l S k=some r-> ∃ (T:Nat->St) (sv:Nat->SV),T 0=S/\k (T l.length)=some r/\∀ i o,l[i]? =some o->Ng X.P (eY (isApp X) ops S0 [o]) hs o (T i) (sv i) (T (i+1))
 | [],S,k,r,h=>⟨fun _=>S,fun _=>wU,rfl,h,fun i o hi=>by simp at hi⟩
 | o::l,S,k,r,h=>by
  have cons:∀ (s:SV) (S':St),Ng X.P (eY (isApp X) ops S0 [o]) hs o S s S'->zz X ops S0 hs l S' k=some r->∃ (T:Nat->St) (sv:Nat->SV),T 0=S/\k (T (o::l).length)=some r/\∀ i o',(o::l)[i]? =some o'->Ng X.P (eY (isApp X) ops S0 [o']) hs o' (T i) (sv i) (T (i+1)):=by
   intro s S' hs hr
   obtain⟨T,sv,h1,h2,h3⟩:=KA hX hr
   refine⟨fun i=>match i with | 0=>S | i+1=>T i,fun i=>match i with | 0=>s | i+1=>sv i,rfl,h2,fun i o' hi=> ?_⟩
   cases i with
   | zero=>
    simp only[ah6,Option.some.injEq] at hi
    subst hi
    show Ng X.P (eY (isApp X) ops S0 [o]) _ o S s (T 0)
    rw[h1];exact hs
   | succ i=>exact h3 i o' (by simpa using hi)
  simp only[zz] at h
  split at h
  ·rename_i ad had
   have hst:∃ t x,o.op= .store t ad x:=by
    revert had
    unfold aaC
    split
    ·rename_i t a x e;intro h';cases h';exact⟨_,_,e⟩
    ·intro h';cases h'
   obtain⟨t,x,hop⟩:=hst
   cases ha:Ud (eY (isApp X) ops S0 [o]) (S.ev ad) with
   | false=>rw[ha] at h;cases h
   | true=>
    rw[ha,ajO] at h
    obtain⟨S',h4,h5,h6⟩:=TX hop h
    have hself:=h6 S.tmps rfl rfl
    have hdst:o.dst=none:=by
     have h7:dV X o S some=some (S'.wt S.tmps):=hself
     cases hd:o.dst with
     | none=>rfl
     | some d=>
      obtain⟨dst,op,ty,pos,af,g⟩:=o
      simp only at hop hd
      subst hop;subst hd
      simp[dV] at h7
    have e:S'.wt S.tmps=S':=by rw[<- h5];rfl
    refine cons wU S' ⟨?_, ?_,fun tm hev _=> ?_⟩ h4
    ·rw[hdst,h5];rfl
    ·rw[e] at hself
     exact abr hop ha hself
    ·have hs:=h6 tm (hev ad (by simp[hop,Op.operands])) (hev x (by simp[hop,Op.operands]))
     obtain⟨S2,e2,hs2⟩:=En hX hs
     cases e2
     rw[hdst]
     exact hs2
  ·cases hap:BP o.op with
   | true=>
    rw[hap,ajO] at h
    obtain⟨args,argTypes,hop⟩:=Yd hap
    cases hd0:o.dst with
    | none=>rw[hd0] at h;simp at h
    | some d0=>
     rw[hd0] at h
     simp only at h
     cases hc:((eY (isApp X) ops S0 [o]).rt&& !inL hs d0) with
     | false=>rw[hc] at h;cases h
     | true=>
      rw[hc,ajO] at h
      obtain⟨d,S',hd,h4,h5,h6,h7,h8⟩:=Y4 hop h
      rw[hd0] at hd
      cases hd
      simp only[ag1,ahb] at hc
      refine cons (.v false [.row d0]) S' ⟨?_, ?_,fun tm hev hfr=> ?_⟩ h4
      ·rw[hd0,h5];rfl
      ·exact⟨fun e=>(by rw[hc.1] at e;cases e),fun k _=>by rw[h6]⟩
      ·have hs':=h8 tm hev (adn h7 hc.2 hfr)
       obtain⟨S2,e2,hs2⟩:=En hX hs'
       cases e2
       rw[hd0]
       exact hs2
   | false=>
    rw[hap,ajN] at h
    cases hmc:Ko X o.op with
    | true=>
     rw[hmc,ajO] at h
     cases hd0:o.dst with
     | none=>rw[hd0] at h;simp at h
     | some d0=>
      rw[hd0] at h
      simp only at h
      cases hc:((eY (isApp X) ops S0 [o]).rt&&Pn hs d0) with
      | false=>rw[hc] at h;cases h
      | true=>
       rw[hc,ajO] at h
       obtain⟨S',h4,h5,h6,h7,h8⟩:=acA hmc hd0 h
       simp only[ag1] at hc
       refine cons (.v false [.row (nid d0 24 0)]) S' ⟨?_, ?_,fun tm hev hfr=> ?_⟩ h4
       ·rw[hd0,h5];rfl
       ·exact⟨fun e=>(by rw[hc.1] at e;cases e),fun k _=>by rw[h6]⟩
       ·have hs':=h8 tm hev (afy h7 hc.2 hfr)
        obtain⟨S2,e2,hs2⟩:=En hX hs'
        cases e2
        rw[hd0]
        exact hs2
    | false=>
    rw[hmc,ajN] at h
    obtain⟨x,h1,h2,_⟩:=zf hX h
    cases hp:tO x with
    | false=>rw[hp] at h1;cases h1
    | true=>
     rw[hp,ajO] at h1
     obtain⟨p1,p2,p3⟩:=Fj hp
     have e:x=⟨x.sv,none,none,none⟩:=by cases x;simp only at p1 p2 p3;subst p1;subst p2;subst p3;rfl
     have happ:∀ T:St,T.app o.dst x=T.wt (RQ T.tmps o.dst x.sv):=fun T=>by
      rw[e];cases o.dst<;>rfl
     refine cons x.sv (S.app o.dst x) ⟨?_, ?_,fun tm hev _=> ?_⟩ h1
     ·rw[happ];rfl
     ·rw[happ];exact⟨fun _=>⟨rfl,rfl⟩,fun _ _=>rfl⟩
     ·intro C G ρ w a Q hM
      have:=h2 C G ρ (S.wt tm) w a Q hM ⟨hev,fun _ _ h=>h,fun _ _ h=>h,fun _ _ h=>h⟩ (fun d' _ h=>by rw[p1] at h;cases h) (fun d' _ h=>by rw[p2] at h;cases h) (fun d' _ h=>by rw[p3] at h;cases h)
      rw[happ] at this ⊢
      exact this
theorem Qv {t i:Nat} {m:Msk} {ds:List Msk}:∀ {l:List (Option Nat)} {c:Nat},Kb t i m ds l c=true->∀ {k:Nat},l[k]? =some (some t)->c+k∈m\/i∈ds.getD (c+k) m0
 | [],_,_,_,h=>by simp at h
 | d::r,c,h,0,hk=>by
  simp only[Kb,ag1] at h
  have:d=some t:=by simpa using hk
  subst this
  have h1:=h.1
  simp only[Nat.beq_refl,ahd,ag8,ahf] at h1
  exact h1.imp sw.1 sw.1
 | d::r,c,h,k+1,hk=>by
  simp only[Kb,ag1] at h
  have:=Qv h.2 (k:=k) (by simpa using hk)
  rw[show c+(k+1)=c+1+k by omega]
  exact this
section
variable {ops:List Oper} {m n:Nat} {S Sn:St} {listed:Array Bool} {outs:List (Option Del)}
theorem dh.keep (K:dh X ops m S outs Sn):(∀ k cs,look S.boxes k=some cs->look Sn.boxes k=some cs)/\(∀ k q,look S.rows k=some q->look Sn.rows k=some q)/\(∀ k q,look S.objs k=some q->look Sn.objs k=some q):=by
 have nolook:∀ k,(look S.boxes k).isSome=true\/(look S.rows k).isSome=true\/(look S.objs k).isSome=true->look Sn.boxes k=look S.boxes k/\look Sn.rows k=look S.rows k/\look Sn.objs k=look S.objs k:=fun k hk=>by
  have hnd:∀ j,j<m->cA ops j≠some k:=fun j hj hdj=>by
   obtain⟨_,m3,m4,m5,_⟩:=K.new j k hj hdj
   rcases hk with hk | hk | hk
   ·rw[m3] at hk;cases hk
   ·rw[m4] at hk;cases hk
   ·rw[m5] at hk;cases hk
  have:k∉iF (ops.take m):=fun hm=>by
   simp only[iF,aiC] at hm
   obtain⟨p,hp,hpd⟩:=hm
   obtain⟨j,hj⟩:=aiD.1 hp
   have hmn:j<m:=by
    have:=(aia.1 hj).1
    simp at this;omega
   rw[dx hmn] at hj
   exact hnd j hmn (by unfold cA;rw[hj];exact hpd)
  rw[K.sn]
  exact (fU this).2
 exact⟨fun k cs hk=>by rw[(nolook k (.inl (by rw[hk];rfl))).1];exact hk,fun k q hk=>by rw[(nolook k (.inr (.inl (by rw[hk];rfl)))).2.1];exact hk,
  fun k q hk=>by rw[(nolook k (.inr (.inr (by rw[hk];rfl)))).2.2];exact hk⟩
def Ca (a b:Touch):Prop:=(b.rt=false->a.rt=false)/\∀ k,rz b k=true->rz a k=true
structure Bn (X:Cx) (ops:List Oper) (m n:Nat) (S:St) (outs:List (Option Del)) (Sn:St) (tf:Nat->Touch) (t1:Oper->Touch) (T:Nat->St) (sv:Nat->SV):Prop where
 lt:m<n
 le:n<=ops.length
 t0:T 0=Sn
 step:∀ c o,m+c<n->ops[m+c]? =some o->Ng X.P (t1 o) S.ids o (T c) (sv c) (T (c+1))
 cover:∀ i c o,i<m->m+c<n->ops[m+c]? =some o->i∉(deps ops).getD (m+c) m0->Ca (t1 o) (tf i)
 late:∀ i o,i<m->ops[i]? =some o->i∉(deps ops).getD m m0->∀ y,outs[i]? =some (some y)->eo X.P o (states ((ops.take m).take i) S (outs.take i)) (eX (tf i) S) y/\tO y=true
 guard:∀ i o,m<=i->i<n->ops[i]? =some o->o.guard=none
 wait:∀ i j,m<=j->j<i->i<n->j∈(deps ops).getD i m0
 looks:∀ i o,i<n->ops[i]? =some o->∀ t,t∈o.looksAt ops.toArray->∀ j,j<n->cA ops j=some t->j∈(deps ops).getD i m0\/i∈(deps ops).getD j m0
 uniq:∀ i j d,i<n->j<n->cA ops i=some d->cA ops j=some d->i=j
variable {tf:Nat->Touch} {t1:Oper->Touch} {T:Nat->St} {sv:Nat->SV}
theorem Bn.len (Z:Bn X ops m n S outs Sn tf t1 T sv) (K:dh X ops m S outs Sn):∀ c,m+c<=n->(T c).tmps.length=S.tmps.length
 | 0,_=>by rw[Z.t0,K.Bc]
 | c+1,h=>by
  have hlt:m+c<ops.length:=by have:=Z.le;omega
  have hs:=(Z.step c _ (by omega) (ah8 hlt)).tmps
  rw[hs]
  have:=Z.len K c (by omega)
  cases (ops[m+c]).dst<;>simp[RQ,this]
theorem Bn.other (Z:Bn X ops m n S outs Sn tf t1 T sv):∀ c,m+c<=n->∀ t,(∀ j,m<=j->j<m+c->cA ops j≠some t)->(T c).tmps[t]? =Sn.tmps[t]?
 | 0,_,t,_=>by rw[Z.t0]
 | c+1,h,t,ht=>by
  have hlt:m+c<ops.length:=by have:=Z.le;omega
  have hs:=(Z.step c _ (by omega) (ah8 hlt)).tmps
  rw[hs, <- Z.other c (by omega) t (fun j h1 h2=>ht j h1 (by omega))]
  cases hd:(ops[m+c]).dst with
  | none=>rfl
  | some d=>
   have hne:d≠t:=fun e=>ht (m+c) (by omega) (by omega) (by unfold cA;rw[ah8 hlt];simp[hd,e])
   exact aif hne
theorem Bn.mem (Z:Bn X ops m n S outs Sn tf t1 T sv) {i:Nat} (hi:i<m):∀ c,m+c<=n->(∀ j,m<=j->j<m+c->i∉(deps ops).getD j m0)->Rest (tf i) Sn (T c)
 | 0,_,_=>by rw[Z.t0];exact⟨fun _=>⟨rfl,rfl⟩,fun _ _=>rfl⟩
 | c+1,h,hnd=>by
  have hlt:m+c<ops.length:=by have:=Z.le;omega
  have hs:=(Z.step c _ (by omega) (ah8 hlt)).rest
  have hle:=Z.cover i c _ hi (by omega) (ah8 hlt) (hnd (m+c) (by omega) (by omega))
  have ih:=Z.mem hi c (by omega) (fun j h1 h2=>hnd j h1 (by omega))
  exact⟨fun e=>⟨(hs.1 (hle.1 e)).1.trans (ih.1 e).1,(hs.1 (hle.1 e)).2.trans (ih.1 e).2⟩,fun k hk=>(hs.2 k (hle.2 k hk)).trans (ih.2 k hk)⟩
theorem Bn.near (Z:Bn X ops m n S outs Sn tf t1 T sv) (K:dh X ops m S outs Sn) {i:Nat} (hi:i<m) (c:Nat) (hc:m+c<=n) (hnd:∀ j,m<=j->j<m+c->i∉(deps ops).getD j m0) {N:St} (h1:N.boxes=(T c).boxes) (h2:N.rows=(T c).rows) (h3:N.objs=(T c).objs): (∀ k cs,look (eX (tf i) S).boxes k=some cs->look N.boxes k=some cs)/\(∀ k q,look (eX (tf i) S).rows k=some q->look N.rows k=some q)/\(∀ k q,look (eX (tf i) S).objs k=some q->look N.objs k=some q):=by
 have hm:=Z.mem hi c hc hnd
 obtain⟨k1,k2,k3⟩:=K.keep
 obtain⟨r1,r2,r3⟩:=EM (tf i) S
 exact⟨fun k cs hk=>by rw[h1,hm.2 k (r1 k cs hk).1];exact k1 k cs (r1 k cs hk).2,fun k q hk=>by rw[h2,(hm.1 (r2 k q hk).1).1];exact k2 k q (r2 k q hk).2,fun k q hk=>by rw[h3,(hm.1 (r3 k q hk).1).2];exact k3 k q (r3 k q hk).2⟩
def CN {P0:Program} (C:Fr P0) (G:Gh) (ρ:Env) (ops:List Oper) (m:Nat) (S Sn:St) (T:Nat->St) (c:Nat) (listed:Array Bool) (w:World) (a:Act):Prop:=
 if c=0 then Mod C G ρ (aW S Sn (aH ops m listed)) w a else Mod C G ρ ((T c).wt (aW S (T c) (aH ops m listed)).tmps) w a
theorem Bn.started (Z:Bn X ops m n S outs Sn tf t1 T sv) (K:dh X ops m S outs Sn) {c:Nat} {a:Act} (hdone:∀ j,j∈(deps ops).getD m m0->listed.getD j true=true) (hM:CN C G ρ ops m S Sn T c listed w a): Mod C G ρ ((T c).wt (aW S (T c) (aH ops m listed)).tmps) w a:=by
 unfold CN at hM
 by_cases e:c=0
 ·subst e
  rw[ajZ rfl] at hM
  rw[Z.t0]
  have hunb:∀ t,aH ops m listed t=true->look Sn.boxes t=none/\look Sn.rows t=none/\look Sn.objs t=none:=fun t hu=>by
   obtain⟨j,h1,h2,h3⟩:=eS.1 hu
   obtain⟨oj,h4,h5⟩:=mu h3
   have hnd:j∉(deps ops).getD m m0:=fun hmem=>by
    have:=hdone j hmem
    rw[h2] at this;cases this
   obtain⟨x,hx⟩:∃ x,outs[j]? =some x:=⟨outs[j]'(by rw[K.len];exact h1),ah8 _⟩
   have hp:Da x=none/\Cm x=none/\Ff x=none:=by
    cases x with
    | none=>exact⟨rfl,rfl,rfl⟩
    | some y=>exact Fj (Z.late j oj h1 h4 hnd y hx).2
   obtain⟨_,n3,n4,n5,_⟩:=K.new j t h1 h3
   have hat:=zN (S:=S) (outs:=outs) (by rw[K.len,ais,ajn K.n_le]) K.dupl (i:=j) (o:=oj) (x:=x) (by rw[dx h1];exact h4) hx h5
   rw[<- K.sn] at hat
   refine⟨?_, ?_, ?_⟩
   ·rw[hat.2.1,n3,hp.1];rfl
   ·rw[hat.2.2.1,n4,hp.2.1];rfl
   ·rw[hat.2.2.2,n5,hp.2.2];rfl
  refine hM.equiv rfl (fun k cs hk=> ?_) (fun k q hk=> ?_) (fun k q hk=> ?_)
  ·simp only[aW,bS]
   cases hu:aH ops m listed k with
   | true=>rw[show look (Sn.wt (aW S Sn (aH ops m listed)).tmps).boxes k=look Sn.boxes k from rfl,(hunb k hu).1] at hk;cases hk
   | false=>exact hk
  ·simp only[aW,bS]
   cases hu:aH ops m listed k with
   | true=>rw[show look (Sn.wt (aW S Sn (aH ops m listed)).tmps).rows k=look Sn.rows k from rfl,(hunb k hu).2.1] at hk;cases hk
   | false=>exact hk
  ·simp only[aW,bS]
   cases hu:aH ops m listed k with
   | true=>rw[show look (Sn.wt (aW S Sn (aH ops m listed)).tmps).objs k=look Sn.objs k from rfl,(hunb k hu).2.2] at hk;cases hk
   | false=>exact hk
 ·rw[ajY e] at hM;exact hM
theorem dh.spine (K:dh X ops m S outs Sn) (Z:Bn X ops m n S outs Sn tf t1 T sv) (hwaits:∀ k,n<=k->k<ops.length->∀ j,j<k->j∈(deps ops).getD k m0) {Q:Exit->Act->World->Prop} (hseq:Region.seqB .any ops.toArray (ops.length - n) n (mask n ops.length)=true) (htail:∀ G ρ w a,Mod C G ρ (T (n - m)) w a->wpList X.P ops.toArray Q (ops.drop n) a w):∀ (u c:Nat) (listed:Array Bool) (a:Act) (w:World) (G:Gh) (ρ:Env),m+c<=n->listed.size=ops.length->yP ops listed-> (∀ k,m<=k->k<m+c->listed.getD k true=true)->(∀ k,m+c<=k->k<ops.length->listed.getD k true=false)->(List.range n).countP (fun i=> !listed.getD i true)=u->CN C G ρ ops m S Sn T c listed w a->wpAny X.P .any ops.toArray Q (u+(ops.length - n)) listed a w:=by
 have hmn:=Z.lt
 have hnl:=Z.le
 intro u
 induction u with
 | zero=>
  intro c listed a w G ρ hc hsz hcl hdn htl hcnt hM
  have hall:∀ i,i<n->listed.getD i true=true:=fun i hi=>by
   rw[ahO] at hcnt
   have:=hcnt i (by simpa using hi)
   simpa using this
  have ec:c=n - m:=by
   by_cases h:m+c<n
   ·have:=htl (m+c) (ajc _) (by omega)
    rw[hall (m+c) h] at this;cases this
   ·omega
  have hU:∀ t,aH ops m listed t=false:=fun t=>by
   cases hu:aH ops m listed t with
   | false=>rfl
   | true=>obtain⟨j,h1,h2,_⟩:=eS.1 hu;rw[hall j (by omega)] at h2;cases h2
  have hMn:Mod C G ρ (T (n - m)) w a:=by
   unfold CN at hM
   rw[ajY (by omega),ec] at hM
   refine hM.equiv ?_ (fun k cs hk=>hk) (fun k q hk=>hk) (fun k q hk=>hk)
   show (aW S (T (n - m)) (aH ops m listed)).tmps=_
   apply ahW
   intro t
   rw[fR,hU t]
   have hl:=Z.len K (n - m) (by omega)
   by_cases hlt:t<S.tmps.length
   ·have:t<(T (n - m)).tmps.length:=by rw[hl];exact hlt
    simp[hlt,this]
   ·rw[ajY hlt,ah9 (by omega)]
  have hmask:=Px (n:=n) hsz hnl hall (fun i h1 h2=>htl i (by omega) h2)
  have hl:(ops.drop n).length=ops.length - n:=by simp
  have:=wpAny_of_seq (P:=X.P) (md:= .any) (ops:=ops.toArray) (Q':=Q) (ops.drop n) n listed a w (fun j=>by simp[ah7]) (by rw[hl,hmask];exact hseq) (htail G ρ w a hMn)
  rw[hl] at this
  rw[ajx]
  exact this
 | succ u ih=>
  intro c listed a w G ρ hc hsz hcl hdn htl hcnt hM
  have hsome:∃ i,i<n/\listed.getD i true=false:=by
   have:0<(List.range n).countP (fun i=> !listed.getD i true):=by omega
   rw[ahP] at this
   obtain⟨i,h1,h2⟩:=this
   exact⟨i,by simpa using h1,by simpa using h2⟩
  rw[show u+1+(ops.length - n)=(u+(ops.length - n))+1 by omega]
  refine⟨fun hr=> ?_,fun i hi=> ?_⟩
  ·exfalso
   have hall:∀ i,i<n->listed.getD i true=true:=by
    intro i
    induction i using Nat.strongRecOn with
    | _ i ihi=>
     intro hin
     cases hl:listed.getD i true with
     | true=>rfl
     | false=>
      exfalso
      have hlt:i<ops.length:=by omega
      have hoi:ops[i]? =some ops[i]:=ah8 hlt
      have:i∈Region.ready .any ops.toArray listed:=by
       rw[mem_ready]
       refine⟨hl,ops[i],by simp,fun e he hb=> ?_⟩
       have hE:=K.edges
       simp only[oE,ahH] at hE
       have h7:=hE i (by simp;exact hlt)
       rw[hoi] at h7
       simp only[ahH] at h7
       have h8:=h7 e (by simpa using he)
       simp only[hb,ahd,ag8] at h8
       have h9:e.on<i:=ajh (ajl _) (aja h8)
       have h10:=ihi e.on h9 (by omega)
       rw[agO] at h10 ⊢
       rw[agP (by omega)] at h10 ⊢
       simpa using h10
      rw[hr] at this
      cases this
   obtain⟨i,h1,h2⟩:=hsome
   rw[hall i h1] at h2;cases h2
  ·rw[mem_ready] at hi
   obtain⟨hun,o,hio,hed⟩:=hi
   have hoi:ops[i]? =some o:=by simpa using hio
   have hed':∀ e,e∈o.after.toList->Region.binds .any e=true->listed.getD e.on false=true:=fun e he hb=>hed e (by simpa using he) hb
   have hlt:i<ops.length:=(aia.1 hoi).1
   have hdeps:=fC K.edges hcl i o hoi hed'
   by_cases hin:i<n
   ·-- what the next round asks for
    have cl':yP ops (listed.setIfInBounds i true):=by
     intro j oj hj hlj e he hb
     by_cases eji:j=i
     ·subst eji
      rw[hoi] at hj
      cases hj
      have:=hed' e he hb
      by_cases e2:e.on=j
      ·rw[e2];exact cW (by omega)
      ·rw[bA e2];exact this
     ·rw[bA eji] at hlj
      have:=hcl j oj hj hlj e he hb
      by_cases e2:e.on=i
      ·rw[e2];exact cW (by omega)
      ·rw[bA e2];exact this
    have cnt':(List.range n).countP (fun j=> !(listed.setIfInBounds i true).getD j true)=u:=by
     have:=CU (p:=fun j=> !listed.getD j true) (q:=fun j=> !(listed.setIfInBounds i true).getD j true) (i:=i) (l:=List.range n) List.nodup_range (by simpa using hin) (by simp[hun]) (fun j=>by
      by_cases e:j=i
      ·subst e;simp only[cW (listed:=listed) (b:=true) (by omega:j<listed.size)];simp
      ·simp only[bA (listed:=listed) (b:=true) e];simp[e])
     omega
    by_cases him:i<m
    ·have dn':∀ k,m<=k->k<m+c->(listed.setIfInBounds i true).getD k true=true:=fun k h1 h2=>by
      rw[bA (by omega)];exact hdn k h1 h2
     have tl':∀ k,m+c<=k->k<ops.length->(listed.setIfInBounds i true).getD k true=false:=fun k h1 h2=>by
      rw[bA (by omega)];exact htl k h1 h2
     have go:∀ G' ρ' w' a',CN C G' ρ' ops m S Sn T c (listed.setIfInBounds i true) w' a'->wpAny X.P .any ops.toArray Q (u+(ops.length - n)) (listed.setIfInBounds i true) a' w':=
      fun G' ρ' w' a' hM'=>ih c (listed.setIfInBounds i true) a' w' G' ρ' hc (by simpa using hsz) cl' dn' tl' cnt' hM'
     by_cases ec:c=0
     ·unfold CN at hM
      rw[ajZ ec] at hM
      refine K.wpOp him hoi hsz hcl hun hed' hM (fun G' ρ' w' a' hM'=>go G' ρ' w' a' ?_)
      unfold CN
      rw[ajZ ec]
      exact hM'
     ·unfold CN at hM
      rw[ajY ec] at hM
      have hom:ops[m]? =some ops[m]:=ah8 (by omega)
      have hlm:=hdn m (ajc m) (by omega)
      have hnd:i∉(deps ops).getD m m0:=fun hmem=>by
       have:=fC K.edges hcl m _ hom (fun e h1 h2=>hcl m _ hom hlm e h1 h2) i hmem
       rw[hun] at this;cases this
      obtain⟨x,hx⟩:∃ x,outs[i]? =some x:=⟨outs[i]'(by rw[K.len];exact him),ah8 _⟩
      have hst:=K.step i o x him hoi hx
      obtain⟨hds,_⟩:=K.head i o him hoi
      obtain⟨d,hd⟩:=ajE.1 hds
      have hdA:cA ops i=some d:=by unfold cA;rw[hoi];exact hd
      have hTlen:=Z.len K c hc
      have hlook:∀ t,t∈o.looksAt ops.toArray->(aW S (T c) (aH ops m listed)).tmps.getD t (.v false [.any])=(aW S Sn (aH ops m listed)).tmps.getD t (.v false [.any]):=fun t ht=>by
       have hno:∀ j,m<=j->j<m+c->cA ops j≠some t:=fun j h1 h2 h3=>by
        rcases Z.looks i o hin hoi t ht j (by omega) h3 with h4 | h4
        ·have:=UF K.edges i o hoi j h4
         omega
        ·have hoj:ops[j]? =some (ops[j]'(by omega)):=ah8 (by omega)
         have:=fC K.edges hcl j _ hoj (fun e k1 k2=>hcl j _ hoj (hdn j h1 h2) e k1 k2) i h4
         rw[hun] at this;cases this
       have ho:=Z.other c hc t hno
       rw[ah1,ah1,fR,fR,Km ho]
      have hev:=K.evs him hoi hdeps
      have hgev:∀ j want o' d,o.guard=some (j,want)->ops[j]? =some o'->o'.dst=some d->((T c).wt (aW S (T c) (aH ops m listed)).tmps).ev (.tmp d)=(states ((ops.take m).take i) S (outs.take i)).ev (.tmp d):=fun j want o' d hg ho' hd'=>by
       have hl:d∈o.looksAt ops.toArray:=by
        simp only[Oper.looksAt,hg,aiy]
        right
        simp[ho',hd']
       have h1:=hlook d hl
       have h2:=K.looks him hoi hdeps d hl
       exact Eq.trans h1 h2
      have hgd:guardOf ops o ((T c).wt (aW S (T c) (aH ops m listed)).tmps)=guardOf ops o (states ((ops.take m).take i) S (outs.take i)):=by
       unfold guardOf
       cases hg:o.guard with
       | none=>rfl
       | some p=>
        obtain⟨j,want⟩:=p
        simp only
        cases ho':ops[j]? with
        | none=>rfl
        | some o'=>
         simp only
         cases hd':o'.dst with
         | none=>rfl
         | some d'=>
          simp only
          rw[hgev j want o' d' hg ho' hd']
      have hsk:rR ops o ((T c).wt (aW S (T c) (aH ops m listed)).tmps)=rR ops o (states ((ops.take m).take i) S (outs.take i)):=by
       unfold rR
       cases hg:o.guard with
       | none=>rfl
       | some p=>
        obtain⟨j,want⟩:=p
        simp only
        cases ho':ops[j]? with
        | none=>rfl
        | some o'=>
         simp only
         cases hd':o'.dst with
         | none=>rfl
         | some d'=>
          simp only
          rw[hgev j want o' d' hg ho' hd']
      have fin:∀ (s:SV) G' ρ' w' a',(∀ hlt:d<S.tmps.length,Sn.tmps[d]? =some s)->Mod C G' ρ' (((T c).wt (aW S (T c) (aH ops m listed)).tmps).put (some d) s) w' a'->wpAny X.P .any ops.toArray Q (u+(ops.length - n)) (listed.setIfInBounds i true) a' w':=fun s G' ρ' w' a' hsn hM'=>by
       refine go G' ρ' w' a' ?_
       unfold CN
       rw[ajY ec]
       have htm:(aW S (T c) (aH ops m (listed.setIfInBounds i true))).tmps=(aW S (T c) (aH ops m listed)).tmps.set d s:=by
        have hU:=K.GA him hdA hsz hun
        have ho:=Z.other c hc d (fun j h1 h2 h3=>by have:=Z.uniq i j d hin (by omega) hdA h3;omega)
        apply ahW
        intro t
        rw[aie,fR,fR,hU t]
        by_cases e:d=t
        ·subst e
         have hlen:(aW S (T c) (aH ops m listed)).tmps.length=S.tmps.length:=by simp[aW]
         rw[hlen]
         by_cases hlt:d<S.tmps.length
         ·simp only[hlt,aj0,ajM,ag2,ag6,ajX]
          rw[Km ho,ah1,hsn hlt];rfl
         ·simp[hlt]
        ·rw[ajY e]
         have:(t != d)=true:=by simp only[bne_iff_ne,ne_eq];exact fun h=>e h.symm
         rw[this,ag3]
       rw[htm]
       exact hM'
      have hat:=zN (S:=S) (outs:=outs) (by rw[K.len,ais,ajn K.n_le]) K.dupl (i:=i) (o:=o) (x:=x) (by rw[dx him];exact hoi) hx hd
      rw[<- K.sn] at hat
      unfold Go.wpOp
      rw[hio]
      simp only
      cases x with
      | none=>
       have hw:Region.wanted o (yielded ops.toArray a.tmps)=false:=by
        rcases hst with ⟨dg,b,want,hg,hb⟩ | hs
        ·have hw:=lu hM.tmps (by rw[hgd];exact hg)
         simp only at hw
         rw[hw.2,hb]
        ·exact Mi hM.tmps (by rw[hsk];exact hs)
       rw[ajY (by rw[hw];simp)]
       have:=hM.put o.dst (s:=wU) (fun _ _=>T6)
       rw[hd] at this ⊢
       exact fin wU G ρ w _ (fun hlt=>hat.1 hlt) this
      | some y=>
       obtain⟨_,hg⟩:=hst
       obtain⟨hL,hp⟩:=Z.late i o him hoi hnd y hx
       obtain⟨p1,p2,p3⟩:=Fj hp
       have hwt:Region.wanted o (yielded ops.toArray a.tmps)=true:=by
        rcases hg with hg | ⟨dg,b,want,hg,hb⟩
        ·exact lu hM.tmps (g:=none) (by rw[hgd];exact hg)
        ·have hw:=lu hM.tmps (by rw[hgd];exact hg)
         simp only at hw
         rw[hw.2,hb]
       rw[ajZ hwt]
       left
       have hndj:∀ j,m<=j->j<m+c->i∉(deps ops).getD j m0:=fun j h1 h2 hmem=>by
        have hoj:ops[j]? =some (ops[j]'(by omega)):=ah8 (by omega)
        have:=fC K.edges hcl j _ hoj (fun e k1 k2=>hcl j _ hoj (hdn j h1 h2) e k1 k2) i hmem
        rw[hun] at this;cases this
       obtain⟨r1,r2,r3⟩:=Z.near K him c hc hndj (N:=(T c).wt (aW S (T c) (aH ops m listed)).tmps) rfl rfl rfl
       have hnear:Nf o (states ((ops.take m).take i) S (outs.take i)) (eX (tf i) S) ((T c).wt (aW S (T c) (aH ops m listed)).tmps):=
        ⟨fun z hz=>by
          rw[<- hev z hz]
          cases z with
          | tmp t=>exact hlook t (by
           simp only[Oper.looksAt,aiy,aiC]
           exact .inl ⟨.tmp t,by simpa using hz,rfl⟩)
          | const v=>rfl
          | global g=>rfl
          | func f=>rfl,r1,r2,r3⟩
       have hwp:=hL C G ρ _ w a Q hM hnear (fun d' _ h=>by rw[p1] at h;cases h) (fun d' _ h=>by rw[p2] at h;cases h) (fun d' _ h=>by rw[p3] at h;cases h)
       refine Oper.wp_mono (fun a' w' h=> ?_) hwp
       obtain⟨G',ρ',hM'⟩:=h
       have e:y=⟨y.sv,none,none,none⟩:=by cases y;simp only at p1 p2 p3;subst p1;subst p2;subst p3;rfl
       rw[hd,e] at hM'
       exact fin y.sv G' ρ' w' a' (fun hlt=>hat.1 hlt) hM'
    ·-- the next of the stores' row
     have ei:i=m+c:=by
      by_cases h1:i<m+c
      ·have:=hdn i (by omega) h1
       rw[hun] at this;cases this
      ·by_cases h2:m+c<i
       ·have h3:=hdeps (m+c) (Z.wait i (m+c) (by omega) h2 hin)
        have:=htl (m+c) (ajc _) (by omega)
        rw[h3] at this;cases this
       ·omega
     subst ei
     have hdm:∀ j,j∈(deps ops).getD m m0->listed.getD j true=true:=fun j hj=>by
      by_cases ec:c=0
      ·subst ec;exact hdeps j hj
      ·have hom:ops[m]? =some ops[m]:=ah8 (by omega)
       have hlm:=hdn m (ajc m) (by omega)
       exact fC K.edges hcl m _ hom (fun e h1 h2=>hcl m _ hom hlm e h1 h2) j hj
     have hM2:=Z.started K hdm hM
     have hstep:=Z.step c o hin hoi
     have hTlen:=Z.len K c hc
     have hTlen':=Z.len K (c+1) (by omega)
     have hog:=Z.guard (m+c) o (by omega) hin hoi
     have hev:∀ x,x∈o.op.operands->((T c).wt (aW S (T c) (aH ops m listed)).tmps).ev x=(T c).ev x:=fun x hx=>by
      cases x with
      | tmp t=>
       show (aW S (T c) (aH ops m listed)).tmps.getD t (.v false [.any])=(T c).tmps.getD t (.v false [.any])
       have hu:aH ops m listed t=false:=by
        cases hu:aH ops m listed t with
        | false=>rfl
        | true=>
         obtain⟨j,h1,h2,h3⟩:=eS.1 hu
         rcases Z.looks (m+c) o hin hoi t (by
          simp only[Oper.looksAt,aiy,aiC]
          exact .inl ⟨.tmp t,by simpa using hx,rfl⟩) j (by omega) h3 with h4 | h4
         ·have:=hdeps j h4
          rw[h2] at this;cases this
         ·have hoj:ops[j]? =some (ops[j]'(by omega)):=ah8 (by omega)
          have:=UF K.edges j _ hoj (m+c) h4
          omega
       rw[ah1,fR]
       by_cases hlt:t<S.tmps.length
       ·simp[hlt,hu]
       ·rw[ajY hlt]
        have:(T c).tmps[t]? =none:=ah9 (by rw[hTlen];exact Nat.le_of_not_lt hlt)
        rw[ah1,this]
      | const v=>rfl
      | global g=>rfl
      | func f=>rfl
     unfold Go.wpOp
     rw[hio]
     simp only
     have hwt:Region.wanted o (yielded ops.toArray a.tmps)=true:=lu (g:=none) hM2.tmps (by simp[guardOf,hog])
     rw[ajZ hwt]
     left
     have hfr:∀ s,s∈(aW S (T c) (aH ops m listed)).tmps->s∈(T c).tmps\/W5 S.ids s:=by
      intro s hs
      simp only[aW,aiE,aiI] at hs
      obtain⟨t,ht,rfl⟩:=hs
      split
      ·right
       intro d hd
       have hmem:S.tmps.getD t (.v false [.any])∈S.tmps:=by
        rw[ah1,ah8 ht];exact ail ht
       have:=(Hv (ZT hd).1).2
       simp only[St.bG,St.bV,St.bN,ahe,ahJ] at this
       exact⟨by simpa using this.1.1 _ hmem,by simpa using this.2.1.1 _ hmem,by simpa using this.2.2.1 _ hmem⟩
      ·left
       rw[ah1,ah8 (by rw[hTlen];exact ht)];exact ail _
     have hwp:=hstep.sound _ hev hfr C G ρ w a Q hM2
     refine Oper.wp_mono (fun a' w' h=> ?_) hwp
     obtain⟨G',ρ',hM'⟩:=h
     refine ih (c+1) (listed.setIfInBounds (m+c) true) a' w' G' ρ' (by omega) (by simpa using hsz) cl' (fun k h1 h2=> ?_) (fun k h1 h2=> ?_) cnt' ?_
     ·by_cases e:k=m+c
      ·subst e;exact cW (by omega)
      ·rw[bA e];exact hdn k h1 (by omega)
     ·rw[bA (by omega)];exact htl k (by omega) h2
     ·unfold CN
      rw[ajY (by omega)]
      have e:aH ops m (listed.setIfInBounds (m+c) true)=aH ops m listed:=funext (Mn (by omega))
      rw[e]
      have htm:(aW S (T (c+1)) (aH ops m listed)).tmps=RQ (aW S (T c) (aH ops m listed)).tmps o.dst (sv c):=by
       have ht:=hstep.tmps
       cases hd:o.dst with
       | none=>
        rw[hd] at ht
        simp only[RQ] at ht ⊢
        simp only[aW,ht]
       | some d=>
        rw[hd] at ht
        simp only[RQ] at ht ⊢
        have hdA:cA ops (m+c)=some d:=by unfold cA;rw[hoi];exact hd
        have hu:aH ops m listed d=false:=by
         cases hu:aH ops m listed d with
         | false=>rfl
         | true=>
          obtain⟨j,h1,_,h3⟩:=eS.1 hu
          have:=Z.uniq j (m+c) d (by omega) hin h3 hdA
          omega
        apply ahW
        intro t
        rw[aie,fR,fR]
        by_cases e:d=t
        ·subst e
         have hlen:(aW S (T c) (aH ops m listed)).tmps.length=S.tmps.length:=by simp[aW]
         rw[hlen,hu]
         by_cases hlt:d<S.tmps.length
         ·simp only[hlt,aj0,ag6,ajX]
          rw[ht,ah1,aih (by rw[hTlen];exact hlt)];rfl
         ·simp[hlt]
        ·rw[ajY e,ht]
         rw[show ((T c).tmps.set d (sv c)).getD t (.v false [.any])=(T c).tmps.getD t (.v false [.any]) from Km (aif e)]
      rw[htm]
      exact hM'
   ·exfalso
    obtain⟨j,h1,h2⟩:=hsome
    have hd:=hwaits i (by omega) hlt j (by omega)
    have:=hdeps j hd
    rw[h2] at this;cases this
end
theorem T4 (A:Op->Bool) (ops:List Oper) (S:St) (o:Oper) (l:List Oper):Ca (eY A ops S [o]) (eY A ops S (o::l))/\Ca (eY A ops S l) (eY A ops S (o::l)):=by
 simp only[eY]
 cases aaC o.op with
 | some a=>
  dsimp only
  cases R7 ops 9 a with
  | true=>exact⟨⟨nofun,fun k _=>by simp[rz,inL]⟩,⟨nofun,fun k h=>h⟩⟩
  | false=>
   simp only[ajN]
   cases JK ops S 9 a with
   | none=>exact⟨⟨nofun,fun k h=>by simp[rz] at h⟩,⟨nofun,fun k h=>by simp[rz] at h⟩⟩
   | some b=>
    refine⟨⟨fun _=>rfl,fun k h=> ?_⟩,⟨fun h=>h,fun k h=> ?_⟩⟩
    ·cases hb:(eY A ops S l).bs with
     | none=>simp[rz,hb] at h
     | some q=>simp only[rz,hb,inL,List.any_cons,Bool.not_or,ag1,List.any_nil,ahc,ajJ] at h ⊢;exact h.1
    ·cases hb:(eY A ops S l).bs with
     | none=>simp[rz,hb] at h
     | some q=>simp only[rz,hb,inL,List.any_cons,Bool.not_or,ag1] at h ⊢;exact h.2
 | none=>
  dsimp only
  cases A o.op with
  | true=>exact⟨⟨nofun,fun k _=>by simp[rz,inL]⟩,⟨nofun,fun k h=>h⟩⟩
  | false=>exact⟨⟨fun _=>rfl,fun k _=>by simp[rz,inL]⟩,⟨fun h=>h,fun k h=>h⟩⟩
theorem Ca.trans {a b c:Touch} (h:Ca a b) (g:Ca b c):Ca a c:=⟨fun e=>h.1 (g.1 e),fun k hk=>h.2 k (g.2 k hk)⟩
theorem Wm (A:Op->Bool) (ops:List Oper) (S:St) (o:Oper):∀ l:List Oper,o∈l->Ca (eY A ops S [o]) (eY A ops S l)
 | [],h=>by cases h
 | p::l,h=>by
  rcases aiz.1 h with rfl | h
  ·exact (T4 A ops S o l).1
  ·exact (Wm A ops S o l h).trans (T4 A ops S p l).2
theorem OU (hX:cD X) {ops:List Oper} {S:St} {k:St->Option β} {r:β} {m n:Nat} (hchk:Lo ops m n=true) (h:Me X ops S k m n=some r) {Q:Exit->Act->World->Prop} (hQ:∀ S' G ρ w a,k S'=some r->Mod C G ρ S' w a->Q .normal a w) {a:Act} (hM:Mod C G ρ S w a): Go.wpAny X.P .any ops.toArray Q ops.toArray.size (Array.replicate ops.toArray.size false) a { w with drawn:=w.drawn+1 }:=by
 unfold Me at h
 obtain⟨outs,h1,h2,h3⟩:=Em hX h
 split at h2
 ·rename_i hnew
  simp only[Lo,ag1] at hchk
  obtain⟨c0,c1,c2,c3,c4,c5,c6⟩:=hchk
  have hmn:m<n:=ajh (ajl _) (aja c0)
  have hn:n<=ops.length:=aja c1
  have K:=dh.of (X:=X) (ajb (ajh hmn hn)) c2 c4 h1 (fun i o x hi hx=>(h3 i o x hi hx).1) hnew
  obtain⟨T,sv,t0,h4,h5⟩:=KA hX h2
  simp only[aan,ag1,ahb,ahH] at c6
  obtain⟨cdup,call⟩:=c6
  have hget:∀ i o,i<n->ops[i]? =some o->(∀ t,t∈o.looksAt ops.toArray->∀ j,j<n->cA ops j=some t->j∈(deps ops).getD i m0\/i∈(deps ops).getD j m0)/\(m<=i->o.guard=none)/\(m<=i->∀ j,m<=j->j<i->j∈(deps ops).getD i m0):=fun i o hin hi=>by
   have h6:=call i (by simpa using hin)
   rw[hi] at h6
   simp only[ag1,ahH,ahf,ajC] at h6
   obtain⟨g1,g2,g3⟩:=h6
   refine⟨fun t ht j hj hdj=> ?_,fun hmi=> ?_,fun hmi j hmj hji=> ?_⟩
   ·have h7:=Qv (g1 t ht) (k:=j) (by
     obtain⟨o',ho',hd'⟩:=mu hdj
     rw[aib,dx hj,ho',ajG,hd'])
    rw[ajx] at h7;exact h7
   ·rcases g2 with g2 | g2
    ·have:i<m:=ajh (ajl _) (aja g2)
     omega
    ·exact g2
   ·rcases g3 with g3 | g3
    ·have:i<m:=ajh (ajl _) (aja g3)
     omega
    ·rcases g3 j (by simpa using hji) with g4 | g4
     ·have:j<m:=ajh (ajl _) (aja g4)
      omega
     ·exact sw.1 g4
  have hgd:∀ i o,m<=i->i<n->ops[i]? =some o->o.guard=none:=fun i o hmi hin hi=>(hget i o hin hi).2.1 hmi
  have Z:Bn X ops m n S outs (states (ops.take m) S outs) (fun i=>eY (isApp X) ops S (Yl ops m n i)) (fun o=>eY (isApp X) ops S [o]) T sv:={
   lt:=hmn
   le:=hn
   t0:=t0
   step:=fun c o hc hi=>h5 c o (by rw[ah7,dx hc];exact hi)
   cover:=fun i c o him hc hi hnd=>Wm (isApp X) ops S o _ (by
    simp only[Yl,aiC,aiI]
    refine⟨m+c,hc, ?_⟩
    have h1:Nat.ble m (m+c)=true:=Nat.ble_eq_true_of_le (by omega)
    have h2:inM ((deps ops).getD (m+c) m0) i=false:=by
     cases h3:inM ((deps ops).getD (m+c) m0) i with
     | false=>rfl
     | true=>exact absurd (sw.1 h3) hnd
    rw[h1,h2]
    exact hi)
   late:=fun i o him hi hnd y hy=>by
    have h6:=(h3 i o (some y) (by rw[dx him];exact hi) hy).2 (by
     rw[ajx]
     cases hm:inM ((deps ops).getD m m0) i with
     | false=>rfl
     | true=>exact absurd (sw.1 hm) hnd) y rfl
    rw[ajx] at h6
    exact h6
   guard:=hgd
   wait:=fun i j hmj hji hin=>(hget i _ hin (ah8 (show i<ops.length by omega))).2.2 (by omega) j hmj hji
   looks:=fun i o hin hi=>(hget i o hin hi).1
   uniq:=fun i j d hin hjn hdi hdj=>by
    obtain⟨oi,e1,e2⟩:=mu hdi
    obtain⟨oj,e3,e4⟩:=mu hdj
    rcases ajm i j with h | h | h
    ·have:=(nZ (l:=ops.take n) cdup (i:=j) (o:=oj) (d:=d) (by rw[dx hjn];exact e3) e4).2
     exact absurd (Bw (ops:=ops.take n) (i:=j) (j:=i) (by rw[dx hin];exact e1) e2 h) this
    ·exact h
    ·have:=(nZ (l:=ops.take n) cdup (i:=i) (o:=oi) (d:=d) (by rw[dx hin];exact e1) e2).2
     exact absurd (Bw (ops:=ops.take n) (i:=i) (j:=j) (by rw[dx hjn];exact e3) e4 h) this }
  have hM':=hM.of_heap (w':={ w with drawn:=w.drawn+1 }) rfl rfl rfl
  have hll:((ops.take n).drop m).length=n - m:=by simp;omega
  rw[hll] at h4
  have hsp:=K.spine (C:=C) (Q:=Q) Z (H8 c3) c5 (fun G ρ w a hMn=>zy hX ops (ops.drop n) h4 hQ hMn) n 0 (Array.replicate ops.toArray.size false) a { w with drawn:=w.drawn+1 } G ρ (by omega) (by simp) zK
   (fun k h1 h2=>by omega) (fun k _ hk2=>wS hk2 true) (Bk hn) (by
     unfold CN
     rw[ajZ rfl]
     exact Fx (ajb (ajh hmn hn)) hM')
  rw[show n+(ops.length - n)=ops.toArray.size by simp;omega] at hsp
  exact hsp
 ·cases h2
theorem HN (hX:cD X) {ops:List Oper} {S:St} {k:St->Option β} {els:Option β} {r:β} (h:HM X ops S k els=some r) {Q:Exit->Act->World->Prop} (hQ:∀ S' G ρ w a,k S'=some r->Mod C G ρ S' w a->Q .normal a w) {a:Act} (hM:Mod C G ρ S w a) (hels:els=some r->Go.wpAny X.P .any ops.toArray Q ops.toArray.size (Array.replicate ops.toArray.size false) a { w with drawn:=w.drawn+1 }): Go.wpAny X.P .any ops.toArray Q ops.toArray.size (Array.replicate ops.toArray.size false) a { w with drawn:=w.drawn+1 }:=by
 unfold HM at h
 simp only at h
 split at h
 ·rename_i hchk
  generalize HV (deps ops) ops.length=n at h hchk
  obtain⟨outs,h1,h2,h3⟩:=BA hX h
  split at h2
  ·rename_i hnew
   simp only[Ka,ag1] at hchk
   obtain⟨⟨⟨⟨⟨c1,c2⟩,c3⟩,c4⟩,c5⟩,_⟩:=hchk
   have hn:n<=ops.length:=aja c1
   have K:=dh.of (X:=X) hn c2 c4 h1 h3 hnew
   have hM':=hM.of_heap (w':={ w with drawn:=w.drawn+1 }) rfl rfl rfl
   have hany:=K.any (C:=C) (Q:=Q) (H8 c3) c5 (fun G ρ w a hMn=>zy hX ops (ops.drop n) h2 hQ hMn) n (Array.replicate ops.toArray.size false) a { w with drawn:=w.drawn+1 } G ρ (by simp) zK
    (fun m _ hm2=>wS hm2 true) (Bk hn) (Fx hn hM')
   rw[show n+(ops.length - n)=ops.toArray.size by simp;omega] at hany
   exact hany
  ·cases h2
 ·split at h
  ·rename_i hchk
   generalize HV (deps ops) ops.length - 1=m at h hchk
   obtain⟨outs,h1,h2,h3⟩:=BA hX h
   split at h2
   ·rename_i hnew
    simp only[XU,ag1] at hchk
    obtain⟨⟨⟨⟨⟨⟨c1,c2⟩,c3⟩,c4⟩,c5⟩,c6⟩,_⟩:=hchk
    have hm:m<ops.length:=aja c1
    have K:=dh.of (X:=X) (ajb hm) c2 c4 h1 h3 hnew
    have hos:ops[m]? =some ops[m]:=ah8 hm
    unfold acr at c6
    rw[hos] at c6
    simp only[ag1,ajC,ahH] at c6
    obtain⟨⟨⟨⟨g1,g2⟩,g3⟩,g4⟩,g5⟩:=c6
    have hst:∃ t ad x,ops[m].op= .store t ad x:=by
     revert g1
     cases ops[m].op<;>intro g1<;>first | exact⟨_,_,_,rfl⟩ | exact absurd g1 ag7
    obtain⟨ty,ad,x,hop⟩:=hst
    rw[ahR hm] at h2
    have h2':dV X ops[m] (states (ops.take m) S outs) (fun S=>qX X ops (ops.drop (m+1)) S k)=some r:=by
     simpa [qX,guardOf,g2] using h2
    obtain⟨S',h4,h5,h6⟩:=TX hop h2'
    have hM':=hM.of_heap (w':={ w with drawn:=w.drawn+1 }) rfl rfl rfl
    have hlate:=K.late (C:=C) (Q:=Q) hm (H8 c3) hos g2 (fun i him=>by
     have:=g4 i (by simpa using him)
     simp only[ahf] at this
     rcases this with h | h
     ·exact .inl (sw.1 h)
     ·right
      have hoi:ops[i]? =some ops[i]:=ah8 (by omega)
      rw[hoi] at h
      simp only[ag1,ajC] at h
      exact⟨_,hoi,h⟩)
     (fun t ht j hj hdj=>by
       have:=g5 t (by simpa using ht) j (by simpa using hj)
       rw[ajZ (by simp[hdj])] at this
       exact sw.1 this)
     (S':=S') ⟨h5,fun tm hev=>by
       have hs:=h6 tm (hev ad (by simp[hop,Op.operands])) (hev x (by simp[hop,Op.operands]))
       obtain⟨S2,e2,hs2⟩:=En hX hs
       cases e2
       exact hs2⟩ c5
     (fun G ρ w a hMn=>zy hX ops (ops.drop (m+1)) h4 hQ hMn) (m+1) (Array.replicate ops.toArray.size false) a { w with drawn:=w.drawn+1 } G ρ (by simp) zK
     (fun k _ hk2=>wS hk2 true) (Bk hm) (by
       unfold xE
       rw[ajY (by rw[wS hm];simp)]
       exact Fx (ajb hm) hM')
    rw[show m+1+(ops.length - (m+1))=ops.toArray.size by simp;omega] at hlate
    exact hlate
   ·cases h2
  ·split at h
   ·rename_i hchk
    generalize HV (deps ops) ops.length - 1=m at h hchk
    obtain⟨outs,h1,h2,h3⟩:=BA hX h
    split at h2
    ·rename_i hnew
     simp only[XV,ag1] at hchk
     obtain⟨⟨⟨⟨⟨⟨c1,c2⟩,c3⟩,c4⟩,c5⟩,c6⟩,_⟩:=hchk
     have hm:m<ops.length:=aja c1
     have K:=dh.of (X:=X) (ajb hm) c2 c4 h1 h3 hnew
     have hos:ops[m]? =some ops[m]:=ah8 hm
     unfold ZZ at c6
     rw[hos] at c6
     simp only[ag1,ajC,ahH] at c6
     obtain⟨⟨⟨⟨g1,g2⟩,g3⟩,g4⟩,g5⟩:=c6
     unfold runM at h2
     rw[hos] at h2
     simp only at h2
     split at h2
     ·rename_i ty ad x hop
      split at h2
      ·rename_i b off had
       obtain⟨S',h4,h5,h6,h7,h8⟩:=adf hop had h2
       cases hfc:(Ox ops m).all fun d=> !S'.boxes.any fun p=>p.2.any (CV.bG d) with
       | false=>rw[hfc] at h4;cases h4
       | true=>
        rw[hfc,ajO] at h4
        simp only[ahH,ahb] at hfc
        have hM':=hM.of_heap (w':={ w with drawn:=w.drawn+1 }) rfl rfl rfl
        have hlate:=K.ago (C:=C) (Q:=Q) hm (H8 c3) hos g2 (fun i him=>by
         have:=g4 i (by simpa using him)
         simp only[ahf] at this
         rcases this with h | h
         ·exact .inl (sw.1 h)
         ·right
          have hoi:ops[i]? =some ops[i]:=ah8 (by omega)
          rw[hoi] at h
          simp only[ag1,ajC] at h
          exact⟨_,hoi,h⟩)
         (fun t ht j hj hdj=>by
           have:=g5 t (by simpa using ht) j (by simpa using hj)
           rw[ajZ (by simp[hdj])] at this
           exact sw.1 this)
         (S':=S') ⟨h5,h6,h7,fun tm rw ob hev=>by
           have hs:=h8 tm rw ob (hev ad (by simp[hop,Op.operands])) (hev x (by simp[hop,Op.operands]))
           obtain⟨S2,e2,hs2⟩:=En hX hs
           cases e2
           exact hs2⟩
         (fun i d p him hnd hpi hmk hpd=>hfc d (by
           simp only[Ox,aiC,aiI]
           refine⟨i,him, ?_⟩
           rw[hpi]
           have h9:inM ((deps ops).getD m m0) i=false:=by
            cases h3:inM ((deps ops).getD m m0) i with
            | false=>rfl
            | true=>exact absurd (sw.1 h3) hnd
           simp only[hmk,h9,ahc,Bool.and_self,aj0]
           exact hpd)) c5
         (fun G ρ w a hMn=>zy hX ops (ops.drop (m+1)) h4 hQ hMn) (m+1) (Array.replicate ops.toArray.size false) a { w with drawn:=w.drawn+1 } G ρ (by simp) zK
         (fun k _ hk2=>wS hk2 true) (Bk hm) (by
           unfold uf
           rw[ajY (by rw[wS hm];simp)]
           exact Fx (ajb hm) hM')
        rw[show m+1+(ops.length - (m+1))=ops.toArray.size by simp;omega] at hlate
        exact hlate
      ·cases h2
     ·cases h2
    ·cases h2
   ·split at h
    ·rename_i hchk
     exact OU hX hchk h hQ hM
    ·split at h
     ·rename_i hchk
      simp only[ag1] at hchk
      exact OU hX hchk.1 h hQ hM
     ·exact hels h
end Go.Dn
namespace Go.Dn
variable {P:Program}
def aeD (P:Program) (G:Gh) (kk vv:Ty) (l:List (kk.den×vv.den)) (key:kk.den) (b:Nat) (es:Array MapEntry) (clock st:Nat):Prop:=
 ∀ (t:TypeId) (w2:World) (val:Value) (y:vv.den),w2.heap[b]? =some (.map es clock)->cF G vv y val->
  ∃ es':Array MapEntry,(Instr.entryStore t (.map (some b)) (goInt st) val).run P w2= .ok () { w2 with heap:=w2.heap.setIfInBounds b (.map es' clock) }/\aR (AA G kk vv) (jG l key y) es'.toList/\
   es'.toList.map (·.born)=es.toList.map (·.born)
variable {X:Cx}
def St.obj (S:St) (j:Nat) (q:vS):St:={ S with objs:=(j,q)::S.objs }
structure afz (X:Cx) (ops:List Oper) (o2 o4 o5 o6 o7:Oper) (t kt et:TypeId) (m x d2 d4 d5 d6 j b:Nat) (kk vv:Ty) (l:List (kk.den×vv.den)) (key:kk.den) (z y:vv.den) (kv:Value) (s4:SV) (S:St):Prop where
 i2:ops.toArray[2]? =some o2
 i4:ops.toArray[4]? =some o4
 i5:ops.toArray[5]? =some o5
 i6:ops.toArray[6]? =some o6
 i7:ops.toArray[7]? =some o7
 g2:o2.guard=none
 g4:o4.guard=none
 g5:o5.guard=none
 g6:o6.guard=none
 g7:o7.guard=none
 p2:o2.op= .lookup t (.tmp m) (.tmp x) false
 p5:o5.op= .mapEntry t (.tmp m) (.tmp x)
 p6:o6.op= .extract (.tmp d5) 1
 p7:∃ t',o7.op= .entryStore t' (.tmp m) (.tmp d6) (.tmp d4)
 e2:o2.dst=some d2
 e4:o4.dst=some d4
 e5:o5.dst=some d5
 e6:o6.dst=some d6
 e7:o7.dst=none
 ne:m≠d2/\m≠d4/\m≠d5/\m≠d6/\x≠d2/\x≠d4/\x≠d5/\x≠d6
 nd:d2≠d4/\d2≠d5/\d2≠d6/\d4≠d5/\d4≠d6/\d5≠d6
 ord:afH ops=true
 ht:X.P.underlying t=some (.map kt et)
 hchk:jQ X.P kt kk=true
 hz:KX X.P et vv=some z
 q4:kG X.P o4 (S.put (some d2) (vD vv ((dN l key).getD z))) zh s4
 stp:∀ T,T=S\/T=S.put (some d2) (vD vv ((dN l key).getD z))\/T=(S.put (some d2) (vD vv ((dN l key).getD z))).put (some d4) s4->T.bN j=false
 any:∀ T,T=S\/T=S.put (some d2) (vD vv ((dN l key).getD z))\/T=(S.put (some d2) (vD vv ((dN l key).getD z))).put (some d4) s4->T.tmps.set d5 (.v false [.any])=T.tmps/\T.tmps.set d6 (.v false [.any])=T.tmps
 lt5:d5<S.tmps.length
 lt6:d6<S.tmps.length
 hobj:look S.objs j=some (.map kk vv l)
 pk:pG ((S.put (some d2) (vD vv ((dN l key).getD z))).put (some d4) s4) [] vv (((S.put (some d2) (vD vv ((dN l key).getD z))).put (some d4) s4).ev (.tmp d4))=some y
variable {ops:List Oper} {o2 o4 o5 o6 o7:Oper} {t kt et:TypeId} {m x d2 d4 d5 d6 j b:Nat} {kk vv:Ty} {l:List (kk.den×vv.den)} {key:kk.den} {z y:vv.den} {kv:Value} {s4:SV} {S:St} {C:Fr X.P}
structure agN (C:Fr X.P) (G:Gh) (m x j b:Nat) (kk:Ty) (key:kk.den) (kv:Value) (T:St) (a:Act) (w:World):Prop where
 mod:∃ ρ,Mod C G ρ T w a/\ρ.ob j= .map (some b)
 hm:a.eval (.tmp m)= .map (some b)
 hx:a.eval (.tmp x)=kv
 hk:cF G kk key kv
structure Inv1 (C:Fr X.P) (G:Gh) (m x j b:Nat) (kk vv:Ty) (l:List (kk.den×vv.den)) (key:kk.den) (z:vv.den) (kv:Value) (st:Value->Act->Prop) (T:St) (a:Act) (w:World):Prop where
 mod:∃ ρ l1 es clock s,Mod C G ρ (T.obj j (.map kk vv l1)) w a/\ρ.ob j= .map (some b)/\w.heap[b]? =some (.map es clock)/\(dN l1 key).getD z=(dN l key).getD z/\aeD X.P G kk vv l key b es clock s/\st (goInt s) a
 hm:a.eval (.tmp m)= .map (some b)
 hx:a.eval (.tmp x)=kv
 hk:cF G kk key kv
def agB (d6:Nat) (s:Value) (a:Act):Prop:=a.eval (.tmp d6)=s
section
variable {G:Gh} {a:Act} {w:World} {K:Act->World->Prop} {Q:Exit->Act->World->Prop} {T:St}
theorem afz.store (E:afz X ops o2 o4 o5 o6 o7 t kt et m x d2 d4 d5 d6 j b kk vv l key z y kv s4 S) (h:Inv1 C G m x j b kk vv l key z kv (agB d6) ((S.put (some d2) (vD vv ((dN l key).getD z))).put (some d4) s4) a w) (hK:∀ ρ a w,Mod C G ρ (((S.put (some d2) (vD vv ((dN l key).getD z))).put (some d4) s4).obj j (.map kk vv (jG l key y))) w a->K a w):o7.wp X.P a w K Q:=by
 obtain⟨⟨ρ,l1,es1,clock1,s,hM,hb,hw,g2,g5,hs⟩,hm,hx,hk⟩:=h
 obtain⟨t',p7⟩:=E.p7
 obtain⟨b',es,clock,h2,h3,h4,h5,h6,h7⟩:=hM.objs j (.map kk vv l1) (by simp[St.obj,aD])
 rw[hb] at h2
 cases h2
 rw[hw] at h4
 cases h4
 have hy:cF G vv y (a.eval (.tmp d4)):=qA (ρ:=ρ) (S:=(S.put (some d2) (vD vv ((dN l key).getD z))).put (some d4) s4) hM.toMem.frozen (qK.nil _ _ _) E.pk (hM.tmps.ev (.tmp d4))
 obtain⟨es',hrun,f1,f2⟩:=g5 t' w _ y hw hy
 have hbn:∀ (i:Nat) (e:MapEntry),es'.toList[i]? =some e->∃ e1,es1.toList[i]? =some e1/\e1.born=e.born:=fun i e hi=>by
  have h1:=congrArg (fun l=>l[i]?) f2
  simp only[aib,hi,ajG] at h1
  cases he:es1.toList[i]? with
  | none=>rw[he] at h1;cases h1
  | some e1=>rw[he] at h1;simp only[ajG,Option.some.injEq] at h1;exact⟨e1,rfl,h1.symm⟩
 have hM2:=hM.setObj (j:=j) (b:=b) (q:= .map kk vv (jG l key y)) (st:=ρ.st j) (.inr rfl) h3 (fun t l _ e=>by cases e) (w':={ w with heap:=w.heap.setIfInBounds b (.map es' clock1) }) Grow.setObj
  ⟨b,es',clock1,hb,h3,by rw[agU (dU hw)],f1,fun i e hi=>by
    obtain⟨e1,k1,k2⟩:=hbn i e hi
    obtain⟨k3,k4⟩:=h6 i e1 k1
    refine⟨?_,by omega⟩
    simp only[aj0]
    rw[<- k2];exact k3,by
    have:(es'.toList.map (·.born)).Pairwise (fun a b=>a<b):=by
     rw[f2,aiO];exact h7
    rwa [aiO] at this⟩
 unfold Oper.wp
 simp only[execOp,p7,hm,show a.eval (.tmp d6)=goInt s from hs,Sem.run_bind,hrun,Result.andThen_ok,Sem.run_pure]
 simp only[Oper.upon,E.e7,Act.put]
 refine hK _ _ _ ({ hM2.toMem.sub (M:=((S.put (some d2) (vD vv ((dN l key).getD z))).put (some d4) s4).obj j (.map kk vv (jG l key y))) (fun _ _ h=>h) (fun _ _ h=>h) (fun i q hi=> ?_) with tmps:=hM2.tmps,defers:=hM2.defers })
 simp only[St.obj,aD] at hi ⊢
 split at hi
 ·rename_i e;rw[ajZ e];exact hi
 ·rename_i e;rw[ajY e,ajY e];exact hi
end
section
variable {G:Gh} {Q:Exit->Act->World->Prop}
end
variable {G:Gh} {ρ:Env} {w:World} {β:Type}
end Go.Dn
namespace Go.Dn
structure aaz (ops ops':Array Oper) (σ τ:Nat->Nat):Prop where
 size:ops'.size=ops.size
 lt:∀ i,i<ops.size->σ i<ops.size/\τ (σ i)=i
 lt':∀ j,j<ops.size->τ j<ops.size/\σ (τ j)=j
 op:∀ (i:Nat) (o:Oper),ops[i]? =some o->ops'[σ i]? =some (PD σ o)
 guard:∀ (i:Nat) (o:Oper),ops[i]? =some o->o.guard=none
 edge:∀ (i:Nat) (o:Oper),ops[i]? =some o->∀ e:Edge,e∈o.after->e.on<ops.size
theorem aaz.wpAny {P:Program} {ops ops':Array Oper} {σ τ:Nat->Nat} (H:aaz ops ops' σ τ) {Q:Exit->Act->World->Prop}:∀ (u:Nat) (listed listed':Array Bool) (a:Act) (w:World),listed.size=ops.size->listed'.size=ops.size-> (∀ i b,i<ops.size->listed'.getD (σ i) b=listed.getD i b)->Go.wpAny P .any ops' Q u listed' a w->Go.wpAny P .any ops Q u listed a w:=by
 have rd:∀ (listed listed':Array Bool),(∀ i b,i<ops.size->listed'.getD (σ i) b=listed.getD i b)->∀ i,i<ops.size->(σ i∈Region.ready .any ops' listed'↔i∈Region.ready .any ops listed):=by
  intro listed listed' hl i hi
  have hoi:ops[i]? =some ops[i]:=agP hi
  have hop:=H.op i _ hoi
  rw[mem_ready,mem_ready,hl i true hi]
  constructor
  ·rintro⟨h1,o',ho',h2⟩
   refine⟨h1,ops[i],hoi,fun e he hb=> ?_⟩
   rw[hop] at ho'
   cases ho'
   have:=h2 { e with on:=σ e.on } (by simp only[PD,Array.mem_map];exact⟨e,he,rfl⟩) hb
   rw[<- hl e.on false (H.edge i _ hoi e he)]
   exact this
  ·rintro⟨h1,o,ho,h2⟩
   refine⟨h1,_,hop,fun e' he' hb=> ?_⟩
   simp only[PD,Array.mem_map] at he'
   obtain⟨e,he,rfl⟩:=he'
   rw[hoi] at ho
   cases ho
   have:=h2 e he hb
   show listed'.getD (σ e.on) false=true
   rw[hl e.on false (H.edge i _ hoi e he)]
   exact this
 have rlt:∀ (ops:Array Oper) (listed:Array Bool) i,i∈Region.ready .any ops listed->i<ops.size:=by
  intro ops listed i hi
  rw[mem_ready] at hi
  obtain⟨_,o,ho,_⟩:=hi
  exact (agR.1 ho).1
 have emp:∀ (listed listed':Array Bool),(∀ i b,i<ops.size->listed'.getD (σ i) b=listed.getD i b)->(Region.ready .any ops' listed'=[]↔Region.ready .any ops listed=[]):=by
  intro listed listed' hl
  constructor
  ·intro h
   rw[ahU] at h ⊢
   intro i hi
   exact h (σ i) ((rd listed listed' hl i (rlt _ _ i hi)).2 hi)
  ·intro h
   rw[ahU] at h ⊢
   intro j hj
   have hjl:j<ops.size:=by rw[<- H.size];exact rlt _ _ j hj
   obtain⟨t1,t2⟩:=H.lt' j hjl
   exact h (τ j) ((rd listed listed' hl (τ j) t1).1 (by rw[t2];exact hj))
 intro u
 induction u with
 | zero=>
  intro listed listed' a w s1 s2 hl h
  exact⟨(emp listed listed' hl).1 h.1,h.2⟩
 | succ u ih=>
  intro listed listed' a w s1 s2 hl h
  refine⟨fun hr=>h.1 ((emp listed listed' hl).2 hr),fun i hi=> ?_⟩
  have hil:=rlt _ _ i hi
  have hoi:ops[i]? =some ops[i]:=agP hil
  have hop:=H.op i _ hoi
  have hg:=H.guard i _ hoi
  have h1:=h.2 (σ i) ((rd listed listed' hl i hil).2 hi)
  have next:∀ a w,Go.wpAny P .any ops' Q u (listed'.setIfInBounds (σ i) true) a w->Go.wpAny P .any ops Q u (listed.setIfInBounds i true) a w:=by
   intro a w h
   refine ih _ _ a w (by simpa using s1) (by simpa using s2) (fun j b hj=> ?_) h
   by_cases e:j=i
   ·subst e
    rw[cW (by rw[s2];exact (H.lt j hj).1),cW (by omega)]
   ·have hne:σ j≠σ i:=fun e2=>e (by have:=congrArg τ e2;rw[(H.lt j hj).2,(H.lt i hil).2] at this;exact this)
    rw[bA hne,bA e]
    exact hl j b hj
  unfold Go.wpOp at h1 ⊢
  rw[hop] at h1
  rw[hoi]
  simp only at h1 ⊢
  have w1:∀ y,Region.wanted ops[i] y=true:=fun y=>by simp[Region.wanted,hg]
  have w2:∀ y,Region.wanted (PD σ ops[i]) y=true:=fun y=>by simp[Region.wanted,PD,hg]
  rw[ajZ (w2 _)] at h1
  rw[ajZ (w1 _)]
  rcases h1 with h1 | h1
  ·left
   exact Oper.wp_mono (fun a' w' h'=>next a' w' h') h1
  ·exact .inr h1
theorem YE {ops:List Oper} {p:List Nat} (h:Vg ops p=true):aaz ops.toArray (Kw ops p).toArray (posOf p) (fun j=>p.getD j ops.length):=by
 simp only[Vg,ag1,ahH,aiI,ajC] at h
 obtain⟨h1,h2,h3,h4⟩:=h
 have h1':=ai8 h1
 have lt:∀ {a b:Nat},Nat.blt a b=true->a<b:=fun h=>aja h
 have hlen:(Kw ops p).length=ops.length:=by
  unfold Kw
  split
  ·rfl
  ·rw[aio,h1']
 refine⟨by simpa using hlen,fun i hi=> ?_,fun j hj=> ?_,fun i o hi=> ?_,fun i o hi=> ?_,fun i o hi e he=> ?_⟩
 ·have hi':i<ops.length:=by simpa using hi
  exact⟨by simpa using lt (h2 i hi').1,ai8 (h2 i hi').2⟩
 ·have hj':j<ops.length:=by simpa using hj
  exact⟨by simpa using lt (h3 j hj').1,ai8 (h3 j hj').2⟩
 ·have hi1:ops[i]? =some o:=by simpa using hi
  have hi':i<ops.length:=(aia.1 hi1).1
  have e1:=ai8 (h2 i hi').2
  have e2:=lt (h2 i hi').1
  have e3:p[posOf p i]? =some i:=by
   have hlt:posOf p i<p.length:=by omega
   rw[ah1,ah8 hlt] at e1
   rw[ah8 hlt]
   exact congrArg some e1
  rw[aik]
  unfold Kw
  split
  ·rename_i hn;simp at hi1
  ·rename_i o0 r
   rw[aib,e3,ajG,ah1,hi1]
   rfl
 ·have hi1:ops[i]? =some o:=by simpa using hi
  exact (h4 o (aiF hi1)).1
 ·have hi1:ops[i]? =some o:=by simpa using hi
  simpa using lt ((h4 o (aiF hi1)).2 e (by simpa using he))
theorem agM {P:Program} {o:Oper} {a:Act} {w:World} {K:Act->World->Prop} {Q Q':Exit->Act->World->Prop} (h:∀ e a w,Q' e a w->Q e a w) (hh:o.wp P a w K Q'):o.wp P a w K Q:=by
 unfold Oper.wp at*
 generalize (execOp a.eval o).run P w=r at*
 cases r with
 | ok n w'=>
  cases n<;>simp only[Oper.upon] at hh ⊢ <;>first
   | exact hh
   | exact Calls.mono hh (fun e w'' he=>by
    cases e with
    | returned v=>exact he
    | panicked c=>exact h _ _ _ he
    | outgrown=>obtain⟨a,w,q⟩:=he;exact⟨a,w,h _ _ _ q⟩)
 | halt x w'=>cases x<;>simp only[Oper.upon] at hh ⊢ <;>first | exact hh | exact h _ _ _ hh
theorem age {P:Program} {ops:Array Oper} {i:Nat} {K:Act->World->Prop} {Q Q':Exit->Act->World->Prop} (h:∀ e a w,Q' e a w->Q e a w) {a:Act} {w:World} (hh:Go.wpOp P ops Q' i K a w):Go.wpOp P ops Q i K a w:=by
 unfold Go.wpOp at*
 split
 ·rename_i ho
  simpa [ho] using hh
 ·rename_i o ho
  simp only[ho] at hh
  split
  ·rename_i hw
   simp only[hw,aj0] at hh
   exact hh.imp (agM h) fun ⟨h1,a,w,q⟩=>⟨h1,a,w,h _ _ _ q⟩
  ·rename_i hw
   simpa [hw] using hh
theorem aas {P:Program} {ops:Array Oper} {Q Q':Exit->Act->World->Prop} (h:∀ e a w,Q' e a w->Q e a w):∀ (u:Nat) (listed:Array Bool) (a:Act) (w:World),Go.wpAny P .any ops Q' u listed a w->Go.wpAny P .any ops Q u listed a w
 | 0,_,_,_,hh=>⟨hh.1,h _ _ _ hh.2⟩
 | u+1,_,_,_,hh=>⟨fun hr=>h _ _ _ (hh.1 hr),fun i hi=>wpOp_mono (fun a' w' h'=>aas h u _ a' w' h') (age h (hh.2 i hi))⟩
theorem adp {P:Program} {o0:Oper} {r:List Oper} {Q:Exit->Act->World->Prop} (hg:∀ o,o∈o0::r->o.guard=none):∀ (u:Nat) (listed:Array Bool) (a:Act) (w:World),listed.getD 0 false=true-> Go.wpAny P .any (o0::r.map DZ).toArray Q u listed a w->Go.wpAny P .any (o0::r).toArray Q u listed a w:=by
 have get:∀ (i:Nat) (o:Oper),(o0::r)[i]? =some o->(o0::r.map DZ)[i]? =some (if i=0 then o else DZ o):=fun i o hi=>by
  cases i with
  | zero=>simpa using hi
  | succ i=>
   rw[ah5] at hi ⊢
   rw[aib,hi,ajY (by omega)];rfl
 have rd:∀ (listed:Array Bool),listed.getD 0 false=true->∀ i,i∈Region.ready .any (o0::r.map DZ).toArray listed↔i∈Region.ready .any (o0::r).toArray listed:=fun listed h0 i=>by
  rw[mem_ready,mem_ready]
  constructor
  ·rintro⟨h1,o',ho',h2⟩
   have hlt:i<(o0::r).length:=by
    have:=(aia.1 (show (o0::r.map DZ)[i]? =some o' by simpa using ho')).1
    simpa using this
   have hoi:(o0::r)[i]? =some (o0::r)[i]:=ah8 hlt
   have hop:=get i _ hoi
   refine⟨h1,(o0::r)[i],by rw[aik];exact hoi,fun e he hb=>h2 e ?_ hb⟩
   rw[aik,hop] at ho'
   cases ho'
   split
   ·exact he
   ·exact Array.mem_push.2 (.inl he)
  ·rintro⟨h1,o,ho,h2⟩
   have hoi:(o0::r)[i]? =some o:=by simpa using ho
   refine⟨h1,_,by rw[aik];exact get i o hoi,fun e he hb=> ?_⟩
   split at he
   ·exact h2 e he hb
   ·rcases Array.mem_push.1 he with he | he
    ·exact h2 e he hb
    ·subst he;exact h0
 have emp:∀ (listed:Array Bool),listed.getD 0 false=true->(Region.ready .any (o0::r.map DZ).toArray listed=[]↔Region.ready .any (o0::r).toArray listed=[]):=fun listed h0=>by
  constructor<;>intro h<;>rw[ahU] at h ⊢ <;>intro i hi
  ·exact h i ((rd listed h0 i).2 hi)
  ·exact h i ((rd listed h0 i).1 hi)
 intro u
 induction u with
 | zero=>intro listed a w h0 h;exact⟨(emp listed h0).1 h.1,h.2⟩
 | succ u ih=>
  intro listed a w h0 h
  refine⟨fun hr=>h.1 ((emp listed h0).2 hr),fun i hi=> ?_⟩
  have h1:=h.2 i ((rd listed h0 i).2 hi)
  obtain⟨_,o,ho,_⟩:=mem_ready.1 hi
  have hoi:(o0::r)[i]? =some o:=by simpa using ho
  have hop:(o0::r.map DZ).toArray[i]? =some (if i=0 then o else DZ o):=by rw[aik];exact get i o hoi
  have hgo:=hg o (aiF hoi)
  have next:∀ a w,Go.wpAny P .any (o0::r.map DZ).toArray Q u (listed.setIfInBounds i true) a w->Go.wpAny P .any (o0::r).toArray Q u (listed.setIfInBounds i true) a w:=fun a w h=>ih _ a w (getD_set_true h0) h
  unfold Go.wpOp at h1 ⊢
  rw[hop] at h1
  rw[ho]
  simp only at h1 ⊢
  have w1:∀ y,Region.wanted o y=true:=fun y=>by simp[Region.wanted,hgo]
  have w2:∀ y,Region.wanted (if i=0 then o else DZ o) y=true:=fun y=>by split<;>simp[Region.wanted,DZ,hgo]
  rw[ajZ (w2 _)] at h1
  rw[ajZ (w1 _)]
  rcases h1 with h1 | h1
  ·left
   have h2:o.wp P a w (Go.wpAny P .any (o0::r.map DZ).toArray Q u (listed.setIfInBounds i true)) Q:=by split at h1<;>exact h1
   exact Oper.wp_mono (fun a' w' h'=>next a' w' h') h2
  ·right
   have h2:o.asks P a w:=by
    have:=h1.1
    split at this<;>exact this
   exact⟨h2,h1.2⟩
theorem acG {P:Program} {ops:List Oper} (h:aa9 ops=true) {Q:Exit->Act->World->Prop} (hQ:∀ e a w,Q e a w->e= .normal) {a:Act} {w:World} (hh:Go.wpAny P .any (Pz ops).toArray Q ops.length (Array.replicate ops.length false) a w):Go.wpAny P .any ops.toArray Q ops.length (Array.replicate ops.length false) a w:=by
 match ops,h with
 | o0::r,h=>
  simp only[aa9,ag1,ahH,ajC] at h
  obtain⟨hm,hg,haf,hd,hs,hf⟩:=h
  obtain⟨x,hx⟩:∃ x,o0.op= .move x:=by
   split at hm
   ·rename_i x hx;exact⟨x,hx⟩
   ·cases hm
  have hg0:=hg o0 (by simp)
  have hrun:∀ w,(execOp a.eval o0).run P w= .ok (.value (a.eval x)) w:=fun w=>by simp[execOp,hx]
  have w1:∀ y,Region.wanted o0 y=true:=fun y=>by simp[Region.wanted,hg0]
  have hr0:∀ (l:List Oper),0∈Region.ready .any (o0::l).toArray (Array.replicate (r.length+1) false):=fun l=>by
   rw[mem_ready]
   refine⟨by simp,o0,by simp,fun e he=> ?_⟩
   rw[Array.isEmpty_iff.1 haf] at he
   simp at he
  have h1:=hh.2 0 (hr0 _)
  unfold Go.wpOp at h1
  rw[show (Pz (o0::r)).toArray[0]? =some o0 by simp[Pz]] at h1
  simp only at h1
  rw[ajZ (w1 _)] at h1
  rcases h1 with h1 | ⟨_,a',w',h1⟩
  ·unfold Oper.wp at h1
   rw[hrun] at h1
   have h2:=adp hg r.length _ _ _ (by simp) h1
   refine wpAny_take (by simp) hs hf (by simpa using hr0 r) (fun c a w q=>by cases hQ _ _ _ q) (.inl ⟨w1 _,hrun⟩) h2
  ·cases hQ _ _ _ h1
variable {X:Cx} {C:Fr X.P} {G:Gh} {ρ:Env} {w:World} {β:Type}
theorem abl (hX:cD X) (hmix:X.P.follows .mixedOrders=true) {ops:List Oper} {S:St} {k:St->Option β} {r:β} (h:Vj X ops S k=some r) {Q:Exit->Act->World->Prop} (hQ:∀ S' G ρ w a,k S'=some r->Mod C G ρ S' w a->Q .normal a w) {a:Act} (hM:Mod C G ρ S w a) (id:Nat):(Code.region id ops.toArray true).wp X.P Q a w:=by
 refine wp_region_any hmix ?_
 unfold Vj at h
 split at h
 ·rename_i hc
  rw[ag1] at hc
  let Q':Exit->Act->World->Prop:=fun e a w=>e= .normal/\Q .normal a w
  have h3:=HN (Q:=Q') hX h (fun S' G ρ w a hk hm=>⟨rfl,hQ S' G ρ w a hk hm⟩) hM (fun h=>by cases h)
  have hl:(Pz ops).toArray.size=ops.length:=by cases ops<;>simp[Pz]
  rw[hl] at h3
  have h4:=acG hc.2 (Q:=Q') (fun e a w q=>q.1) h3
  refine aas (Q':=Q') (fun e a w q=>by obtain⟨e1,q⟩:=q;subst e1;exact q) _ _ _ _ ?_
  simpa using h4
 refine HN hX h hQ hM fun h'=> ?_
 split at h'
 ·rename_i hp
  have H:=YE hp
  have h2:=HN hX h' hQ hM (fun h=>by cases h)
  rw[H.size] at h2
  refine H.wpAny _ _ _ _ _ (by simp) (by simp) (fun i b hi=> ?_) h2
  have:=(H.lt i hi).1
  simp only[agO,agS,hi,this,aj0]
 ·cases h'
end Go.Dn
namespace Go.Dn
variable {X:Cx} {C:Fr X.P} {G:Gh} {ρ:Env} {w:World} {β:Type}
structure yc (ops:List Oper) (S S':St):Prop where
 boxes:S'.boxes=S.boxes
 rows:S'.rows=S.rows
 objs:S'.objs=S.objs
 len:S'.tmps.length=S.tmps.length
 tmp:∀ t,(∀ o,o∈ops->o.dst≠some t)->S'.tmps[t]? =S.tmps[t]?
theorem yc.refl (ops:List Oper) (S:St):yc ops S S:=⟨rfl,rfl,rfl,rfl,fun _ _=>rfl⟩
theorem yc.put {ops:List Oper} {S S':St} (h:yc ops S S') {o:Oper} (ho:o∈ops) (s:SV):yc ops S (S'.put o.dst s):=by
 cases hd:o.dst with
 | none=>exact h
 | some d=>
  refine⟨h.boxes,h.rows,h.objs,by simp[St.put,h.len],fun t ht=> ?_⟩
  have hne:d≠t:=fun e=>ht o ho (by rw[hd,e])
  simp only[St.put]
  rw[aif hne]
  exact h.tmp t ht
theorem yc.app {ops:List Oper} {S S':St} (h:yc ops S S') {o:Oper} (ho:o∈ops) {x:Del} (hp:tO x=true):yc ops S (S'.app o.dst x):=by
 obtain⟨p1,p2,p3⟩:=Fj hp
 have e:x=⟨x.sv,none,none,none⟩:=by cases x;simp only at p1 p2 p3;subst p1;subst p2;subst p3;rfl
 rw[e,St.JV]
 exact h.put ho _
theorem abk (S:St):(eX xH S).boxes=S.boxes/\(eX xH S).rows=S.rows/\(eX xH S).objs=S.objs:=by
 refine⟨?_,rfl,rfl⟩
 simp only[eX]
 exact List.filter_eq_self.2 fun p _=>by simp[rz,xH,inL]
theorem acK (i:Nat):inM m0 i=false:=by simp[inM,m0];rfl
theorem RS (hX:cD X) {ops:List Oper} {M:St}:∀ {l:List Oper} {c:Nat} {S:St} {k:St->Option β} {r:β},(∀ o,o∈l->o∈ops)->lE X ops M (fun _=>eX xH M) m0 c l S k=some r->yc ops M S->∀ {Q:Exit->Act->World->Prop}, (∀ S' G ρ w a,k S'=some r->yc ops M S'->Mod C G ρ S' w a->Q .normal a w)->∀ {G ρ w a},Mod C G ρ S w a->wpList X.P ops.toArray Q l a w
 | [],c,S,k,r,hl,h,hJ,Q,hQ,G,ρ,w,a,hM=>hQ S G ρ w a h hJ hM
 | o::rest,c,S,k,r,hl,h,hJ,Q,hQ,G,ρ,w,a,hM=>by
  have hmem:o∈ops:=hl o (by simp)
  have hl':∀ o,o∈rest->o∈ops:=fun o ho=>hl o (by simp[ho])
  have step:(gz X o S (eX xH M) fun x=>bif tO x then lE X ops M (fun _=>eX xH M) m0 (c+1) rest (S.app o.dst x) k else none)=some r->o.wp X.P a w (wpList X.P ops.toArray Q rest) Q:=fun h=>by
   obtain⟨x,h1,h2,_⟩:=zf hX h
   cases hp:tO x with
   | false=>rw[hp] at h1;cases h1
   | true=>
    rw[hp,ajO] at h1
    obtain⟨p1,p2,p3⟩:=Fj hp
    obtain⟨e1,e2,e3⟩:=abk M
    have:=h2 C G ρ S w a Q hM ⟨fun _ _=>rfl,fun k cs hk=>by rw[hJ.boxes, <- e1];exact hk,fun k cs hk=>by rw[hJ.rows, <- e2];exact hk,fun k cs hk=>by rw[hJ.objs, <- e3];exact hk⟩
     (fun d _ h=>by rw[p1] at h;cases h) (fun d _ h=>by rw[p2] at h;cases h) (fun d _ h=>by rw[p3] at h;cases h)
    exact Oper.wp_mono (fun a' w' ⟨G',ρ',hM'⟩=>RS hX hl' h1 (hJ.app hmem hp) hQ hM') this
  have skip:lE X ops M (fun _=>eX xH M) m0 (c+1) rest (S.put o.dst wU) k=some r->wpList X.P ops.toArray Q rest (a.put o.dst undef) w:=fun h=>
   RS hX hl' h (hJ.put hmem _) hQ (hM.put o.dst (fun _ _=>T6))
  simp only[lE,acK,ajN] at h
  split at h
  ·cases hs:rR ops o S with
   | false=>rw[hs] at h;cases h
   | true=>
    rw[hs] at h
    have hw:=Mi hM.tmps hs
    simp only[wpList,hw]
    rw[ajY (by simp)];exact skip h
  ·rename_i hg
   have hw:=lu hM.tmps hg
   simp only at hw
   simp only[wpList,hw,aj0]
   exact .inl (step h)
  ·rename_i d b want hg
   obtain⟨hS,hw⟩:=lu hM.tmps hg
   rcases Pm hS h with ⟨hb,h⟩ | ⟨hb,h⟩
   ·rw[hb] at hw
    simp only[wpList,hw,aj0]
    exact .inl (step h)
   ·rw[hb] at hw
    simp only[wpList,hw]
    rw[ajY (by simp)];exact skip h
theorem QN {ops:List Oper} {M:St}:∀ {l:List Oper} {S:St} {outs:List (Option Del)},(∀ o,o∈l->o∈ops)->yc ops M S->(∀ y,some y∈outs->tO y=true)->yc ops M (states l S outs)
 | [],S,outs,_,h,_=>by cases outs<;>exact h
 | o::l,S,[],_,h,_=>h
 | o::l,S,x::xs,hl,h,hp=>by
  simp only[states]
  refine QN (fun o ho=>hl o (by simp[ho])) ?_ (fun y hy=>hp y (by simp[hy]))
  cases x with
  | none=>exact h.put (hl o (by simp)) _
  | some y=>exact h.app (hl o (by simp)) (hp y (by simp))
theorem afo (hX:cD X) (hmix:X.P.follows .mixedOrders=true) {ops:List Oper} {dr:Bool} {S:St} {k:St->Option β} {r:β} (h:abi X ops dr S k=some r) {Q:Exit->Act->World->Prop} (hQ:∀ S' G ρ w a,k S'=some r->yc ops S S'->Mod C G ρ S' w a->Q .normal a w) {a:Act} (hM:Mod C G ρ S w a) (id:Nat):(Code.region id ops.toArray dr).wp X.P Q a w:=by
 cases dr with
 | false=>
  simp only[abi,ajN,abm] at h
  refine wp_region_list ?_
  have:=RS hX (fun _ h=>h) h (.refl ops S) (Q:=Q) hQ hM
  simpa using this
 | true=>
  simp only[abi,ajO] at h
  cases hchk:(Ka ops ops.length&& !(ops.any fun o=>BP o.op)) with
  | false=>rw[hchk] at h;cases h
  | true=>
   rw[hchk,ajO] at h
   unfold abm at h
   obtain⟨outs,h1,h2,h3⟩:=Em (tf:=fun _=>xH) hX h
   cases hnew:Fe ops ops.length S (states ops S outs) with
   | false=>rw[hnew] at h2;cases h2
   | true=>
    rw[hnew,ajO] at h2
    have htk:ops.take ops.length=ops:=aiY
    simp only[Ka,ag1] at hchk
    obtain⟨⟨⟨⟨⟨c1,c2⟩,c3⟩,c4⟩,c5⟩,_⟩:=hchk
    have K:=dh.of (X:=X) (ops:=ops) (n:=ops.length) (S:=S) (outs:=outs) (ajc _) c2 c4 (by rw[htk];exact h1) (fun i o x hi hx=>by
     rw[htk] at hi ⊢
     exact (h3 i o x hi hx).1) (by rw[htk];exact hnew)
    rw[htk] at K
    have hpure:∀ y,some y∈outs->tO y=true:=fun y hy=>by
     obtain⟨i,hi⟩:=aiD.1 hy
     have hlt:i<outs.length:=(aia.1 hi).1
     have hlt':i<ops.length:=by rw[<- h1];exact hlt
     exact ((h3 i _ (some y) (ah8 hlt') hi).2 (acK _) y rfl).2
    have hJ:=QN (ops:=ops) (M:=S) (outs:=outs) (fun _ h=>h) (.refl ops S) hpure
    refine wp_region_any hmix ?_
    have hM':=hM.of_heap (w':={ w with drawn:=w.drawn+1 }) rfl rfl rfl
    have hany:=K.any (C:=C) (Q:=Q) (H8 c3) c5 (fun G ρ w a hMn=>by
     rw[List.drop_length]
     exact hQ _ G ρ w a h2 hJ hMn) ops.length (Array.replicate ops.toArray.size false) a { w with drawn:=w.drawn+1 } G ρ (by simp) zK
     (fun m _ hm2=>wS hm2 true) (Bk (ajc _)) (by
       have:=Fx (X:=X) (C:=C) (ops:=ops) (n:=ops.length) (S:=S) (outs:=outs) (ajc _) hM'
       rw[htk] at this
       exact this)
    rw[show ops.length+(ops.length - ops.length)=ops.toArray.size by simp] at hany
    exact hany
theorem Ja:∀ (l:List Oper) (T:List SV),(zZ l T).length=T.length
 | [],_=>rfl
 | o::r,T=>by
  simp only[zZ]
  rw[Ja r]
  cases o.dst<;>simp
theorem Qn:∀ (l:List Oper) (T:List SV) (t:Nat) (s:SV),(zZ l T)[t]? =some s->s= .v false [.any]\/((∀ o,o∈l->o.dst≠some t)/\T[t]? =some s)
 | [],T,t,s,h=> .inr ⟨(fun _ h'=>nomatch h'),h⟩
 | o::r,T,t,s,h=>by
  simp only[zZ] at h
  rcases Qn r _ t s h with h1 | ⟨h1,h2⟩
  ·exact .inl h1
  ·cases hd:o.dst with
   | none=>
    rw[hd] at h2
    refine .inr ⟨fun o' ho=> ?_,h2⟩
    rcases aiz.1 ho with e | e
    ·subst e;rw[hd];exact nofun
    ·exact h1 o' e
   | some d=>
    rw[hd] at h2
    simp only[aie] at h2
    by_cases e:d=t
    ·subst e
     rw[ajZ rfl] at h2
     split at h2
     ·cases h2;exact .inl rfl
     ·cases h2
    ·rw[ajY e] at h2
     refine .inr ⟨fun o' ho=> ?_,h2⟩
     rcases aiz.1 ho with e' | e'
     ·subst e';rw[hd];intro h;cases h;exact e rfl
     ·exact h1 o' e'
theorem RB:∀ (l:List (Nat×Ty)) (v:U4 l) (T:List SV),(LL l v T).length=T.length
 | [],_,_=>rfl
 | p::r,v,T=>by simp[LL,RB r]
theorem ZW {S':St} {ρ:Env} {a:Act} (hF:mc G ρ S') (hT:jO G ρ S' a):∀ (l:List (Nat×Ty)) (v:U4 l) (T:List SV),Tj S' l=some v->T.length=S'.tmps.length->(∀ (i:Nat) (s:SV),T[i]? =some s->bK G ρ s (a.tmps.getD i undef))-> ∀ (i:Nat) (s:SV),(LL l v T)[i]? =some s->bK G ρ s (a.tmps.getD i undef)
 | [],_,T,_,_,h,i,s,hi=>h i s hi
 | p::r,v,T,hv,hl,h,i,s,hi=>by
  simp only[Tj] at hv
  split at hv
  ·rename_i x hx
   split at hv
   ·rename_i y hy
    cases hv
    simp only[LL,aie] at hi
    by_cases e:p.1=i
    ·subst e
     rw[ajZ rfl] at hi
     split at hi
     ·rename_i hlt
      cases hi
      rw[RB,hl] at hlt
      have hd:=hT.2 p.1 _ (ah8 hlt)
      have:bK G ρ (S'.tmps.getD p.1 (.v false [.any])) (a.tmps.getD p.1 undef):=by
       rw[ah1,ah8 hlt];exact hd
      exact KQ ρ (qA hF (qK.nil _ _ _) hx this)
     ·cases hi
    ·rw[ajY e] at hi
     exact ZW hF hT r y T hy hl h i s hi
   ·cases hv
  ·cases hv
theorem acf {S S':St} {ops:List Oper} {l:List (Nat×Ty)} {v:U4 l} {a:Act} (hJ:yc ops S S') (hv:Tj S' l=some v) (hM:Mod C G ρ S' w a):Mod C G ρ { S with tmps:=LL l v (zZ ops S.tmps) } w a:=by
 have h0:Mem C G ρ { S with tmps:=LL l v (zZ ops S.tmps) } w:=hM.toMem.PA (by rw[hJ.boxes]) (by rw[hJ.rows]) (by rw[hJ.objs])
 refine { h0 with tmps:=⟨?_, ?_⟩,defers:=hM.defers }
 ·show a.tmps.size=(LL l v (zZ ops S.tmps)).length
  rw[RB,Ja, <- hJ.len];exact hM.tmps.1
 ·refine ZW hM.toMem.frozen hM.tmps l v _ hv (by rw[Ja,hJ.len]) (fun i s hi=> ?_)
  rcases Qn ops S.tmps i s hi with e | ⟨h1,h2⟩
  ·subst e;trivial
  ·exact hM.tmps.2 i s (by rw[hJ.tmp i h1];exact h2)
end Go.Dn
namespace Go.Dn
variable {X:Cx} {C:Fr X.P}
def Ex.KS:Ex->Exit
 | .normal=> .normal
 | .exit id=> .exit id
 | .ret=> .ret
theorem Wh {β:Type} {A:Ann} {c:Code} {len:Nat} {anns:List (Nat×Ann)} {K:Ex->St->Option β} {r:β} {Q:Exit->Act->World->Prop}
 (ih:∀ {S:St} {K:Ex->St->Option β} {r:β},den X anns c β S K=some r->∀ {Q:Exit->Act->World->Prop},
   (∀ e S' G ρ w a,K e S'=some r->Mod C G ρ S' w a->Q e.KS a w)->∀ {G ρ w a},Mod C G ρ S w a->c.wp X.P Q a w)
 (hQ:∀ e S' G ρ w a,K e S'=some r->Mod C G ρ S' w a->Q e.KS a w):∀ (n:Nat) (x:dO A.cks) (G:Gh) (ρ:Env) (w:World) (a:Act),
 iter n x (fun x again=>den X anns c β (head A len x) fun e S'=>match e with
  | .normal=>match carry A S' with
   | some y=>bif Nat.beq S'.tmps.length len then again y else none
   | none=>none
  | .exit j=>K (.exit j) S'
  | .ret=>K .ret S')=some r->Mod C G ρ (head A len x) w a->Code.rounds X.P c Q n a w
 | 0,x,G,ρ,w,a,h,hM=>by simp[iter] at h
 | n+1,x,G,ρ,w,a,h,hM=>by
  simp only[iter] at h
  refine ih h (fun e S' G' ρ' w' a' hk hM'=> ?_) hM
  cases e with
  | normal=>
   simp only at hk
   split at hk
   ·rename_i y hy
    cases hb:Nat.beq S'.tmps.length len with
    | false=>rw[hb] at hk;cases hk
    | true=>
     rw[hb] at hk
     simp only[ajO] at hk
     obtain⟨G2,ρ2,h2⟩:=UW hM' hy
     rw[ai8 hb] at h2
     exact Wh ih hQ n y G2 ρ2 w' a' hk h2
   ·cases hk
  | exit id=>exact hQ (.exit id) S' G' ρ' w' a' hk hM'
  | ret=>exact hQ .ret S' G' ρ' w' a' hk hM'
theorem Tk {β γ:Type} {x:Option (β ⊕ γ)} {f:γ->Option β} {r:β} (h:aG x f=some r):∃ q,x=some q/\(q= .inl r\/∃ v,q= .inr v/\f v=some r):=by
 unfold aG at h
 split at h
 ·cases h
 ·cases h;exact⟨_,rfl,.inl rfl⟩
 ·rename_i v;exact⟨_,rfl,.inr ⟨v,rfl,h⟩⟩
theorem Ck {β γ:Type} {x:Option β} {q:β ⊕ γ} (h:LI x=some q):∃ r,x=some r/\q= .inl r:=by
 unfold LI at h
 split at h
 ·cases h;exact⟨_,rfl,rfl⟩
 ·cases h
theorem acz {β:Type} {A:Ann} {n:Nat} {S:St} {q:β ⊕ dO A.cks} (h:meet A n S=some q):∃ v,carry A S=some v/\S.tmps.length=n/\q= .inr v:=by
 unfold meet at h
 split at h
 ·rename_i v hv
  cases hb:Nat.beq S.tmps.length n with
  | false=>rw[hb] at h;cases h
  | true=>rw[hb] at h;simp only[ajO,Option.some.injEq] at h;exact⟨v,hv,ai8 hb,h.symm⟩
 ·cases h
theorem Py {β:Type} {A:Ann} {n:Nat} {K:Ex->St->Option β} {r:β} {Q:Exit->Act->World->Prop} (hQ:∀ e S' G ρ w a,K e S'=some r->Mod C G ρ S' w a->Q e.KS a w) {q:β ⊕ dO A.cks} (hq:q= .inl r\/∃ v,q= .inr v/\K .normal (head A n v)=some r) {S':St} {G:Gh} {ρ:Env} {w:World} {a:Act} (hM:Mod C G ρ S' w a) (h:meet A n S'=some q):Q .normal a w:=by
 obtain⟨v,h1,h2,h3⟩:=acz h
 rcases hq with hq | ⟨v',hq,hk⟩
 ·rw[h3] at hq;cases hq
 ·rw[h3] at hq
  cases hq
  obtain⟨G2,ρ2,hm⟩:=UW hM h1
  rw[h2] at hm
  exact hQ .normal _ G2 ρ2 w a hk hm
theorem abG {β:Type} {a b:Option β} {r:β} (h:both a b=some r):a=some r/\b=some r:=by
 unfold both at h
 split at h
 ·rename_i e;exact⟨h,e ▸ h⟩
 ·cases h
theorem NY (hX:cD X) (hmix:X.P.follows .mixedOrders=true) (anns:List (Nat×Ann)):∀ (c:Code) {β:Type} {S:St} {K:Ex->St->Option β} {r:β},den X anns c β S K=some r->∀ {Q:Exit->Act->World->Prop}, (∀ e S' G ρ w a,K e S'=some r->Mod C G ρ S' w a->Q e.KS a w)->∀ {G ρ w a},Mod C G ρ S w a->c.wp X.P Q a w:=by
 intro c
 induction c with
 | skip=>
  intro β S K r h Q hQ G ρ w a hM
  exact wp_skip (hQ .normal S G ρ w a h hM)
 | region id ops dr=>
  intro β S K r h Q hQ G ρ w a hM
  simp only[den] at h
  split at h
  ·rename_i A hA
   obtain⟨v,hv,h⟩:=bind_some h
   have:=afo hX hmix hv (Q:=Q) (fun S' G ρ w a hk hJ hM=>hQ .normal _ G ρ w a h (acf hJ hk hM)) hM id
   simpa using this
  ·cases dr with
   | true=>
    simp only[ajO] at h
    have:=abl hX hmix h (Q:=Q) (fun S' G ρ w a hk hM=>hQ .normal S' G ρ w a hk hM) hM id
    simpa using this
   | false=>
    simp only[ajN] at h
    refine wp_region_list ?_
    have:=zy hX ops.toList ops.toList h (Q:=Q) (fun S' G ρ w a hk hM=>hQ .normal S' G ρ w a hk hM) hM
    simpa using this
 | seq x y ihx ihy=>
  intro β S K r h Q hQ G ρ w a hM
  simp only[den] at h
  refine wp_seq (ihx h (fun e S' G' ρ' w' a' hk hM'=> ?_) hM)
  cases e with
  | normal=>exact ihy hk hQ hM'
  | exit id=>exact hQ (.exit id) S' G' ρ' w' a' hk hM'
  | ret=>exact hQ .ret S' G' ρ' w' a' hk hM'
 | cond b x y ihx ihy=>
  intro β S K r h Q hQ G ρ w a hM
  simp only[den] at h
  split at h
  ·rename_i t ht
   have hv:=hM.tmps.ev b
   rw[ht] at hv
   split at h
   ·rename_i A hA
    obtain⟨q,h1,hq⟩:=Tk h
    refine wp_cond_split (t:=t) hv (fun e=> ?_) (fun e=> ?_)
    ·subst e
     simp only[ajO] at h1
     refine ihx h1 (fun e S' G' ρ' w' a' hk hM'=> ?_) hM
     cases e with
     | normal=>exact Py hQ hq hM' hk
     | exit j=>
      obtain⟨r',hr,hr2⟩:=Ck hk
      rcases hq with hq | ⟨v,hq,_⟩
      ·rw[hr2] at hq;cases hq;exact hQ (.exit j) S' G' ρ' w' a' hr hM'
      ·rw[hr2] at hq;cases hq
     | ret=>
      obtain⟨r',hr,hr2⟩:=Ck hk
      rcases hq with hq | ⟨v,hq,_⟩
      ·rw[hr2] at hq;cases hq;exact hQ .ret S' G' ρ' w' a' hr hM'
      ·rw[hr2] at hq;cases hq
    ·subst e
     simp only[ajN] at h1
     refine ihy h1 (fun e S' G' ρ' w' a' hk hM'=> ?_) hM
     cases e with
     | normal=>exact Py hQ hq hM' hk
     | exit j=>
      obtain⟨r',hr,hr2⟩:=Ck hk
      rcases hq with hq | ⟨v,hq,_⟩
      ·rw[hr2] at hq;cases hq;exact hQ (.exit j) S' G' ρ' w' a' hr hM'
      ·rw[hr2] at hq;cases hq
     | ret=>
      obtain⟨r',hr,hr2⟩:=Ck hk
      rcases hq with hq | ⟨v,hq,_⟩
      ·rw[hr2] at hq;cases hq;exact hQ .ret S' G' ρ' w' a' hr hM'
      ·rw[hr2] at hq;cases hq
   ·refine wp_cond_split (t:=t) hv (fun e=> ?_) (fun e=> ?_)
    ·subst e;exact ihx h hQ hM
    ·subst e;exact ihy h hQ hM
  ·rename_i t ht
   have hv:=hM.tmps.ev b
   rw[ht] at hv
   obtain⟨c,hc,hf⟩:=(hv:br G ρ (.nb t) _)
   cases t with
   | false=>
    have:=hf rfl
    subst this
    exact wp_cond_split (t:=false) hc (fun e=>by cases e) (fun _=>ihy h hQ hM)
   | true=>
    obtain⟨h1,h2⟩:=abG h
    exact wp_cond_split (t:=c) hc (fun _=>ihx h1 hQ hM) (fun _=>ihy h2 hQ hM)
  ·cases h
 | block id x ih=>
  intro β S K r h Q hQ G ρ w a hM
  simp only[den] at h
  split at h
  ·rename_i A hA
   obtain⟨q,h1,hq⟩:=Tk h
   refine wp_block (ih h1 (fun e S' G' ρ' w' a' hk hM'=> ?_) hM)
   cases e with
   | normal=>exact Py hQ hq hM' hk
   | exit j=>
    simp only at hk
    simp only[Ex.KS,Exit.inBlock]
    split at hk
    ·rename_i hb
     rw[ajZ (ai8 hb)]
     exact Py hQ hq hM' hk
    ·rename_i hb
     rw[ajY (fun e=>hb (by rw[e];simp))]
     obtain⟨r',hr,hr2⟩:=Ck hk
     rcases hq with hq | ⟨v,hq,_⟩
     ·rw[hr2] at hq;cases hq;exact hQ (.exit j) S' G' ρ' w' a' hr hM'
     ·rw[hr2] at hq;cases hq
   | ret=>
    obtain⟨r',hr,hr2⟩:=Ck hk
    rcases hq with hq | ⟨v,hq,_⟩
    ·rw[hr2] at hq;cases hq;exact hQ .ret S' G' ρ' w' a' hr hM'
    ·rw[hr2] at hq;cases hq
  ·refine wp_block (ih h (fun e S' G' ρ' w' a' hk hM'=> ?_) hM)
   cases e with
   | normal=>exact hQ .normal S' G' ρ' w' a' hk hM'
   | exit j=>
    simp only at hk
    simp only[Ex.KS,Exit.inBlock]
    split at hk
    ·rename_i hb
     rw[ajZ (ai8 hb)]
     exact hQ .normal S' G' ρ' w' a' hk hM'
    ·rename_i hb
     rw[ajY (fun e=>hb (by rw[e];simp))]
     exact hQ (.exit j) S' G' ρ' w' a' hk hM'
   | ret=>exact hQ .ret S' G' ρ' w' a' hk hM'
 | loop x ih=>
  intro β S K r h Q hQ G ρ w a hM
  simp only[den] at h
  split at h
  ·rename_i A hA
   split at h
   ·rename_i y hy
    obtain⟨G2,ρ2,h2⟩:=UW hM hy
    exact wp_loop_rounds (A.fuel y) (Wh ih hQ (A.fuel y) y G2 ρ2 w a h h2)
   ·cases h
  ·cases h
 | exit id=>
  intro β S K r h Q hQ G ρ w a hM
  exact wp_exit (hQ (.exit id) S G ρ w a h hM)
 | ret=>
  intro β S K r h Q hQ G ρ w a hM
  exact wp_ret (hQ .ret S G ρ w a h hM)
 | _=>
  intro β S K r h
  simp[den] at h
end Go.Dn
namespace Go.Dn
variable {X:Cx} {C:Fr X.P} {G:Gh} {ρ:Env} {w:World}
def iy (ρ:Env):Nat->List PM->List Value->Prop
 | _,[],_=>True
 | i,.mrow _ _::r,vs=>(vs.head? =some (ρ.rw (pid i 0))/\∃ a n c,ρ.rw (pid i 0)= .slice a n c)/\iy ρ (i+1) r vs.tail
 | i,.map _ _::r,vs=>(vs.head? =some (ρ.ob (pid i 0))/\∃ b,ρ.ob (pid i 0)= .map (some b))/\iy ρ (i+1) r vs.tail
 | i,.box _::r,vs=>vs.head? =some (.pointer (some ⟨ρ.bx (2000+i),0,none⟩))/\iy ρ (i+1) r vs.tail
 | i,.ar _::r,vs=>iy ρ (i+1) r vs
 | i,.arR _::r,vs=>iy ρ (i+1) r vs
 | i,.val _::r,vs=>iy ρ (i+1) r vs.tail
 | i,.row _ _::r,vs=>iy ρ (i+1) r vs.tail
theorem aaj (i:Nat):10000000<=pid i 0:=by simp only[pid,pD,nid];omega
theorem iy.congr {ρ ρ':Env} (hb:∀ k,2000<=k->ρ'.bx k=ρ.bx k) (hr:∀ k,10000000<=k->ρ'.rw k=ρ.rw k/\ρ'.ob k=ρ.ob k):∀ {ps:List PM} {i:Nat} {vs:List Value},iy ρ i ps vs->iy ρ' i ps vs
 | [],_,_,_=>trivial
 | .mrow _ _::r,i,vs,h=>by
  simp only[iy] at h ⊢
  rw[(hr _ (aaj i)).1];exact⟨h.1,h.2.congr hb hr⟩
 | .map _ _::r,i,vs,h=>by
  simp only[iy] at h ⊢
  rw[(hr _ (aaj i)).2];exact⟨h.1,h.2.congr hb hr⟩
 | .box _::r,i,vs,h=>by
  simp only[iy] at h ⊢
  rw[hb _ (by omega)];exact⟨h.1,h.2.congr hb hr⟩
 | .ar _::r,i,vs,h=>iy.congr (ps:=r) hb hr h
 | .arR _::r,i,vs,h=>iy.congr (ps:=r) hb hr h
 | .val _::r,i,vs,h=>iy.congr (ps:=r) hb hr h
 | .row _ _::r,i,vs,h=>iy.congr (ps:=r) hb hr h
theorem Trans.refl (G:Gh) (b:Bool):Trans G G b:=⟨fun _ _ h=>h,.inr (Gh.le_refl G)⟩
theorem pR {ow:Nat->Option Nat}:∀ {ps:List PM} {i:Nat} {x:eL ps} {vs:List Value},kF G w ow i ps x vs-> ∃ vals:List (bE×Value),vals.map (·.1)=(dz i ps).map (·.1)/\(∀ k v,(.inl k,v)∈vals->∃ b,v= .pointer (some ⟨b,0,none⟩))/\ ∀ ρ:Env,(∀ o v,(o,v)∈vals->Asg ρ w o v)->(∀ o n,(o,n)∈dz i ps->∀ b,ow b=some n->ρ.own b=some o)-> aR (bK G ρ) (ig i ps x) vs/\nv G ρ w (uA i ps x) (sA i ps x) (jH i ps x)/\iy ρ i ps vs
 | [],i,x,vs,h=>⟨[],rfl,fun k v h=>by simp at h,fun ρ _ _=>⟨h,nv.nil,trivial⟩⟩
 | .val t::r,i,x,vs,⟨v,us,h1,_,hv,hu⟩=>by
  obtain⟨vals,e,hp,hr⟩:=pR hu
  refine⟨vals,e,hp,fun ρ hA hO=> ?_⟩
  obtain⟨g1,g2,g3⟩:=hr ρ hA hO
  rw[h1 rfl]
  exact⟨⟨v,us,rfl,KQ ρ hv,g1⟩,g2,g3⟩
 | .row e' t::r,i,x,vs,⟨v,us,h1,_,⟨hv,hv2⟩,hu⟩=>by
  obtain⟨vals,e,hp,hr⟩:=pR hu
  refine⟨(.inr (pid i 0),v)::vals,by simp[dz,e],fun k v h=>hp k v (by simpa using h),fun ρ hA hO=> ?_⟩
  obtain⟨g1,g2,g3⟩:=hr ρ (fun o v h=>hA o v (by simp[h])) (fun o n h=>hO o n (by simp[dz,h]))
  have hav:ρ.rw (pid i 0)=v:=hA (.inr (pid i 0)) v (by simp)
  rw[h1 rfl]
  refine⟨⟨v,us,rfl,⟨hav.symm,hv.isSlice⟩,g1⟩,⟨g2.bx,fun j q hj=> ?_,g2.ob⟩,g3⟩
  simp only[sA,aD] at hj
  split at hj
  ·rename_i ej
   subst ej
   cases hj
   exact hv.ok (Trans.refl G _) hav (fun b hb=>hO _ _ (by simp[dz]) b (hv2 b hb))
  ·exact g2.rw j q hj
 | .mrow e' t::r,i,x,vs,⟨v,us,h1,_,⟨hv,hv2⟩,hu⟩=>by
  obtain⟨vals,e,hp,hr⟩:=pR hu
  refine⟨(.inr (pid i 0),v)::vals,by simp[dz,e],fun k v h=>hp k v (by simpa using h),fun ρ hA hO=> ?_⟩
  obtain⟨g1,g2,g3⟩:=hr ρ (fun o v h=>hA o v (by simp[h])) (fun o n h=>hO o n (by simp[dz,h]))
  have hav:ρ.rw (pid i 0)=v:=hA (.inr (pid i 0)) v (by simp)
  rw[h1 rfl]
  refine⟨⟨v,us,rfl,⟨hav.symm,hv.isSlice⟩,g1⟩,⟨g2.bx,fun j q hj=> ?_,g2.ob⟩,⟨by rw[hav];rfl,by rw[hav];exact hv.isSlice⟩,g3⟩
  simp only[sA,aD] at hj
  split at hj
  ·rename_i ej
   subst ej
   cases hj
   exact hv.ok (Trans.refl G _) hav (fun b hb=>hO _ _ (by simp[dz]) b (hv2 b hb))
  ·exact g2.rw j q hj
 | .map kk vv::r,i,x,vs,⟨v,us,h1,_,⟨b,hv,hv1,hv2⟩,hu⟩=>by
  obtain⟨vals,e,hp,hr⟩:=pR hu
  refine⟨(.ob (pid i 0),v)::vals,by simp[dz,e],fun k v h=>hp k v (by simpa using h),fun ρ hA hO=> ?_⟩
  obtain⟨g1,g2,g3⟩:=hr ρ (fun o v h=>hA o v (by simp[h])) (fun o n h=>hO o n (by simp[dz,h]))
  rw[h1 rfl]
  subst hv
  have ho:ρ.own b=some (.ob (pid i 0)):=hO _ _ (by simp[dz]) b hv1
  obtain⟨m1,m2⟩:=hv2.ok (Trans.refl G _) (hA (.ob (pid i 0)) (.map (some b)) (by simp)) ho
  refine⟨⟨_,us,rfl,⟨m2.symm,b,rfl⟩,g1⟩,⟨g2.bx,g2.rw,fun j q hj=> ?_⟩,⟨by rw[m2];rfl,b,m2⟩,g3⟩
  simp only[jH,aD] at hj
  split at hj
  ·rename_i ej
   subst ej
   cases hj
   exact m1
  ·exact g2.ob j q hj
 | .box l::r,i,x,vs,⟨v,us,h1,_,hv,hu⟩=>by
  obtain⟨vals,e,hp,hr⟩:=pR hu
  obtain⟨vals2,hv2,hr2⟩:=Rb (G3:=G) (d:=pD) (k:=2000+i) (Trans.refl G _) hv
  refine⟨(.inl (2000+i),v)::(vals2++vals),by simp[dz,e,hv2],fun k v' h=> ?_,fun ρ hA hO=> ?_⟩
  ·rcases aiz.1 h with h | h
   ·cases h
    obtain⟨b,_,_,e1,_⟩:=hv
    exact⟨b,e1⟩
   ·rcases aiy.1 h with h | h
    ·have hm:(.inl k:bE)∈vals2.map (·.1):=aiE.2 ⟨_,h,rfl⟩
     rw[hv2] at hm
     obtain⟨p,hp,e1⟩:=aiE.1 hm
     obtain⟨p1,p2⟩:=p
     simp only at e1
     subst e1
     exact absurd hp ((BT (x:=x.1)).2.2 k p2)
    ·exact hp k v' h
  ·obtain⟨g1,g2,g3⟩:=hr ρ (fun o v h=>hA o v (by simp[h])) (fun o n h=>hO o n (by simp[dz,h]))
   have hk:=hA (.inl (2000+i)) v (by simp)
   have g4:=hr2 ρ hk (fun o v h=>hA o v (by simp[h])) (fun o n h=>hO o n (by
    simp only[aiz] at h
    simp only[dz,aiz,aiy]
    rcases h with h | h
    ·exact .inl h
    ·exact .inr (.inl h)))
   rw[h1 rfl]
   exact⟨⟨v,us,rfl,hk,g1⟩,g4.app g2,by rw[show v=_ from hk];rfl,g3⟩
 | .ar t::r,i,x,vs,⟨v,us,_,h1,hv,hu⟩=>by
  obtain⟨vals,e,hp,hr⟩:=pR hu
  refine⟨(.ob bQ,undef)::vals,by simp[dz,e],fun k v h=>hp k v (by simpa using h),fun ρ hA hO=> ?_⟩
  obtain⟨g1,g2,g3⟩:=hr ρ (fun o v h=>hA o v (by simp[h])) (fun o n h=>hO o n (by simp[dz,h]))
  have e1:=h1 rfl
  subst e1
  refine⟨g1,⟨g2.bx,g2.rw,fun j q hj=> ?_⟩,g3⟩
  simp only[jH,aD] at hj
  split at hj
  ·rename_i ej
   subst ej
   cases hj
   refine⟨rfl,hv.1,hv.2.1,fun n z hz=> ?_⟩
   obtain⟨b,ws,T,f1,f2,f3,f4,f5⟩:=hv.2.2 n z hz
   exact⟨b,ws,T,f1,nofun,fun _=>hO _ _ (by simp[dz]) b (f3 rfl),f4,f5⟩
  ·exact g2.ob j q hj
 | .arR t::r,i,x,vs,⟨v,us,_,h1,hv,hu⟩=>by
  obtain⟨vals,e,hp,hr⟩:=pR hu
  refine⟨vals,e,hp,fun ρ hA hO=> ?_⟩
  obtain⟨g1,g2,g3⟩:=hr ρ hA hO
  have e1:=h1 rfl
  subst e1
  refine⟨g1,⟨g2.bx,g2.rw,fun j q hj=> ?_⟩,g3⟩
  simp only[jH,aD] at hj
  split at hj
  ·rename_i ej
   subst ej
   cases hj
   refine⟨rfl,hv.1,hv.2.1,fun n z hz=> ?_⟩
   obtain⟨b,ws,T,f1,f2,f3,f4,f5⟩:=hv.2.2 n z hz
   exact⟨b,ws,T,f1,f2,nofun,f4,f5⟩
  ·exact g2.ob j q hj
theorem zJ:∀ {ps:List PM} {i:Nat} {o:bE} {n:Nat},(o,n)∈dz i ps->(∃ k,o= .inl k)\/o= .ob bQ\/LJ pD o n
 | [],i,o,n,h=>by simp[dz] at h
 | .val _::r,i,o,n,h=>zJ (ps:=r) h
 | .arR _::r,i,o,n,h=>zJ (ps:=r) h
 | .row _ _::r,i,o,n,h=>by
  simp only[dz,aiz,Prod.mk.injEq] at h
  rcases h with ⟨h,h'⟩ | h
  ·subst h;subst h';exact .inr (.inr (.inl (by rw[pid,HD];rfl)))
  ·exact zJ (ps:=r) h
 | .mrow _ _::r,i,o,n,h=>by
  simp only[dz,aiz,Prod.mk.injEq] at h
  rcases h with ⟨h,h'⟩ | h
  ·subst h;subst h';exact .inr (.inr (.inl (by rw[pid,HD];rfl)))
  ·exact zJ (ps:=r) h
 | .map _ _::r,i,o,n,h=>by
  simp only[dz,aiz,Prod.mk.injEq] at h
  rcases h with ⟨h,h'⟩ | h
  ·subst h;subst h';exact .inr (.inr (.inr (by rw[pid,HD];rfl)))
  ·exact zJ (ps:=r) h
 | .box l::r,i,o,n,h=>by
  simp only[dz,aiz,aiy,Prod.mk.injEq] at h
  rcases h with ⟨h,h'⟩ | h | h
  ·exact .inl ⟨_,h⟩
  ·exact .inr (.inr (GI h))
  ·exact zJ (ps:=r) h
 | .ar _::r,i,o,n,h=>by
  simp only[dz,aiz,Prod.mk.injEq] at h
  rcases h with ⟨h,h'⟩ | h
  ·exact .inr (.inl h)
  ·exact zJ (ps:=r) h
def YJ (tmps:Array Value):ResultVar->Sem Value
 | .tmp t=>pure (tmps.getD t undef)
 | .cell a t=>do loadVar t (<- asAddr (tmps.getD a undef))
theorem ac2 {S:St} {a:Act} {s:SV} {v:ResultVar} (hM:Mod C G ρ S w a) (h:Xf X S v=some s):∃ u,(YJ a.tmps v).run X.P w= .ok u w/\bK G ρ s u:=by
 cases v with
 | tmp t=>
  simp only[Xf,Option.some.injEq] at h
  subst h
  exact⟨_,rfl,hM.tmps.ev (.tmp t)⟩
 | cell t T=>
  simp only[Xf] at h
  split at h
  ·rename_i b off hx
   split at h
   ·rename_i l hl
    obtain⟨s',hs,hld⟩:=Fa h
    cases hs
    have h1:=hM.tmps.ev (.tmp t)
    simp only[St.ev] at h1
    rw[hx] at h1
    have h2:a.tmps.getD t undef= .pointer (some ⟨ρ.bx b,off,none⟩):=h1
    obtain⟨_,vs,T',hw,hv⟩:=hM.boxes b l hl
    obtain⟨u,hr,hsv⟩:=hld G ρ w (ρ.bx b) 0 vs hv (fun j v hj=>by
     have hadd:(⟨ρ.bx b,0,none⟩:Addr).add j=⟨ρ.bx b,j,none⟩:=by unfold Addr.add;split<;>simp_all
     rw[hadd,cell_of_row w _ j _ T' (0,0) hw];simpa using hj)
    refine⟨u, ?_,hsv⟩
    simp only[ajx] at hr
    simp only[YJ,h2,asAddr,Sem.run_bind,Sem.run_pure,Result.andThen_ok,hr]
   ·cases h
  ·cases h
theorem Mg {S:St} {a:Act} (hM:Mod C G ρ S w a):∀ {rs:List ResultVar} {l:List SV},HK X S rs=some l->∃ us,(rs.mapM (YJ a.tmps)).run X.P w= .ok us w/\aR (bK G ρ) l us
 | [],l,h=>by
  simp only[HK,Option.some.injEq] at h
  subst h
  exact⟨[],rfl,rfl⟩
 | v::r,l,h=>by
  simp only[HK] at h
  split at h
  ·rename_i s hs
   split at h
   ·rename_i l' hl'
    cases h
    obtain⟨u,h1,h2⟩:=ac2 hM hs
    obtain⟨us,h3,h4⟩:=Mg hM hl'
    refine⟨u::us, ?_,u,us,rfl,h2,h4⟩
    simp only[List.mapM_cons,Sem.run_bind,h1,Result.andThen_ok,h3,Sem.run_pure]
   ·cases h
  ·cases h
theorem QL {fn:Func} {tmps:Array Value} {P:Program} {us:List Value} (h:(fn.results.toList.mapM (YJ tmps)).run P w= .ok us w):(results fn tmps).run P w= .ok (xB us) w:=by
 have e:results fn tmps=(do
  let vs <- fn.results.mapM (YJ tmps)
  pure (if h:vs.size=1 then vs[0] else .tuple vs)):=by
  unfold results
  congr 2
 rw[e,Array.mapM_eq_mapM_toList]
 simp only[Sem.run_bind,Sem.run_map,h,Result.andThen_ok,Sem.run_pure]
 match us with
 | []=>rfl
 | [v]=>rfl
 | v::u::r=>simp[xB]
theorem YC (S:St) (ps:List PM) (bx:Option (ia ps)) (s:SV) (q:List SV):Co S ps bx [] (s::q)=none:=rfl
theorem YB (S:St) (ps:List PM) (bx:Option (ia ps)) (p:RM) (r:List RM) (s:SV) (q:List SV):Co S ps bx (p::r) (s::q)=match GK S p s with
 | some x=>match Co S ps bx r q with
  | some y=>some (x,y)
  | none=>none
 | none=>none:=rfl
theorem Zv (S:St) (ps:List PM) (bx:Option (ia ps)) (p:RM) (r:List RM):Co S ps bx (p::r) []=none:=rfl
theorem ZO {s:SV} {c:CV} {v:Value} (hc:yy s=some c) (hs:bK G ρ s v):br G ρ c v:=by
 unfold yy at hc
 split at hc
 ·cases hc;exact hs
 ·cases hc
section
variable {V:St} {ow:List (bE×Nat)} (hM:Mem C G ρ V w)
include hM
theorem TE {l:List OT} {k n:Nat} {cs:List CV} {x:rE l} {v:Value} (hcs:look V.boxes k=some cs) (h:tc V l cs=some x) (hv:v= .pointer (some ⟨ρ.bx k,0,none⟩)) (ho:∀ q,q∈(.inl k,n)::vm (n+1) l cs->cq ow q.1=some q.2): CI G w (fe ρ ow) n l x v:=by
 obtain⟨h1,vs,T,h2,h3⟩:=hM.boxes k cs hcs
 refine⟨ρ.bx k,vs,T,hv, ?_,h2,Fh hM (Gh.le_refl G) h h3 (fun q hq=>ho q (by simp[hq]))⟩
 simp only[fe,h1,ajA]
 exact ho (.inl k,n) (by simp)
theorem abd {p:RM} {s:SV} {x:p.den} {v:Value} {c:Nat} {r:List RM} {q:List SV} (h:GK V p s=some x) (hv:bK G ρ s v) (ho:∀ z,z∈oN V c (p::r) (s::q)->cq ow z.1=some z.2):aaA G w (fe ρ ow) c p x v:=by
 cases p with
 | val t=>exact qA hM.frozen (qK.nil _ _ _) h hv
 | row e t=>
  simp only[GK] at h
  split at h
  ·rename_i cv hc
   exact xI hM (Gh.le_refl G) h (ZO hc hv) (fun z hz=>ho z (by simp only[oN,hc,aiy];exact .inl hz))
  ·cases h
 | map k e=>
  simp only[GK] at h
  split at h
  ·rename_i cv hc
   exact EK hM (Gh.le_refl G) h (ZO hc hv) (fun z hz=>ho z (by simp only[oN,hc,aiy];exact .inl hz))
  ·cases h
 | box l=>
  simp only[GK] at h
  split at h
  ·rename_i k hk
   split at h
   ·rename_i cs hcs
    exact TE hM hcs h (V7 hk hv) (fun z hz=>ho z (by simp only[oN,hk,hcs,aiy];exact .inl hz))
   ·cases h
  ·cases h
theorem TF {ps:List PM} {bx:Option (ia ps)} {args:List Value} (hbx:∀ y,bx=some y->uW G w (fe ρ ow) 0 ps y args) (rs:List RM): ∀ {l:List SV} {y:dc ps rs} {us:List Value} (c:Nat),(∀ z,z∈oN V c rs l->cq ow z.1=some z.2)->Co V ps bx rs l=some y->aR (bK G ρ) l us->pP G w (fe ρ ow) ps args c rs y us:=by
 induction rs with
 | nil=>
  intro l y us c _ h hv
  cases l with
  | nil=>exact⟨hv,hbx y h⟩
  | cons s q=>rw[YC] at h;cases h
 | cons p r ih=>
  intro l y us c ho h hv
  cases l with
  | nil=>rw[Zv] at h;cases h
  | cons s q=>
   obtain⟨v,us',e',hs,hq⟩:=hv
   subst e'
   rw[YB] at h
   split at h
   ·rename_i x hx
    split at h
    ·rename_i z hz
     cases h
     refine⟨v,us',rfl,abd hM hx hs ho,ih (c+1) (fun t ht=>ho t ?_) hz hq⟩
     cases p<;>simp only[oN,aiy]<;>first | exact .inr ht | exact ht
    ·cases h
   ·cases h
theorem s9:∀ {ps:List PM} {i:Nat} {y:ia ps} {vs:List Value},s8 V i ps=some y->(∀ z,z∈nD V i ps->cq ow z.1=some z.2)->iy ρ i ps vs->uW G w (fe ρ ow) i ps y vs
 | [],i,y,vs,_,_,_=>trivial
 | .val _::r,i,y,vs,h,ho,hp=>s9 (ps:=r) h ho hp
 | .row _ _::r,i,y,vs,h,ho,hp=>s9 (ps:=r) h ho hp
 | .arR _::r,i,y,vs,h,ho,hp=>s9 (ps:=r) h ho hp
 | .mrow e t::r,i,y,vs,h,ho,⟨⟨hp1,hp2⟩,hp⟩=>by
  simp only[s8] at h
  split at h
  ·rename_i x z hx hz
   cases h
   have:=xI (ow:=ow) (n:=64*i) hM (Gh.le_refl G) hx (v:=ρ.rw (pid i 0)) ⟨rfl,hp2⟩ (fun q hq=>ho q (by
    simp only[s7,aiJ] at hq
    subst hq;simp[nD]))
   exact⟨⟨_,hp1,this.1,this.2⟩,s9 (ps:=r) hz (fun q hq=>ho q (by simp[nD,hq])) hp⟩
  ·cases h
 | .map kk vv::r,i,y,vs,h,ho,⟨⟨hp1,hp2⟩,hp⟩=>by
  simp only[s8] at h
  split at h
  ·rename_i x z hx hz
   cases h
   obtain⟨b,h1,h2,h3⟩:=EK (ow:=ow) (n:=64*i) hM (Gh.le_refl G) hx (v:=ρ.ob (pid i 0)) ⟨rfl,hp2⟩ (fun q hq=>ho q (by
    simp only[s7,aiJ] at hq
    subst hq;simp[nD]))
   exact⟨⟨b,by rw[hp1,h1],h2,h3⟩,s9 (ps:=r) hz (fun q hq=>ho q (by simp[nD,hq])) hp⟩
  ·cases h
 | .box l::r,i,y,vs,h,ho,⟨hp1,hp⟩=>by
  simp only[s8] at h
  split at h
  ·rename_i cs hcs
   split at h
   ·rename_i x z hx hz
    cases h
    refine⟨⟨_,hp1,TE hM hcs hx rfl (fun q hq=>ho q ?_)⟩,s9 (ps:=r) hz (fun q hq=>ho q ?_) hp⟩
    ·simp only[nD,hcs,ahN,aiz,aiy]
     rcases aiz.1 hq with hq | hq
     ·exact .inl hq
     ·exact .inr (.inl hq)
    ·simp only[nD,hcs,ahN,aiz,aiy]
     exact .inr (.inr hq)
   ·cases h
  ·cases h
 | .ar t::r,i,y,vs,h,ho,hp=>by
  simp only[s8] at h
  split at h
  ·rename_i x z hx hz
   cases h
   obtain⟨f,hl,hf⟩:=zl hx
   have:=hf rfl
   subst this
   obtain⟨_,h1,h2,h3⟩:=hM.objs bQ _ hl
   refine⟨⟨h1,h2,fun n z hz=> ?_⟩,s9 (ps:=r) hz (fun q hq=>ho q (by simp[nD,hq])) hp⟩
   obtain⟨b,vs,T,g1,g2,g3,g4,g5⟩:=h3 n z hz
   refine⟨b,vs,T,g1,nofun,fun _=> ?_,g4,g5⟩
   have:=g3 rfl
   simp only[fe,this,ajA]
   exact ho (.ob bQ,64*i) (by simp[nD])
  ·cases h
end
end Go.Dn
namespace Go.Dn
variable {X:Cx}
section
variable {G G':Gh} {w:World} {ow:Nat->Option Nat} (hG:∀ b o,G b=some o->G' b=some o)
include hG
theorem cF.bu {t:Ty} {x:t.den} {v:Value} (hn:t.bu=true) (h:cF G t x v):cF G' t x v:=by
 cases t with
 | st t=>obtain⟨vs,e,hv⟩:=h;exact⟨vs,e,aN.bu hG t x vs (by simpa [Ty.bu] using hn) hv⟩
 | _=>exact aN.bu hG _ x _ hn h
theorem uO.bu {e:TypeId} {t:Ty} {l:List t.den} {v:Value} (hn:t.bu=true) (h:uO G w e t l v):uO G' w e t l v:=by
 obtain⟨xs,h1,h2⟩:=h
 exact⟨xs,h1,h2.mono fun x cs=>aN.bu hG t x cs hn⟩
theorem zY.bu {k v:Ty} {l:List (k.den×v.den)} {b:Nat} (hk:k.bu=true) (hv:v.bu=true) (h:zY G w k v l b):zY G' w k v l b:=by
 obtain⟨es,clock,h1,h2,h3⟩:=h
 exact⟨es,clock,h1,h2.mono fun x y hxy=>⟨hxy.1.bu hG hk,hxy.2.bu hG hv⟩,h3⟩
def Kt (l:List OT):Bool:=l.all fun | .val t=>t.bu | .row _ t=>t.bu | .map k v=>k.bu&&v.bu
theorem EE.bu:∀ {l:List OT} {n:Nat} {x:rE l} {vs:List Value},Kt l=true->EE G w ow n l x vs->EE G' w ow n l x vs
 | [],_,_,_,_,h=>h
 | .val t::r,n,x,vs,hn,⟨a,b,e,h1,h2⟩=>by
  simp only[Kt,ahG,ag1] at hn
  exact⟨a,b,e,aN.bu hG t x.1 a hn.1 h1,EE.bu hn.2 h2⟩
 | .row _ t::r,n,x,vs,hn,⟨a,b,e,⟨v,e2,h1,h3⟩,h2⟩=>by
  simp only[Kt,ahG,ag1] at hn
  exact⟨a,b,e,⟨v,e2,h1.bu hG hn.1,h3⟩,EE.bu hn.2 h2⟩
 | .map k v::r,n,x,vs,hn,⟨a,b,e,⟨bb,e2,h1,h3⟩,h2⟩=>by
  simp only[Kt,ahG,ag1] at hn
  exact⟨a,b,e,⟨bb,e2,h1,h3.bu hG hn.1.1 hn.1.2⟩,EE.bu hn.2 h2⟩
theorem CI.bu {l:List OT} {n:Nat} {x:rE l} {v:Value} (hn:Kt l=true) (h:CI G w ow n l x v):CI G' w ow n l x v:=by
 obtain⟨b,vs,T,h1,h2,h3,h4⟩:=h
 exact⟨b,vs,T,h1,h2,h3,h4.bu hG hn⟩
theorem kF.bu:∀ {ps:List PM} {i:Nat} {x:eL ps} {vs:List Value},fo ps=true->kF G w ow i ps x vs->kF G' w ow i ps x vs
 | [],_,_,_,_,h=>h
 | .val t::r,i,x,vs,hn,⟨v,us,h1,h2,h3,h4⟩=>by
  simp only[fo,ag1] at hn
  exact⟨v,us,h1,h2,cF.bu hG hn.1 h3,kF.bu hn.2 h4⟩
 | .row _ t::r,i,x,vs,hn,⟨v,us,h1,h2,⟨h3,h3'⟩,h4⟩=>by
  simp only[fo,ag1] at hn
  exact⟨v,us,h1,h2,⟨h3.bu hG hn.1,h3'⟩,kF.bu hn.2 h4⟩
 | .mrow _ t::r,i,x,vs,hn,⟨v,us,h1,h2,⟨h3,h3'⟩,h4⟩=>by
  simp only[fo,ag1] at hn
  exact⟨v,us,h1,h2,⟨h3.bu hG hn.1,h3'⟩,kF.bu hn.2 h4⟩
 | .map _ _::r,i,x,vs,hn,⟨v,us,h1,h2,⟨b,h3,h3',h5⟩,h4⟩=>by
  simp only[fo,ag1] at hn
  exact⟨v,us,h1,h2,⟨b,h3,h3',h5.bu hG hn.1.1 hn.1.2⟩,kF.bu hn.2 h4⟩
 | .box l::r,i,x,vs,hn,⟨v,us,h1,h2,h3,h4⟩=>by
  simp only[fo,ag1] at hn
  exact⟨v,us,h1,h2,CI.bu hG hn.1 h3,kF.bu hn.2 h4⟩
 | .ar _::r,i,x,vs,hn,_=>by simp[fo] at hn
 | .arR _::r,i,x,vs,hn,_=>by simp[fo] at hn
theorem uW.bu:∀ {ps:List PM} {i:Nat} {x:ia ps} {vs:List Value},fo ps=true->uW G w ow i ps x vs->uW G' w ow i ps x vs
 | [],_,_,_,_,h=>h
 | .val t::r,i,x,vs,hn,h=>by
  simp only[fo,ag1] at hn
  exact uW.bu (ps:=r) hn.2 h
 | .row _ t::r,i,x,vs,hn,h=>by
  simp only[fo,ag1] at hn
  exact uW.bu (ps:=r) hn.2 h
 | .mrow _ t::r,i,x,vs,hn,⟨⟨v,h1,h2,h3⟩,h4⟩=>by
  simp only[fo,ag1] at hn
  exact⟨⟨v,h1,h2.bu hG hn.1,h3⟩,uW.bu hn.2 h4⟩
 | .map _ _::r,i,x,vs,hn,⟨⟨b,h1,h2,h3⟩,h4⟩=>by
  simp only[fo,ag1] at hn
  exact⟨⟨b,h1,h2,h3.bu hG hn.1.1 hn.1.2⟩,uW.bu hn.2 h4⟩
 | .box l::r,i,x,vs,hn,⟨⟨v,h1,h2⟩,h4⟩=>by
  simp only[fo,ag1] at hn
  exact⟨⟨v,h1,CI.bu hG hn.1 h2⟩,uW.bu hn.2 h4⟩
 | .ar _::r,i,x,vs,hn,_=>by simp[fo] at hn
 | .arR _::r,i,x,vs,hn,_=>by simp[fo] at hn
theorem pP.bu {ps:List PM} {args:List Value} (hp:fo ps=true):∀ {rs:List RM} {c:Nat} {y:dc ps rs} {vs:List Value},xL rs=true->pP G w ow ps args c rs y vs->pP G' w ow ps args c rs y vs
 | [],_,_,_,_,h=>⟨h.1,h.2.bu hG hp⟩
 | .val t::r,c,y,vs,hn,⟨v,us,h1,h2,h3⟩=>by
  simp only[xL,ag1] at hn
  exact⟨v,us,h1,cF.bu hG hn.1 h2,pP.bu hp hn.2 h3⟩
 | .row _ t::r,c,y,vs,hn,⟨v,us,h1,⟨h2,h2'⟩,h3⟩=>by
  simp only[xL,ag1] at hn
  exact⟨v,us,h1,⟨h2.bu hG hn.1,h2'⟩,pP.bu hp hn.2 h3⟩
 | .map _ _::r,c,y,vs,hn,⟨v,us,h1,⟨b,h2,h2',h4⟩,h3⟩=>by
  simp only[xL,ag1] at hn
  exact⟨v,us,h1,⟨b,h2,h2',h4.bu hG hn.1.1 hn.1.2⟩,pP.bu hp hn.2 h3⟩
 | .box l::r,c,y,vs,hn,⟨v,us,h1,h2,h3⟩=>by
  simp only[xL,ag1] at hn
  exact⟨v,us,h1,CI.bu hG hn.1 h2,pP.bu hp hn.2 h3⟩
end
theorem jI:∀ (ps:List PM) (i:Nat) (x:eL ps),(ig i ps x).length=Ai ps
 | [],_,_=>rfl
 | .val _::r,i,x=>by simp[ig,Ai,PM.arg,jI r];omega
 | .row _ _::r,i,x=>by simp[ig,Ai,PM.arg,jI r];omega
 | .mrow _ _::r,i,x=>by simp[ig,Ai,PM.arg,jI r];omega
 | .map _ _::r,i,x=>by simp[ig,Ai,PM.arg,jI r];omega
 | .box _::r,i,x=>by simp[ig,Ai,PM.arg,jI r];omega
 | .ar _::r,i,x=>by simp[ig,Ai,PM.arg,jI r]
 | .arR _::r,i,x=>by simp[ig,Ai,PM.arg,jI r]
theorem td:∀ {ps:List PM} {i:Nat} {x:eL ps} {t:Ty} {l:List t.den},mz ps=false->look (jH i ps x) bQ≠some (.ar false t l)
 | [],i,x,t,l,_=>by simp[jH,look]
 | .val _::r,i,x,t,l,h=>td (ps:=r) h
 | .row _ _::r,i,x,t,l,h=>td (ps:=r) h
 | .mrow _ _::r,i,x,t,l,h=>td (ps:=r) h
 | .map _ _::r,i,x,t,l,h=>by
  simp only[jH,aD]
  split
  ·simp
  ·exact td (ps:=r) h
 | .box _::r,i,x,t,l,h=>by
  simp only[jH,dJ]
  intro e
  rcases or_some e with e | ⟨_,e⟩
  ·obtain⟨_,_,_,e'⟩:=Al e;cases e'
  ·exact td (ps:=r) h e
 | .ar _::r,i,x,t,l,h=>by simp[mz] at h
 | .arR _::r,i,x,t,l,h=>by
  simp only[jH,aD]
  split
  ·intro e;cases e
  ·exact td (ps:=r) h
theorem aba {ps:List PM} (h:fo ps=true):mz ps=false:=by
 induction ps with
 | nil=>rfl
 | cons p r ih=>cases p<;>simp only[fo,ag1] at h<;>first | exact ih h.2 | cases h
theorem X6 (hX:cD X) (hmix:X.P.follows .mixedOrders=true) {f:FuncId} {fn:Func} (sp:ay) (anns:List (Nat×Ann)) (ar:Option Ty) (hf:X.P.funcs[f]? =some fn) {G:Gh} {w:World} {ow:Nat->Option Nat} {args:List Value} {x:eL sp.ps} {y:dc sp.ps sp.rs} (hT:vT X.P G) (hG:Agr G w) (how:∀ b i,ow b=some i->G b=none/\b<w.heap.size) (hargs:kF G w ow 0 sp.ps x args) (har:ar.isSome=true->G.hnd=(fun _=>none)/\mz sp.ps=false/\fo sp.ps=true) (hN:NX X anns ar fn sp x=some y): Calls X.P f args.toArray w fun e w'=>∃ G' ow' vs,e= .returned (xB vs)/\G.le G'/\Agr G' w'/\w.heap.size<=w'.heap.size/\w'.os=w.os/\w'.output=w.output/\ (∀ b,b<w.heap.size->ow b=none->w'.heap[b]? =w.heap[b]? /\G' b=G b)/\(∀ b i,ow' b=some i->G' b=none/\b<w'.heap.size/\(w.heap.size<=b\/ow b≠none))/\pP G' w' ow' sp.ps args 0 sp.rs y vs/\(mz sp.ps=false->ar=none->G'.hnd=G.hnd):=by
 unfold NX at hN
 split at hN
 ·cases hN
 ·rename_i hcond
  simp only[ahf,aj4,aha] at hcond
  obtain⟨⟨hdO,hdC⟩,hnoh⟩:=hcond
  split at hN
  ·rename_i c hc
   obtain⟨vals,hvals,hpt,hst⟩:=pR hargs
   let pv:Nat->Value:=fun k=>match cE vals (.inr k) with | some v=>v | none=>(cE vals (.ob k)).getD undef
   let ρ:Env:=⟨fun k=>match cE vals (.inl k) with | some v=>Gj v | none=>0,pv,fun b=>(ow b).bind (mS (dz 0 sp.ps)),pv,fun k=>DB w (pv k)⟩
   have hA:∀ o v,(o,v)∈vals->Asg ρ w o v:=fun o v hm=>by
    have hl:=HB hvals hdO hm
    cases o with
    | inl k=>
     obtain⟨b,hb⟩:=hpt k v hm
     show v= .pointer (some ⟨match cE vals (.inl k) with | some v=>Gj v | none=>0,0,none⟩)
     rw[hl,hb];rfl
    | inr j=>show (match cE vals (.inr j) with | some v=>v | none=>_)=v;rw[hl]
    | ob j=>
     intro b hb
     subst hb
     have hnr:cE vals (.inr j)=none:=by
      cases h1:cE vals (.inr j) with
      | none=>rfl
      | some v'=>
       obtain⟨n1,m1⟩:=Ah hvals (by rw[h1];simp)
       obtain⟨n2,m2⟩:=Ah hvals (o:= .ob j) (by rw[hl];simp)
       rcases zJ m1 with ⟨k,e⟩ | e | e
       ·cases e
       ·cases e
       ·rcases zJ m2 with ⟨k,e'⟩ | e' | e'
        ·cases e'
        ·cases e'
         rcases e with e | e
         ·have:bQ=nid pD 0 0+n1:=by simpa using e
          simp only[bQ,pD,nid] at this;omega
         ·cases e
        ·have h1:j=nid pD 0 0+n1:=by rcases e with e | e<;>cases e;rfl
         have h2:j=nid pD 0 0+n2:=by rcases e' with e' | e'<;>cases e';rfl
         have:n1=n2:=by omega
         subst this
         have:=Qq hdC m1 m2
         cases this
     have hpv:pv j= .map (some b):=by
      show (match cE vals (.inr j) with | some v=>v | none=>(cE vals (.ob j)).getD undef)=_
      rw[hnr,hl];rfl
     refine⟨hpv,fun es clock hw i e' hi=> ?_⟩
     show (e'.born:Int)=DB w (pv j) i
     rw[hpv]
     simp[DB,hw,hi]
   have hO:∀ o n,(o,n)∈dz 0 sp.ps->∀ b,ow b=some n->ρ.own b=some o:=fun o n hm b hb=>by
    show (ow b).bind (mS (dz 0 sp.ps))=_
    rw[hb];exact Ab hdC hm
   obtain⟨hsv,hP,hpins⟩:=hst ρ hA hO
   let C:Fr X.P:=⟨w.heap.size,ρ.bx,pv,fun b=>ow b≠none,w,G,mz sp.ps=false/\ar=none,hT⟩
   have hlen:args.length=Ai sp.ps:=by rw[hsv.len,jI]
   have hM:Mod C G ρ (Ol fn.ntmps ar sp.ps x) w { tmps:=args.toArray++Array.replicate (fn.ntmps - args.toArray.size) undef,defers:=[] }:=by
    refine { agr:=hG,le0:=Gh.le_refl G,old:=fun _ _ _=>rfl,frame:=fun _ _ _=>rfl,size:=ajc _,os:=rfl,output:=rfl,pin:=fun _ _=>rfl,pinR:=fun _ _=>⟨rfl,rfl⟩,owned:= ?_,boxes:=hP.bx,rows:=hP.rw,objs:= ?_,hndI:= ?_,tmps:=⟨?_, ?_⟩,defers:=rfl }
    ·intro b o ho
     cases hb:ow b with
     | none=>
      have ho':(ow b).bind (mS (dz 0 sp.ps))=some o:=ho
      rw[hb] at ho';cases ho'
     | some i=>exact⟨(how b i hb).1,(how b i hb).2,.inr (by show ow b≠none;rw[hb];simp)⟩
    ·intro j q hj
     cases ar with
     | none=>exact hP.ob j q hj
     | some t=>
      simp only[Ol,aD] at hj
      split at hj
      ·rename_i ej
       subst ej
       cases hj
       obtain⟨h1,_⟩:=har rfl
       refine⟨rfl,fun i b hb=>(by rw[h1] at hb;cases hb),fun i i' b hb=>(by rw[h1] at hb;cases hb),fun i z hz=>by simp at hz⟩
      ·exact hP.ob j q hj
    ·rintro⟨h1,h2⟩
     refine⟨rfl,fun t l=> ?_⟩
     subst h2
     exact td h1
    ·simp[Ol,jI,hlen]
    ·intro i s hi
     simp only[Ol] at hi
     rw[ah2] at hi
     rw[agO,Array.getElem?_append]
     split at hi
     ·rename_i hlt
      obtain⟨v,hv,hsv'⟩:=hsv.get hi
      rw[jI] at hlt
      rw[ajZ (by simpa [hlen] using hlt)]
      simpa [hv] using hsv'
     ·rw[aid] at hi
      split at hi
      ·cases hi;exact trivial
      ·cases hi
   refine calls_of_wp hf hc (NY (C:=C) hX hmix anns c hN (fun e S' G' ρ' w' a' hk hM'=> ?_) hM)
   have key:ends X fn sp S'=some y->a'.defers=[]/\∃ v,(results fn a'.tmps).run X.P w'= .ok v w'/\∃ G' ow' vs,Ending.returned v= .returned (xB vs)/\G.le G'/\Agr G' w'/\w.heap.size<=w'.heap.size/\w'.os=w.os/\w'.output=w.output/\
    (∀ b,b<w.heap.size->ow b=none->w'.heap[b]? =w.heap[b]? /\G' b=G b)/\(∀ b i,ow' b=some i->G' b=none/\b<w'.heap.size/\(w.heap.size<=b\/ow b≠none))/\pP G' w' ow' sp.ps args 0 sp.rs y vs/\(mz sp.ps=false->ar=none->G'.hnd=G.hnd):=by
    intro hk
    unfold ends at hk
    have hI:∃ G1 ρ1,Mod C G1 ρ1 (Iy X fn sp.rs S') w' a':=by
     unfold Iy
     split
     ·exact Mod.mZ _ hM'
     ·exact⟨_,_,hM'⟩
    generalize Iy X fn sp.rs S'=S' at hk hI
    obtain⟨G',ρ',hM'⟩:=hI
    refine⟨hM'.defers, ?_⟩
    unfold aer at hk
    split at hk
    ·rename_i l hl
     simp only at hk
     split at hk
     ·cases hk
     ·rename_i hd
      obtain⟨us,hr,hus⟩:=Mg hM' hl
      generalize hjs:FO (GM sp.rs l)++(PE S' sp.rs l++PC S' 0 sp.ps)=js at hk hd
      obtain⟨G2,ρ2,hfz,hM2⟩:=hM'.freeze js
      generalize hV:aX S' js=V at hk hd hM2
      generalize how':oN V 0 sp.rs l++nD V 0 sp.ps=owl at hk hd
      have hd':BJ owl=false:=by simpa using hd
      have hus2:aR (bK G2 ρ2) l us:=hus.mono fun s v hs=>bK.congr hfz.le (oz.same hfz.bx hfz.rw hfz.ob hfz.st) hs
      have hpins2:iy ρ2 0 sp.ps args:=hpins.congr (fun k hk=>hM2.pin k hk) (fun k hk=>hM2.pinR k hk)
      refine⟨_,QL hr,G2,fe ρ2 owl,us,rfl,hM2.le0,hM2.agr,hM2.size,hM2.os,hM2.output,fun b hb ho=>⟨hM2.frame b hb (by show ¬ ow b≠none;simp[ho]),hM2.old b hb (by show ¬ ow b≠none;simp[ho])⟩,fun b i hb=> ?_, ?_,fun h1 h2=>(hM2.hndI ⟨h1,h2⟩).1⟩
      ·unfold fe at hb
       cases ho:ρ2.own b with
       | none=>rw[ho] at hb;cases hb
       | some o=>exact hM2.owned b o ho
      ·refine TF hM2.toMem (fun y' hy'=>s9 hM2.toMem hy' (fun z hz=>qR hd' (by rw[<- how'];simp[hz])) hpins2) sp.rs 0 (fun z hz=>qR hd' (by rw[<- how'];simp[hz])) hk hus2
    ·cases hk
   cases e with
   | normal=>exact key hk
   | ret=>exact key hk
   | exit id=>cases hk
  ·cases hN
theorem ab4 (hX:cD X) (hmix:X.P.follows .mixedOrders=true) {f:FuncId} {fn:Func} (sp:ay) (anns:List (Nat×Ann)) (ar:Option Ty) (hf:X.P.funcs[f]? =some fn) (h:∀ x y,sp.m x=some y->NX X anns ar fn sp x=some y):gU X.P f sp:=by
 intro G w ow args x y hG how hargs hm hT
 have hN:=h x y hm
 cases ar with
 | none=>
  refine (X6 hX hmix sp anns none hf hT hG how hargs (fun e=>by cases e) hN).mono ?_
  rintro e w' ⟨G',ow',vs,h1,h2,h3,h4,h5,h6,h7,h8,h9,h10⟩
  exact⟨G',ow',vs,h1,h2,h3,h4,h5,h6,h7,h8,h9,fun h=>h10 h rfl⟩
 | some t=>
  have hN0:=hN
  unfold NX at hN0
  split at hN0
  ·cases hN0
  ·rename_i hcond
   simp only[ahf,aj4,aha,Option.isSome_some,ahh,ag9,ag1] at hcond
   obtain⟨_,hpn,hrn⟩:=hcond
   let G0:Gh:=⟨G.blk,fun _=>none⟩
   have hargs0:kF G0 w ow 0 sp.ps x args:=kF.bu (G:=G) (G':=G0) (fun _ _ h=>h) hpn hargs
   refine (X6 hX hmix sp anns (some t) hf (G:=G0) ⟨hT.pow,hT.maxLen⟩ hG how hargs0 (fun _=>⟨rfl,aba hpn,hpn⟩) hN).mono ?_
   rintro e w' ⟨G',ow',vs,h1,h2,h3,h4,h5,h6,h7,h8,h9,h10⟩
   refine⟨⟨G'.blk,G.hnd⟩,ow',vs,h1,⟨h2.blk,fun _ _ h=>h⟩,h3,h4,h5,h6,h7,h8,pP.bu (G:=G') (G':=⟨G'.blk,G.hnd⟩) (fun _ _ h=>h) hpn hrn h9,fun _=>rfl⟩
end Go.Dn
namespace Go.Dn
def w64 (n:Int):Int:=IntKind.wrap .i64 n
def tI:Ty:= .int .i64
def cg (n:Int):Int:=IntKind.wrap .u64 n
def pz (n:Int):Int:=IntKind.wrap .u32 n
def wu8 (n:Int):Int:=IntKind.wrap .u8 n
def Ty.fu:(t:Ty)->t.den->Nat->Nat
 | .int _,n,a=>Int.natAbs n+a
 | .bool,_,a=>a
 | .str,s,a=>List.length s+a
 | .unit,_,a=>a
 | .pair s t,x,a=>s.fu x.1 (t.fu x.2 a)
 | .st t,x,a=>t.fu x a
 | .slice _,l,a=>List.length l+a
 | .ptr t,x,a=>t.fu x a
 | .clo _ _,_,a=>a
 | .hnd,_,a=>a
def aV:(cs:List CK)->dO cs->Nat
 | [],_=>2
 | .val t::r,x=>t.fu x.1 (aV r x.2)
 | .own _ _::r,x=>x.1.length+aV r x.2
 | .map _ _::r,x=>x.1.length+aV r x.2
 | .ref _ _::r,x=>aV r x
 | .fn _ _::r,x=>aV r x
 | .ar _::r,x=>x.1.length+aV r x.2
 | .arF _::r,x=>aV r x.2
 | .rowR _::r,x=>aV r x
 | .rpR _ _::r,x=>aV r x.2
 | .mapR _::r,x=>aV r x
 | .rowC _ _ _::r,x=>x.1.length+aV r x.2
 | .mapC _ _ _::r,x=>x.1.length+aV r x.2
theorem bR {X β:Type} (n:Nat) (x:X) (f:X->(X->Option β)->Option β):iter (n+1) x f=f x fun y=>iter n y f:=rfl
end Go.Dn
namespace Go.Dn
def zx {α β:Type} (F:(α->Option β)->α->Option β):Nat->α->Option β
 | 0,_=>none
 | n+1,x=>F (zx F n) x
theorem LG {P:Program} {specs:List (Nat×ay)} (hX:cD ⟨P,specs,[]⟩) (hmix:P.follows .mixedOrders=true) {f:FuncId} {fn:Func} {ps:List PM} {rs:List RM} (F:(eL ps->Option (dc ps rs))->eL ps->Option (dc ps rs)) (anns:List (Nat×Ann)) (ar:Option Ty) (hf:P.funcs[f]? =some fn) (hb:fm P f) (h:∀ self x,NX ⟨P,(f,⟨ps,rs,self⟩)::specs,[]⟩ anns ar fn ⟨ps,rs,F self⟩ x=F self x):∀ n,gU P f ⟨ps,rs,zx F n⟩
 | 0=>fun _ _ _ _ _ _ _ _ _ hm _=>by cases hm
 | n+1=>by
  have ih:=LG hX hmix F anns ar hf hb h n
  have hX':cD ⟨P,(f,⟨ps,rs,zx F n⟩)::specs,[]⟩:=by
   refine⟨fun g sp hg=> ?_,nofun⟩
   rcases aiz.1 hg with e | e
   ·cases e;exact⟨ih,hb⟩
   ·exact hX.fn g sp e
  exact ab4 (X:=⟨P,(f,⟨ps,rs,zx F n⟩)::specs,[]⟩) hX' hmix ⟨ps,rs,zx F (n+1)⟩ anns ar hf (fun x y hm=>(h (zx F n) x).trans hm)
theorem QA {P:Program} {f:FuncId} {ps:List PM} {rs:List RM} {m:Nat->eL ps->Option (dc ps rs)} (h:∀ n,gU P f ⟨ps,rs,m n⟩) (fuel:eL ps->Nat):gU P f ⟨ps,rs,fun x=>m (fuel x) x⟩:=
 fun G w ow args x y hG how ha hm hT=>(h (fuel x) G w ow args x y hG how ha hm hT).mono fun _ _ ⟨G',ow',vs,hg⟩=>⟨G',ow',vs,{ hg with }⟩
theorem Zg {P:Program} {f:FuncId} {m:eL [.val .str,.val .str]->Option (dc [.val .str,.val .str] [.val .str])} (h:∀ (s c r:List UInt8) (w:World),m (s,c,())=some (r,())->Calls P f #[.string (bs s),.string (bs c)] w fun e w'=>e= .returned (.string (bs r))/\RowKit.Below w.heap.size w w'):gU P f ⟨[.val .str,.val .str],[.val .str],m⟩:=by
 intro G w ow args x y hG how ha hm _
 obtain⟨s,c,u⟩:=x
 obtain⟨r,u'⟩:=y
 obtain⟨v,us,h1,_,hv,v',us',h2,_,hv',h3⟩:=ha
 have e1:=h1 rfl
 have e2:=h2 rfl
 have e3:us'=[]:=h3
 have e4:v= .string (bs s):=by simpa [Pc,cF,aN] using hv
 have e5:v'= .string (bs c):=by simpa [Pc,cF,aN] using hv'
 subst e1;subst e2;subst e3;subst e4;subst e5
 refine (h s c r w hm).mono ?_
 rintro e w' ⟨he,hb⟩
 refine⟨G,fun _=>none,[.string (bs r)], ?_⟩
 exact {
  ret:=he
  le:=Gh.le_refl G
  agr:=fun b o hbo=>by
   have hw:=hG b o hbo
   have hlt:b<w.heap.size:=by
    rcases ajj b w.heap.size with h | h
    ·exact h
    ·rw[agQ h] at hw;cases hw
   rw[hb.block b hlt];exact hw
  size:=hb.size
  os:=hb.os
  output:=hb.output
  old:=fun b hlt _=>⟨hb.block b hlt,rfl⟩
  own:=fun b i hbi=>by cases hbi
  out:=⟨_,_,rfl,rfl,rfl,trivial⟩
  hnd:=fun _=>rfl }
end Go.Dn
namespace Go.Dn
theorem cD.nil (P:Program):cD ⟨P,[],[]⟩:=⟨nofun,nofun⟩
theorem cD.cons {P:Program} {f:FuncId} {sp:ay} {l:List (Nat×ay)} {ks:List (Nat×BH)} (h:gU P f sp) (hb:fm P f) (r:cD ⟨P,l,ks⟩):cD ⟨P,(f,sp)::l,ks⟩:=by
 refine⟨fun g sp' hg=> ?_,r.key⟩
 rcases aiz.1 hg with e | e
 ·cases e;exact⟨h,hb⟩
 ·exact r.fn g sp' e
theorem cD.Su {P:Program} {f:FuncId} {kf:BH} {l:List (Nat×ay)} {ks:List (Nat×BH)} (h:Ge P f kf) (hb:fm P f) (r:cD ⟨P,l,ks⟩):cD ⟨P,l,(f,kf)::ks⟩:=by
 refine⟨r.fn,fun g k' hg=> ?_⟩
 rcases aiz.1 hg with e | e
 ·cases e;exact⟨h,fun _=>hb⟩
 ·exact r.key g k' e
theorem iG {P:Program} {f:FuncId} {fn:Func} (h:P.funcs[f]? =some fn) (hb:fn.body.isSome=true) (hn:fn.name≠ "runtime.NumGoroutine"):fm P f:=⟨fn,h,hb,hn⟩
end Go.Dn
namespace Go.Dn
open Go.Proofs Go.Shelf
section
variable {P:Program} {G:Gh} {w w':World} {ow:Nat->Option Nat} {e:TypeId}
end
end Go.Dn
namespace Go.Dn
end Go.Dn
namespace Go.Dn
open Classical in
noncomputable def OX {α:Type} (ok:α->Bool) (cf:α->α->Int) (l:List α):Option (List α×Unit):=
 if (∀ x,x∈l->ok x=true)/\(∀ x,x∈l->∀ y,y∈l->¬ cf x y<0->¬ cf y x<0->x=y)/\l.length<4294967296 then some (l.mergeSort fun x y=> !decide (cf y x<0),()) else none
end Go.Dn
namespace Go.Dn
def agA (l:List Int):Option (List Int×Unit):=bif decide (l.length<4294967296) then some (l.mergeSort fun x y=>decide (x<=y),()) else none
end Go.Dn
namespace Go.Dn
end Go.Dn
namespace Go.Dn
open Go.ChangeShapes Go.WideShapes Go.ChangeAt Go.RowKit
def Wf:(t:Ty)->t.den->Prop
 | .int k,n=>k.min<=(show Int from n)/\(show Int from n)<=k.max
 | .bool,_=>True
 | .str,s=>List.length s<=maxLen
 | .unit,_=>True
 | .pair a b,x=>Wf a x.1/\Wf b x.2
 | .st t,x=>Wf t x
 | .slice t,l=>List.length l<=maxLen/\∀ x,x∈(show List t.den from l)->Wf t x
 | .ptr _,_=>True
 | .clo _ _,_=>True
 | .hnd,_=>True
def Fits (P:Program):Nat->TypeId->Ty->Bool
 | 0,_,_=>false
 | d+1,T,t=>match P.underlying T,t with
  | some (.int k),.int k'=>decide (k=k')
  | some .bool,.bool=>true
  | some .string,.str=>true
  | some (.slice e),.slice t=>Nat.ble 1 t.size&&(Nat.beq (P.cellsOf e) t.size&&Fits P d e t)
  | some (.struct fs),.st t=>Nat.beq (P.cellsOf T) t.size&&fitsF (Fits P d) P fs.toList 0 t
  | _,_=>false
where
 fitsF (g:TypeId->Ty->Bool) (P:Program):List Field->Nat->Ty->Bool
 | [],_,_=>false
 | [f],off,t=>Nat.beq f.offset off&&(Nat.beq (P.cellsOf f.type) t.size&&g f.type t)
 | f::r,off,.pair a b=>Nat.beq f.offset off&&(Nat.beq (P.cellsOf f.type) a.size&&(g f.type a&&fitsF g P r (off+a.size) b))
 | _,_,_=>false
def Gw (w:World):Gh:=⟨fun b=>w.heap[b]?,fun _=>none⟩
theorem afA (w:World):Agr (Gw w) w:=fun _ _ h=>h
theorem Qp {w:World} {base:Nat} {a:Addr} {n:Nat} {cs:List Value} (hn:0<n) (h:w.cells? base a n=some cs): ∃ c T fz,a.spot=none/\w.heap[a.block]? =some (.cells c T fz)/\a.off+n<=c.size/\cs=(c.toList.drop a.off).take n:=by
 obtain⟨_,hl,hc⟩:=World.cells?_some h
 have h0:=hc 0 hn
 have hlt:0<cs.length:=by omega
 rw[ah8 hlt,show a.add 0=a from rfl] at h0
 unfold World.cell? at h0
 split at h0
 ·rename_i c T fz hb
  split at h0
  ·cases h0
  ·rename_i hs
   have hspot:a.spot=none:=by simpa using hs
   have hall:∀ i,i<n->c[a.off+i]? =cs[i]? :=by
    intro i hi
    have:=hc i hi
    rw[<- this]
    unfold World.cell? Addr.add
    by_cases h:i=0
    ·subst h;simp[hb,hspot]
    ·simp[h,hb]
   refine⟨c,T,fz,hspot,hb, ?_, ?_⟩
   ·have h1:=hall (n - 1) (by omega)
    rw[ah8 (show n - 1<cs.length by omega)] at h1
    have:=(agR.1 h1).1
    omega
   ·apply ahW
    intro i
    rw[aii,ah7]
    by_cases hi:i<n
    ·rw[ajZ hi, <- hall i hi];simp
    ·rw[ajY hi,ah9 (by omega)]
 ·cases h0
section
variable {H:Type} {enc:TypeId×Value->H} {P:Program} {w:World} {base:Nat} {spare:Nat->Bool} {held:Bool}
theorem aak {α:Type} {R:α->List Value->Prop} {sz:Nat} {c:List Value} {y:Nat->α} (off:Nat):∀ n,off+n*sz<=c.length->(∀ i,i<n->R (y i) ((c.drop (off+i*sz)).take sz))->cM R ((List.range n).map y) ((c.drop off).take (n*sz))
 | 0,_,_=>by simp[cM]
 | n+1,hle,h=>by
  rw[List.range_succ,ait,List.map_singleton]
  have e:(c.drop off).take ((n+1)*sz)=(c.drop off).take (n*sz)++(c.drop (off+n*sz)).take sz:=by
   rw[ai4,ajt,List.take_add,ahQ]
  rw[e]
  refine cM.append (aak off n (by rw[ai4] at hle;omega) fun i hi=>h i (by omega)) ?_
  exact⟨_,[],by simp,h n (by omega),rfl⟩
theorem Z8:∀ (d:Nat) (T:TypeId) (t:Ty) (fuel:Nat) (cs:List Value) (x:DataW H×List MemPlace),Fits P d T t=true->DataW.trod enc P w base spare held fuel T cs=some x-> ∃ y:t.den,aN (Gw w) t y cs/\Wf t y
 | 0,_,_,_,_,_,hf,_=>by cases hf
 | d+1,T,t,fuel,cs,x,hf,h=>by
  have ih:=fun T t fuel cs x=>Z8 d T t fuel cs x
  unfold Fits at hf
  split at hf
  ·rename_i k k' hu
   obtain rfl:k=k':=aj5 hf
   obtain⟨n,rfl,_,hw⟩:=DataW.trod_int hu h
   refine⟨n,rfl, ?_⟩
   simp only[Lit.wf,ag1,ajS] at hw
   exact hw
  ·rename_i hu
   obtain⟨b,rfl,_⟩:=DataW.trod_bool hu h
   exact⟨b,rfl,trivial⟩
  ·rename_i hu
   obtain⟨s,rfl,_,hw⟩:=DataW.trod_string hu h
   refine⟨s.data.toList, ?_,hw⟩
   simp[aN,bs]
  ·rename_i e t hu
   simp only[ag1] at hf
   have hsz:0<t.size:=aja hf.1
   have hce:P.cellsOf e=t.size:=ai8 hf.2.1
   rcases DataW.trod_slice hu h with ⟨rfl,_⟩ | ⟨a,len,cap,elems,rest,n,_,rfl,_,_,hl,hm,hlen,hel,_⟩
   ·exact⟨[],⟨_,rfl,none,0,rfl,ajc _,ajy _,.inl rfl⟩,⟨ajy _,fun x hx=>by cases hx⟩⟩
   ·have hone:∀ i,i<len->∃ y:t.den,(∃ cs',w.cells? base (a.add (i*t.size)) t.size=some cs'/\aN (Gw w) t y cs')/\Wf t y:=by
     intro i hi
     have h1:=hel i hi
     rw[ah8 (by omega),hce] at h1
     obtain⟨cs',h2,h3⟩:=Option.bind_eq_some_iff.1 h1
     obtain⟨y,h4,h5⟩:=ih e t n cs' _ hf.2.2 h3
     exact⟨y,⟨cs',h2,h4⟩,h5⟩
    by_cases h0:len=0
    ·subst h0
     exact⟨[],⟨_,rfl,some a,cap,rfl,ajy _,hm,.inl rfl⟩,⟨ajy _,fun x hx=>by cases hx⟩⟩
    ·obtain⟨y0,_,_⟩:=hone 0 (by omega)
     have:∃ y:Nat->t.den,∀ i,i<len->(∃ cs',w.cells? base (a.add (i*t.size)) t.size=some cs'/\aN (Gw w) t (y i) cs')/\Wf t (y i):=by
      classical
      refine⟨fun i=>if hi:i<len then Classical.choose (hone i hi) else y0,fun i hi=> ?_⟩
      simp only[dif_pos hi]
      exact Classical.choose_spec (hone i hi)
     obtain⟨y,hy⟩:=this
     obtain⟨⟨cs0,hc0,_⟩,_⟩:=hy 0 (by omega)
     rw[Nat.zero_mul,show a.add 0=a from rfl] at hc0
     obtain⟨c,T',fz,hspot,hb,_,_⟩:=Qp hsz hc0
     have hat:∀ i,i<len->a.off+i*t.size+t.size<=c.size/\aN (Gw w) t (y i) ((c.toList.drop (a.off+i*t.size)).take t.size):=by
      intro i hi
      obtain⟨⟨cs',h1,h2⟩,_⟩:=hy i hi
      obtain⟨c',T2,fz2,h3,h4,h5,h6⟩:=Qp hsz h1
      have hblk:(a.add (i*t.size)).block=a.block:=by unfold Addr.add;split<;>rfl
      have hoff:(a.add (i*t.size)).off=a.off+i*t.size:=by
       unfold Addr.add;split
       ·rename_i hz;rw[hz];rfl
       ·rfl
      rw[hblk,hb] at h4
      cases h4
      rw[hoff] at h5 h6
      exact⟨h5,h6 ▸ h2⟩
     have hend:a.off+len*t.size<=c.size:=by
      have:=(hat (len - 1) (by omega)).1
      have e:len*t.size=(len - 1)*t.size+t.size:=by
       conv=>lhs;rw[show len=len - 1+1 by omega]
       rw[ai4,ajt]
      omega
     refine⟨(List.range len).map y,⟨_,rfl,some a,cap,by simp,by simpa using hl,hm,.inr ⟨a.block,a.off,c,T',fz, ?_,hb,by simpa using hend, ?_⟩⟩,⟨by simp only[aio,List.length_range];omega,fun x hx=> ?_⟩⟩
     ·congr 1;cases a;cases hspot;rfl
     ·have:=aak (R:=aN (Gw w) t) (y:=y) (c:=c.toList) (sz:=t.size) a.off len (by simpa using hend) fun i hi=>(hat i hi).2
      simpa using this
     ·obtain⟨i,hi,rfl⟩:=aiE.1 hx
      exact (hy i (by simpa using hi)).2
  ·rename_i fs t hu
   simp only[ag1] at hf
   obtain⟨xs,n,_,_,hlen,hxl,hx⟩:=DataW.trod_struct hu h
   have hct:P.cellsOf T=t.size:=ai8 hf.1
   have key:∀ (l:List Field) (k off:Nat) (t:Ty),fs.toList.drop k=l->Fits.fitsF (Fits P d) P l off t=true->off+t.size<=cs.length->
    ∃ y:t.den,aN (Gw w) t y ((cs.drop off).take t.size)/\Wf t y:=by
    intro l
    induction l with
    | nil=>intro k off t _ h2;cases h2
    | cons f r ihl=>
     intro k off t hk h2 hle
     have hfk:fs[k]? =some f:=by
      have:=congrArg (·[0]?) hk
      simpa [ah7] using this
     have hxk:=hx k f hfk
     have hkl:k<xs.length:=by rw[hxl];exact (agR.1 hfk).1
     rw[ah8 hkl] at hxk
     have hdr:fs.toList.drop (k+1)=r:=by
      have:=congrArg List.tail hk
      simpa [aiU] using this
     cases r with
     | nil=>
      simp only[Fits.fitsF,ag1] at h2
      obtain⟨h3,h4,h5⟩:=h2
      rw[ai8 h3,ai8 h4] at hxk
      exact ih f.type t n _ _ h5 hxk
     | cons f' r'=>
      obtain⟨a,b,rfl⟩:∃ a b,t= .pair a b:=by
       cases t with
       | pair a b=>exact⟨a,b,rfl⟩
       | _=>simp[Fits.fitsF] at h2
      simp only[Fits.fitsF,ag1] at h2
      obtain⟨h3,h4,h5,h6⟩:=h2
      rw[ai8 h3,ai8 h4] at hxk
      obtain⟨y1,g1,g2⟩:=ih f.type a n _ _ h5 hxk
      simp only[Ty.size] at hle
      obtain⟨y2,g3,g4⟩:=ihl (k+1) (off+a.size) b hdr h6 (by omega)
      refine⟨(y1,y2),⟨_,_, ?_,g1,g3⟩,⟨g2,g4⟩⟩
      simp only[Ty.size]
      rw[List.take_add,ahQ]
   obtain⟨y,h1,h2⟩:=key fs.toList 0 0 t rfl hf.2 (by omega)
   refine⟨y, ?_,h2⟩
   rw[ahT,aiZ (by omega)] at h1
   exact h1
  ·cases hf
theorem ad3 {r:Reach} {b0:Nat} {d:Nat} {T:TypeId} {t:Ty} {v:Value} {dd:DataW H} {ps:List MemPlace} (hf:Fits P d T t=true) (hval:Value.okWide P w r b0 T v) (h:DataW.Trod enc P w base spare held T v dd ps): ∃ y:t.den,cF (Gw w) t y v/\Wf t y:=by
 obtain⟨fuel,h⟩:=h
 obtain⟨y,h1,h2⟩:=Z8 d T t fuel _ _ hf h
 refine⟨y, ?_,h2⟩
 cases d with
 | zero=>cases hf
 | succ d=>
  unfold Fits at hf
  split at hf
  ·rename_i hu;obtain⟨n,rfl⟩:=okWide_int hu hval;exact h1
  ·rename_i hu;obtain⟨n,rfl⟩:=okWide_bool hu hval;exact h1
  ·rename_i hu;obtain⟨n,rfl⟩:=okWide_string hu hval;exact h1
  ·rename_i hu;obtain⟨a,len,cap,rfl⟩:=okWide_slice hu hval;exact h1
  ·rename_i hu;obtain⟨c,rfl,_⟩:=okWide_struct hu hval;exact⟨c.toList,by simp,h1⟩
  ·cases hf
end
def pms:List Ty->List PM
 | []=>[]
 | t::r=> .val t::pms r
def aaB:(ts:List Ty)->eL (pms ts)->Prop
 | [],_=>True
 | t::r,x=>Wf t x.1/\aaB r x.2
def Pk (P:Program):List TypeId->List Ty->Bool
 | [],[]=>true
 | T::r,t::q=>Fits P 9 T t&&Pk P r q
 | _,_=>false
theorem V8 {H:Type} {enc:TypeId×Value->H} {P:Program} {w:World} {base:Nat} {spare:Nat->Bool} {held:Bool} {r:Reach} {b0:Nat}:∀ {Ts:List TypeId} {ts:List Ty} {vs:List Value} {ds:List (DataW H)} {ps:List MemPlace} {i:Nat},Pk P Ts ts=true-> (∀ (j:Nat) t v,Ts[j]? =some t->vs[j]? =some v->Value.okWide P w r b0 t v)->DataW.TrodAll enc P w base spare held Ts vs ds ps-> ∃ x,kF (Gw w) w (fun _=>none) i (pms ts) x vs/\aaB ts x
 | [],[],[],[],_,_,_,_,_=>⟨(),rfl,trivial⟩
 | T::Ts,t::ts,v::vs,d::ds,ps,i,hf,hv,⟨p,q,h1,h2,_⟩=>by
  simp only[Pk,ag1] at hf
  obtain⟨y,h3,h4⟩:=ad3 hf.1 (hv 0 T v rfl rfl) h1
  obtain⟨x,h5,h6⟩:=V8 (i:=i+1) hf.2 (fun j t v ht hv'=>hv (j+1) t v ht hv') h2
  exact⟨(y,x),⟨v,vs,fun _=>rfl,fun h=>absurd h (by simp[PM.arg]),h3,h5⟩,⟨h4,h6⟩⟩
theorem law_calls {P:Program} {f:FuncId} {fn:Func} {ts:List Ty} {m:eL (pms ts)->Option (dc (pms ts) [.val .bool])} (ok:gU P f ⟨pms ts,[.val .bool],m⟩) (hm:∀ x,aaB ts x->∃ y,m x=some (true,y)) (hfit:Pk P fn.params.toList ts=true) {tb:TypeId} (hres:fn.resultTypes= #[tb]) (htb:P.underlying tb=some .bool) (kids:Kids P (· <P.types.size)) (full:∀ t e,t<P.types.size->P.underlying t=some (.slice e)->0<P.cellsOf e) (hlt:∀ t∈fn.params.toList,t<P.types.size) {H:Type} {enc:TypeId×Value->H} {s:ChangeSpec} (hvars:s.vars=[]) {W:World} (hT:vT P (Gw W)) {base:Nat} {args:Array Value} {ds gs:List (DataW H)} {before:List MemPlace} (hspec:s.fn H (ds++[])={ results:=[.lit (.bool true)],args:=ds }) (hval:∀ (j:Nat) t v,fn.params[j]? =some t->args[j]? =some v->Value.okWide P W .any base t v) (hW:DataW.Whole enc P fn.params.toList s.vars false W args.toList ds gs before): Calls P f args W fun e W'=>∃ v,e= .returned v/\s.post enc P fn false true false false W args v W':=by
 have hW':=hW
 obtain⟨p,q,hA,hV,hpq,hfz,hnd⟩:=hW
 rw[hvars] at hV
 have hg:gs=[]/\q=[]:=by
  cases gs with
  | nil=>exact⟨rfl,hV⟩
  | cons g gs=>exact absurd hV (by simp[DataW.TrodVars])
 obtain⟨rfl,rfl⟩:=hg
 rw[ahM] at hpq
 subst hpq
 obtain⟨x,hx,hwf⟩:=V8 (i:=0) hfit (fun j t v ht hv=>hval j t v (by simpa using ht) (by simpa using hv)) hA
 obtain⟨y,hy⟩:=hm x hwf
 refine (ok (Gw W) W (fun _=>none) args.toList x (true,y) (afA W) (fun _ _ h=>by cases h) hx hy hT).mono ?_
 rintro e W' ⟨G',ow',vs,hgv⟩
 have hold:∀ b,b<W.heap.size->W'.heap[b]? =W.heap[b]? :=fun b hb=>(hgv.old b hb rfl).1
 have hplt:=hW'.lt
 obtain⟨v,us,rfl,hv,hus,_⟩:=hgv.out
 subst hus
 have hv':v= .bool true:=by simpa [aaA,cF,aN] using hv
 subst hv'
 refine⟨.bool true,hgv.ret,ds,[],before,[],before,[],hW', ?_, ?_, ?_, ?_,fun h=>by cases h⟩
 ·rw[hspec,hres]
  exact trodAll_mk1 (shut_bool htb true)
 ·rw[hspec]
  have hsame:∀ z,z∈before->W.sameAt W' z:=by
   intro z hz
   have:=hplt z hz
   cases z with
   | cell b off=>simp only[World.sameAt,World.cell?];rw[hold b this]
   | map b=>exact hold b this
  have hre:=DataW.TrodAll.respare (spare':=fun b=>decide (b<W.heap.size)) kids full hlt hA (fun z hz=>by simpa using hplt z hz)
  have hcar:∀ {Ts:List TypeId} {vs:List Value} {ds:List (DataW H)} {ps:List MemPlace},DataW.TrodAll enc P W 0 (fun b=>decide (b<W.heap.size)) true Ts vs ds ps->(∀ z,z∈ps->W.sameAt W' z)->DataW.TrodAll enc P W' 0 (fun b=>decide (b<W.heap.size)) true Ts vs ds ps:=by
   intro Ts
   induction Ts with
   | nil=>
    intro vs ds ps h _
    cases vs<;>cases ds<;>first | exact h | exact absurd h (by simp[DataW.TrodAll])
   | cons T Ts ih=>
    intro vs ds ps h hs
    cases vs with
    | nil=>cases ds<;>exact absurd h (by simp[DataW.TrodAll])
    | cons v vs=>cases ds with
    | nil=>exact absurd h (by simp[DataW.TrodAll])
    | cons d ds=>
    obtain⟨p,q,⟨n,h1⟩,h2,rfl⟩:=h
    exact⟨p,q,⟨n,DataW.trod_carry n _ _ _ h1 fun z hz=>hs z (List.mem_append_left _ hz)⟩,ih h2 (fun z hz=>hs z (List.mem_append_right _ hz)),rfl⟩
  exact hcar hre hsame
 ·rw[hspec,hvars];rfl
 ·refine⟨hgv.os,hgv.output,fun i hi=> ?_⟩
  rw[hold i hi]
  cases hh:W.heap[i]? with
  | none=>trivial
  | some o=>cases o<;>simp[World.keptBut]
end Go.Dn
namespace Go.Dn
theorem QT {H:Type} {enc:TypeId×Value->H} {P:Program} {w:World} {base:Nat} {spare:Nat->Bool} {held:Bool}:∀ {Ts:List TypeId} {vs:List Value} {ds:List (DataW H)} {ps:List MemPlace},DataW.TrodAll enc P w base spare held Ts vs ds ps->ds.length=Ts.length
 | [],[],[],_,_=>rfl
 | _::_,_::_,_::_,_,⟨_,_,_,h,_⟩=>by rw[ain,ain,QT h]
def aet:Nat->DataW Unit->List Value
 | d+1,.agg l=>l.flatMap (aet d)
 | _,.lit (.int k n)=>[.int k n]
 | _,.lit (.bool b)=>[.bool b]
 | _,_=>[]
def afV (P:Program) (l:List (String×DataW Unit)) (w:World):World:=
 l.foldl (fun w p=>match P.globalNamed p.1 with
  | some g=>{ w with heap:=w.heap.modify g fun
   | .cells _ t fr=> .cells (aet 9 p.2).toArray t fr
   | o=>o }
  | none=>w) w
end Go.Dn
namespace Go.Dn
theorem ab5 {P:Program} {f:FuncId} {t:Ty} {m:eL [.val .str,.val .str]->Option (dc [.val .str,.val .str] [.val t])} (h:∀ (s c:List UInt8) (r:t.den) (w:World),m (s,c,())=some (r,())->∃ v,(∀ G:Gh,cF G t r v)/\Calls P f #[.string (bs s),.string (bs c)] w fun e w'=>e= .returned v/\RowKit.Below w.heap.size w w'):gU P f ⟨[.val .str,.val .str],[.val t],m⟩:=by
 intro G w ow args x y hG how ha hm _
 obtain⟨s,c,u⟩:=x
 obtain⟨r,u'⟩:=y
 obtain⟨v,us,h1,_,hv,v',us',h2,_,hv',h3⟩:=ha
 have e1:=h1 rfl
 have e2:=h2 rfl
 have e3:us'=[]:=h3
 have e4:v= .string (bs s):=by simpa [Pc,cF,aN] using hv
 have e5:v'= .string (bs c):=by simpa [Pc,cF,aN] using hv'
 subst e1;subst e2;subst e3;subst e4;subst e5
 obtain⟨z,hz,hc⟩:=h s c r w hm
 refine hc.mono ?_
 rintro e w' ⟨he,hb⟩
 refine⟨G,fun _=>none,[z], ?_⟩
 exact {
  ret:=he
  le:=Gh.le_refl G
  agr:=fun b o hbo=>by
   have hw:=hG b o hbo
   have hlt:b<w.heap.size:=by
    rcases ajj b w.heap.size with h | h
    ·exact h
    ·rw[agQ h] at hw;cases hw
   rw[hb.block b hlt];exact hw
  size:=hb.size
  os:=hb.os
  output:=hb.output
  old:=fun b hlt _=>⟨hb.block b hlt,rfl⟩
  own:=fun b i hbi=>by cases hbi
  out:=⟨_,_,rfl,hz G,rfl,trivial⟩
  hnd:=fun _=>rfl }
end Go.Dn
namespace Go.Dn
def LP:(t:Ty)->t.den->Value
 | .int k,n=> .int k n
 | .bool,b=> .bool b
 | .str,s=> .string (bs s)
 | _,_=>undef
def isLit:Ty->Bool
 | .int _=>true
 | .bool=>true
 | .str=>true
 | _=>false
theorem U6 {G:Gh} {t:Ty} (ht:isLit t=true) {x:t.den} {v:Value} (h:cF G t x v):v=LP t x:=by
 cases t<;>simp[isLit] at ht<;>simpa [cF,aN,LP] using h
theorem QB {P:Program} {f:FuncId} {a a' t:Ty} {m:eL [.val a,.val a']->Option (dc [.val a,.val a'] [.val t])} (ha:isLit a=true) (ha':isLit a'=true) (h:∀ (s:a.den) (c:a'.den) (r:t.den) (w:World),m (s,c,())=some (r,())->∃ v,(∀ G:Gh,cF G t r v)/\Calls P f #[LP a s,LP a' c] w fun e w'=>e= .returned v/\RowKit.Below w.heap.size w w'):gU P f ⟨[.val a,.val a'],[.val t],m⟩:=by
 intro G w ow args x y hG how hargs hm _
 obtain⟨s,c,u⟩:=x
 obtain⟨r,u'⟩:=y
 obtain⟨v,us,h1,_,hv,v',us',h2,_,hv',h3⟩:=hargs
 have e1:=h1 rfl
 have e2:=h2 rfl
 have e3:us'=[]:=h3
 have e4:v=LP a s:=U6 ha hv
 have e5:v'=LP a' c:=U6 ha' hv'
 subst e1;subst e2;subst e3;subst e4;subst e5
 obtain⟨z,hz,hc⟩:=h s c r w hm
 refine hc.mono ?_
 rintro e w' ⟨he,hb⟩
 refine⟨G,fun _=>none,[z], ?_⟩
 exact {
  ret:=he
  le:=Gh.le_refl G
  agr:=fun b o hbo=>by
   have hw:=hG b o hbo
   have hlt:b<w.heap.size:=by
    rcases ajj b w.heap.size with h | h
    ·exact h
    ·rw[agQ h] at hw;cases hw
   rw[hb.block b hlt];exact hw
  size:=hb.size
  os:=hb.os
  output:=hb.output
  old:=fun b hlt _=>⟨hb.block b hlt,rfl⟩
  own:=fun b i hbi=>by cases hbi
  out:=⟨_,_,rfl,hz G,rfl,trivial⟩
  hnd:=fun _=>rfl }
theorem A3 (P:Program) (f:FuncId) (ps:List PM) (rs:List RM):gU P f ⟨ps,rs,fun _=>none⟩:=by
 intro G w ow args x y hG how hargs hm _
 cases hm
end Go.Dn
namespace Go.Dn
open Go.Lib
theorem Y6 (w:World) (k:Nat) (os:Array Obj):RowKit.Below w.heap.size w (Sort.grow (w.drewN k) os):=
 ⟨rfl,rfl,rfl,by show w.heap.size<=(w.heap++os).size;rw[Array.size_append];omega,fun b hb=>by
   show (w.heap++os)[b]? =w.heap[b]?
   rw[Array.getElem?_append_left hb]⟩
theorem aek {P:Program} {G:Gh} {w:World} (hG:Agr G w) (hT:vT P G) {g:Nat} (hg:P.globalNamed "internal/strconv.uint64pow10" =some g):TabIs P w "internal/strconv.uint64pow10" .u64 HH:=by
 obtain⟨T,fz,e⟩:=hT.pow g hg
 have h:=hG _ _ e
 unfold TabIs World.var?
 rw[hg,ajA,h]
theorem X7 {P:Program} {f:FuncId} {a t:Ty} {m:eL [.val a]->Option (dc [.val a] [.val t])} {g:Nat} (hg:P.globalNamed "internal/strconv.uint64pow10" =some g) (ha:isLit a=true) (h:∀ (s:a.den) (r:t.den) (w:World),TabIs P w "internal/strconv.uint64pow10" .u64 HH->m (s,())=some (r,())->∃ v,(∀ G:Gh,cF G t r v)/\Calls P f #[LP a s] w fun e w'=>e= .returned v/\RowKit.Below w.heap.size w w'):gU P f ⟨[.val a],[.val t],m⟩:=by
 intro G w ow args x y hG how hargs hm hT
 obtain⟨s,u⟩:=x
 obtain⟨r,u'⟩:=y
 obtain⟨v,us,h1,_,hv,h3⟩:=hargs
 have e1:=h1 rfl
 have e3:us=[]:=h3
 have e4:v=LP a s:=U6 ha hv
 subst e1;subst e3;subst e4
 obtain⟨z,hz,hc⟩:=h s r w (aek hG hT hg) hm
 refine hc.mono ?_
 rintro e w' ⟨he,hb⟩
 refine⟨G,fun _=>none,[z], ?_⟩
 exact {
  ret:=he
  le:=Gh.le_refl G
  agr:=fun b o hbo=>by
   have hw:=hG b o hbo
   have hlt:b<w.heap.size:=by
    rcases ajj b w.heap.size with h | h
    ·exact h
    ·rw[agQ h] at hw;cases hw
   rw[hb.block b hlt];exact hw
  size:=hb.size
  os:=hb.os
  output:=hb.output
  old:=fun b hlt _=>⟨hb.block b hlt,rfl⟩
  own:=fun b i hbi=>by cases hbi
  out:=⟨_,_,rfl,hz G,rfl,trivial⟩
  hnd:=fun _=>rfl }
end Go.Dn
namespace Go.Dn
open Go.Maps Go.WideElems
abbrev Two:Type:=List UInt8×List UInt8
abbrev FU:Ty:= .st (.pair .str .str)
def kL (p:Two):Value:= .agg #[.string (bs p.1),.string (bs p.2)]
theorem abI {a b:List UInt8} (h:bs a=bs b):a=b:=by
 have:=congrArg (fun x:ByteArray=>x.data.toList) h
 simpa [bs] using this
theorem Rq {p q:Two} (h:kL p=kL q):p=q:=by
 obtain⟨a,b⟩:=p
 obtain⟨c,d⟩:=q
 simp only[kL,Value.agg.injEq,Array.mk.injEq,List.cons.injEq,Value.string.injEq,ajJ] at h
 rw[abI h.1,abI h.2]
theorem ad9 {G:Gh} {p:Two} {v:Value}:cF G FU p v↔v=kL p:=by
 constructor
 ·rintro⟨vs,e,c,r,e1,h1,h2⟩
  have g1:c=[.string (bs p.1)]:=h1
  have g2:r=[.string (bs p.2)]:=h2
  subst g1;subst g2;subst e1
  exact e
 ·rintro rfl
  exact⟨[.string (bs p.1),.string (bs p.2)],rfl,[_],[_],rfl,rfl,rfl⟩
structure Ub (P:Program) (kt:TypeId):Prop where
 law:WideMaps.KeyLaw P kt
 of:∀ p:Two,p.1.length<=9223372036854775807->p.2.length<=9223372036854775807->∃ s,keyOf P kt (kL p)=some (.string s)
theorem ae1 {P:Program} {kt:TypeId} {f0 f1:Field} (hl:laidOutB P=true) (hsmall:P.types.size+2<=10000) (hrow:kt<P.types.size) (hk:P.keyType kt=true) (hu:P.underlying kt=some (.struct #[f0,f1])) (h0:P.underlying f0.type=some .string) (h1:P.underlying f1.type=some .string) (c0:P.cellsOf f0.type=1) (c1:P.cellsOf f1.type=1) (ck:P.cellsOf kt=2) (o0:f0.offset=0) (o1:f1.offset=1) (n0:(f0.name != "_")=true) (n1:(f1.name != "_")=true):Ub P kt:=by
 refine⟨deep_law_gate hl hsmall hrow hk (by rw[hu]),fun p hp1 hp2=> ?_⟩
 obtain⟨m,hm⟩:∃ m,P.types.size=m+1:=Nat.exists_eq_succ_of_ne_zero (Nat.ne_of_gt (ajg (ajy kt) hrow))
 have key:∀ (t:TypeId) (s:List UInt8),P.underlying t=some .string->s.length<=9223372036854775807->P.keyLits (m+1) t [.string (bs s)]=some [.string s]:=by
  intro t s ht hs
  have hs':(bs s).size<=maxLen:=by
   show s.toArray.size<=maxLen
   rw[aiT];exact hs
  unfold Program.keyLits
  simp only[ht]
  show (if (bs s).size<=maxLen then some [Lit.string (bs s).data.toList] else none)=_
  rw[ajZ hs']
  rfl
 have e0:=key f0.type p.1 h0 hp1
 have e1:=key f1.type p.2 h1 hp2
 have e2:P.keyLits (m+1+1) kt [.string (bs p.1),.string (bs p.2)]=some [.string p.1,.string p.2]:=by
  unfold Program.keyLits
  simp only[hu]
  show (if ([Value.string (bs p.1),.string (bs p.2)].length=P.cellsOf kt/\(#[f0,f1]:Array Field).all (fun f=>f.name != "_")=true) then (List.mapM (fun f:Field=>P.keyLits (m+1) f.type (([Value.string (bs p.1),.string (bs p.2)].drop f.offset).take (P.cellsOf f.type))) [f0,f1]).map List.flatten else none)=_
  rw[ajZ ⟨by rw[ck];rfl,by simp only[List.all_toArray,ahG,ahI,n0,n1];rfl⟩,List.mapM_cons,List.mapM_cons,List.mapM_nil,o0,o1,c0,c1]
  simp only[ahT,ai1,List.take_zero,List.drop_succ_cons]
  rw[e0,e1]
  rfl
 refine⟨keyBytes [.string p.1,.string p.2], ?_⟩
 unfold keyOf
 simp only[hu]
 rw[hk]
 have ef:(kL p).formed P kt=true:=by
  simp[kL,Value.formed,hu,ck]
 rw[ef,hm]
 simp only[Bool.and_self,aj0]
 show Option.map _ (P.keyLits (m+1+1) kt [.string (bs p.1),.string (bs p.2)])=_
 rw[e2]
 rfl
def Gc (P:Program) (kt:TypeId) (D0:DataW Unit) (left:Lit->Bool) (xs:List Two):Prop:=
 ∃ ks:List (List UInt8),Collected D0 left ks/\aR (fun x k=>keyOf P kt (kL x)=some (.string k)) xs ks
theorem aR.snoc {α β:Type} {R:α->β->Prop}:∀ {l:List α} {m:List β} {a:α} {b:β},aR R l m->R a b->aR R (l++[a]) (m++[b])
 | [],m,a,b,h,hr=>by
  have:m=[]:=h
  subst this
  exact⟨b,[],rfl,hr,rfl⟩
 | x::l,m,a,b,⟨y,r,e,h1,h2⟩,hr=>⟨y,r++[b],by rw[e];rfl,h1,aR.snoc h2 hr⟩
theorem Gc.start (P:Program) (kt:TypeId) (D0:DataW Unit):Gc P kt D0 (has D0) []:=⟨[],Collected.start D0,rfl⟩
theorem Gc.step {P:Program} {kt:TypeId} {D0:DataW Unit} {left:Lit->Bool} {xs:List Two} (h:Gc P kt D0 left xs) {x:Two} {k:List UInt8} {y:DataW Unit} (hk:keyOf P kt (kL x)=some (.string k)) (hlk:left (.string k)=true) (hat:∀ zd,D0.atKey (.string k) zd=y): Gc P kt D0 (fun z=>left z&& !z.sameKey (.string k)) (xs++[x]):=by
 obtain⟨ks,h1,h2⟩:=h
 exact⟨ks++[k],h1.step hlk hat,h2.snoc hk⟩
theorem Yz {P:Program} {kt:TypeId} {G:Gh} {w:World} {e:Ty} {l:List (Two×e.den)} {es:Array MapEntry} {clock b:Nat} (K:Ub P kt) (hb:w.heap[b]? =some (.map es clock)) (h2:aR (AA G FU e) l es.toList) (hborn:∀ x,x∈es.toList->x.born<clock) (hpw:es.toList.Pairwise (fun a b=>a.born<b.born)) (hlen:l.length<=maxLen) (hr:∀ p,p∈l->p.1.1.length<=9223372036854775807/\p.1.2.length<=9223372036854775807) (hnd:(l.map (·.1)).Nodup): ∃ D0:DataW Unit,w.ownsMap P kt (fun _=>some (.nil,[])) b l.length D0/\Maps.size D0=l.length/\ (∀ k,has D0 (.string k)=true↔∃ p,p∈l/\keyOf P kt (kL p.1)=some (.string k)):=by
 have hkeys:∀ {l:List (Two×e.den)} {es:List MapEntry},aR (AA G FU e) l es->es.map (·.key)=l.map fun p=>kL p.1:=by
  intro l
  induction l with
  | nil=>intro es h;have:es=[]:=h;rw[this];rfl
  | cons p l ih=>
   rintro es ⟨x,s,e0,h,hr⟩
   subst e0
   rw[aiv,aiv,ih hr,ad9.1 h.1]
 have hkeys:=hkeys h2
 have hel:es.toList.length=l.length:=by
  have:=congrArg List.length hkeys
  simpa using this
 have hrd:∀ x,x∈es.toList->∃ p,p∈l/\x.key=kL p.1:=by
  intro x hx
  have:x.key∈es.toList.map (·.key):=aiE.2 ⟨x,hx,rfl⟩
  rw[hkeys] at this
  obtain⟨p,hp,e⟩:=aiE.1 this
  exact⟨p,hp,e.symm⟩
 have hrg:∀ x,x∈es.toList->∃ k,keyOf P kt x.key=some (.string k)/\rd (H:=Unit) P kt (fun _=>some (.nil,[])) x=some (.string k,.nil):=by
  intro x hx
  obtain⟨p,hp,e⟩:=hrd x hx
  obtain⟨k,hk⟩:=K.of p.1 (hr p hp).1 (hr p hp).2
  rw[<- e] at hk
  exact⟨k,hk,by unfold rd;rw[hk];rfl⟩
 have hin:∀ p,p∈l->∃ x,x∈es.toList/\x.key=kL p.1:=by
  intro p hp
  have:kL p.1∈es.toList.map (·.key):=by rw[hkeys];exact aiE.2 ⟨p,hp,rfl⟩
  obtain⟨x,hx,e⟩:=aiE.1 this
  exact⟨x,hx,e⟩
 refine⟨.map ((es.toList.map (rg P kt fun _=>some (.nil,[]))).foldr DataW.insert []),⟨es,clock,hb,⟨by rw[<- agW,hel];exact hlen,⟨hborn, ?_, ?_⟩, ?_⟩,by rw[<- agW,hel];exact ajc _,rfl⟩, ?_, ?_⟩
 ·refine List.Pairwise.map _ (fun a b h=> ?_) hpw
  exact Nat.ne_of_lt h
 ·rw[hkeys]
  have:(l.map fun p=>kL p.1)=(l.map (·.1)).map kL:=by rw[aiw];rfl
  rw[this]
  exact List.Pairwise.map _ (fun a b h e=>h (Rq e)) hnd
 ·intro x hx
  obtain⟨k,_,h⟩:=hrg x hx
  exact⟨_,h⟩
 ·show List.length _=_
  rw[length_sorted,aio,hel]
 ·intro k
  rw[has_eq,ahK]
  constructor
  ·rintro⟨q,hq,hs⟩
   rw[mem_sorted] at hq
   obtain⟨x,hx,rfl⟩:=aiE.1 hq
   obtain⟨k',hk',h'⟩:=hrg x hx
   have:rg (H:=Unit) P kt (fun _=>some (.nil,[])) x=(.string k',.nil):=by unfold rg;rw[h'];rfl
   rw[this] at hs
   have ek:k'=k:=by simpa [Lit.sameKey] using hs
   subst ek
   obtain⟨p,hp,e⟩:=hrd x hx
   exact⟨p,hp,by rw[<- e];exact hk'⟩
  ·rintro⟨p,hp,hk⟩
   obtain⟨x,hx,e⟩:=hin p hp
   obtain⟨k',hk',h'⟩:=hrg x hx
   rw[e,hk] at hk'
   cases hk'
   have:rg (H:=Unit) P kt (fun _=>some (.nil,[])) x=(.string k,.nil):=by unfold rg;rw[h'];rfl
   exact⟨(.string k,.nil),mem_sorted.2 (aiE.2 ⟨x,hx,this⟩),by simp[Lit.sameKey]⟩
theorem aR.left {α β:Type} {R:α->β->Prop}:∀ {l:List α} {m:List β},aR R l m->∀ a,a∈l->∃ b,b∈m/\R a b
 | x::l,m,⟨y,r,e,h1,h2⟩,a,ha=>by
  subst e
  rcases aiz.1 ha with rfl | ha
  ·exact⟨y,aiB,h1⟩
  ·obtain⟨b,hb,hr⟩:=aR.left h2 a ha
   exact⟨b,aiA _ hb,hr⟩
theorem aR.right {α β:Type} {R:α->β->Prop}:∀ {l:List α} {m:List β},aR R l m->∀ b,b∈m->∃ a,a∈l/\R a b
 | [],m,h,b,hb=>by
  have:m=[]:=h
  subst this;cases hb
 | x::l,m,⟨y,r,e,h1,h2⟩,b,hb=>by
  subst e
  rcases aiz.1 hb with rfl | hb
  ·exact⟨x,aiB,h1⟩
  ·obtain⟨a,ha,hr⟩:=aR.right h2 b hb
   exact⟨a,aiA _ ha,hr⟩
theorem MC {P:Program} {kt:TypeId}:∀ {xs:List Two} {ks:List (List UInt8)},aR (fun x k=>keyOf P kt (kL x)=some (.string k)) xs ks->ks.Nodup->xs.Nodup
 | [],_,_,_=>List.nodup_nil
 | x::xs,_,⟨k,r,e,h1,h2⟩,hn=>by
  subst e
  obtain⟨n1,n2⟩:=aiM.1 hn
  refine aiM.2 ⟨fun hx=>n1 ?_,MC h2 n2⟩
  obtain⟨k',hk',h'⟩:=h2.left x hx
  have h1':keyOf P kt (kL x)=some (.string k):=h1
  have h'':keyOf P kt (kL x)=some (.string k'):=h'
  rw[h1'] at h''
  cases h''
  exact hk'
theorem Gc.perm {P:Program} {kt:TypeId} {D0:DataW Unit} {left:Lit->Bool} {xs keys:List Two} (h:Gc P kt D0 left xs) (K:Ub P kt) (hl:∀ kl,left kl=false) (hnd:keys.Nodup) (hs:∀ p,p∈keys->p.1.length<=9223372036854775807/\p.2.length<=9223372036854775807) (hD:∀ k,has D0 (.string k)=true↔∃ p,p∈keys/\keyOf P kt (kL p)=some (.string k)):xs.Perm keys:=by
 obtain⟨ks,⟨h1,h2⟩,h3⟩:=h
 refine (List.perm_ext_iff_of_nodup (MC h3 h1) hnd).2 fun x=>⟨fun hx=> ?_,fun hx=> ?_⟩
 ·obtain⟨k,hk,hr⟩:=h3.left x hx
  obtain⟨p,hp,hr'⟩:=(hD k).1 ((h2 k).1 hk).1
  rw[Rq (K.law.inj hr hr')];exact hp
 ·obtain⟨k,hk⟩:=K.of x (hs x hx).1 (hs x hx).2
  have:k∈ks:=(h2 k).2 ⟨(hD k).2 ⟨x,hx,hk⟩,hl _⟩
  obtain⟨y,hy,hr⟩:=h3.right k this
  rw[Rq (K.law.inj hk hr)];exact hy
end Go.Dn
