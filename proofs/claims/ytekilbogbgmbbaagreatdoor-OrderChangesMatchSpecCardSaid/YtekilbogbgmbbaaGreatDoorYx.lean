/-
  order.Changed: ranges over maps. No condition.
-/
import Derived.Test.YtekilbogbgmbbaaGreatDoorYi
import Derived.Test.YtekilbogbgmbbaaGreatDoorYb
import Derived.Test.YtekilbogbgmbbaaGreatDoorYe
set_option linter.all false
set_option maxRecDepth 100000
namespace Go.Proofs.SeatA
open Go.Dn Go.Md Go.Proofs Go.RowKit Go.Shelf Go.Lib
theorem St0.wh {B:Nat} {w wr w':World} {v1 v2:List Value} (h:St0 w v1 v2 wr) (k:KB B wr w') (hB:w.heap.size+3<=B):St0 w v1 v2 w':=
 ⟨(k.block _ (by omega)).trans h.b0,(k.block _ (by omega)).trans h.b1,(k.block _ (by omega)).trans h.b2,⟨afu h.kept.size k.size,k.os.trans h.kept.os,k.output.trans h.kept.output,fun i hi=>(k.block i (by omega)).trans (h.kept.block i hi)⟩,afu h.sz k.size⟩
theorem dZ.wh {B b ck:Nat} {w w':World} {l:List (Int×ai)} {es:Array MapEntry} (h:dZ w l b es ck) (k:KB B w w') (hb:b<B):dZ w' l b es ck:=⟨(k.block b hb).trans h.heap,h.ent,h.born,h.incr⟩
theorem dZ.keep {b ck:Nat} {w w':World} {l:List (Int×ai)} {es:Array MapEntry} (h:dZ w l b es ck) (k:Kept w w'):dZ w' l b es ck:=⟨(k.block b (bf h.heap)).trans h.heap,h.ent,h.born,h.incr⟩
theorem We {G:Gh}:∀ (l:List (Int×ai)) (r:List MapEntry),r.map (fun e=>(e.key,e.val))=l.map (fun p=>(Value.int .i64 p.1,Value.agg (gi p.2).toArray))->aF (qp G tI aJ) l r
 | [],[],_=>rfl
 | [],e::r,h=>by simp at h
 | p::l,[],h=>by simp at h
 | p::l,e::r,h=>by
  simp only[aeK,List.cons.injEq,Prod.mk.injEq] at h
  exact⟨e,r,rfl,⟨(by rw[h.1.1];rfl:bX G tI p.1 e.key),⟨_,h.1.2,Mf G p.2⟩⟩,We l r h.2⟩
theorem dZ.get {w:World} {l:List (Int×ai)} {b ck:Nat} {es:Array MapEntry} (h:dZ w l b es ck) {i:Nat} {e:MapEntry} (he:es.toList[i]? =some e):∃ p,l[i]? =some p/\e.key= .int .i64 p.1/\e.val= .agg (gi p.2).toArray:=by
 have h1:=congrArg (fun t=>t[i]?) h.ent
 simp only[aek,he,afU] at h1
 cases hp:l[i]? with
 | none=>rw[hp] at h1;cases h1
 | some p=>
  rw[hp,afU,Option.some.injEq,Prod.mk.injEq] at h1
  exact⟨p,rfl,h1.1,h1.2⟩
theorem dZ.len {w:World} {l:List (Int×ai)} {b ck:Nat} {es:Array MapEntry} (h:dZ w l b es ck):es.toList.length=l.length:=by
 have:=congrArg List.length h.ent
 simpa using this
theorem dZ.get' {w:World} {l:List (Int×ai)} {b ck:Nat} {es:Array MapEntry} (h:dZ w l b es ck) {i:Nat} {p:Int×ai} (hp:l[i]? =some p):∃ e,es.toList[i]? =some e:=by
 have hl:=h.len
 have:=(aej.1 hp).1
 exact⟨_,aeh (by omega)⟩
theorem born_inj:∀ (l:List MapEntry),l.Pairwise (fun a b=>a.born<b.born)->∀ (i j:Nat) (a b:MapEntry),l[i]? =some a->l[j]? =some b->a.born=b.born->i=j:=by
 intro l hl i j a b ha hb he
 rw[ae6] at hl
 obtain⟨hi,rfl⟩:=aej.1 ha
 obtain⟨hj,rfl⟩:=aej.1 hb
 rcases afB i j with h | h | h
 ·have:=hl i j hi hj h;omega
 ·exact h
 ·have:=hl j i hj hi h;omega
theorem Wv {l:List MapEntry} (h:l.Pairwise (fun a b=>a.born<b.born)):(l.map (·.born)).Nodup:=ae7.2 (h.imp fun h=>Nat.ne_of_lt h)
theorem Vg {es:Array MapEntry} {seen:Array Nat} {e:MapEntry} (he:e∈(leftOf es seen).toList):(leftOf es (seen.push e.born)).size<(leftOf es seen).size:=by
 have h1:leftOf es (seen.push e.born)=(leftOf es seen).filter fun x=> !(x.born==e.born):=by
  unfold leftOf
  rw[Array.filter_filter]
  congr 1
  funext x
  rw[Array.contains_push]
  cases seen.contains x.born<;>cases x.born==e.born<;>rfl
 rw[h1]
 have h2:=Array.size_filter_le (p:=fun x:MapEntry=> !(x.born==e.born)) (xs:=leftOf es seen)
 rcases Nat.lt_or_eq_of_le h2 with h | h
 ·exact h
 ·have h3:=Array.filter_size_eq_size.1 h e (by simpa using he)
  simp at h3
theorem QD {w:World} {l:List (Int×ai)} {b r ck c0:Nat} {es:Array MapEntry} {seen:Array Nat} (ty:TypeId) (hL:dZ w l b es ck) (hr:w.heap[r]? =some (.mapIter (some b) ck seen c0)) (hc:ck<=c0): ((∀ (i:Nat) (e:MapEntry),es.toList[i]? =some e->seen.contains e.born=true)/\Sem.run Tryz.prog (Instr.next (.pointer (some ⟨r,0,none⟩)) false ty) w= .ok (.tuple #[.bool false]) w)\/ ∃ (i:Nat) (p:Int×ai) (e:MapEntry) (W:World),l[i]? =some p/\es.toList[i]? =some e/\(leftOf es (seen.push e.born)).size<(leftOf es seen).size/\ Sem.run Tryz.prog (Instr.next (.pointer (some ⟨r,0,none⟩)) false ty) w= .ok (.tuple #[.bool true,.int .i64 p.1,.agg (gi p.2).toArray]) W/\Sem.run Tryz.prog (Instr.entry (.pointer (some ⟨r,0,none⟩))) W= .ok (.tuple #[.int .i64 p.1,.agg (gi p.2).toArray]) W/\ W.heap[r]? =some (.mapIter (some b) ck (seen.push e.born) ck)/\(∀ k,k≠r->W.heap[k]? =w.heap[k]?)/\W.heap.size=w.heap.size/\W.os=w.os/\W.output=w.output:=by
 have hmem:∀ x∈es.toList,x.born<ck:=fun x hx=>by
  obtain⟨i,hi⟩:=ael hx
  exact hL.born i x hi
 have hrb:r≠b:=fun e=>by subst e;rw[hL.heap] at hr;cases hr
 rcases run_next_at (P:=Tryz.prog) w ty r b ck c0 seen es ck hr hL.heap hmem hc with ⟨h0,hrun⟩ | ⟨e,he,w1,hw1,hrun⟩
 ·refine .inl ⟨fun i e hi=> ?_,hrun⟩
  have he:e∈es:=by
   have:=aeW hi
   simpa using this
  have h1:leftOf es seen= #[]:=acY h0
  unfold leftOf at h1
  rw[Array.filter_eq_empty_iff] at h1
  have:=h1 e he
  simpa using this
 ·have hes:e∈es.toList:=by
   unfold leftOf at he
   simp only[Array.toList_filter,aeS] at he
   exact he.1
  obtain⟨i,hi⟩:=ael hes
  obtain⟨p,hp,hk,hv⟩:=hL.get hi
  have hw:w1.heap=w.heap/\w1.os=w.os/\w1.output=w.output:=by rcases hw1 with rfl | rfl<;>exact⟨rfl,rfl,rfl⟩
  have hrlt:r<w.heap.size:=bf hr
  have e1:(ChangeMaps.setBlock w1 r (.mapIter (some b) ck (seen.push e.born) ck)).heap=w.heap.setIfInBounds r (.mapIter (some b) ck (seen.push e.born) ck):=by
   show w1.heap.setIfInBounds _ _=_
   rw[hw.1]
  have g1:(ChangeMaps.setBlock w1 r (.mapIter (some b) ck (seen.push e.born) ck)).heap[r]? =some (.mapIter (some b) ck (seen.push e.born) ck):=by
   rw[e1];simp[Array.getElem?_setIfInBounds,hrlt]
  have g2:∀ k,k≠r->(ChangeMaps.setBlock w1 r (.mapIter (some b) ck (seen.push e.born) ck)).heap[k]? =w.heap[k]? :=fun k hk=>by
   rw[e1];exact ac4 (Ne.symm hk)
  refine .inr ⟨i,p,e,_,hp,hi,Vg he,by rw[hrun,hk,hv], ?_,g1,g2,by rw[e1];simp,hw.2.1,hw.2.2⟩
  have:=run_entry_at (P:=Tryz.prog) (ChangeMaps.setBlock w1 r (.mapIter (some b) ck (seen.push e.born) ck)) r b ck seen es ck e g1 ((g2 b (Ne.symm hrb)).trans hL.heap) hes (Wv hL.incr)
  rw[this,hk,hv]
def zN (l:List Int) (n:Int):List Int:=if n∈l then l else l++[n]
theorem aam {l:List Int} {n x:Int}:x∈zN l n↔x∈l\/x=n:=by
 unfold zN
 split
 ·rename_i h
  exact⟨.inl,fun h2=>h2.elim id (fun e=>e ▸ h)⟩
 ·simp
theorem Xs {l:List Int} {n:Int} (h:l.Nodup):(zN l n).Nodup:=by
 unfold zN
 split
 ·exact h
 ·rename_i hn
  rw[ae3]
  exact⟨h,List.pairwise_singleton _ _,fun a ha b hb e=>by rw[ae0] at hb;subst hb;subst e;exact hn ha⟩
structure sE (base:List Int) (l:List (Int×ai)) (es:Array MapEntry) (seen:Array Nat) (L:List Int):Prop where
 nd:L.Nodup
 mem:∀ n,n∈L↔n∈base\/∃ (i:Nat) (p:Int×ai) (e:MapEntry),l[i]? =some p/\es.toList[i]? =some e/\seen.contains e.born=true/\p.1=n
theorem sE.start {base:List Int} {l:List (Int×ai)} {es:Array MapEntry} {L:List Int} (h:L.Nodup) (hm:∀ n,n∈L↔n∈base):sE base l es #[] L:=
 ⟨h,fun n=>⟨fun h=> .inl ((hm n).1 h),fun h=>by
   rcases h with h | ⟨i,p,e,_,_,hc,_⟩
   ·exact (hm n).2 h
   ·simp at hc⟩⟩
theorem CX {w:World} {l:List (Int×ai)} {b ck:Nat} {es:Array MapEntry} (hL:dZ w l b es ck) {seen:Array Nat} {i j:Nat} {e e':MapEntry} (hi:es.toList[i]? =some e) (hj:es.toList[j]? =some e'): (seen.push e.born).contains e'.born=true↔seen.contains e'.born=true\/j=i:=by
 rw[Array.contains_push,adu,afY]
 constructor
 ·rintro (h | h)
  ·exact .inl h
  ·exact .inr (born_inj _ hL.incr j i e' e hj hi h)
 ·rintro (h | h)
  ·exact .inl h
  ·subst h;rw[hi] at hj;cases hj;exact .inr rfl
theorem sE.step {w:World} {base:List Int} {l:List (Int×ai)} {b ck:Nat} {es:Array MapEntry} {seen:Array Nat} {L:List Int} (hL:dZ w l b es ck) (h:sE base l es seen L) {i:Nat} {p:Int×ai} {e:MapEntry} (hp:l[i]? =some p) (he:es.toList[i]? =some e): sE base l es (seen.push e.born) (zN L p.1):=by
 refine⟨Xs h.nd,fun n=> ?_⟩
 rw[aam,h.mem]
 constructor
 ·rintro ((h1 | ⟨j,q,e',h1,h2,h3,h4⟩) | h1)
  ·exact .inl h1
  ·exact .inr ⟨j,q,e',h1,h2,(CX hL he h2).2 (.inl h3),h4⟩
  ·exact .inr ⟨i,p,e,hp,he,(CX hL he he).2 (.inr rfl),h1.symm⟩
 ·rintro (h1 | ⟨j,q,e',h1,h2,h3,h4⟩)
  ·exact .inl (.inl h1)
  ·rcases (CX hL he h2).1 h3 with h5 | h5
   ·exact .inl (.inr ⟨j,q,e',h1,h2,h5,h4⟩)
   ·subst h5;rw[hp] at h1;cases h1;exact .inr h4.symm
theorem sE.done {w:World} {base:List Int} {l:List (Int×ai)} {b ck:Nat} {es:Array MapEntry} {seen:Array Nat} {L:List Int} (hL:dZ w l b es ck) (h:sE base l es seen L) (ha:∀ (i:Nat) (e:MapEntry),es.toList[i]? =some e->seen.contains e.born=true): ∀ n,n∈L↔n∈base\/n∈l.map (·.1):=fun n=>by
 rw[h.mem]
 constructor
 ·rintro (h1 | ⟨i,p,e,h1,h2,h3,h4⟩)
  ·exact .inl h1
  ·exact .inr (aeV.2 ⟨p,aeW h1,h4⟩)
 ·rintro (h1 | h1)
  ·exact .inl h1
  ·obtain⟨p,hp,rfl⟩:=aeV.1 h1
   obtain⟨i,hi⟩:=ael hp
   obtain⟨e,he⟩:=hL.get' hi
   exact .inr ⟨i,p,e,hi,he,ha i e he,rfl⟩
theorem aaM {a b:List (Int×ai)} {L:List Int} (ha:(a.map (·.1)).Nodup) (hb:(b.map (·.1)).Nodup) (hL:L.Nodup) (hm:∀ n,n∈L↔n∈a.map (·.1)\/n∈b.map (·.1)):L.mergeSort (fun x y=>decide (x<=y))=dS a b:=by
 refine mergeSort_of_perm_i ((List.perm_ext_iff_of_nodup hL ?_).2 fun n=> ?_)
 ·rw[ae3]
  refine⟨ha,hb.filter _,fun x hx y hy e=> ?_⟩
  subst e
  have:=(aeS.1 hy).2
  simp only[adq,adR,afY] at this
  obtain⟨p,hp,h⟩:=aeV.1 hx
  exact this p hp h
 ·rw[hm,aeM,aeS]
  constructor
  ·rintro (h | h)
   ·exact .inl h
   ·by_cases h2:n∈a.map (·.1)
    ·exact .inl h2
    ·refine .inr ⟨h, ?_⟩
     simp only[adq,adR,afY]
     exact fun p hp e=>h2 (aeV.2 ⟨p,hp,e⟩)
  ·rintro (h | h)
   ·exact .inl h
   ·exact .inr h.1
def q8 (b:List (Int×ai)) (p:Int×ai):Bool:=match aM b p.1 with
 | some y=> !(y.2.1==p.2.2.1)|| !(y.2.2.2.1==p.2.2.2.2.1)
 | none=>false
theorem Qe (a b:List (Int×ai)):iq a b=a.any (q8 b):=rfl
theorem WI {a b:List (Int×ai)} {i:Nat} {p:Int×ai} (h:a[i]? =some p) (hc:q8 b p=true):iq a b=true:=by
 rw[Qe];exact adS.2 ⟨p,aeW h,hc⟩
theorem WH {a b:List (Int×ai)} (h:∀ (i:Nat) (p:Int×ai),a[i]? =some p->q8 b p=false):iq a b=false:=by
 rw[Qe,adR]
 intro p hp
 obtain⟨i,hi⟩:=ael hp
 rw[h i p hi];simp
def G00:Gh:=⟨fun _=>none,fun _=>none⟩
def uw (L:List Int):List (Int×Bool):=L.map fun n=>(n,true)
theorem Qa (L:List Int):(uw L).length=L.length:=aeA _
theorem P9 (L:List Int):(uw L).map (·.1)=L:=by unfold uw;rw[aeL];exact List.map_id _
def mz (w:World) (L:List Int) (b:Nat):Prop:=nE G00 w tI .bool (uw L) b
theorem QC:∀ (L:List Int) (n:Int),lq (k:=tI) (v:= .bool) (uw L) n true=uw (zN L n)
 | [],n=>rfl
 | x::L,n=>by
  have ih:=QC L n
  show (bif (n==x) then (n,true)::uw L else (x,true)::lq (k:=tI) (v:= .bool) (uw L) n true)=uw (zN (x::L) n)
  by_cases h:n=x
  ·subst h
   rw[show (n==n)=true from afZ n,af2]
   simp[zN,uw]
  ·rw[show (n==x)=false from afX.2 h,af1]
   refine (congrArg (List.cons (x,true)) ih).trans ?_
   unfold zN
   by_cases h2:n∈L
   ·rw[age h2,age (aeQ _ h2)];rfl
   ·rw[agd h2,agd (by simp[h,h2])];simp[uw]
theorem Un {w:World} {L:List Int} {b:Nat} (h:mz w L b) (n:Int): ∃ W,Sem.run Tryz.prog (Instr.mapUpdate 51 (.map (some b)) (.int .i64 n) (.bool true)) w= .ok () W/\mz W (zN L n) b/\(∀ k,k≠b->W.heap[k]? =w.heap[k]?)/\W.heap.size=w.heap.size/\W.os=w.os/\W.output=w.output:=by
 obtain⟨es,clock,h1,h2,h3,h4⟩:=h
 obtain⟨es',clock',hrun,g1,g2,g3⟩:=GN (P:=Tryz.prog) (w:=w) (kk:=tI) (vv:= .bool) (key:=n) (y:=true) (kv:= .int .i64 n) (xv:= .bool true) Tryz.underlying51 (by kernel_rfl) (rfl:bX _ tI n (.int .i64 n)) (rfl:bX _ .bool true (.bool true)) h1 h2 h3 h4
 rw[QC] at g1
 have hlt:=bf h1
 refine⟨_,hrun,⟨es',clock',by simp[Array.getElem?_setIfInBounds,hlt],g1,g2,g3⟩,fun k hk=>ac4 (Ne.symm hk),by simp,rfl,rfl⟩
theorem mz.keep {w w':World} {L:List Int} {b:Nat} (h:mz w L b) (k:w'.heap[b]? =w.heap[b]?):mz w' L b:=by
 obtain⟨es,clock,h1,h⟩:=h
 exact⟨es,clock,k.trans h1,h⟩
theorem mz.lt {w:World} {L:List Int} {b:Nat} (h:mz w L b):b<w.heap.size:=by
 obtain⟨es,clock,h1,_⟩:=h
 exact bf h1
theorem aaq (w:World):mz (w.alloc (.map #[] 0)) [] w.heap.size:=⟨#[],0,heap_alloc_new w _,rfl,fun i e h=>by simp at h,List.Pairwise.nil⟩
theorem IM {w:World} {l:List (Int×ai)} {b ck:Nat} {es:Array MapEntry} (h:dZ w l b es ck) (n:Int): Sem.run Tryz.prog (Instr.lookup 49 (.map (some b)) (.int .i64 n) true) w= .ok (.tuple #[.agg (gi ((aM l n).getD eC)).toArray,.bool (aM l n).isSome]) w:=by
 have hz:yq Tryz.prog 53 aJ=some eC:=by kernel_rfl
 have ht:=Tryz.underlying49
 have hchk:fy Tryz.prog 3 tI=true:=by kernel_rfl
 have hk:bX G00 tI n (.int .i64 n):=rfl
 obtain⟨iz,zv,hiz,hzi,hzr,hzv⟩:=AR hz
 have h5:=We (G:=G00) l es.toList h.ent
 obtain⟨fr,hf1,hf2⟩:=Ay (w:=w) hchk hk h5
 have hg:=hf2.get
 have hobj:(getObj b).run Tryz.prog w= .ok (.map es ck) w:=kH h.heap
 cases fr with
 | none=>
  simp only at hg
  obtain⟨vs,hv,hvs⟩:=hzv G00
  have hvs2:vs=gi eC:=FW (G:=G00) (x:=eC) hvs
  subst hvs2
  have hg':aM l n=none:=hg
  rw[hg']
  show _=Result.ok (Value.tuple #[.agg (gi eC).toArray,.bool false]) w
  rw[<- hv]
  simp only[Instr.lookup,Sem.run_bind,run_underlying ht,Result.andThen_ok,hobj,Sem.run_pure,kR hchk hk,hf1,hzr w]
  rfl
 | some p=>
  obtain⟨i,u⟩:=p
  simp only at hg
  obtain⟨q,e,g1,g2,g3,g4⟩:=hg
  obtain⟨e',ge,gr⟩:=h5.get g1
  rw[g2] at ge
  cases ge
  obtain⟨vs,hv,hvs⟩:=gr.2
  have hvs2:vs=gi q.2:=FW (G:=G00) (x:=q.2) hvs
  subst hvs2
  have g4':aM l n=some q.2:=g4
  rw[g4']
  show _=Result.ok (Value.tuple #[.agg (gi q.2).toArray,.bool true]) w
  rw[<- hv, <- g3]
  simp only[Instr.lookup,Sem.run_bind,run_underlying ht,Result.andThen_ok,hobj,Sem.run_pure,kR hchk hk,hf1]
  rfl
theorem Xe (b:Nat) (w:World):∃ bt,Calls Tryz.prog 17 #[.map (some b)] w fun e w'=>e= .returned (.func (.func 43) #[] #[.pointer (some ⟨w.heap.size,0,none⟩)])/\w'=w.alloc (.cells #[.map (some b)] bt):=by
 obtain⟨bt,h⟩:=ab4
 exact⟨bt,h (some b) w⟩
theorem Uh {w:World} {L:List Int} {b Bm:Nat} {bt:TypeId} (h:mz w L b) (hB:w.heap[Bm]? =some (.cells #[.map (some b)] bt (0,0))) (hnd:L.Nodup) (hlen:L.length<=2000000) (hr:∀ n∈L, -9223372036854775808<=n/\n<=9223372036854775807): Calls Tryz.prog 16 #[.func (.func 43) #[] #[.pointer (some ⟨Bm,0,none⟩)]] w fun e w'=>∃ v,e= .returned v/\w'.ownsRow w.heap.size 3 1 v L.length ((L.mergeSort fun x y=>decide (x<=y)).map encZ)/\Kept w w':=by
 obtain⟨es,clock,h1,h2,h3,h4⟩:=h
 have hml:(2000000:Nat)<=maxLen:=by decide
 obtain⟨D0,hD,hperm,hsize⟩:=KU (P:=Tryz.prog) (kt:=3) (e:= .bool) (l:=uw L) Tryz.underlying3 h1 h2 (fun x hx=>by
  obtain⟨i,hi⟩:=ael hx
  exact h3 i x hi) h4 (afu (Nat.le_of_eq (Qa L)) (by omega)) (fun p hp=>by
  obtain⟨n,hn,rfl⟩:=aeV.1 hp
  have:=hr n hn
  show (decide ((-9223372036854775808:Int)<=n)&&decide (n<=(9223372036854775807:Int)))=true
  rw[af6 this.1,af6 this.2];rfl) (by have:=P9 L;exact this.symm ▸ hnd)
 have hperm:L.Perm (intKeys D0):=(P9 L) ▸ hperm
 have hsize:Maps.size D0=L.length:=hsize.trans (Qa L)
 have hcall:=abn.2 Bm b _ D0 w (bf hB) (by simp[World.cell?,hB]) hD (by rw[hsize];omega) (by rw[hsize];omega)
 refine hcall.mono ?_
 rintro e' w' ⟨v,ss,rfl,hss,hrowS,hb⟩
 have hsort:ss.mergeSort (fun x y=>decide (x<=y))=L.mergeSort (fun x y=>decide (x<=y)):=mergeSort_of_perm_i (hss.trans hperm.symm)
 have hslen:ss.length=L.length:=(hss.trans hperm.symm).length_eq
 rw[hsort,hslen] at hrowS
 exact⟨v,rfl,hrowS,hb.size,hb.os,hb.output,hb.block⟩
theorem Mu {w:World} {B:Nat} {e:TypeId} {sz:Nat} {v:Value} {n:Nat} {xs:List Value} (h:w.ownsRow B e sz v n xs): ∃ a cap,v= .slice a n cap/\n<=maxLen/\(n=0\/∃ g cur,a=some ⟨g,0,none⟩/\B<=g/\w.heap[g]? =some (.cells cur e (0,0))/\cur.toList.take (n*sz)=xs):=by
 rcases h.2 with ⟨rfl,rfl⟩ | ⟨g,cap,cur,rfl,h1,h2,h3,h4,h5,h6⟩
 ·exact⟨none,0,rfl,afN _,.inl rfl⟩
 ·exact⟨_,_,rfl,afu h3 h4,.inr ⟨g,cur,rfl,h1,h2,h6⟩⟩
theorem Ue {w:World} {g:Nat} {cur:Array Value} {e:TypeId} {fz:Nat×Nat} {m:Nat} {xs:List Value} (h:w.heap[g]? =some (.cells cur e fz)) (hx:cur.toList.take m=xs) {j:Nat} {v:Value} (hj:xs[j]? =some v):w.cell? ⟨g,j,none⟩=some v:=by
 simp only[World.cell?,h]
 rw[<- hx,aeq] at hj
 split at hj
 ·simpa using hj
 ·cases hj
theorem abR (W:World) (v:List Value) (h:v.length=13): Sem.run Tryz.prog (Instr.buildSlice 25 1 #[(0,.agg v.toArray)]) W= .ok (.slice (some ⟨W.heap.size,0,none⟩) 1 1) (W.alloc (.cells v.toArray 33)):=by
 match v,h with
 | [a1,a2,a3,a4,a5,a6,a7,a8,a9,a10,a11,a12,a13],_=>
  exact run_buildSlice W 25 33 1 _ _ Tryz.t33 (.agg #[.int .i64 0,.int .i64 0,.int .i64 0,.int .i64 0,.int .i64 0,.string ⟨#[]⟩,.int .i64 0,.int .i64 0,.string ⟨#[]⟩,.int .i64 0,.int .i64 0,.int .i64 0,.int .i64 0]) Tryz.underlying25 (by kernel_rfl) (by kernel_rfl) (by decide) (by decide) (by kernel_rfl)
theorem rE:∀ (l acc:List aa),(fY acc l).length=acc.length+l.length
 | [],acc=>rfl
 | d::r,acc=>by rw[fY,rE r,aev,aeG,aew];omega
theorem Fm {a b:List (Int×ai)} {day:Int}:∀ (K:List Int) (acc q:List aa),iR a b day K acc=some q->acc.length<=q.length
 | [],acc,q,h=>by rw[iR] at h;cases h;exact aft _
 | n::r,acc,q,h=>by
  rw[iR] at h
  cases hc:iM ((aM a n).getD eC) ((aM b n).getD eC) (aM a n).isSome (aM b n).isSome (vq day n) with
  | none=>rw[hc] at h;cases h
  | some l=>
   rw[hc,afO] at h
   have:=Fm r _ q h
   rw[rE] at this
   omega
theorem UA {a b:List (Int×ai)} {day n:Int} {r:List Int} {acc q:List aa} (h:iR a b day (n::r) acc=some q): ∃ l,iM ((aM a n).getD eC) ((aM b n).getD eC) (aM a n).isSome (aM b n).isSome (vq day n)=some (l,())/\iR a b day r (fY acc l)=some q:=by
 rw[iR] at h
 cases hc:iM ((aM a n).getD eC) ((aM b n).getD eC) (aM a n).isSome (aM b n).isSome (vq day n) with
 | none=>rw[hc] at h;cases h
 | some l=>obtain⟨l,⟨⟩⟩:=l;rw[hc,afO] at h;exact⟨l,rfl,h⟩
theorem WZ {G:Gh} {w:World} {B:Nat} {v:Value} {l:List aa} (hG:Agr G w) (hlow:∀ b o,G b=some o->b<B) (h:w.ownsRow B 33 13 v l.length (l.flatMap eN)): ∃ G':Gh,G.le G'/\G'.hnd=G.hnd/\Agr G' w/\(∀ b,b<B->G' b=G b)/\de G' aq.size (aB G' aq) l v:=by
 rcases h.2 with ⟨rfl,h0⟩ | ⟨g,cap,cur,rfl,h1,h2,h3,h4,h5,h6⟩
 ·obtain rfl:l=[]:=aey.1 h0
  exact⟨G,Gh.le_refl G,rfl,hG,fun _ _=>rfl,none,0,rfl,aft _,afN _,.inl rfl⟩
 ·refine⟨⟨fun b=>if b=g then some (.cells cur 33 (0,0)) else G b,G.hnd⟩,⟨fun b o hb=> ?_,fun _ _ h=>h⟩,rfl,fun b o hb=> ?_,fun b hb=>agd (by omega),some ⟨g,0,none⟩,cap,rfl,h3,h4,.inr ⟨g,0,cur,33,(0,0),rfl,age rfl, ?_, ?_⟩⟩
  ·have:b≠g:=by have:=hlow b o hb;omega
   show (if b=g then _ else G b)=_
   rw[agd this];exact hb
  ·have hb':(if b=g then some (Obj.cells cur 33 (0,0)) else G b)=some o:=hb
   split at hb'
   ·rename_i e;subst e;exact h2.trans hb'
   ·exact hG b o hb'
  ·show 0+l.length*13<=cur.size
   have:=afF 13 h3
   omega
  ·show bN _ l ((cur.toList.drop 0).take (l.length*13))
   rw[ad3,h6]
   exact Qi _ l
theorem flat_get:∀ (l:List aa) (j:Nat) (d:aa),l[j]? =some d->∀ (t:Nat) (v:Value),(eN d)[t]? =some v->(l.flatMap eN)[j*13+t]? =some v
 | [],j,d,h,_,_,_=>by simp at h
 | x::r,0,d,h,t,v,hv=>by
  simp only[aef,Option.some.injEq] at h
  subst h
  have ht:t<(eN x).length:=(aej.1 hv).1
  rw[ad9,Nat.zero_mul,afM,aec ht]
  exact hv
 | x::r,j+1,d,h,t,v,hv=>by
  rw[aee] at h
  have:=flat_get r j d h t v hv
  have hx:(eN x).length=13:=rfl
  rw[ad9,aed (by rw[hx];omega),hx,show (j+1)*13+t - 13=j*13+t by omega]
  exact this
theorem BP {w w':World} {B:Nat} {e:TypeId} {sz:Nat} {v:Value} {n:Nat} {xs:List Value} (h:w.ownsRow B e sz v n xs) (k:Kept w w'):w'.ownsRow B e sz v n xs:=by
 refine⟨h.1, ?_⟩
 rcases h.2 with hn | ⟨g,cap,cur,hv,hb,hg,rest⟩
 ·exact .inl hn
 ·exact .inr ⟨g,cap,cur,hv,hb,(k.block g (bf hg)).trans hg,rest⟩
theorem Sc {w:World} {b o:Nat} {cs:List Value} {T:TypeId} {fz:Nat×Nat} (h:w.heap[b]? =some (.cells cs.toArray T fz)) (v:Value):(w.setCell ⟨b,o,none⟩ v).heap[b]? =some (.cells (cs.set o v).toArray T fz):=by
 simp only[World.setCell,ac2,agf,h,afU]
 simp
theorem Yv {W:World} {WC:World} {b k:Nat} {d:aa} {n:Int} (hk:k=13) (hb:WC.heap[b]? =some (.cells (eN d).toArray 33 (0,0))) (hW:W.heap.size<=b) (hkept:Kept W WC): Sem.run Tryz.prog (loadCellsFrom ⟨b,0,none⟩ 0 k #[]) (WC.setCell ⟨b,2,none⟩ (.int .i64 n))= .ok (eN (d.1,d.2.1,n,d.2.2.2)).toArray (WC.setCell ⟨b,2,none⟩ (.int .i64 n))/\ ∃ gN WE,Sem.run Tryz.prog (Instr.buildSlice 25 1 #[(0,.agg (eN (d.1,d.2.1,n,d.2.2.2)).toArray)]) (WC.setCell ⟨b,2,none⟩ (.int .i64 n))= .ok (.slice (some ⟨gN,0,none⟩) 1 1) WE/\WE.heap[gN]? =some (.cells (eN (d.1,d.2.1,n,d.2.2.2)).toArray 33 (0,0))/\Kept W WE:=by
 have h1:=Sc (o:=2) hb (.int .i64 n)
 have h2:(eN d).set 2 (.int .i64 n)=eN (d.1,d.2.1,n,d.2.2.2):=rfl
 rw[h2] at h1
 refine⟨kJ (by rw[hk];rfl) h1,_,_,abR _ _ rfl,heap_alloc_new _ _,oZ (aab hkept b 2 _ hW) _⟩
theorem ZC {ops:Array Oper} {rest:List Oper} {o:Oper} {a:Act} {Q:Exit->Act->World->Prop} {w W:World} {v s:Value} (hrun:Sem.run Tryz.prog (Instr.buildSlice 25 1 #[(0,v)]) w= .ok s W) (x:Operand) (hg:o.guard=none) (ho:o.op= .buildSlice 25 1 #[(0,x)]) (hx:a.eval x=v) (h:wpList Tryz.prog ops Q rest (a.put o.dst s) W):wpList Tryz.prog ops Q (o::rest) a w:=by
 refine wpList_plain hg fun K hK=> ?_
 unfold Oper.wp execOp
 simp only[ho,Sem.run_bind,Sem.run_pure,Result.andThen_ok,List.map_toArray,aeK,List.map_nil,hx,hrun]
 exact hK _ _ h
end Go.Proofs.SeatA
