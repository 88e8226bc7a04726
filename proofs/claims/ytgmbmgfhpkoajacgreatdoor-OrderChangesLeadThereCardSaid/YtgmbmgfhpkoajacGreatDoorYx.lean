/-
  order.Changed: ranges over maps. No condition.
-/
import Derived.Test.YtgmbmgfhpkoajacGreatDoorYi
import Derived.Test.YtgmbmgfhpkoajacGreatDoorYb
import Derived.Test.YtgmbmgfhpkoajacGreatDoorYe
set_option linter.all false
set_option maxRecDepth 100000
namespace Go.Proofs.SeatA
open Go.Dn Go.Md Go.Proofs Go.RowKit Go.Shelf Go.Lib
theorem St0.sV {B:Nat} {w wr w':World} {v1 v2:List Value} (h:St0 w v1 v2 wr) (k:KB B wr w') (hB:w.heap.size+3<=B):St0 w v1 v2 w':=
 ⟨(k.block _ (by omega)).trans h.b0,(k.block _ (by omega)).trans h.b1,(k.block _ (by omega)).trans h.b2,⟨Wk h.kept.size k.size,k.os.trans h.kept.os,k.output.trans h.kept.output,fun i hi=>(k.block i (by omega)).trans (h.kept.block i hi)⟩,Wk h.sz k.size⟩
theorem dn.sV {B b ck:Nat} {w w':World} {l:List (Int×ai)} {es:Array MapEntry} (h:dn w l b es ck) (k:KB B w w') (hb:b<B):dn w' l b es ck:=⟨(k.block b hb).trans h.heap,h.ent,h.born,h.incr⟩
theorem dn.keep {b ck:Nat} {w w':World} {l:List (Int×ai)} {es:Array MapEntry} (h:dn w l b es ck) (k:Kept w w'):dn w' l b es ck:=⟨(k.block b (aW h.heap)).trans h.heap,h.ent,h.born,h.incr⟩
theorem N7 {G:Gh}:∀ (l:List (Int×ai)) (r:List MapEntry),r.map (fun e=>(e.key,e.val))=l.map (fun p=>(Value.int .i64 p.1,Value.agg (fk p.2).toArray))->aE (nR G tI aT) l r
 | [],[],_=>rfl
 | [],e::r,h=>by simp at h
 | p::l,[],h=>by simp at h
 | p::l,e::r,h=>by
  simp only[VD,List.cons.injEq,Prod.mk.injEq] at h
  exact⟨e,r,rfl,⟨(by rw[h.1.1];rfl:bI G tI p.1 e.key),⟨_,h.1.2,FQ G p.2⟩⟩,N7 l r h.2⟩
theorem dn.get {w:World} {l:List (Int×ai)} {b ck:Nat} {es:Array MapEntry} (h:dn w l b es ck) {i:Nat} {e:MapEntry} (he:es.toList[i]? =some e):∃ p,l[i]? =some p/\e.key= .int .i64 p.1/\e.val= .agg (fk p.2).toArray:=by
 have h1:=congrArg (fun t=>t[i]?) h.ent
 simp only[Vh,he,WM] at h1
 cases hp:l[i]? with
 | none=>rw[hp] at h1;cases h1
 | some p=>
  rw[hp,WM,Option.some.injEq,Prod.mk.injEq] at h1
  exact⟨p,rfl,h1.1,h1.2⟩
theorem dn.len {w:World} {l:List (Int×ai)} {b ck:Nat} {es:Array MapEntry} (h:dn w l b es ck):es.toList.length=l.length:=by
 have:=congrArg List.length h.ent
 simpa using this
theorem dn.get' {w:World} {l:List (Int×ai)} {b ck:Nat} {es:Array MapEntry} (h:dn w l b es ck) {i:Nat} {p:Int×ai} (hp:l[i]? =some p):∃ e,es.toList[i]? =some e:=by
 have hl:=h.len
 have:=(Vg.1 hp).1
 exact⟨_,Ve (by omega)⟩
theorem born_inj:∀ (l:List MapEntry),l.Pairwise (fun a b=>a.born<b.born)->∀ (i j:Nat) (a b:MapEntry),l[i]? =some a->l[j]? =some b->a.born=b.born->i=j:=by
 intro l hl i j a b ha hb he
 rw[VV] at hl
 obtain⟨hi,rfl⟩:=Vg.1 ha
 obtain⟨hj,rfl⟩:=Vg.1 hb
 rcases Wq i j with h | h | h
 ·have:=hl i j hi hj h;omega
 ·exact h
 ·have:=hl j i hj hi h;omega
theorem Ou {l:List MapEntry} (h:l.Pairwise (fun a b=>a.born<b.born)):(l.map (·.born)).Nodup:=VW.2 (h.imp fun h=>Nat.ne_of_lt h)
theorem Nj {es:Array MapEntry} {seen:Array Nat} {e:MapEntry} (he:e∈(leftOf es seen).toList):(leftOf es (seen.push e.born)).size<(leftOf es seen).size:=by
 have h1:leftOf es (seen.push e.born)=(leftOf es seen).filter fun x=> !(x.born==e.born):=by
  unfold leftOf
  rw[Array.filter_filter]
  congr 1
  funext x
  rw[Array.contains_push]
  cases seen.contains x.born<;>cases x.born==e.born<;>rfl
 rw[h1]
 have h2:=Array.size_filter_le (p:=fun x:MapEntry=> !(x.born==e.born)) (xs:=leftOf es seen)
 rcases Nat.lt_or_eq_of_le h2 with h | h
 ·exact h
 ·have h3:=Array.filter_size_eq_size.1 h e (by simpa using he)
  simp at h3
theorem JK {w:World} {l:List (Int×ai)} {b r ck c0:Nat} {es:Array MapEntry} {seen:Array Nat} (ty:TypeId) (hL:dn w l b es ck) (hr:w.heap[r]? =some (.mapIter (some b) ck seen c0)) (hc:ck<=c0): ((∀ (i:Nat) (e:MapEntry),es.toList[i]? =some e->seen.contains e.born=true)/\Sem.run Tryz.prog (Instr.next (.pointer (some ⟨r,0,none⟩)) false ty) w= .ok (.tuple #[.bool false]) w)\/ ∃ (i:Nat) (p:Int×ai) (e:MapEntry) (W:World),l[i]? =some p/\es.toList[i]? =some e/\(leftOf es (seen.push e.born)).size<(leftOf es seen).size/\ Sem.run Tryz.prog (Instr.next (.pointer (some ⟨r,0,none⟩)) false ty) w= .ok (.tuple #[.bool true,.int .i64 p.1,.agg (fk p.2).toArray]) W/\Sem.run Tryz.prog (Instr.entry (.pointer (some ⟨r,0,none⟩))) W= .ok (.tuple #[.int .i64 p.1,.agg (fk p.2).toArray]) W/\ W.heap[r]? =some (.mapIter (some b) ck (seen.push e.born) ck)/\(∀ k,k≠r->W.heap[k]? =w.heap[k]?)/\W.heap.size=w.heap.size/\W.os=w.os/\W.output=w.output:=by
 have hmem:∀ x∈es.toList,x.born<ck:=fun x hx=>by
  obtain⟨i,hi⟩:=Vi hx
  exact hL.born i x hi
 have hrb:r≠b:=fun e=>by subst e;rw[hL.heap] at hr;cases hr
 rcases run_next_at (P:=Tryz.prog) w ty r b ck c0 seen es ck hr hL.heap hmem hc with ⟨h0,hrun⟩ | ⟨e,he,w1,hw1,hrun⟩
 ·refine .inl ⟨fun i e hi=> ?_,hrun⟩
  have he:e∈es:=by
   have:=VO hi
   simpa using this
  have h1:leftOf es seen= #[]:=TY h0
  unfold leftOf at h1
  rw[Array.filter_eq_empty_iff] at h1
  have:=h1 e he
  simpa using this
 ·have hes:e∈es.toList:=by
   unfold leftOf at he
   simp only[Array.toList_filter,VK] at he
   exact he.1
  obtain⟨i,hi⟩:=Vi hes
  obtain⟨p,hp,hk,hv⟩:=hL.get hi
  have hw:w1.heap=w.heap/\w1.os=w.os/\w1.output=w.output:=by rcases hw1 with rfl | rfl<;>exact⟨rfl,rfl,rfl⟩
  have hrlt:r<w.heap.size:=aW hr
  have e1:(ChangeMaps.setBlock w1 r (.mapIter (some b) ck (seen.push e.born) ck)).heap=w.heap.setIfInBounds r (.mapIter (some b) ck (seen.push e.born) ck):=by
   show w1.heap.setIfInBounds _ _=_
   rw[hw.1]
  have g1:(ChangeMaps.setBlock w1 r (.mapIter (some b) ck (seen.push e.born) ck)).heap[r]? =some (.mapIter (some b) ck (seen.push e.born) ck):=by
   rw[e1];simp[Array.getElem?_setIfInBounds,hrlt]
  have g2:∀ k,k≠r->(ChangeMaps.setBlock w1 r (.mapIter (some b) ck (seen.push e.born) ck)).heap[k]? =w.heap[k]? :=fun k hk=>by
   rw[e1];exact T7 (Ne.symm hk)
  refine .inr ⟨i,p,e,_,hp,hi,Nj he,by rw[hrun,hk,hv], ?_,g1,g2,by rw[e1];simp,hw.2.1,hw.2.2⟩
  have:=run_entry_at (P:=Tryz.prog) (ChangeMaps.setBlock w1 r (.mapIter (some b) ck (seen.push e.born) ck)) r b ck seen es ck e g1 ((g2 b (Ne.symm hrb)).trans hL.heap) hes (Ou hL.incr)
  rw[this,hk,hv]
def vS (l:List Int) (n:Int):List Int:=if n∈l then l else l++[n]
theorem Rt {l:List Int} {n x:Int}:x∈vS l n↔x∈l\/x=n:=by
 unfold vS
 split
 ·rename_i h
  exact⟨.inl,fun h2=>h2.elim id (fun e=>e ▸ h)⟩
 ·simp
theorem OZ {l:List Int} {n:Int} (h:l.Nodup):(vS l n).Nodup:=by
 unfold vS
 split
 ·exact h
 ·rename_i hn
  rw[List.nodup_append]
  exact⟨h,List.pairwise_singleton _ _,fun a ha b hb e=>by rw[VR] at hb;subst hb;subst e;exact hn ha⟩
structure pQ (base:List Int) (l:List (Int×ai)) (es:Array MapEntry) (seen:Array Nat) (L:List Int):Prop where
 nd:L.Nodup
 mem:∀ n,n∈L↔n∈base\/∃ (i:Nat) (p:Int×ai) (e:MapEntry),l[i]? =some p/\es.toList[i]? =some e/\seen.contains e.born=true/\p.1=n
theorem pQ.start {base:List Int} {l:List (Int×ai)} {es:Array MapEntry} {L:List Int} (h:L.Nodup) (hm:∀ n,n∈L↔n∈base):pQ base l es #[] L:=
 ⟨h,fun n=>⟨fun h=> .inl ((hm n).1 h),fun h=>by
   rcases h with h | ⟨i,p,e,_,_,hc,_⟩
   ·exact (hm n).2 h
   ·simp at hc⟩⟩
theorem yS {w:World} {l:List (Int×ai)} {b ck:Nat} {es:Array MapEntry} (hL:dn w l b es ck) {seen:Array Nat} {i j:Nat} {e e':MapEntry} (hi:es.toList[i]? =some e) (hj:es.toList[j]? =some e'): (seen.push e.born).contains e'.born=true↔seen.contains e'.born=true\/j=i:=by
 rw[Array.contains_push,Uu,WR]
 constructor
 ·rintro (h | h)
  ·exact .inl h
  ·exact .inr (born_inj _ hL.incr j i e' e hj hi h)
 ·rintro (h | h)
  ·exact .inl h
  ·subst h;rw[hi] at hj;cases hj;exact .inr rfl
theorem pQ.step {w:World} {base:List Int} {l:List (Int×ai)} {b ck:Nat} {es:Array MapEntry} {seen:Array Nat} {L:List Int} (hL:dn w l b es ck) (h:pQ base l es seen L) {i:Nat} {p:Int×ai} {e:MapEntry} (hp:l[i]? =some p) (he:es.toList[i]? =some e): pQ base l es (seen.push e.born) (vS L p.1):=by
 refine⟨OZ h.nd,fun n=> ?_⟩
 rw[Rt,h.mem]
 constructor
 ·rintro ((h1 | ⟨j,q,e',h1,h2,h3,h4⟩) | h1)
  ·exact .inl h1
  ·exact .inr ⟨j,q,e',h1,h2,(yS hL he h2).2 (.inl h3),h4⟩
  ·exact .inr ⟨i,p,e,hp,he,(yS hL he he).2 (.inr rfl),h1.symm⟩
 ·rintro (h1 | ⟨j,q,e',h1,h2,h3,h4⟩)
  ·exact .inl (.inl h1)
  ·rcases (yS hL he h2).1 h3 with h5 | h5
   ·exact .inl (.inr ⟨j,q,e',h1,h2,h5,h4⟩)
   ·subst h5;rw[hp] at h1;cases h1;exact .inr h4.symm
theorem pQ.done {w:World} {base:List Int} {l:List (Int×ai)} {b ck:Nat} {es:Array MapEntry} {seen:Array Nat} {L:List Int} (hL:dn w l b es ck) (h:pQ base l es seen L) (ha:∀ (i:Nat) (e:MapEntry),es.toList[i]? =some e->seen.contains e.born=true): ∀ n,n∈L↔n∈base\/n∈l.map (·.1):=fun n=>by
 rw[h.mem]
 constructor
 ·rintro (h1 | ⟨i,p,e,h1,h2,h3,h4⟩)
  ·exact .inl h1
  ·exact .inr (VN.2 ⟨p,VO h1,h4⟩)
 ·rintro (h1 | h1)
  ·exact .inl h1
  ·obtain⟨p,hp,rfl⟩:=VN.1 h1
   obtain⟨i,hi⟩:=Vi hp
   obtain⟨e,he⟩:=hL.get' hi
   exact .inr ⟨i,p,e,hi,he,ha i e he,rfl⟩
theorem RU {a b:List (Int×ai)} {L:List Int} (ha:(a.map (·.1)).Nodup) (hb:(b.map (·.1)).Nodup) (hL:L.Nodup) (hm:∀ n,n∈L↔n∈a.map (·.1)\/n∈b.map (·.1)):L.mergeSort (fun x y=>decide (x<=y))=dO a b:=by
 refine mergeSort_of_perm_i ((List.perm_ext_iff_of_nodup hL ?_).2 fun n=> ?_)
 ·rw[List.nodup_append]
  refine⟨ha,hb.filter _,fun x hx y hy e=> ?_⟩
  subst e
  have:=(VK.1 hy).2
  simp only[Uq,UO,WR] at this
  obtain⟨p,hp,h⟩:=VN.1 hx
  exact this p hp h
 ·rw[hm,VF,VK]
  constructor
  ·rintro (h | h)
   ·exact .inl h
   ·by_cases h2:n∈a.map (·.1)
    ·exact .inl h2
    ·refine .inr ⟨h, ?_⟩
     simp only[Uq,UO,WR]
     exact fun p hp e=>h2 (VN.2 ⟨p,hp,e⟩)
  ·rintro (h | h)
   ·exact .inl h
   ·exact .inr h.1
def oG (b:List (Int×ai)) (p:Int×ai):Bool:=match aR b p.1 with
 | some y=> !(y.2.1==p.2.2.1)|| !(y.2.2.2.1==p.2.2.2.2.1)
 | none=>false
theorem Jl (a b:List (Int×ai)):gf a b=a.any (oG b):=rfl
theorem Oz {a b:List (Int×ai)} {i:Nat} {p:Int×ai} (h:a[i]? =some p) (hc:oG b p=true):gf a b=true:=by
 rw[Jl];exact UP.2 ⟨p,VO h,hc⟩
theorem Oy {a b:List (Int×ai)} (h:∀ (i:Nat) (p:Int×ai),a[i]? =some p->oG b p=false):gf a b=false:=by
 rw[Jl,UO]
 intro p hp
 obtain⟨i,hi⟩:=Vi hp
 rw[h i p hi];simp
def G00:Gh:=⟨fun _=>none,fun _=>none⟩
def qT (L:List Int):List (Int×Bool):=L.map fun n=>(n,true)
theorem Jg (L:List Int):(qT L).length=L.length:=Vt _
theorem Jf (L:List Int):(qT L).map (·.1)=L:=by unfold qT;rw[VE];exact List.map_id _
def kz (w:World) (L:List Int) (b:Nat):Prop:=lS G00 w tI .bool (qT L) b
theorem JJ:∀ (L:List Int) (n:Int),jB (k:=tI) (v:= .bool) (qT L) n true=qT (vS L n)
 | [],n=>rfl
 | x::L,n=>by
  have ih:=JJ L n
  show (bif (n==x) then (n,true)::qT L else (x,true)::jB (k:=tI) (v:= .bool) (qT L) n true)=qT (vS (x::L) n)
  by_cases h:n=x
  ·subst h
   rw[show (n==n)=true from WS n,WV]
   simp[vS,qT]
  ·rw[show (n==x)=false from WQ.2 h,WU]
   refine (congrArg (List.cons (x,true)) ih).trans ?_
   unfold vS
   by_cases h2:n∈L
   ·rw[Xe h2,Xe (VI _ h2)];rfl
   ·rw[Xd h2,Xd (by simp[h,h2])];simp[qT]
theorem MD {w:World} {L:List Int} {b:Nat} (h:kz w L b) (n:Int): ∃ W,Sem.run Tryz.prog (Instr.mapUpdate 39 (.map (some b)) (.int .i64 n) (.bool true)) w= .ok () W/\kz W (vS L n) b/\(∀ k,k≠b->W.heap[k]? =w.heap[k]?)/\W.heap.size=w.heap.size/\W.os=w.os/\W.output=w.output:=by
 obtain⟨es,clock,h1,h2,h3,h4⟩:=h
 obtain⟨es',clock',hrun,g1,g2,g3⟩:=B3 (P:=Tryz.prog) (w:=w) (kk:=tI) (vv:= .bool) (key:=n) (y:=true) (kv:= .int .i64 n) (xv:= .bool true) Tryz.underlying39 (by kernel_rfl) (rfl:bI _ tI n (.int .i64 n)) (rfl:bI _ .bool true (.bool true)) h1 h2 h3 h4
 rw[JJ] at g1
 have hlt:=aW h1
 refine⟨_,hrun,⟨es',clock',by simp[Array.getElem?_setIfInBounds,hlt],g1,g2,g3⟩,fun k hk=>T7 (Ne.symm hk),by simp,rfl,rfl⟩
theorem kz.keep {w w':World} {L:List Int} {b:Nat} (h:kz w L b) (k:w'.heap[b]? =w.heap[b]?):kz w' L b:=by
 obtain⟨es,clock,h1,h⟩:=h
 exact⟨es,clock,k.trans h1,h⟩
theorem kz.lt {w:World} {L:List Int} {b:Nat} (h:kz w L b):b<w.heap.size:=by
 obtain⟨es,clock,h1,_⟩:=h
 exact aW h1
theorem Rx (w:World):kz (w.alloc (.map #[] 0)) [] w.heap.size:=⟨#[],0,heap_alloc_new w _,rfl,fun i e h=>by simp at h,List.Pairwise.nil⟩
theorem Dj {w:World} {l:List (Int×ai)} {b ck:Nat} {es:Array MapEntry} (h:dn w l b es ck) (n:Int): Sem.run Tryz.prog (Instr.lookup 37 (.map (some b)) (.int .i64 n) true) w= .ok (.tuple #[.agg (fk ((aR l n).getD dN)).toArray,.bool (aR l n).isSome]) w:=by
 have hz:uM Tryz.prog 43 aT=some dN:=by kernel_rfl
 have ht:=Tryz.underlying37
 have hchk:ep Tryz.prog 3 tI=true:=by kernel_rfl
 have hk:bI G00 tI n (.int .i64 n):=rfl
 obtain⟨iz,zv,hiz,hzi,hzr,hzv⟩:=wZ hz
 have h5:=N7 (G:=G00) l es.toList h.ent
 obtain⟨fr,hf1,hf2⟩:=wM (w:=w) hchk hk h5
 have hg:=hf2.get
 have hobj:(getObj b).run Tryz.prog w= .ok (.map es ck) w:=ja h.heap
 cases fr with
 | none=>
  simp only at hg
  obtain⟨vs,hv,hvs⟩:=hzv G00
  have hvs2:vs=fk dN:=Bl (G:=G00) (x:=dN) hvs
  subst hvs2
  have hg':aR l n=none:=hg
  rw[hg']
  show _=Result.ok (Value.tuple #[.agg (fk dN).toArray,.bool false]) w
  rw[<- hv]
  simp only[Instr.lookup,Sem.run_bind,run_underlying ht,Result.andThen_ok,hobj,Sem.run_pure,jk hchk hk,hf1,hzr w]
  rfl
 | some p=>
  obtain⟨i,u⟩:=p
  simp only at hg
  obtain⟨q,e,g1,g2,g3,g4⟩:=hg
  obtain⟨e',ge,gr⟩:=h5.get g1
  rw[g2] at ge
  cases ge
  obtain⟨vs,hv,hvs⟩:=gr.2
  have hvs2:vs=fk q.2:=Bl (G:=G00) (x:=q.2) hvs
  subst hvs2
  have g4':aR l n=some q.2:=g4
  rw[g4']
  show _=Result.ok (Value.tuple #[.agg (fk q.2).toArray,.bool true]) w
  rw[<- hv, <- g3]
  simp only[Instr.lookup,Sem.run_bind,run_underlying ht,Result.andThen_ok,hobj,Sem.run_pure,jk hchk hk,hf1]
  rfl
theorem ON (b:Nat) (w:World):∃ bt,Calls Tryz.prog 13 #[.map (some b)] w fun e w'=>e= .returned (.func (.func 27) #[] #[.pointer (some ⟨w.heap.size,0,none⟩)])/\w'=w.alloc (.cells #[.map (some b)] bt):=by
 obtain⟨bt,h⟩:=Tc
 exact⟨bt,h (some b) w⟩
theorem Mx {w:World} {L:List Int} {b Bm:Nat} {bt:TypeId} (h:kz w L b) (hB:w.heap[Bm]? =some (.cells #[.map (some b)] bt (0,0))) (hnd:L.Nodup) (hlen:L.length<=2000000) (hr:∀ n∈L, -9223372036854775808<=n/\n<=9223372036854775807): Calls Tryz.prog 12 #[.func (.func 27) #[] #[.pointer (some ⟨Bm,0,none⟩)]] w fun e w'=>∃ v,e= .returned v/\w'.ownsRow w.heap.size 3 1 v L.length ((L.mergeSort fun x y=>decide (x<=y)).map encZ)/\Kept w w':=by
 obtain⟨es,clock,h1,h2,h3,h4⟩:=h
 have hml:(2000000:Nat)<=maxLen:=by decide
 obtain⟨D0,hD,hperm,hsize⟩:=EY (P:=Tryz.prog) (kt:=3) (e:= .bool) (l:=qT L) Tryz.underlying3 h1 h2 (fun x hx=>by
  obtain⟨i,hi⟩:=Vi hx
  exact h3 i x hi) h4 (Wk (Nat.le_of_eq (Jg L)) (by omega)) (fun p hp=>by
  obtain⟨n,hn,rfl⟩:=VN.1 hp
  have:=hr n hn
  show (decide ((-9223372036854775808:Int)<=n)&&decide (n<=(9223372036854775807:Int)))=true
  rw[WX this.1,WX this.2];rfl) (by have:=Jf L;exact this.symm ▸ hnd)
 have hperm:L.Perm (intKeys D0):=(Jf L) ▸ hperm
 have hsize:Maps.size D0=L.length:=hsize.trans (Jg L)
 have hcall:=Sv.2 Bm b _ D0 w (aW hB) (by simp[World.cell?,hB]) hD (by rw[hsize];omega) (by rw[hsize];omega)
 refine hcall.mono ?_
 rintro e' w' ⟨v,ss,rfl,hss,hrowS,hb⟩
 have hsort:ss.mergeSort (fun x y=>decide (x<=y))=L.mergeSort (fun x y=>decide (x<=y)):=mergeSort_of_perm_i (hss.trans hperm.symm)
 have hslen:ss.length=L.length:=(hss.trans hperm.symm).length_eq
 rw[hsort,hslen] at hrowS
 exact⟨v,rfl,hrowS,hb.size,hb.os,hb.output,hb.block⟩
theorem F6 {w:World} {B:Nat} {e:TypeId} {sz:Nat} {v:Value} {n:Nat} {xs:List Value} (h:w.ownsRow B e sz v n xs): ∃ a cap,v= .slice a n cap/\n<=maxLen/\(n=0\/∃ g cur,a=some ⟨g,0,none⟩/\B<=g/\w.heap[g]? =some (.cells cur e (0,0))/\cur.toList.take (n*sz)=xs):=by
 rcases h.2 with ⟨rfl,rfl⟩ | ⟨g,cap,cur,rfl,h1,h2,h3,h4,h5,h6⟩
 ·exact⟨none,0,rfl,WD _,.inl rfl⟩
 ·exact⟨_,_,rfl,Wk h3 h4,.inr ⟨g,cur,rfl,h1,h2,h6⟩⟩
theorem Mt {w:World} {g:Nat} {cur:Array Value} {e:TypeId} {fz:Nat×Nat} {m:Nat} {xs:List Value} (h:w.heap[g]? =some (.cells cur e fz)) (hx:cur.toList.take m=xs) {j:Nat} {v:Value} (hj:xs[j]? =some v):w.cell? ⟨g,j,none⟩=some v:=by
 simp only[World.cell?,h]
 rw[<- hx,Vn] at hj
 split at hj
 ·simpa using hj
 ·cases hj
theorem SZ (W:World) (v:List Value) (h:v.length=13): Sem.run Tryz.prog (Instr.buildSlice 25 1 #[(0,.agg v.toArray)]) W= .ok (.slice (some ⟨W.heap.size,0,none⟩) 1 1) (W.alloc (.cells v.toArray 52)):=by
 match v,h with
 | [a1,a2,a3,a4,a5,a6,a7,a8,a9,a10,a11,a12,a13],_=>
  exact run_buildSlice W 25 52 1 _ _ Tryz.t52 (.agg #[.int .i64 0,.int .i64 0,.int .i64 0,.int .i64 0,.int .i64 0,.string ⟨#[]⟩,.int .i64 0,.int .i64 0,.string ⟨#[]⟩,.int .i64 0,.int .i64 0,.int .i64 0,.int .i64 0]) Tryz.underlying25 (by kernel_rfl) (by kernel_rfl) (by decide) (by decide) (by kernel_rfl)
theorem oS:∀ (l acc:List aa),(fe acc l).length=acc.length+l.length
 | [],acc=>rfl
 | d::r,acc=>by rw[fe,oS r,Vr,Vz,Vs];omega
theorem AV {a b:List (Int×ai)} {day:Int}:∀ (K:List Int) (acc q:List aa),gH a b day K acc=some q->acc.length<=q.length
 | [],acc,q,h=>by rw[gH] at h;cases h;exact Wj _
 | n::r,acc,q,h=>by
  rw[gH] at h
  cases hc:gC ((aR a n).getD dN) ((aR b n).getD dN) (aR a n).isSome (aR b n).isSome (si day n) with
  | none=>rw[hc] at h;cases h
  | some l=>
   rw[hc,WG] at h
   have:=AV r _ q h
   rw[oS] at this
   omega
theorem MP {a b:List (Int×ai)} {day n:Int} {r:List Int} {acc q:List aa} (h:gH a b day (n::r) acc=some q): ∃ l,gC ((aR a n).getD dN) ((aR b n).getD dN) (aR a n).isSome (aR b n).isSome (si day n)=some (l,())/\gH a b day r (fe acc l)=some q:=by
 rw[gH] at h
 cases hc:gC ((aR a n).getD dN) ((aR b n).getD dN) (aR a n).isSome (aR b n).isSome (si day n) with
 | none=>rw[hc] at h;cases h
 | some l=>obtain⟨l,⟨⟩⟩:=l;rw[hc,WG] at h;exact⟨l,rfl,h⟩
theorem OJ {G:Gh} {w:World} {B:Nat} {v:Value} {l:List aa} (hG:Agr G w) (hlow:∀ b o,G b=some o->b<B) (h:w.ownsRow B 52 13 v l.length (l.flatMap dP)): ∃ G':Gh,G.le G'/\G'.hnd=G.hnd/\Agr G' w/\(∀ b,b<B->G' b=G b)/\cG G' ax.size (av G' ax) l v:=by
 rcases h.2 with ⟨rfl,h0⟩ | ⟨g,cap,cur,rfl,h1,h2,h3,h4,h5,h6⟩
 ·obtain rfl:l=[]:=List.length_eq_zero_iff.1 h0
  exact⟨G,Gh.le_refl G,rfl,hG,fun _ _=>rfl,none,0,rfl,Wj _,WD _,.inl rfl⟩
 ·refine⟨⟨fun b=>if b=g then some (.cells cur 52 (0,0)) else G b,G.hnd⟩,⟨fun b o hb=> ?_,fun _ _ h=>h⟩,rfl,fun b o hb=> ?_,fun b hb=>Xd (by omega),some ⟨g,0,none⟩,cap,rfl,h3,h4,.inr ⟨g,0,cur,52,(0,0),rfl,Xe rfl, ?_, ?_⟩⟩
  ·have:b≠g:=by have:=hlow b o hb;omega
   show (if b=g then _ else G b)=_
   rw[Xd this];exact hb
  ·have hb':(if b=g then some (Obj.cells cur 52 (0,0)) else G b)=some o:=hb
   split at hb'
   ·rename_i e;subst e;exact h2.trans hb'
   ·exact hG b o hb'
  ·show 0+l.length*13<=cur.size
   have:=Wu 13 h3
   omega
  ·show bM _ l ((cur.toList.drop 0).take (l.length*13))
   rw[U0,h6]
   exact Jo _ l
theorem flat_get:∀ (l:List aa) (j:Nat) (d:aa),l[j]? =some d->∀ (t:Nat) (v:Value),(dP d)[t]? =some v->(l.flatMap dP)[j*13+t]? =some v
 | [],j,d,h,_,_,_=>by simp at h
 | x::r,0,d,h,t,v,hv=>by
  simp only[Vc,Option.some.injEq] at h
  subst h
  have ht:t<(dP x).length:=(Vg.1 hv).1
  rw[U6,Nat.zero_mul,Wz,U9 ht]
  exact hv
 | x::r,j+1,d,h,t,v,hv=>by
  rw[Vb] at h
  have:=flat_get r j d h t v hv
  have hx:(dP x).length=13:=rfl
  rw[U6,Va (by rw[hx];omega),hx,show (j+1)*13+t - 13=j*13+t by omega]
  exact this
theorem xW {w w':World} {B:Nat} {e:TypeId} {sz:Nat} {v:Value} {n:Nat} {xs:List Value} (h:w.ownsRow B e sz v n xs) (k:Kept w w'):w'.ownsRow B e sz v n xs:=by
 refine⟨h.1, ?_⟩
 rcases h.2 with hn | ⟨g,cap,cur,hv,hb,hg,rest⟩
 ·exact .inl hn
 ·exact .inr ⟨g,cap,cur,hv,hb,(k.block g (aW hg)).trans hg,rest⟩
theorem KT {w:World} {b o:Nat} {cs:List Value} {T:TypeId} {fz:Nat×Nat} (h:w.heap[b]? =some (.cells cs.toArray T fz)) (v:Value):(w.setCell ⟨b,o,none⟩ v).heap[b]? =some (.cells (cs.set o v).toArray T fz):=by
 simp only[World.setCell,T4,Xf,h,WM]
 simp
theorem PY {W:World} {WC:World} {b k:Nat} {d:aa} {n:Int} (hk:k=13) (hb:WC.heap[b]? =some (.cells (dP d).toArray 52 (0,0))) (hW:W.heap.size<=b) (hkept:Kept W WC): Sem.run Tryz.prog (loadCellsFrom ⟨b,0,none⟩ 0 k #[]) (WC.setCell ⟨b,2,none⟩ (.int .i64 n))= .ok (dP (d.1,d.2.1,n,d.2.2.2)).toArray (WC.setCell ⟨b,2,none⟩ (.int .i64 n))/\ ∃ gN WE,Sem.run Tryz.prog (Instr.buildSlice 25 1 #[(0,.agg (dP (d.1,d.2.1,n,d.2.2.2)).toArray)]) (WC.setCell ⟨b,2,none⟩ (.int .i64 n))= .ok (.slice (some ⟨gN,0,none⟩) 1 1) WE/\WE.heap[gN]? =some (.cells (dP (d.1,d.2.1,n,d.2.2.2)).toArray 52 (0,0))/\Kept W WE:=by
 have h1:=KT (o:=2) hb (.int .i64 n)
 have h2:(dP d).set 2 (.int .i64 n)=dP (d.1,d.2.1,n,d.2.2.2):=rfl
 rw[h2] at h1
 refine⟨jb (by rw[hk];rfl) h1,_,_,SZ _ _ rfl,heap_alloc_new _ _,mQ (Rl hkept b 2 _ hW) _⟩
theorem Q2 {ops:Array Oper} {rest:List Oper} {o:Oper} {a:Act} {Q:Exit->Act->World->Prop} {w W:World} {v s:Value} (hrun:Sem.run Tryz.prog (Instr.buildSlice 25 1 #[(0,v)]) w= .ok s W) (x:Operand) (hg:o.guard=none) (ho:o.op= .buildSlice 25 1 #[(0,x)]) (hx:a.eval x=v) (h:wpList Tryz.prog ops Q rest (a.put o.dst s) W):wpList Tryz.prog ops Q (o::rest) a w:=by
 refine wpList_plain hg fun K hK=> ?_
 unfold Oper.wp execOp
 simp only[ho,Sem.run_bind,Sem.run_pure,Result.andThen_ok,List.map_toArray,VD,List.map_nil,hx,hrun]
 exact hK _ _ h
end Go.Proofs.SeatA
