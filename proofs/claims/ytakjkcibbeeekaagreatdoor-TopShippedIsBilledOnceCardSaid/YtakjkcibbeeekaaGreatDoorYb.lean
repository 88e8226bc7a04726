/-
  An executor of Go code on plain data, proved sound against the model, a part. No condition.
-/
import Derived.Test.YtakjkcibbeeekaaGreatDoorYa
import Derived.Maps.Own
import Derived.Maps.Range
import Derived.Lib.SlKeysI
import Derived.Laws.OwnMore
set_option linter.all false
namespace Go.Dn
variable {β:Type}
theorem D8 {G:Gh} {ρ:Env} {a:Bool} {cs:List CV} {v:Value} (h:oz G ρ a cs v) (hok:cs.all CV.ok=true): ∃ vs:List Value,v.cells=vs.toArray/\aR (br G ρ) cs vs/\∀ u,u∈vs->u.oneCell'=true:=by
 have one:∀ {cs:List CV} {vs:List Value},aR (br G ρ) cs vs->cs.all CV.ok=true->∀ u,u∈vs->u.oneCell'=true:=by
  intro cs
  induction cs with
  | nil=>intro vs h _ u hu;cases h;cases hu
  | cons c cs ih=>
   intro vs ⟨y,s,e,hy,hs⟩ hok u hu
   simp only[ahG,ag1] at hok
   subst e
   rcases aiz.1 hu with rfl | hu
   ·exact (JY hy hok.1).1
   grind
 cases a with
 | true=>
  obtain⟨vs,e,hl⟩:=h
  exact⟨vs,by rw[e];rfl,hl,one hl hok⟩
 | false=>
  match cs,h,hok with
  | [c],h,hok=>
   simp only[ahG,ahI,ag3] at hok
   exact⟨[v],(JY h hok).2,⟨v,[],rfl,h,rfl⟩,fun u hu=>by
    rcases aiJ.1 hu with rfl
    exact (JY h hok).1⟩
theorem Gz {l new l':List CV} {off:Nat} (h:setAt l off new=some l'):off+new.length<=l.length/\l'=l.take off++new++l.drop (off+new.length):=by
 unfold setAt at h
 simp_all
theorem aR.splice {α γ:Type} {R:α->γ->Prop} {l new:List α} {vs us:List γ} {off:Nat} (h:aR R l vs) (hn:aR R new us): aR R (l.take off++new++l.drop (off+new.length)) (vs.take off++us++vs.drop (off+us.length)):=by
 rw[hn.len]
 exact ((h.take off).append hn).append (h.drop _)
theorem Zf (off:Nat) (us:List Value) (cs:List Value) (h:off+us.length<=cs.length): us.toArray.zipIdx.foldl (fun cs (x:Value×Nat)=>cs.setIfInBounds (off+x.2) x.1) cs.toArray=(cs.take off++us++cs.drop (off+us.length)).toArray:=by
 obtain⟨h1,h2⟩:=Great.foldl_set off us 0 cs.toArray
 have e:us.toArray.zipIdx.foldl (fun cs (x:Value×Nat)=>cs.setIfInBounds (off+x.2) x.1) cs.toArray=(us.zipIdx 0).foldl (fun cs (x:Value×Nat)=>cs.setIfInBounds (off+x.2) x.1) cs.toArray:=by
  simp
 rw[e]
 apply Array.ext_getElem?
 grind
theorem Ru {G:Gh} {ρ:Env} {place:Nat->Option (Nat×Nat)}:∀ {parts:List (Nat×SV)} {pv:List (Nat×Value)} {cells cs:List CV} {vs:List Value}, LB place cells parts=some cs->aR (br G ρ) cells vs->aR (fun (p:Nat×SV) (q:Nat×Value)=>p.1=q.1/\bK G ρ p.2 q.2) parts pv-> ∃ us:List Value,Instr.fill place vs.toArray pv=some us.toArray/\aR (br G ρ) cs us
 | [],pv,cells,cs,vs,h,hv,hp=>by
  cases hp
  simp only[LB] at h
  cases h
  exact⟨vs,rfl,hv⟩
 | (i,.tup l)::rest,pv,cells,cs,vs,h,hv,hp=>by simp[LB] at h
 | (i,.v a c)::rest,pv,cells,cs,vs,h,hv,⟨y,s,e,hy,hs⟩=>by
  subst e
  simp only[LB] at h
  split at h
  ·cases h
  ·rename_i off size hpl
   split at h
   ·rename_i hc
    simp only[ag1] at hc
    have hsz:=ai8 hc.1
    split at h
    ·rename_i c' hset
     obtain⟨hle,hc'⟩:=Gz hset
     obtain⟨us,eu,hus,_⟩:=D8 hy.2 hc.2
     have hlu:=hus.len
     have hlv:=hv.len
     have hnew:aR (br G ρ) c' (vs.take off++us++vs.drop (off+us.length)):=by rw[hc'];exact hv.splice hus
     obtain⟨zs,hz,hz'⟩:=Ru (parts:=rest) (pv:=s) (cells:=c') h hnew hs
     refine⟨zs, ?_,hz'⟩
     obtain⟨y1,y2⟩:=y
     have:i=y1:=hy.1
     subst this
     unfold Instr.fill
     dsimp only at hpl eu ⊢
     rw[hpl]
     dsimp only
     rw[eu]
     rw[ajY (by grind)]
     rw[Zf off us vs (by omega)]
     exact hz
    ·cases h
   ·cases h
theorem vH {P:Program} {t:TypeId} {z:List CV} (h:zeroCells P t=some z):∃ i v,P.info? t=some i/\i.zero=some v/\∀ G ρ,aR (br G ρ) z v.cells.toList:=by
 unfold zeroCells at h
 cases hi:P.info? t with
 | none=>grind
 | some i=>
  rw[hi] at h
  simp only[ajA] at h
  cases hz:i.zero with
  | none=>grind
  | some v=>
   rw[hz] at h
   refine⟨i,v,rfl,hz,fun G ρ=> ?_⟩
   cases v with
   | agg cs=>cases h;exact FC NG (Ph G ρ) cs.toList
   | _=>cases h;exact⟨_,[],rfl,Ph G ρ _,rfl⟩
theorem Wb {P:Program}:∀ (fs:List Field),(fs.all fun f=>okT P f.type)=true->fs.mapM (fun f=>(P.info? f.type).map fun i=>(f.offset,i.size))=some (fs.map fun f=>(f.offset,cB P f.type))
 | [],_=>rfl
 | f::fs,h=>by
  simp only[ahG,ag1] at h
  obtain⟨d,i,hd,hi⟩:=mC h.1
  simp[List.mapM_cons,hi,Wb fs h.2,cB]
section
variable {X:Cx} {o:Oper} {S M:St} {k:SV->Option β} {r:β}
theorem afj {t:TypeId} {parts:Array (Nat×Operand)} (ho:o.op= .build t parts) (h:dY X o S M k=some r):∃ s,k s=some r/\kG X.P o S M s:=by
 unfold dY at h
 rw[ho] at h
 simp only at h
 split at h
 ·rename_i fs z ht hz
  split at h
  ·cases h
  ·rename_i hok
   have hok':(fs.toList.all fun f=>okT X.P f.type)=true:=by grind
   split at h
   ·rename_i cs hf
    refine⟨_,h,fun C G ρ w a hM hop=> ?_⟩
    obtain⟨i,v,hi,hv,hzc⟩:=vH hz
    have hpl:∀ n,(fs.toList.map fun f=>(f.offset,cB X.P f.type)).toArray[n]? =Jt X.P fs n:=by
     intro n
     simp only[Jt]
     grind
    have hpv:aR (fun (p:Nat×SV) (q:Nat×Value)=>p.1=q.1/\bK G ρ p.2 q.2) (parts.toList.map fun p=>(p.1,S.ev p.2)) (parts.toList.map fun p=>(p.1,a.eval p.2)):=by
     have hmem:∀ p,p∈parts.toList->bK G ρ (S.ev p.2) (a.eval p.2):=fun p hp=>hop p.2 (by
      rw[ho]
      simp only[Op.operands,List.mem_toArray,aiE]
      grind)
     generalize parts.toList=l at hmem ⊢
     induction l with
     | nil=>rfl
     | cons p l ih=>exact⟨_,_,rfl,⟨rfl,hmem p (by simp)⟩,ih (fun q hq=>hmem q (by simp[hq]))⟩
    obtain⟨us,hus,hcs⟩:=Ru hf (hzc G ρ) hpv
    refine⟨.agg us.toArray, ?_,us,rfl,hcs⟩
    have hb:=run_build (P:=X.P) w t (parts.map fun (i,x)=>(i,a.eval x)) us.toArray (by
     unfold Program.built
     simp only[hi,ht,hv,Wb fs.toList hok']
     simp_all)
    simp only[execOp,ho,Sem.run_bind,hb,Result.andThen_ok,Sem.run_pure]
   ·cases h
 ·rename_i n e z ht hz
  split at h
  ·cases h
  ·rename_i hok
   have hok':okT X.P e=true:=by grind
   obtain⟨d,j,hd,hj⟩:=mC hok'
   split at h
   ·rename_i cs hf
    refine⟨_,h,fun C G ρ w a hM hop=> ?_⟩
    obtain⟨i,v,hi,hv,hzc⟩:=vH hz
    have hpv:aR (fun (p:Nat×SV) (q:Nat×Value)=>p.1=q.1/\bK G ρ p.2 q.2) (parts.toList.map fun p=>(p.1,S.ev p.2)) (parts.toList.map fun p=>(p.1,a.eval p.2)):=by
     have hmem:∀ p,p∈parts.toList->bK G ρ (S.ev p.2) (a.eval p.2):=fun p hp=>hop p.2 (by
      rw[ho]
      simp only[Op.operands,List.mem_toArray,aiE]
      grind)
     generalize parts.toList=l at hmem ⊢
     induction l with
     | nil=>rfl
     | cons p l ih=>exact⟨_,_,rfl,⟨rfl,hmem p (by simp)⟩,ih (fun q hq=>hmem q (by simp[hq]))⟩
    obtain⟨us,hus,hcs⟩:=Ru hf (hzc G ρ) hpv
    refine⟨.agg us.toArray, ?_,us,rfl,hcs⟩
    have hb:=run_build (P:=X.P) w t (parts.map fun (i,x)=>(i,a.eval x)) us.toArray (by
     unfold Program.built
     simp only[hi,ht,hv,hj]
     rw[<- hus]
     have hs:cB X.P e=j.size:=by simp[cB,hj]
     simp_all)
    simp only[execOp,ho,Sem.run_bind,hb,Result.andThen_ok,Sem.run_pure]
   ·cases h
 ·cases h
theorem afk {t:TypeId} {x:Operand} {f:Nat} (ho:o.op= .field t x f) (h:dY X o S M k=some r):∃ s,k s=some r/\kG X.P o S M s:=by
 unfold dY at h
 rw[ho] at h
 simp only at h
 split at h
 ·rename_i fs cs ht hx
  split at h
  ·rename_i fd hf
   unfold qQ at h
   split at h
   ·rename_i hok
    obtain⟨d,i,hd,hi⟩:=mC hok
    split at h
    ·rename_i cs' hc
     obtain⟨e,hlen⟩:=GU hc
     split at h
     ·rename_i ha
      refine⟨_,h,fun C G ρ w a hM hop=> ?_⟩
      have hv:=hop x (by simp[ho,Op.operands])
      rw[hx] at hv
      obtain⟨vs,ev,hl⟩:=hv
      refine⟨.agg ((vs.drop fd.offset).take (cB X.P fd.type)).toArray, ?_,_,rfl,by rw[e];exact (hl.drop _).take _⟩
      simp only[execOp,ho,ev,Instr.field,Sem.run_bind,run_underlying ht,Result.andThen_ok,hf,asAgg,Sem.run_pure,part,vK hd,ha,aj0,run_sizeOf hi]
      simp
     ·rename_i ha
      split at h
      ·rename_i c
       refine⟨_,h,fun C G ρ w a hM hop=> ?_⟩
       have hv:=hop x (by simp[ho,Op.operands])
       rw[hx] at hv
       obtain⟨vs,ev,hl⟩:=hv
       have hsub:=(hl.drop fd.offset).take (cB X.P fd.type)
       rw[<- e] at hsub
       obtain⟨y,ey,hy⟩:=hsub.single
       have hy0:vs[fd.offset]? =some y:=by
        have:((vs.drop fd.offset).take (cB X.P fd.type))[0]? =some y:=by grind
        grind
       refine⟨y, ?_,hy⟩
       simp[execOp,ho,ev,Instr.field,run_underlying ht,hf,asAgg,part,vK hd,ha,hy0]
      ·cases h
    ·cases h
   ·cases h
  ·cases h
 ·cases h
theorem II {P:Program} {w:World} {ik:IntKind} {i:Int} {y:Nat} {c:BoundsCode} (h0:0<=i) (h1:i<=y):(Instr.sliceBound (.int ik i) y c).run P w= .ok i.toNat w:=by
 simp[Instr.sliceBound,asIntOf,h0,h1]
theorem Mf {P:Program} {w:World} {isSl:Bool} {len cap:Nat} {lo hi:Option Value} {a b:Int} (hlo:(lo=none/\a=0)\/∃ ik,lo=some (.int ik a)) (hhi:(hi=none/\b=len)\/∃ ik,hi=some (.int ik b)) (h0:0<=a) (h1:a<=b) (h2:b<=cap):(Instr.sliceBounds isSl len cap lo hi none).run P w= .ok (a.toNat,b.toNat,cap) w:=by
 rcases hlo with ⟨rfl,rfl⟩ | ⟨ik,rfl⟩<;>rcases hhi with ⟨rfl,rfl⟩ | ⟨ik',rfl⟩
 ·rfl
 ·cases isSl<;>simp[Instr.sliceBounds,II (show 0<=b by omega) h2]
 ·have:a<=((len:Int).toNat:Nat):=by omega
  cases isSl<;>simp[Instr.sliceBounds,II h0 h1]
 ·have:a<=(b.toNat:Int):=by omega
  cases isSl<;>simp[Instr.sliceBounds,II (show 0<=b by omega) h2,II h0 this]
theorem iH.cut {G:Gh} {t:Ty} {l:List t.den} {v:Value} (h:iH G t.size (aN G t) l v) {a b:Nat} (hab:a<=b) (hb:b<=l.length): ∃ p cap,v= .slice p l.length cap/\l.length<=cap/\iH G t.size (aN G t) ((l.take b).drop a) (.slice (if cap=a then p else p.map (·.add (a*t.size))) (b - a) (cap - a)):=by
 obtain⟨p,cap,hv,h1,h2,h3⟩:=h
 refine⟨p,cap,hv,h1, ?_⟩
 have hlen:((l.take b).drop a).length=b - a:=by grind
 refine⟨_,_,by rw[hlen],by omega,by omega, ?_⟩
 by_cases he:b=a
 ·grind
 ·right
  rcases h3 with rfl | ⟨bl,off,c,T,fz,rfl,hbl,hs,hl⟩
  ·grind
  ·have hne:¬ cap=a:=by omega
   refine⟨bl,off+a*t.size,c,T,fz, ?_,hbl, ?_, ?_⟩
   ·rw[ajY hne]
    simp only[ajG,Option.some.injEq]
    unfold Addr.add;simp
   ·rw[hlen]
    have e1:a*t.size+(b - a)*t.size=b*t.size:=by rw[<- ai4];grind
    have e2:b*t.size<=l.length*t.size:=ajr _ hb
    omega
   ·have hd:=(hl.take (fun x cs hr=>aN.len hr) b).drop (fun x cs hr=>aN.len hr) a
    rw[hlen]
    rw[ai2,List.drop_take (i:=a*t.size),ahQ] at hd
    have e1:min (b*t.size) (l.length*t.size) - a*t.size=(b - a)*t.size:=by
     have e2:b*t.size<=l.length*t.size:=ajr _ hb
     rw[ajn e2,Nat.sub_mul]
    grind
theorem JW {G:Gh} {ρ:Env} {a:Act} {S:St} {x:Option Operand} {d p:Int} (h:bnd d (x.map S.ev)=some p) (hx:∀ y,x=some y->bK G ρ (S.ev y) (a.eval y)): (x.map a.eval=none/\p=d)\/∃ ik,x.map a.eval=some (.int ik p):=by
 cases x with
 | none=>simp only[bnd,Option.map_none] at h;grind
 | some y=>
  right
  have hy:=hx y rfl
  unfold bnd at h
  split at h
  ·grind
  ·rename_i ik n e
   simp only[ajG,Option.some.injEq] at e
   rw[e] at hy
   cases h
   exact⟨ik,by rw[ajG,show a.eval y= .int ik p from hy]⟩
  ·cases h
theorem aaH (s:List UInt8) (a b:Nat):(bs s).extract a b=bs ((s.take b).drop a):=by
 apply ByteArray.ext
 apply Array.ext'
 rw[ByteArray.data_extract]
 simp[bs]
 rw[List.drop_take]
theorem afm {t:TypeId} {x:Operand} {lo hi:Option Operand} (ho:o.op= .slice t x lo hi none) (h:dY X o S M k=some r):∃ s,k s=some r/\kG X.P o S M s:=by
 unfold dY at h
 rw[ho] at h
 simp only at h
 have opx:x∈o.op.operands:=by simp[ho,Op.operands]
 have opl:∀ y,lo=some y->y∈o.op.operands:=fun y hy=>by simp[ho,Op.operands,hy]
 have oph:∀ y,hi=some y->y∈o.op.operands:=fun y hy=>by simp[ho,Op.operands,hy]
 split at h
 ·rename_i s ht hx
  split at h
  ·rename_i a b ha hb
   obtain⟨hc,h⟩:=lg h
   simp only[ag1,ajS] at hc
   refine⟨_,h,fun C G ρ w act hM hop=> ?_⟩
   have hv:=one_cell (hop x opx) hx
   have hb':=Mf (P:=X.P) (w:=w) (isSl:=false) (len:=s.length) (cap:=s.length) (JW ha fun y hy=>hop y (opl y hy)) (JW hb fun y hy=>hop y (oph y hy)) hc.1.1 hc.1.2 hc.2
   refine⟨.string ((bs s).extract a.toNat b.toNat), ?_, ?_⟩
   ·simp[execOp,ho,show act.eval x= .string (bs s) from hv,Instr.sliceAt,run_underlying ht,Instr.slice,JX,hb']
   ·show Value.string _=_
    rw[aaH]
  ·cases h
 ·rename_i e ty l ht hx
  split at h
  ·rename_i hok
   simp only[ag1] at hok
   have hsz:=ai8 hok.2
   obtain⟨d,i,hd,hi'⟩:=mC hok.1
   split at h
   ·rename_i a b ha hb
    obtain⟨hc,h⟩:=lg h
    simp only[ag1,ajS] at hc
    refine⟨_,h,fun C G ρ w act hM hop=> ?_⟩
    have hv:=one_cell (hop x opx) hx
    obtain⟨p,cap,ev,hcap,hrep⟩:=iH.cut (a:=a.toNat) (b:=b.toNat) hv (by omega) (by omega)
    have hb':=Mf (P:=X.P) (w:=w) (isSl:=true) (len:=l.length) (cap:=cap) (JW ha fun y hy=>hop y (opl y hy)) (JW hb fun y hy=>hop y (oph y hy)) hc.1.1 hc.1.2 (by omega)
    refine⟨_, ?_,hrep⟩
    simp only[execOp,ho,ev,Instr.sliceAt,Sem.run_bind,run_underlying ht,Result.andThen_ok,Instr.slice,Option.map_none,hb',run_sizeOf hi',hsz,Sem.run_pure]
   ·cases h
  ·cases h
 ·rename_i e j ht hx
  split at h
  ·rename_i q hq
   split at h
   ·rename_i hok
    simp only[ag1] at hok
    have hsz:=ai8 hok.2
    obtain⟨d,i,hd,hi'⟩:=mC hok.1.2
    split at h
    ·rename_i a b ha hb
     obtain⟨hc,h⟩:=lg h
     simp only[ag1,ajS] at hc
     refine⟨_,h,fun C G ρ w act hM hop=> ?_⟩
     have hv0:=one_cell (hop x opx) hx
     have hv:=hM.frozen j q hq hok.1.1
     rw[<- hv0.1] at hv
     obtain⟨p,cap,ev,hcap,hrep⟩:=iH.cut (a:=a.toNat) (b:=b.toNat) hv (by omega) (by omega)
     have hb':=Mf (P:=X.P) (w:=w) (isSl:=true) (len:=q.l.length) (cap:=cap) (JW ha fun y hy=>hop y (opl y hy)) (JW hb fun y hy=>hop y (oph y hy)) hc.1.1 hc.1.2 (by omega)
     refine⟨_, ?_,hrep⟩
     simp only[execOp,ho,ev,Instr.sliceAt,Sem.run_bind,run_underlying ht,Result.andThen_ok,Instr.slice,Option.map_none,hb',run_sizeOf hi',hsz,Sem.run_pure]
    ·cases h
   ·cases h
  ·cases h
 ·cases h
theorem R9 {G:Gh} {ρ:Env}:∀ {ss:List SV} {ks:List Nat} {vs:List Value},allRefs ss=some ks->aR (bK G ρ) ss vs->vs=ks.map fun k=>Value.pointer (some ⟨ρ.bx k,0,none⟩)
 | [],ks,vs,h,hv=>by
  cases hv
  simp only[allRefs,Option.some.injEq] at h
  grind
 | s::r,ks,vs,h,⟨v,us,e,hs,hr⟩=>by
  unfold allRefs at h
  split at h
  ·grind
  ·rename_i k o r' he
   cases he
   split at h
   ·rename_i h0
    have:=ai8 h0
    subst this
    split at h
    ·rename_i l hl
     cases h
     subst e
     rw[R9 hl hr,show v=_ from hs]
     rfl
    ·cases h
   ·cases h
  ·cases h
theorem R4 {α γ δ:Type} {R:γ->δ->Prop} (f:α->γ) (g:α->δ):∀ (l:List α),(∀ x,x∈l->R (f x) (g x))->aR R (l.map f) (l.map g)
 | [],_=>rfl
 | x::l,h=>⟨_,_,rfl,h x (by simp),R4 f g l (fun y hy=>h y (by simp[hy]))⟩
theorem abg {fn:Fn} {first caps:Array Operand} (ho:o.op= .makeFunc fn first caps) (h:dY X o S M k=some r):∃ s,k s=some r/\kG X.P o S M s:=by
 unfold dY at h
 rw[ho] at h
 cases fn<;>simp only at h<;>try cases h
 case func g=>
  split at h
  ·rename_i ks hks
   split at h
   ·rename_i hf
    refine⟨_,h,fun C G ρ w a hM hop=> ?_⟩
    have hv:=R9 hks (R4 (R:=bK G ρ) S.ev a.eval caps.toList fun x hx=>hop x (by
     rw[ho];simp only[Op.operands,Array.mem_append];right;simpa using hx))
    have hf':first= #[]:=by simpa using hf
    refine⟨.func (.func g) #[] (ks.map fun k=>Value.pointer (some ⟨ρ.bx k,0,none⟩)).toArray, ?_,rfl⟩
    have e:caps.map a.eval=(ks.map fun k=>Value.pointer (some ⟨ρ.bx k,0,none⟩)).toArray:=by
     grind
    simp only[execOp,ho,Instr.makeFunc,hf',e,Array.map_empty]
    rfl
   ·cases h
  ·cases h
theorem T9 {P:Program} {t:TypeId} {ty:Ty} {z:ty.den} (h:KX P t ty=some z):∃ i v,P.info? t=some i/\i.zero=some v/\(∀ w:World,(zeroValue t).run P w= .ok v w)/\∀ G,cF G ty z v:=by
 unfold KX at h
 split at h
 ·rename_i v hv
  cases hi:P.info? t with
  | none=>grind
  | some i=>
   rw[hi] at hv
   have hz:i.zero=some v:=hv
   refine⟨i,v,rfl,hz,fun w=>by simp[zeroValue,typeInfo,hi,hz],fun G=> ?_⟩
   let ρ:Env:=⟨fun _=>0,fun _=> .nilFunc,fun _=>none,fun _=> .nilFunc,fun _ _=>0⟩
   exact qA (ρ:=ρ) (fun j r hj=>by simp[look] at hj) (qK.nil _ _ _) h (TY G ρ v)
 ·cases h
theorem Gr {P:Program} {w:World} {r:Nat} {es:Array MapEntry} {clock:Nat} (hb:w.heap[r]? =some (.map es clock)):(getObj r).run P w= .ok (.map es clock) w:=by
 simp[getObj,Sem.run,hb]
theorem TV {P:Program} {w:World} {r:Nat} {es:Array MapEntry} {clock:Nat} (o:Obj) (hb:w.heap[r]? =some (.map es clock)):(setObj r o).run P w= .ok () { w with heap:=w.heap.setIfInBounds r o }:=by
 simp[setObj,Sem.run,hb]
theorem ad7 {t:TypeId} {x ix:Operand} {cok:Bool} (ho:o.op= .lookup t x ix cok) (h:dY X o S M k=some r):∃ s,k s=some r/\kG X.P o S M s:=by
 unfold dY at h
 rw[ho] at h
 simp only at h
 split at h
 ·rename_i kt et j ht hx
  split at h
  ·rename_i kk vv l hl
   split at h
   ·rename_i key z hkey hz
    split at h
    ·rename_i hchk
     obtain⟨iz,zv,hiz,hzi,hzr,hzv⟩:=T9 hz
     have main:∀ (C:Fr X.P) (G:Gh) (ρ:Env) (w:World) (a:Act),Mem C G ρ M w->(∀ x,x∈o.op.operands->bK G ρ (S.ev x) (a.eval x))->
      ∃ v,(∀ (b:Bool),(Instr.lookup t (a.eval x) (a.eval ix) b).run X.P w= .ok (if b then .tuple #[v,.bool (dN l key).isSome] else v) w)/\cF G vv ((dN l key).getD z) v:=by
      intro C G ρ w a hM hop
      have h1:=one_cell (hop x (by simp[ho,Op.operands])) hx
      obtain⟨b,es,clock,h2,h3,h4,h5,_⟩:=hM.objs j _ hl
      have hk:cF G kk key (a.eval ix):=qA hM.frozen (qK.nil _ _ _) hkey (hop ix (by simp[ho,Op.operands]))
      obtain⟨fr,hf1,hf2⟩:=S6 (w:=w) hchk hk h5
      have hg:=hf2.get
      have hobj:(getObj b).run X.P w= .ok (.map es clock) w:=Gr h4
      cases fr with
      | none=>
       simp only at hg
       refine⟨zv,fun bb=> ?_,by grind⟩
       rw[show a.eval x= .map (some b) from h1.1.trans h2]
       simp only[Instr.lookup,Sem.run_bind,run_underlying ht,Result.andThen_ok,hobj,Sem.run_pure,EG hchk hk,hf1,hzr w,hg]
       rfl
      | some p=>
       obtain⟨i,u⟩:=p
       simp only at hg
       obtain⟨q,e,g1,g2,g3,g4⟩:=hg
       obtain⟨e',ge,gr⟩:=h5.get g1
       rw[g2] at ge
       cases ge
       refine⟨u,fun bb=> ?_,by rw[g4,g3];exact gr.2⟩
       rw[show a.eval x= .map (some b) from h1.1.trans h2]
       simp only[Instr.lookup,Sem.run_bind,run_underlying ht,Result.andThen_ok,hobj,Sem.run_pure,EG hchk hk,hf1,g4]
       rfl
     split at h
     ·rename_i hok
      refine⟨_,h,fun C G ρ w a hM hop=> ?_⟩
      obtain⟨v,hr,hv⟩:=main C G ρ w a hM hop
      refine⟨_, ?_,[v,.bool (dN l key).isSome],rfl,v,_,rfl,EC ρ hv,_,_,rfl,rfl,rfl⟩
      simp only[execOp,ho,Sem.run_bind,hr,Result.andThen_ok,Sem.run_pure,hok,aj0]
     ·rename_i hok
      refine⟨_,h,fun C G ρ w a hM hop=> ?_⟩
      obtain⟨v,hr,hv⟩:=main C G ρ w a hM hop
      refine⟨v, ?_,KQ ρ hv⟩
      simp only[execOp,ho,Sem.run_bind,hr,Result.andThen_ok,Sem.run_pure,hok]
      rfl
    ·cases h
   ·cases h
  ·cases h
 ·cases h
theorem adR {G:Gh} {ρ:Env} {P0:Program} {C:Fr P0} {w:World} {P:Program} {d:TypeDesc} {x:CV} {n:Int} {v:Value} {t ty:TypeId} (h:aa0 M d x=some n) (ht:P.underlying t=some d) (hM:Mem C G ρ M w) (hv:br G ρ x v): (Builtin.len_ #[t] ty #[v]).run P w= .ok (.int .i64 n) w:=by
 cases x<;>simp only[aa0] at h
 case str s=>
  split at h
  ·cases h
   simp[Builtin.len_,run_underlying ht,show v= .string (bs s) from hv,goInt,JX]
  ·cases h
 case sl t' l=>
  split at h
  ·cases h
   obtain⟨a,cap,e,_⟩:=hv
   simp[Builtin.len_,run_underlying ht,e,goInt]
  ·cases h
 case nils=>
  split at h
  ·cases h
   simp[Builtin.len_,run_underlying ht,show v=_ from hv,goInt]
  ·cases h
 case row j=>
  split at h
  ·split at h
   ·rename_i q hq
    cases h
    have hrow:=hM.rows j q hq
    have key:∃ a cap,ρ.rw j= .slice a q.l.length cap:=by
     unfold dI at hrow
     split at hrow
     ·obtain⟨a,cap,e,_⟩:=hrow;grind
     ·obtain⟨xs,⟨_,⟨e,e'⟩ | ⟨g,cap,cur,e,_⟩⟩,_⟩:=hrow
      all_goals grind
    obtain⟨a,cap,e⟩:=key
    simp[Builtin.len_,run_underlying ht,hv.1,e,goInt]
   ·cases h
  ·cases h
 case mp j=>
  split at h
  ·split at h
   ·rename_i kk vv l hl
    cases h
    obtain⟨b,es,clock,h2,h3,h4,h5,_⟩:=hM.objs j _ hl
    have hlen:=h5.len
    simp only[agW] at hlen
    simp[Builtin.len_,run_underlying ht,hv.1.trans h2,Gr h4,goInt,hlen]
   ·cases h
  ·cases h
 all_goals cases h
theorem af0 {c:Call} (ho:o.op= .call c) (h:dY X o S M k=some r):∃ s,k s=some r/\kG X.P o S M s:=by
 unfold dY at h
 rw[ho] at h
 simp only at h
 split at h
 ·rename_i b hcal
  obtain⟨callee,args,argTypes⟩:=c
  dsimp only at hcal
  subst hcal
  have opm:∀ x,x∈args->x∈o.op.operands:=fun x hx=>by simp[ho,Op.operands,Call.operands,hx]
  unfold abL at h
  split at h
  ·split at h
   ·rename_i x t he ht
    split at h
    ·rename_i d hd
     split at h
     ·rename_i n hn
      refine⟨_,h,fun C G ρ w a hM hop=> ?_⟩
      match hargs:args.toList,he with
      | [y],he=>
       have hy:=one_cell (hop y (opm y (by rw[<- agX,hargs];simp))) (by simpa using he)
       have e1:args= #[y]:=by grind
       have e2:argTypes= #[t]:=by grind
       refine⟨.int .i64 n, ?_,rfl⟩
       have hl:=adR (ty:=o.type) hn hd hM hy
       simp[execOp,ho,resolve,invoke,builtin,e1,e2,hl]
      | [],he=>grind
      | _::_::_,he=>grind
     ·cases h
    ·cases h
   ·cases h
  ·split at h
   ·rename_i ik n ik' m he
    refine⟨_,h,fun C G ρ w a hM hop=> ?_⟩
    match hargs:args.toList,he with
    | [x,y],he=>
     simp only[aiv,aix,List.cons.injEq,ajJ] at he
     have hx:=one_cell (hop x (opm x (by rw[<- agX,hargs];simp))) he.1
     have hy:=one_cell (hop y (opm y (by rw[<- agX,hargs];simp))) he.2
     have e1:args= #[x,y]:=by grind
     refine⟨.int ik (if m<n then m else n), ?_,rfl⟩
     simp[execOp,ho,resolve,invoke,builtin,e1,Builtin.min_,Builtin.min2,show a.eval x=_ from hx,show a.eval y=_ from hy]
    | [],he | [_],he | _::_::_::_,he=>grind
   ·cases h
  ·split at h
   ·rename_i ik n ik' m he
    refine⟨_,h,fun C G ρ w a hM hop=> ?_⟩
    match hargs:args.toList,he with
    | [x,y],he=>
     simp only[aiv,aix,List.cons.injEq,ajJ] at he
     have hx:=one_cell (hop x (opm x (by rw[<- agX,hargs];simp))) he.1
     have hy:=one_cell (hop y (opm y (by rw[<- agX,hargs];simp))) he.2
     have e1:args= #[x,y]:=by grind
     refine⟨.int ik (if m>n then m else n), ?_,rfl⟩
     simp[execOp,ho,resolve,invoke,builtin,e1,Builtin.max_,Builtin.max2,show a.eval x=_ from hx,show a.eval y=_ from hy]
    | [],he | [_],he | _::_::_::_,he=>grind
   ·cases h
  ·cases h
 ·cases h
theorem YG (h:dY X o S M k=some r):∃ s,k s=some r/\kG X.P o S M s:=by
 cases ho:o.op with
 | move x=>exact acU (.inl ho) h
 | assign x=>exact acU (.inr ho) h
 | pick c x y=>exact af3 ho h
 | binOp op t x y u=>exact afi ho h
 | unOp op t x=>exact af4 ho h
 | convert t u x=>exact acS ho h
 | nilCheck x=>exact abh ho h
 | fieldAddr t x f=>exact Zx ho h
 | field t x f=>exact afk ho h
 | load t x=>exact af2 ho h
 | indexAddr t x ix=>exact Zy ho h
 | index t x ix=>exact afl ho h
 | extract x i=>exact acT ho h
 | build t parts=>exact afj ho h
 | slice t x lo hi mx=>
  cases mx with
  | none=>exact afm ho h
  | some m=>unfold dY at h;grind
 | call c=>exact af0 ho h
 | makeFunc fn first caps=>exact abg ho h
 | lookup t x ix cok=>exact ad7 ho h
 | _=>unfold dY at h;grind
end
end Go.Dn
namespace Go.Dn
variable {β:Type}
def uO (G:Gh) (w:World) (e:TypeId) (t:Ty) (l:List t.den) (v:Value):Prop:=∃ xs,w.ownsRow 0 e t.size v l.length xs/\cM (aN G t) l xs
def zY (G:Gh) (w:World) (k v:Ty) (l:List (k.den×v.den)) (b:Nat):Prop:=∃ es clock,w.heap[b]? =some (.map es clock)/\aR (AA G k v) l es.toList/\
 (∀ (i:Nat) (e:MapEntry),es.toList[i]? =some e->e.born<clock)/\es.toList.Pairwise (fun a b=>a.born<b.born)
def agD (G:Gh) (w:World) (ow:Nat->Option Nat) (n:Nat):(o:OT)->o.den->List Value->Prop
 | .val t,x,vs=>aN G t x vs
 | .row e t,l,vs=>∃ v,vs=[v]/\uO G w e t l v/\∀ b,v.ownBlock=some b->ow b=some n
 | .map k v,l,vs=>∃ b,vs=[.map (some b)]/\ow b=some n/\zY G w k v l b
def EE (G:Gh) (w:World) (ow:Nat->Option Nat):Nat->(l:List OT)->rE l->List Value->Prop
 | _,[],_,vs=>vs=[]
 | n,o::r,x,vs=>∃ a b,vs=a++b/\agD G w ow n o x.1 a/\EE G w ow (n+1) r x.2 b
def CI (G:Gh) (w:World) (ow:Nat->Option Nat) (n:Nat) (l:List OT) (x:rE l) (v:Value):Prop:=
 ∃ b vs T,v= .pointer (some ⟨b,0,none⟩)/\ow b=some n/\w.heap[b]? =some (.cells (List.toArray vs) T (0,0))/\EE G w ow (n+1) l x vs
def Pc (G:Gh) (w:World) (ow:Nat->Option Nat) (i:Nat):(p:PM)->p.den->Value->Prop
 | .val t,x,v=>cF G t x v
 | .row e t,l,v=>uO G w e t l v/\∀ b,v.ownBlock=some b->ow b=some (64*i)
 | .mrow e t,l,v=>uO G w e t l v/\∀ b,v.ownBlock=some b->ow b=some (64*i)
 | .map k e,l,v=>∃ b,v= .map (some b)/\ow b=some (64*i)/\zY G w k e l b
 | .box l,x,v=>CI G w ow (64*i) l x v
 | .ar t,l,_=>Az G w (fun b=>ow b=some (64*i)) false t l
 | .arR t,l,_=>Az G w (fun _=>True) true t l
def kF (G:Gh) (w:World) (ow:Nat->Option Nat):Nat->(ps:List PM)->eL ps->List Value->Prop
 | _,[],_,vs=>vs=[]
 | i,p::r,x,vs=>∃ v us,(p.arg=true->vs=v::us)/\(p.arg=false->vs=us)/\Pc G w ow i p x.1 v/\kF G w ow (i+1) r x.2 us
def uW (G:Gh) (w:World) (ow:Nat->Option Nat):Nat->(ps:List PM)->ia ps->List Value->Prop
 | _,[],_,_=>True
 | i,.mrow e t::r,x,vs=>(∃ v,vs.head? =some v/\uO G w e t x.1 v/\∀ b,v.ownBlock=some b->ow b=some (64*i))/\uW G w ow (i+1) r x.2 vs.tail
 | i,.map k e::r,x,vs=>(∃ b,vs.head? =some (.map (some b))/\ow b=some (64*i)/\zY G w k e x.1 b)/\uW G w ow (i+1) r x.2 vs.tail
 | i,.box l::r,x,vs=>(∃ v,vs.head? =some v/\CI G w ow (64*i) l x.1 v)/\uW G w ow (i+1) r x.2 vs.tail
 | i,.ar t::r,x,vs=>Az G w (fun b=>ow b=some (64*i)) false t x.1/\uW G w ow (i+1) r x.2 vs
 | i,.val _::r,x,vs=>uW G w ow (i+1) r x vs.tail
 | i,.row _ _::r,x,vs=>uW G w ow (i+1) r x vs.tail
 | i,.arR _::r,x,vs=>uW G w ow (i+1) r x vs
def aaA (G:Gh) (w:World) (ow:Nat->Option Nat) (c:Nat):(p:RM)->p.den->Value->Prop
 | .val t,x,v=>cF G t x v
 | .row e t,l,v=>uO G w e t l v/\∀ b,v.ownBlock=some b->ow b=some (64*(24+c))
 | .map k e,l,v=>∃ b,v= .map (some b)/\ow b=some (64*(24+c))/\zY G w k e l b
 | .box l,x,v=>CI G w ow (64*(24+c)) l x v
def pP (G:Gh) (w:World) (ow:Nat->Option Nat) (ps:List PM) (args:List Value):Nat->(rs:List RM)->dc ps rs->List Value->Prop
 | _,[],x,vs=>vs=[]/\uW G w ow 0 ps x args
 | c,p::r,x,vs=>∃ v us,vs=v::us/\aaA G w ow c p x.1 v/\pP G w ow ps args (c+1) r x.2 us
def mz:List PM->Bool
 | []=>false
 | .ar _::_=>true
 | _::r=>mz r
def xB:List Value->Value
 | [v]=>v
 | l=> .tuple l.toArray
structure R5 (G:Gh) (w:World) (ow:Nat->Option Nat) (sp:ay) (args:List Value) (y:dc sp.ps sp.rs) (e:Ending) (w':World) (G':Gh) (ow':Nat->Option Nat) (vs:List Value):Prop where
 ret:e= .returned (xB vs)
 le:G.le G'
 agr:Agr G' w'
 size:w.heap.size<=w'.heap.size
 os:w'.os=w.os
 output:w'.output=w.output
 old:∀ b,b<w.heap.size->ow b=none->w'.heap[b]? =w.heap[b]? /\G' b=G b
 own:∀ b i,ow' b=some i->G' b=none/\b<w'.heap.size/\(w.heap.size<=b\/ow b≠none)
 out:pP G' w' ow' sp.ps args 0 sp.rs y vs
 hnd:mz sp.ps=false->G'.hnd=G.hnd
def gU (P:Program) (f:FuncId) (sp:ay):Prop:=
 ∀ (G:Gh) (w:World) (ow:Nat->Option Nat) (args:List Value) (x:eL sp.ps) (y:dc sp.ps sp.rs),Agr G w->(∀ b i,ow b=some i->G b=none/\b<w.heap.size)->
  kF G w ow 0 sp.ps x args->sp.m x=some y->vT P G->Calls P f args.toArray w fun e w'=>∃ G' ow' vs,R5 G w ow sp args y e w' G' ow' vs
def fm (P:Program) (f:FuncId):Prop:=∃ fn,P.funcs[f]? =some fn/\fn.body.isSome=true/\fn.name≠ "runtime.NumGoroutine"
def Ge (P:Program) (f:FuncId):BH->Prop
 | .mk g=>∃ bt,∀ (mb:Option Nat) (w:World),Calls P f #[.map mb] w fun e w'=>e= .returned (.func (.func g) #[] #[.pointer (some ⟨w.heap.size,0,none⟩)])/\w'=w.alloc (.cells #[.map mb] bt)
 | .srt g kt e=>P.underlying kt=some (.int .i64)/\∀ (Bm b nn:Nat) (D0:DataW Unit) (w:World),Bm<w.heap.size->w.cell? ⟨Bm,0,none⟩=some (.map (some b))->w.ownsMap P kt (fun _=>some (.nil,[])) b nn D0->Maps.size D0<=maxLen->Maps.size D0*8<=140737488355328->
  Calls P f #[.func (.func g) #[] #[.pointer (some ⟨Bm,0,none⟩)]] w fun e' w'=>∃ (v:Value) (ss:List Int),e'= .returned v/\ss.Perm (intKeys D0)/\w'.ownsRow w.heap.size e 1 v ss.length ((ss.mergeSort fun x y=>decide (x<=y)).map encZ)/\RowKit.Below w.heap.size w w'
 | .elt lo nb tb te m=>∀ (G:Gh) (w:World) (B R i cap:Nat) (e T:TypeId) (vs:List Value) (l:List tb.den) (ql ql':List te.den) (xs:List Value),Agr G w->vT P G->B≠R->w.heap[B]? =some (.cells vs.toArray T (0,0))->vs.length=nb->
  (∃ u,vs[lo]? =some u/\iH G tb.size (aN G tb) l u)->R<w.heap.size->w.ownsRow 0 e te.size (.slice (some ⟨R,0,none⟩) ql.length cap) ql.length xs->cM (aN G te) ql xs->G B=none->G R=none->m l ql i=some ql'->
  Calls P f #[.pointer (some ⟨B,0,none⟩),.pointer (some ⟨R,i*te.size,none⟩)] w fun e' w'=>e'= .returned (xB [])/\∃ (G':Gh) (vs' xs':List Value) (T':TypeId),G.le G'/\G'.hnd=G.hnd/\Agr G' w'/\(∀ b,b<w.heap.size->G' b=G b)/\
   w'.os=w.os/\w'.output=w.output/\w.heap.size<=w'.heap.size/\(∀ b,b<w.heap.size->b≠B->b≠R->w'.heap[b]? =w.heap[b]?)/\w'.heap[B]? =some (.cells vs'.toArray T' (0,0))/\vs'.length=nb/\(∀ k,k≠lo->vs'[k]? =vs[k]?)/\
   (∃ u,vs'[lo]? =some u/\iH G' tb.size (aN G' tb) l u)/\w'.ownsRow 0 e te.size (.slice (some ⟨R,0,none⟩) ql.length cap) ql'.length xs'/\cM (aN G' te) ql' xs'
 | .nest p sp=>∀ (G:Gh) (w:World) (ow:Nat->Option Nat) (args:List Value) (x:eL sp.ps) (y:dc sp.ps sp.rs) (bm:Nat) (v:Value) (T:TypeId),Agr G w->(∀ b i,ow b=some i->G b=none/\b<w.heap.size)->
  kF G w ow 0 sp.ps x args->sp.m x=some y->vT P G->args[p]? =some v->ow bm=none->G bm=none->w.heap[bm]? =some (.cells #[v] T (0,0))->
  Calls P f (args.set p (.pointer (some ⟨bm,0,none⟩))).toArray w fun e w'=>∃ w1 G' ow' vs T',w1.os=w'.os/\w1.output=w'.output/\w1.heap.size=w'.heap.size/\(∀ b,b≠bm->w1.heap[b]? =w'.heap[b]?)/\w'.heap[bm]? =some (.cells #[v] T' (0,0))/\R5 G w ow sp args y e w1 G' ow' vs
 | .srt2 g kt e cl cf=>∀ (G:Gh) (vt:Ty) (l:List ((List UInt8×List UInt8)×vt.den)) (Bm b clock:Nat) (es:Array MapEntry) (w:World),Agr G w->vT P G->Bm<w.heap.size->w.cell? ⟨Bm,0,none⟩=some (.map (some b))->w.heap[b]? =some (.map es clock)->
  aR (AA G (.st (.pair .str .str)) vt) l es.toList->(∀ x,x∈es.toList->x.born<clock)->es.toList.Pairwise (fun a b=>a.born<b.born)->GG cf l=true->
  Calls P f #[.func (.func g) #[] #[.pointer (some ⟨Bm,0,none⟩)],.func (.func cl) #[] #[]] w fun e' w'=>∃ (v:Value) (xs:List Value),e'= .returned v/\w'.ownsRow w.heap.size e 2 v l.length xs/\cM (aN G (.st (.pair .str .str))) (sW cf l) xs/\
   w.heap.size<=w'.heap.size/\w'.os=w.os/\w'.output=w.output/\∀ b,b<w.heap.size->w'.heap[b]? =w.heap[b]?
 | .cop sz lo b e t=>∀ (G:Gh) (w:World) (vs:List Value) (u:Value) (l:List t.den),Agr G w->vT P G->vs.length=sz->(∀ v∈vs,v.oneCell'=true)->vs[lo]? =some u->iH G t.size (aN G t) l u->l.length*b<=140737488355328->l.length<=maxLen->
  Calls P f #[.agg vs.toArray] w fun e' w'=>∃ (G':Gh) (s:Value) (xs:List Value),e'= .returned (.agg (vs.set lo s).toArray)/\G.le G'/\G'.hnd=G.hnd/\Agr G' w'/\(∀ b,b<w.heap.size->G' b=G b)/\
   w'.ownsRow w.heap.size e t.size s l.length xs/\(∀ b,s.ownBlock=some b->G' b=none)/\cM (aN G' t) l xs/\
   w.heap.size<=w'.heap.size/\w'.os=w.os/\w'.output=w.output/\∀ b,b<w.heap.size->w'.heap[b]? =w.heap[b]?
 | .own=>True
structure cD (X:Cx):Prop where
 fn:∀ f sp,(f,sp)∈X.specs->gU X.P f sp/\fm X.P f
 key:∀ f kf,(f,kf)∈X.keys->Ge X.P f kf/\(kf≠ .own->fm X.P f)
theorem OV {P:Program} {f:FuncId} {args:Array Value} {w:World} (h:fm P f):(callFunc f args).run P w= .ok (.enter f args) w:=by
 obtain⟨fn,hf,hb,hn⟩:=h
 simp[callFunc,hf,hn]
 grind
variable {P0:Program} {C:Fr P0} {G:Gh} {ρ:Env} {S:St} {w:World}
structure Nf (o:Oper) (S M S1:St):Prop where
 ops:∀ x,x∈o.op.operands->S1.ev x=S.ev x
 boxes:∀ k cs,look M.boxes k=some cs->look S1.boxes k=some cs
 rows:∀ j q,look M.rows j=some q->look S1.rows j=some q
 objs:∀ j q,look M.objs j=some q->look S1.objs j=some q
theorem Nf.refl (o:Oper) (S:St):Nf o S S S:=⟨fun _ _=>rfl,fun _ _ h=>h,fun _ _ h=>h,fun _ _ h=>h⟩
theorem Mem.sub {M:St} (h:Mem C G ρ S w) (hb:∀ k cs,look M.boxes k=some cs->look S.boxes k=some cs) (hr:∀ j q,look M.rows j=some q->look S.rows j=some q) (ho:∀ j q,look M.objs j=some q->look S.objs j=some q):Mem C G ρ M w:=
 { h with boxes:=fun k cs hk=>h.boxes k cs (hb k cs hk),rows:=fun j q hj=>h.rows j q (hr j q hj),objs:=fun j q hj=>h.objs j q (ho j q hj),hndI:=fun hn=>⟨(h.hndI hn).1,fun t l hl=>(h.hndI hn).2 t l (ho bQ _ hl)⟩ }
def eo (P:Program) (o:Oper) (S M:St) (x:Del):Prop:=
 ∀ (C:Fr P) (G:Gh) (ρ:Env) (S1:St) (w:World) (a:Act) (Q:Exit->Act->World->Prop),Mod C G ρ S1 w a->Nf o S M S1->
  (∀ d,o.dst=some d->x.box.isSome=true->S1.cN d=false)->(∀ d,o.dst=some d->x.row.isSome=true->S1.bG d=false)->(∀ d,o.dst=some d->x.obj.isSome=true->S1.bV d=false/\S1.bN d=false)->
  o.wp P a w (fun a' w'=>∃ G' ρ',Mod C G' ρ' (S1.app o.dst x) w' a') Q
def rj (o:Oper) (S:St) (x:Del):Prop:=∀ d,o.dst=some d->(x.box.isSome=true->S.cN d=false)/\(x.row.isSome=true->S.bG d=false)/\(x.obj.isSome=true->S.bV d=false/\S.bN d=false)
theorem rj.val (o:Oper) (S:St) (s:SV):rj o S ⟨s,none,none,none⟩:=fun _ _=>⟨nofun,nofun,nofun⟩
theorem St.JV (S:St) (d:Option Tmp) (s:SV):S.app d ⟨s,none,none,none⟩=S.put d s:=by
 cases d<;>rfl
theorem eo.Yw {P:Program} {o:Oper} {S M:St} {s:SV} (h:kG P o S M s):eo P o S M ⟨s,none,none,none⟩:=by
 intro C G ρ S1 w a Q hM hN _ _ _
 obtain⟨v,hr,hv⟩:=h C G ρ w a (hM.toMem.sub hN.boxes hN.rows hN.objs) (fun x hx=>by rw[<- hN.ops x hx];exact hM.tmps.ev x)
 unfold Oper.wp
 rw[hr]
 refine⟨G,ρ, ?_⟩
 rw[St.JV]
 exact hM.put o.dst (fun _ _=>hv)
theorem aN.of_flat {G G':Gh} (hh:∀ h b,G.hnd h=some b->G'.hnd h=some b):∀ {t:Ty} {x:t.den} {cs:List Value},t.flat=true->aN G t x cs->aN G' t x cs
 | .int _,_,_,_,h=>h
 | .bool,_,_,_,h=>h
 | .str,_,_,_,h=>h
 | .unit,_,_,_,h=>h
 | .pair a b,(x,y),_,hf,⟨c,r,e,hx,hy⟩=>by
  simp only[Ty.flat,ag1] at hf
  exact⟨c,r,e,aN.of_flat hh hf.1 hx,aN.of_flat hh hf.2 hy⟩
 | .st t,x,cs,hf,h=>aN.of_flat hh (t:=t) (x:=x) (by simpa [Ty.flat] using hf) h
 | .slice t,_,_,hf,_=>by simp[Ty.flat] at hf
 | .ptr t,x,_,hf,_=>by simp[Ty.flat] at hf
 | .clo _ t,x,_,hf,_=>by simp[Ty.flat] at hf
 | .hnd,none,_,_,h=>h
 | .hnd,some _,_,_,⟨b,hb,e⟩=>⟨b,hh _ _ hb,e⟩
theorem cF.of_flat {G G':Gh} (hh:∀ h b,G.hnd h=some b->G'.hnd h=some b) {t:Ty} {x:t.den} {v:Value} (hf:t.flat=true) (h:cF G t x v):cF G' t x v:=by
 cases t with
 | st t=>obtain⟨vs,e,hv⟩:=h;exact⟨vs,e,hv.of_flat hh (by simpa [Ty.flat] using hf)⟩
 | _=>exact aN.of_flat hh hf h
theorem Mod.after {G':Gh} {w':World} {a:Act} (h:Mod C G ρ S w a) (hle:G.le G') (hh:G'.hnd=G.hnd) (hagr:Agr G' w') (hs:w.heap.size<=w'.heap.size) (hos:w'.os=w.os) (hou:w'.output=w.output) (hold:∀ b,b<w.heap.size->w'.heap[b]? =w.heap[b]?) (hG:∀ b,b<w.heap.size->G' b=G b):Mod C G' ρ S w' a:=by
 have hX:=(h.toMem.toX none).grow (w':=w') (blk:=none) ⟨hos,hou,hs,fun b hb _=>hold b hb⟩ (by simp)
 have hX2:=hX.change (G':=G') (ρ':=ρ) hle hh hagr (fun b hb hB=>by rw[hG b (ajh hb h.size)];exact h.old b hb hB) (fun _ _=>rfl) (fun _ _=>⟨rfl,rfl⟩) (fun p _ c _=> .refl ρ c)
  (fun b o ho=>by
    have:=h.owned b o ho
    grind)
  (fun k cs _ _=>⟨rfl,id⟩) (fun j r _ _=>⟨rfl,fun _=>id⟩) (fun j r _ _=>⟨rfl,rfl,fun _=>id⟩)
 have hM:=hX2.toMem (fun k cs _ e=>by cases e) (fun j r _ e=>by cases e) (fun j r _ e=>by cases e)
 exact { hM with tmps:=h.tmps.congr hle ⟨fun s _=> .refl ρ s,fun p _ c _=> .refl ρ c⟩,defers:=h.defers }
theorem Yr (rs:List (Nat×rY)) (j i:Nat):look (Ci rs j) i=if i=j then (look rs j).map (fun q=>{ q with fz:=true }) else look rs i:=by
 unfold Ci
 cases hj:look rs j with
 | none=>
  grind
 | some q=>
  simp only[aD]
  grind
theorem Jz:∀ (js:List Nat) (rs:List (Nat×rY)) (i:Nat),look (js.foldl Ci rs) i=if i∈js then (look rs i).map (fun q=>{ q with fz:=true }) else look rs i
 | [],rs,i=>by simp
 | j::js,rs,i=>by
  rw[List.foldl_cons,Jz js,Yr]
  by_cases e:i=j
  ·subst e
   by_cases e':i∈js
   ·simp[e',ajF,Function.comp_def]
   grind
  ·simp[e]
theorem Tb {M S1:St} {js:List Nat} (h:∀ j q,look M.rows j=some q->look S1.rows j=some q):∀ j q,look (aX M js).rows j=some q->look (aX S1 js).rows j=some q:=by
 intro j q hq
 simp only[Mz,Jz] at hq ⊢
 split at hq
 ·rename_i hm
  rw[ajZ hm]
  cases hl:look M.rows j with
  | none=>grind
  | some q'=>grind
 grind
theorem OF {M:St} {args:List SV} (h:Kq M args=true):mB M args=[]/\∀ j q,look (aX M (iK M args)).rows j=some q->look M.rows j=some q:=by
 simp only[Kq,ag1,List.isEmpty_iff] at h
 refine⟨h.1,fun j q hq=> ?_⟩
 have e:iK M args=FO args:=by simp[iK,h.1,Cd]
 rw[e] at hq
 simp only[Mz,Jz] at hq
 split at hq
 ·rename_i hm
  have h2:=h.2
  simp only[ahH] at h2
  have:=h2 j hm
  cases hl:look M.rows j with
  | none=>grind
  | some q'=>
   rw[hl] at hq this
   simp only[ajG,Option.some.injEq] at hq
   obtain⟨fz,e,t,l⟩:=q'
   grind
 omega
theorem Mod.adS {a:Act} (h:Mod C G ρ S w a) (js ks:List Nat) (ar:Bool):∃ G1 ρ1 G2,Fz G G1 ρ ρ1/\Mod C G1 ρ1 (aX S js) w a/\G1.le G2/\G2.hnd=G1.hnd/\Agr G2 w/\qK G2 ρ1 (aX S js) ks/\ (ar=true->∀ fz t l,look S.objs bQ=some (.ar fz t l)->Az G2 w (fun _=>True) true t l)/\ (∀ b,G2 b≠G1 b->(∃ k,ρ1.own b=some (.inl k)/\inL ks k=true)\/(ar=true/\ρ1.own b=some (.ob bQ))):=by
 obtain⟨G1,ρ1,hfz,hM1⟩:=h.freeze js
 let G2:Gh:=⟨fun b=>match ρ1.own b with
  | some (.inl k)=>if inL ks k=true then w.heap[b]? else G1 b
  | some (.ob j)=>if ar=true/\j=bQ then w.heap[b]? else G1 b
  | some (.inr _)=>G1 b
  | none=>G1 b,G1.hnd⟩
 have hval:∀ b,G2 b=G1 b\/(G2 b=w.heap[b]? /\∃ o,ρ1.own b=some o):=fun b=>by
  grind
 have hle:G1.le G2:=⟨fun b o hb=>by
  rcases hval b with h1 | ⟨_,o',ho⟩
  ·grind
  ·have:=(hM1.owned b o' ho).1
   grind,fun _ _ h=>h⟩
 refine⟨G1,ρ1,G2,hfz,hM1,hle,rfl, ?_, ?_, ?_, ?_⟩
 ·intro b o hb
  rcases hval b with h1 | ⟨h1,_⟩
  ·exact hM1.agr b o (by grind)
  grind
 ·intro k cs hk hcs
  obtain⟨ho,vs,T,hw,hv⟩:=hM1.boxes k cs hcs
  refine⟨vs,T,(0,0), ?_,hv.mono fun c v hc=>br.congr hle (.refl ρ1 c) hc⟩
  grind
 ·intro har fz t l hl
  have hok:Az G1 w (fun b=>ρ1.own b=some (.ob bQ)) fz t l:=(hM1.objs bQ _ (show look (aX S js).objs bQ=_ from hl)).2
  refine⟨hok.1,hok.2.1,fun i x hx=> ?_⟩
  obtain⟨b,vs,T,h1,h2,h3,h4,h5⟩:=hok.2.2 i x hx
  refine⟨b,vs,T,h1,fun _=> ?_,fun e=>(by cases e),h4,aN.mono hle t x _ h5⟩
  grind
 grind
theorem zl {V:St} {fz:Bool} {t:Ty} {l:List t.den} (h:A7 V fz t=some l):∃ f,look V.objs bQ=some (.ar f t l)/\(fz=false->f=false):=by
 unfold A7 at h
 split at h
 ·rename_i f t' l' hl
  split at h
  ·cases h
  ·rename_i hf
   obtain⟨et,el⟩:=mo h
   grind
 ·cases h
theorem Am {V:St} {fb:List Nat} (hF:mc G ρ V) (hL:qK G ρ V fb) (w:World) (ow:Nat->Option Nat):∀ {ps:List PM} {args:List SV} {x:eL ps} {vs:List Value} (i:Nat), ((∃ p,p∈ps/\p.arg=false)->∀ fz t l,look V.objs bQ=some (.ar fz t l)->Az G w (fun _=>True) true t l)-> ps.all PM.isVal=true->lQ V fb ps args=some x->aR (bK G ρ) args vs->kF G w ow i ps x vs
 | [],[],x,vs,i,_,_,h,hv=>by cases hv;rfl
 | [],_::_,x,vs,i,_,_,h,hv=>by simp[lQ] at h
 | p::r,args,x,vs,i,hA,hp,h,hv=>by
  simp only[ahG,ag1] at hp
  simp only[lQ] at h
  have hA':(∃ p,p∈r/\p.arg=false)->∀ fz t l,look V.objs bQ=some (.ar fz t l)->Az G w (fun _=>True) true t l:=fun ⟨p',h1,h2⟩=>hA ⟨p',by simp[h1],h2⟩
  split at h
  ·rename_i s hs
   split at h
   ·rename_i y hy
    split at h
    ·rename_i z hz
     cases h
     cases p with
     | val t=>
      simp only[PM.arg,ajO] at hs hz
      match args,hv,hs,hz with
      | s'::q,⟨v,us,e,hsv,hq⟩,hs,hz=>
       simp only[List.head?_cons,Option.some.injEq] at hs
       subst hs
       exact⟨v,us,fun _=>e,fun e=>(by cases e),qA hF hL hy hsv,Am hF hL w ow (i+1) hA' hp.2 hz hq⟩
     | arR t=>
      simp only[PM.arg,ajN] at hz
      obtain⟨f,hl,_⟩:=zl (show A7 V true t=some y from hy)
      exact⟨undef,vs,fun e=>(by cases e),fun _=>rfl,hA ⟨.arR t,by simp,rfl⟩ f t y hl,Am hF hL w ow (i+1) hA' hp.2 hz hv⟩
     | _=>simp[PM.isVal] at hp
    ·cases h
   ·cases h
  ·cases h
theorem Z9 {w:World} {ow:Nat->Option Nat} {ps:List PM} {args:List Value}:∀ {rs:List RM} {c:Nat} {y:dc ps rs} {vs:List Value},Mc rs=true->pP G w ow ps args c rs y vs-> ∀ (G2:Gh) (ρ:Env),(∀ h b,G.hnd h=some b->G2.hnd h=some b)->(Kz rs=true\/G.le G2)->aR (fun p=>oz G2 ρ p.1 p.2) (PB ps rs y) vs
 | [],c,y,vs,_,h,G2,ρ,_,_=>h.1
 | .val t::r,c,y,vs,hr,⟨v,us,e,hv,hu⟩,G2,ρ,hh,hG=>by
  refine⟨v,us,e, ?_,Z9 (by simpa [Mc] using hr) hu G2 ρ hh ?_⟩
  ·rcases hG with hf | hle
   ·simp only[Kz,ag1] at hf
    exact EC ρ (cF.of_flat hh hf.1 hv)
   ·exact EC ρ (cF.mono hle hv)
  ·rcases hG with hf | hle
   ·simp only[Kz,ag1] at hf;grind
   grind
 | .row e t::r,c,y,vs,hr,_,_,_,_,_=>by simp[Mc] at hr
 | .map e t::r,c,y,vs,hr,_,_,_,_,_=>by simp[Mc] at hr
 | .box e::r,c,y,vs,hr,_,_,_,_,_=>by simp[Mc] at hr
theorem TZ {l:List (Bool×List CV)} {vs:List Value} (h:aR (fun p=>oz G ρ p.1 p.2) l vs):bK G ρ (KP l) (xB vs):=by
 match l,h with
 | [],h=>exact trivial
 | [p],h=>
  obtain⟨v,e,hv⟩:=h.single
  subst e
  exact hv
 | p::q::r,⟨v,us,e,hv,u,vs',e',hu,hr⟩=>
  subst e;subst e'
  exact⟨v::u::vs',rfl,v,u::vs',rfl,hv,u,vs',rfl,hu,hr⟩
end Go.Dn
namespace Go.Dn
variable {β:Type} {X:Cx} {o:Oper} {S M:St} {k:Del->Option β} {r:β}
theorem E7 (w:World) (o:Obj) {b:Nat} (h:b<w.heap.size):(w.alloc o).heap[b]? =w.heap[b]? :=by
 simp only[World.alloc]
 grind
theorem ES {α γ δ:Type} {R:γ->δ->Prop} (f:α->γ) (g:α->δ):∀ (l:List α),(∀ x,x∈l->R (f x) (g x))->aR R (l.map f) (l.map g)
 | [],_=>rfl
 | x::l,h=>⟨_,_,rfl,h x (by simp),ES f g l (fun y hy=>h y (by simp[hy]))⟩
theorem ae5 {t:TypeId} (ho:o.op= .alloc t) (h:gz X o S M k=some r):∃ x,k x=some r/\eo X.P o S M x/\rj o S x:=by
 unfold gz at h
 rw[ho] at h
 simp only at h
 split at h
 ·rename_i z d hz hd
  split at h
  ·cases h
  ·rename_i hb
   simp only[ahf,aj4,aha,ag9] at hb
   have hd2:d<2000:=by simp_all
   refine⟨_,h,fun C G ρ S1 w a Q hM hN hfb _ _=> ?_,fun d' hd'=>⟨fun _=>(by grind),nofun,nofun⟩⟩
   obtain⟨i,v,hi,hv,hzc⟩:=vH hz
   have hrun:(execOp a.eval o).run X.P w= .ok (.value (.pointer (some ⟨w.heap.size,0,none⟩))) (w.alloc (.cells v.cells t)):=by
    simp[execOp,ho,Instr.alloc,zeroValue,typeInfo,hi,hv,newVar,newRow]
   unfold Oper.wp
   rw[hrun]
   have hnb:=hM.og (d:=d) (cs:=z) (vs:=v.cells.toList) (T:=t) hd2 (hfb d hd rfl) (fun c hc=>by
    grind) (hzc G ρ)
   refine⟨G,ρ.og d w.heap.size, ?_⟩
   rw[hd]
   simpa [St.app] using hnb
 ·cases h
theorem agn {t:TypeId} {x:Operand} (ho:o.op= .box t x) (h:gz X o S M k=some r):∃ x,k x=some r/\eo X.P o S M x/\rj o S x:=by
 unfold gz at h
 rw[ho] at h
 simp only at h
 split at h
 ·rename_i ag cs d hx hd
  split at h
  ·cases h
  ·rename_i hb
   simp only[ahf,aj4,aha] at hb
   obtain⟨⟨⟨⟨⟨hb1,hb2⟩,hb0⟩,hb3⟩,hb4⟩,hb5⟩:=hb
   have hd2:d<2000:=by simp_all
   refine⟨_,h,fun C G ρ S1 w a Q hM hN hfb _ _=> ?_,fun d' hd'=>⟨fun _=>(by grind),nofun,nofun⟩⟩
   have hv:=hM.tmps.ev x
   rw[hN.ops x (by simp[ho,Op.operands]),hx] at hv
   obtain⟨vs,ev,hvs,_⟩:=D8 hv (by grind)
   have hrun:(execOp a.eval o).run X.P w= .ok (.value (.pointer (some ⟨w.heap.size,0,none⟩))) (w.alloc (.cells vs.toArray t)):=by
    simp[execOp,ho,Instr.box,newVar,newRow,ev]
   unfold Oper.wp
   rw[hrun]
   have hnb:=hM.og (d:=d) (cs:=cs) (vs:=vs) (T:=t) hd2 (hfb d hd rfl) (fun c hc=>by
    grind) hvs
   refine⟨G,ρ.og d w.heap.size, ?_⟩
   rw[hd]
   simpa [St.app] using hnb
 ·cases h
theorem sC:∀ (t:Ty) (x:t.den),(unpack t x).all CV.ok=true
 | .int _,_=>rfl
 | .bool,_=>rfl
 | .str,_=>rfl
 | .unit,_=>rfl
 | .pair a b,(x,y)=>by simp[unpack,ahF,sC a x,sC b y]
 | .st t,x=>sC t x
 | .slice _,_=>rfl
 | .ptr _,_=>rfl
 | .clo _ _,_=>rfl
 | .hnd,_=>rfl
theorem cF.cells {G:Gh} {t:Ty} {x:t.den} {v:Value} (h:cF G t x v):∃ cs:List Value,v.cells=cs.toArray/\aN G t x cs/\∀ u,u∈cs->u.oneCell'=true:=by
 have hx:=EC (ρ:=⟨fun _=>0,fun _=> .nilFunc,fun _=>none,fun _=> .nilFunc,fun _ _=>0⟩) h
 cases t with
 | st t=>
  obtain⟨vs,e,hv⟩:=h
  obtain⟨us,eu,_,h1⟩:=D8 hx (sC t x)
  have:us=vs:=by
   rw[e] at eu
   simpa [Value.cells] using eu.symm
  subst this
  exact⟨us,eu,hv,h1⟩
 | _=>
  have hu:=jy (ρ:=⟨fun _=>0,fun _=> .nilFunc,fun _=>none,fun _=> .nilFunc,fun _ _=>0⟩) h
  have hok:=sC _ x
  match hq:unpack _ x,hu,hok with
  | [c],hu,hok=>
   obtain⟨y,e,hy⟩:=hu.single
   cases e
   simp only[ahG,ahI,ag3] at hok
   have h1:=JY hy hok
   exact⟨[v],h1.2,h,fun u hu=>by
    grind⟩
  | [],hu,_=>have:=hu.len;grind
  | _::_::_,hu,_=>have:=hu.len;grind
theorem L6 {G:Gh} {ρ:Env} {M:St} (hF:mc G ρ M) {t:Ty}:∀ {ss:List SV} {l:List t.den} {vs:List Value},GJ M t ss=some l->aR (bK G ρ) ss vs-> l.length=vs.length/\(∀ v,v∈vs->v.cells.size=t.size)/\cM (aN G t) l (vs.flatMap fun v=>v.cells.toList)
 | [],l,vs,h,hv=>by
  cases hv
  simp only[GJ] at h
  cases h
  exact⟨rfl,fun v hv=>by grind,rfl⟩
 | s::ss,l,vs,h,⟨v,us,e,hs,hus⟩=>by
  simp only[GJ] at h
  split at h
  ·rename_i x hx
   split at h
   ·rename_i l' hl'
    cases h
    subst e
    obtain⟨h1,h2,h3⟩:=L6 hF hl' hus
    obtain⟨cs,ec,hc,_⟩:=(qA hF (qK.nil _ _ _) hx hs).cells
    refine⟨by simp[h1],fun u hu=> ?_, ?_⟩
    ·rcases aiz.1 hu with rfl | hu
     ·rw[ec];simpa using hc.len
     grind
    ·exact⟨cs,_,by simp[ec],hc,h3⟩
   ·cases h
  ·cases h
theorem Grow.abz {ρ:Env} {w:World} {o:Obj}:Grow ρ w (w.alloc o) none:=Grow.alloc ρ w o
theorem Ov {t:TypeId} {len:Nat} {parts:Array (Nat×Operand)} (ho:o.op= .buildSlice t len parts) (h:TO X o t len parts S M k=some r):∃ x,k x=some r/\eo X.P o S M x/\rj o S x:=by
 unfold TO at h
 split at h
 ·rename_i e d ht hd
  split at h
  ·rename_i ty zc hty hzc
   split at h
   ·cases h
   ·rename_i hb
    simp only[ahf,aj4,aha] at hb
    obtain⟨⟨⟨⟨⟨⟨hb1,hb0⟩,hb2⟩,hb3⟩,hb4⟩,hb5⟩,hb6⟩:=hb
    have hd2:d<2000:=by simp_all
    have hlen:parts.size=len:=ai8 (by grind)
    have hidx:parts.toList.map (·.1)=List.range len:=by grind
    have hsz:cB X.P e=ty.size:=ai8 (by grind)
    have hpos:0<ty.size:=by
     grind
    have hsmall:len*ty.size<=16777216:=aja (by grind)
    split at h
    ·rename_i l hl
     refine⟨_,h,fun C G ρ S1 w a Q hM hN _ hfr _=> ?_,fun d' hd'=>⟨nofun,fun _=>(by grind),nofun⟩⟩
     obtain⟨ie,z,hie,hz,_⟩:=vH hzc
     have hies:ie.size=ty.size:=by rw[<- hsz,cB,hie];rfl
     have hF:mc G ρ M:=(hM.toMem.sub hN.boxes hN.rows hN.objs).frozen
     have hmem:∀ p,p∈parts.toList->p.2∈o.op.operands:=fun p hp=>by
      rw[ho];simp only[Op.operands,List.mem_toArray,aiE];grind
     have hvs:aR (bK G ρ) (parts.toList.map fun p=>S.ev p.2) (parts.toList.map fun p=>a.eval p.2):=
      ES _ _ _ fun p hp=>by rw[<- hN.ops p.2 (hmem p hp)];exact hM.tmps.ev p.2
     obtain⟨h1,h2,h3⟩:=L6 hF hl hvs
     have hll:l.length=len:=by grind
     have hparts:(parts.map fun (i,x)=>(i,a.eval x)).toList=((parts.toList.map fun p=>a.eval p.2).zipIdx 0).map fun x=>(x.2,x.1):=by
      simp only[Array.toList_map]
      apply ahW
      intro n
      simp only[aib,List.getElem?_zipIdx,ajx,ajF]
      cases hn:parts.toList[n]? with
      | none=>simp
      | some p=>
       have:(parts.toList.map (·.1))[n]? =some p.1:=by grind
       grind
     have hrun:(execOp a.eval o).run X.P w= .ok (.value (.slice (some ⟨w.heap.size,0,none⟩) len len)) (w.alloc (.cells ((parts.toList.map fun p=>a.eval p.2).flatMap fun v=>v.cells.toList).toArray e)):=by
      have hb:(Instr.buildSlice t len (parts.map fun (i,x)=>(i,a.eval x))).run X.P w= .ok (.slice (some ⟨w.heap.size,0,none⟩) len len) (w.alloc (.cells ((parts.toList.map fun p=>a.eval p.2).flatMap fun v=>v.cells.toList).toArray e)):=by
       by_cases h0:len=0
       ·have hpe:parts= #[]:=by
         grind
        subst hpe
        subst h0
        simp[Instr.buildSlice,run_underlying ht,sizeOf,typeInfo,hie,newRow,Instr.fill,Array.range_zero']
       ·refine run_buildSlice w t e len _ _ ie z ht hie hz (by grind) (by rw[hies];exact Nat.mul_ne_zero h0 (by omega)) ?_
        rw[hparts,hies]
        exact Great.fill_whole hpos _ _ h2 (by grind)
      simp only[execOp,ho,Sem.run_bind,hb,Result.andThen_ok,Sem.run_pure]
     unfold Oper.wp
     rw[hrun]
     show ∃ G' ρ',Mod C G' ρ' (S1.app o.dst _) _ (a.put o.dst _)
     have hcsz:((parts.toList.map fun p=>a.eval p.2).flatMap fun v=>v.cells.toList).length=len*ty.size:=by
      rw[h3.len (fun x cs hr=>aN.len hr),hll]
     have hnew:=hM.putRow (w':=w.alloc (.cells ((parts.toList.map fun p=>a.eval p.2).flatMap fun v=>v.cells.toList).toArray e)) (blk:=none) (jo:=none) (d:=d)
      (v:= .slice (some ⟨w.heap.size,0,none⟩) len len) (r:=⟨false,e,ty,l⟩) (R:=S1.rows) Grow.abz (by simp) (fun i q hi=>⟨hi,by simp⟩) hd2 (hfr d hd rfl) rfl _
      (by rw[hll];exact World.ownsRow_lit (e:=e) (size:=ty.size) (base:=0) w _ len (ajy _) (by simp only[maxLen];have:len<=len*ty.size:=Nat.le_mul_of_pos_right _ hpos;omega) (by omega))
      (by omega) (fun b hb=>by
        left
        simp only[Value.ownBlock,Option.some.injEq] at hb
        simp_all)
     rw[hd]
     exact⟨G,_,hnew⟩
    ·cases h
  ·cases h
 ·cases h
theorem WO {t:TypeId} {len:Nat} {parts:Array (Nat×Operand)} (ho:o.op= .buildSlice t len parts) (h:gz X o S M k=some r):∃ x,k x=some r/\eo X.P o S M x/\rj o S x:=by
 unfold gz at h
 rw[ho] at h
 simp only at h
 split at h
 ·exact Ov ho h
 split at h
 ·rename_i e ht
  split at h
  ·rename_i ty zc hty hzc
   split at h
   ·cases h
   ·rename_i hb
    simp only[ahf,aj4,aha] at hb
    obtain⟨⟨⟨⟨hb2,hb3⟩,hb4⟩,hb5⟩,hb6⟩:=hb
    have hlen:parts.size=len:=ai8 (by grind)
    have hidx:parts.toList.map (·.1)=List.range len:=by grind
    have hsz:cB X.P e=ty.size:=ai8 (by grind)
    have hpos:0<ty.size:=by
     grind
    have hsmall:len*ty.size<=16777216:=aja (by grind)
    split at h
    ·rename_i l hl
     refine⟨_,h,fun C G ρ S1 w a Q hM hN _ _ _=> ?_,rj.val _ _ _⟩
     obtain⟨ie,z,hie,hz,_⟩:=vH hzc
     have hies:ie.size=ty.size:=by rw[<- hsz,cB,hie];rfl
     have hF:mc G ρ M:=(hM.toMem.sub hN.boxes hN.rows hN.objs).frozen
     have hmem:∀ p,p∈parts.toList->p.2∈o.op.operands:=fun p hp=>by
      rw[ho];simp only[Op.operands,List.mem_toArray,aiE];grind
     have hvs:aR (bK G ρ) (parts.toList.map fun p=>S.ev p.2) (parts.toList.map fun p=>a.eval p.2):=
      ES _ _ _ fun p hp=>by rw[<- hN.ops p.2 (hmem p hp)];exact hM.tmps.ev p.2
     obtain⟨h1,h2,h3⟩:=L6 hF hl hvs
     have hll:l.length=len:=by grind
     have hparts:(parts.map fun (i,x)=>(i,a.eval x)).toList=((parts.toList.map fun p=>a.eval p.2).zipIdx 0).map fun x=>(x.2,x.1):=by
      simp only[Array.toList_map]
      apply ahW
      intro n
      simp only[aib,List.getElem?_zipIdx,ajx,ajF]
      cases hn:parts.toList[n]? with
      | none=>simp
      | some p=>
       have:(parts.toList.map (·.1))[n]? =some p.1:=by grind
       grind
     have hrun:(execOp a.eval o).run X.P w= .ok (.value (.slice (some ⟨w.heap.size,0,none⟩) len len)) (w.alloc (.cells ((parts.toList.map fun p=>a.eval p.2).flatMap fun v=>v.cells.toList).toArray e)):=by
      have hb:(Instr.buildSlice t len (parts.map fun (i,x)=>(i,a.eval x))).run X.P w= .ok (.slice (some ⟨w.heap.size,0,none⟩) len len) (w.alloc (.cells ((parts.toList.map fun p=>a.eval p.2).flatMap fun v=>v.cells.toList).toArray e)):=by
       by_cases h0:len=0
       ·have hpe:parts= #[]:=by
         grind
        subst hpe
        subst h0
        simp[Instr.buildSlice,run_underlying ht,sizeOf,typeInfo,hie,newRow,Instr.fill,Array.range_zero']
       ·refine run_buildSlice w t e len _ _ ie z ht hie hz (by grind) (by rw[hies];exact Nat.mul_ne_zero h0 (by omega)) ?_
        rw[hparts,hies]
        exact Great.fill_whole hpos _ _ h2 (by grind)
      simp only[execOp,ho,Sem.run_bind,hb,Result.andThen_ok,Sem.run_pure]
     unfold Oper.wp
     rw[hrun]
     show ∃ G' ρ',Mod C G' ρ' (S1.app o.dst _) _ (a.put o.dst _)
     have hcsz:((parts.toList.map fun p=>a.eval p.2).flatMap fun v=>v.cells.toList).length=len*ty.size:=by
      rw[h3.len (fun x cs hr=>aN.len hr),hll]
     generalize hcells:((parts.toList.map fun p=>a.eval p.2).flatMap fun v=>v.cells.toList)=cells at*
     let G':Gh:=⟨fun b=>if b=w.heap.size then some (.cells cells.toArray e (0,0)) else G b,G.hnd⟩
     have hgn:=Oi hM.toMem
     have hle:G.le G':=⟨fun b o hb=>by
      grind,fun _ _ h=>h⟩
     have hM2:Mod C G' ρ S1 (w.alloc (.cells cells.toArray e)) a:=hM.after hle rfl (fun b o hb=>by
      have hb':(if b=w.heap.size then some (Obj.cells cells.toArray e (0,0)) else G b)=some o:=hb
      by_cases e':b=w.heap.size
      ·subst e'
       rw[ajZ rfl] at hb'
       cases hb'
       exact heap_alloc_new w _
      ·rw[ajY e'] at hb'
       rw[E7 _ _ (dU (hM.agr b o hb'))];exact hM.agr b o hb') (by simp) rfl rfl (fun b hb=>E7 _ _ hb) (fun b hb=>by
      show (if b=w.heap.size then _ else G b)=G b
      rw[ajY (by omega)])
     refine⟨G',ρ, ?_⟩
     rw[St.JV]
     refine hM2.put o.dst (fun _ _=> ?_)
     show iH G' ty.size (aN G' ty) l _
     refine⟨some ⟨w.heap.size,0,none⟩,len,by rw[hll],by rw[hll];exact ajc _,by simp only[maxLen];have:len<=len*ty.size:=Nat.le_mul_of_pos_right _ hpos;omega,.inr ⟨w.heap.size,0,cells.toArray,e,(0,0),rfl, ?_, ?_, ?_⟩⟩
     ·show (if w.heap.size=w.heap.size then _ else _)=_
      rw[ajZ rfl]
     ·simp only[aiT,ajx];rw[hcsz,hll];exact ajc _
     ·simp only[ahT]
      rw[aiZ (by rw[hcsz,hll];exact ajc _)]
      exact h3.mono (aN.mono hle ty)
    ·cases h
  ·cases h
 ·cases h
theorem U7 (z:Value) {s:Nat} (hs:0<s) (hz:z.cells.size=s) (n:Nat):(madeCells z.cells (n*s)).toList=(List.replicate n z).flatMap fun v=>v.cells.toList:=by
 apply ahW
 intro k
 rw[Great.flat_get hs _ (fun v hv=>by grind) k]
 simp only[madeCells,Array.toList_map,aib,Array.toList_range]
 by_cases hk:k<n*s
 ·have h1:k / s<n:=(Nat.div_lt_iff_lt_mul hs).2 hk
  have h2:k % s<z.cells.size:=by rw[hz];exact Nat.mod_lt _ hs
  grind
 ·have h1:¬ k / s<n:=fun h=>hk ((Nat.div_lt_iff_lt_mul hs).1 h)
  grind
theorem Of (z:Value) {s:Nat} (hz:z.cells.size=s) (n m:Nat) (h:n<=m):((List.replicate m z).flatMap fun v=>v.cells.toList).take (n*s)=(List.replicate n z).flatMap fun v=>v.cells.toList:=by
 obtain⟨d,rfl⟩:=Nat.exists_eq_add_of_le h
 rw[<- List.replicate_append_replicate,List.flatMap_append]
 simp_all
theorem cM.replicate {α:Type} {R:α->List Value->Prop} {x:α} {c:List Value} (h:R x c):∀ n,cM R (List.replicate n x) ((List.replicate n c).flatten)
 | 0=>rfl
 | n+1=>⟨c,_,by simp[aiQ],h,cM.replicate h n⟩
theorem Zl {t:TypeId} {xl xc:Operand} (ho:o.op= .makeSlice t xl xc) (h:gz X o S M k=some r):∃ x,k x=some r/\eo X.P o S M x/\rj o S x:=by
 unfold gz at h
 rw[ho] at h
 simp only at h
 split at h
 ·rename_i e d kl l kc c ht hd hl hc
  split at h
  ·rename_i ty hty
   split at h
   ·rename_i z hz
    split at h
    ·cases h
    ·rename_i hb
     simp only[ahf,aj4,aha] at hb
     obtain⟨⟨⟨hb1,hb0⟩,hb4⟩,hb5⟩:=hb
     have hd2:d<2000:=by simp_all
     have hsz:cB X.P e=ty.size:=ai8 (by grind)
     have hpos:0<ty.size:=by
      grind
     obtain⟨hchk,h⟩:=lg h
     simp only[ag1,ajS] at hchk
     obtain⟨⟨⟨hc1,hc2⟩,hc3⟩,hc4⟩:=hchk
     refine⟨_,h,fun C G ρ S1 w a Q hM hN _ hfr _=> ?_,fun d' hd'=>⟨nofun,fun _=>(by grind),nofun⟩⟩
     obtain⟨ie,zv,hie,hzv,_,hzR⟩:=T9 hz
     have hies:ie.size=ty.size:=by rw[<- hsz,cB,hie];rfl
     have hrep:aN G ty z zv.cells.toList:=by
      obtain⟨cs,ec,hc,_⟩:=(hzR G).cells
      grind
     have hzsz:zv.cells.size=ty.size:=by simpa using hrep.len
     have hvl:=one_cell (hM.tmps.ev xl) (by rw[hN.ops xl (by simp[ho,Op.operands])];exact hl)
     have hvc:=one_cell (hM.tmps.ev xc) (by rw[hN.ops xc (by simp[ho,Op.operands])];exact hc)
     rw[hie] at hc3
     have hrun:=run_make (P:=X.P) w t e ie zv ht hie hzv kl kc l c hc1 hc2 hc3 hc4
     unfold Oper.wp
     simp only[execOp,ho,show a.eval xl=_ from hvl,show a.eval xc=_ from hvc,Sem.run_bind,hrun,Result.andThen_ok,Sem.run_pure]
     have hcm:c.toNat<=maxLen:=by simp only[maxLen];omega
     have hnew:=hM.putRow (w':=w.alloc (.cells (madeCells zv.cells (c.toNat*ie.size)) e)) (blk:=none) (jo:=none) (d:=d)
      (v:= .slice (some ⟨w.heap.size,0,none⟩) l.toNat c.toNat) (r:=⟨false,e,ty,List.replicate l.toNat z⟩) (R:=S1.rows) Grow.abz (by simp) (fun i q hi=>⟨hi,by simp⟩) hd2 (hfr d hd rfl) rfl
      ((List.replicate l.toNat zv).flatMap fun v=>v.cells.toList)
      (by
        refine⟨?_,.inr ⟨w.heap.size,c.toNat,_,by simp,ajy _,heap_alloc_new w _,by grind,hcm,by rw[size_madeCells,hies], ?_⟩⟩
        ·simp_all
        ·rw[hies,U7 zv hpos hzsz,List.length_replicate]
         exact Of zv hzsz _ _ (by omega))
      (by
        have:=cM.replicate hrep l.toNat
        have e1:(List.replicate l.toNat zv.cells.toList).flatten=(List.replicate l.toNat zv).flatMap fun v=>v.cells.toList:=by
         rw[List.flatMap_def,List.map_replicate]
        grind)
      (fun b hb=>by
        left
        simp only[Value.ownBlock,Option.some.injEq] at hb
        simp_all)
     show ∃ G' ρ',Mod C G' ρ' (S1.app o.dst _) _ (a.put o.dst _)
     rw[hd]
     exact⟨G,_,hnew⟩
   ·cases h
  ·cases h
 ·cases h
def Env.qS (ρ:Env) (d b:Nat):Env:=⟨ρ.bx,ρ.rw,fun i=>if i=b then some (.ob d) else ρ.own i,fun i=>if i=d then .map (some b) else ρ.ob i,ρ.st⟩
theorem Mod.qS {P0:Program} {C:Fr P0} {G:Gh} {ρ:Env} {S:St} {w:World} {a:Act} {d:Nat} {kk vv:Ty} (h:Mod C G ρ S w a) (hd2:d<2000) (hn:S.bV d=false): Mod C G (ρ.qS d w.heap.size) { tmps:=S.tmps.set d (.v false [.mp d]),boxes:=S.boxes,rows:=S.rows,objs:=(d,.map kk vv [])::S.objs } (w.alloc (.map #[] 0)) (a.put (some d) (.map (some w.heap.size))):=by
 have hown:=aaa h.toMem
 have hgh:=Oi h.toMem
 have hsame:S.gZ ρ (ρ.qS d w.heap.size):=WX _ hn
 have hX:=((h.toMem.toX (some (.ob d))).grow (Grow.alloc ρ w (.map #[] 0)) (by simp)).change (G':=G) (ρ':=ρ.qS d w.heap.size) (Gh.le_refl G) rfl
  (fun b o hb=>by rw[E7 _ _ (dU (h.agr b o hb))];exact h.agr b o hb) h.old (fun k hk=>rfl) (fun k hk=>⟨rfl,by simp[Env.qS,show ¬ k=d by omega]⟩) hsame.boxes
  (fun b o ho=>by
    simp only[Env.qS] at ho
    by_cases e:b=w.heap.size
    ·subst e;exact⟨hgh,by simp,.inl h.size⟩
    ·rw[ajY e] at ho;exact⟨(h.owned b o ho).1,by have:=(h.owned b o ho).2.1;simp;omega,(h.owned b o ho).2.2⟩)
  (fun k cs' hk hne=>by
    refine⟨rfl,fun ho=> ?_⟩
    have:ρ.bx k≠w.heap.size:=fun e=>by grind
    simp[Env.qS,this,ho])
  (fun j r hj _=>⟨rfl,fun b ho=>by
    have:b≠w.heap.size:=fun e=>by grind
    simp[Env.qS,this,ho]⟩)
  (fun j r hj hne=>by
    have hjd:j≠d:=fun e=>hne (by rw[e])
    refine⟨by simp[Env.qS,hjd],rfl,fun b ho=> ?_⟩
    have:b≠w.heap.size:=fun e=>by grind
    simp[Env.qS,this,ho])
 have hX':=hX.state (S':={ tmps:=S.tmps.set d (.v false [.mp d]),boxes:=S.boxes,rows:=S.rows,objs:=(d,.map kk vv [])::S.objs })
  (fun k cs' hk hne=>hk) (fun j r hj _=>hj) (fun j r hj hne=>by
    have hjd:d≠j:=fun e=>hne (by rw[e])
    simpa [aD,hjd] using hj) (fun t l hl=>by
    have hne:¬ d=bQ:=by simp only[bQ];omega
    simp only[aD,hne,ajX] at hl
    grind)
 have hM:=hX'.toMem (fun k cs' hk e=>by cases e) (fun j r hj e=>by cases e) (fun j r hj e=>by
  cases e
  simp only[aD,aj0,Option.some.injEq] at hj
  subst hj
  exact⟨w.heap.size, #[],0,by simp[Env.qS],by simp[Env.qS],heap_alloc_new w _,rfl,fun i e hi=>by grind,by simp⟩)
 exact { hM with
  tmps:=(h.tmps.congr (Gh.le_refl G) hsame).put (some d) (fun _ _=>⟨by simp[Env.qS],_,rfl⟩)
  defers:=h.defers }
theorem acn {t:TypeId} {res:Option Operand} (ho:o.op= .makeMap t res) (h:gz X o S M k=some r):∃ x,k x=some r/\eo X.P o S M x/\rj o S x:=by
 unfold gz at h
 rw[ho] at h
 cases res with
 | some y=>simp only at h;unfold dY at h;grind
 | none=>
  simp only at h
  split at h
  ·rename_i kt et d ht hd
   split at h
   ·rename_i kk vv hk hv
    split at h
    ·cases h
    ·rename_i hb
     simp only[ahf,aj4,aha,ag9] at hb
     refine⟨_,h,fun C G ρ S1 w a Q hM hN _ _ hfo=> ?_,fun d' hd'=>⟨nofun,nofun,fun _=>(by grind)⟩⟩
     have hrun:(execOp a.eval o).run X.P w= .ok (.value (.map (some w.heap.size))) (w.alloc (.map #[] 0)):=by
      simp[execOp,ho,Instr.makeMap,newObj]
      rfl
     unfold Oper.wp
     rw[hrun]
     have hnb:=hM.qS (d:=d) (kk:=kk) (vv:=vv) (by simp_all) (hfo d hd rfl).1
     refine⟨G,ρ.qS d w.heap.size, ?_⟩
     rw[hd]
     simpa [St.app] using hnb
   ·cases h
  ·cases h
end Go.Dn
namespace Go.Dn
open Go.Maps Go.WideElems
theorem VB {G:Gh} {e:Ty}:∀ {l:List (Int×e.den)} {es:List MapEntry},aR (AA G (.int .i64) e) l es->es.map (·.key)=l.map fun p=>Value.int .i64 p.1
 | [],es,h=>by
  have:es=[]:=h
  grind
 | p::l,es,⟨x,s,e0,h,hr⟩=>by
  subst e0
  have h1:[x.key]=[Value.int .i64 p.1]:=h.1
  rw[aiv,aiv,VB hr,(List.cons.inj h1).1]
theorem Zu {P:Program} {kt:TypeId} {G:Gh} {w:World} {e:Ty} {l:List (Int×e.den)} {es:Array MapEntry} {clock b:Nat} (hk:P.underlying kt=some (.int .i64)) (hb:w.heap[b]? =some (.map es clock)) (h2:aR (AA G (.int .i64) e) l es.toList) (hborn:∀ x,x∈es.toList->x.born<clock) (hpw:es.toList.Pairwise (fun a b=>a.born<b.born)) (hlen:l.length<=maxLen) (hr:∀ p,p∈l->(Lit.int .i64 p.1).wf=true) (hnd:(l.map (·.1)).Nodup): ∃ D0:DataW Unit,w.ownsMap P kt (fun _=>some (.nil,[])) b l.length D0/\(l.map (·.1)).Perm (intKeys D0)/\Maps.size D0=l.length:=by
 have hkeys:=VB h2
 have hel:es.toList.length=l.length:=by
  have:=congrArg List.length hkeys
  grind
 have hrd:∀ x,x∈es.toList->∃ n:Int,x.key= .int .i64 n/\(Lit.int .i64 n).wf=true:=by
  intro x hx
  have:x.key∈es.toList.map (·.key):=aiE.2 ⟨x,hx,rfl⟩
  grind
 have hrg:∀ x,x∈es.toList->∀ n:Int,x.key= .int .i64 n->(Lit.int .i64 n).wf=true->rd (H:=Unit) P kt (fun _=>some (.nil,[])) x=some (.int .i64 n,.nil):=by
  intro x _ n hn hw
  unfold rd
  have:keyOf P kt x.key=some (.int .i64 n):=by
   rw[hn]
   simp[keyOf,hk,mapKey,hw]
  grind
 refine⟨.map ((es.toList.map (rg P kt fun _=>some (.nil,[]))).foldr DataW.insert []),⟨es,clock,hb,⟨by grind,⟨hborn, ?_, ?_⟩, ?_⟩,by grind,rfl⟩, ?_, ?_⟩
 ·grind
 ·grind
 ·grind
 ·have e1:(es.toList.map (rg (H:=Unit) P kt fun _=>some (.nil,[]))).map (fun p=>intOf p.1)=l.map (·.1):=by
   have:(es.toList.map (rg (H:=Unit) P kt fun _=>some (.nil,[]))).map (fun p=>intOf p.1)=es.toList.map fun x=>match x.key with | .int _ n=>n | _=>0:=by
    rw[aiw]
    apply aiu
    intro x hx
    obtain⟨n,hn,hw⟩:=hrd x hx
    show intOf (rg P kt _ x).1=_
    unfold rg
    rw[hrg x hx n hn hw,hn]
    rfl
   rw[this]
   have:(es.toList.map fun x=>match x.key with | .int _ n=>n | _=>0)=(es.toList.map (·.key)).map fun v=>match v with | .int _ n=>n | _=>0:=by simp
   simp_all
  show (l.map (·.1)).Perm (List.map (fun p:Lit×DataW Unit=>intOf p.1) _)
  rw[<- e1]
  exact ((Go.WideShapes.sorted_perm _).map _).symm
 ·show List.length _=_
  rw[length_sorted,aio,hel]
end Go.Dn
namespace Go.Dn
variable {β:Type} {X:Cx} {o:Oper} {S M:St} {r:β} {P0:Program} {C:Fr P0} {G:Gh} {ρ:Env} {w:World}
theorem Nd {G:Gh} {ρ:Env}:∀ {cs:List CV} {vs:List Value},aR (br G ρ) cs vs->aR (bK G ρ) (cs.map fun c=> .v false [c]) vs
 | [],_,h=>h
 | _::_,_,⟨v,us,e,hc,hr⟩=>⟨v,us,e,hc,Nd hr⟩
theorem kK {c:Call} {f:Nat} {args:List SV} {a:Act} (ho:o.op= .call c) (h:fL S c=some (f,args)) (hop:∀ x,x∈o.op.operands->bK G ρ (S.ev x) (a.eval x)) (hb:fm X.P f): ∃ vs:List Value,aR (bK G ρ) args vs/\(execOp a.eval o).run X.P w= .ok (.enter f vs.toArray) w:=by
 obtain⟨callee,cargs,argTypes⟩:=c
 unfold fL at h
 simp only at h
 have hargs:aR (bK G ρ) (cargs.toList.map S.ev) (cargs.toList.map a.eval):=ES _ _ _ fun x hx=>hop x (by
  rw[ho];simp only[Op.operands,Call.operands,Array.mem_append];grind)
 split at h
 ·rename_i _ fop
  have hf:=hop fop (by rw[ho];simp[Op.operands,Call.operands])
  split at h
  ·rename_i g ks hg
   cases h
   rw[hg] at hf
   refine⟨cargs.toList.map a.eval++ks.map (fun k=>Value.pointer (some ⟨ρ.bx k,0,none⟩)),hargs.append (ES _ _ _ fun k _=>rfl), ?_⟩
   have hv:a.eval fop= .func (.func f) #[] (ks.map fun k=>Value.pointer (some ⟨ρ.bx k,0,none⟩)).toArray:=hf
   have hcf:=OV (w:=w) (args:=(cargs.toList.map a.eval++ks.map (fun k=>Value.pointer (some ⟨ρ.bx k,0,none⟩))).toArray) hb
   simp only[execOp,ho,resolve,hv,Deferred.ofValue,invoke,Sem.run_bind,Sem.run_pure,Result.andThen_ok]
   rw[<- hcf]
   congr 2
   simp
  ·rename_i g t x hg
   cases h
   rw[hg] at hf
   obtain⟨caps,ev,hc⟩:=hf
   refine⟨cargs.toList.map a.eval++caps,hargs.append (Nd (jy ρ hc)), ?_⟩
   have hcf:=OV (w:=w) (args:=(cargs.toList.map a.eval++caps).toArray) hb
   simp only[execOp,ho,resolve,ev,Deferred.ofValue,invoke,Sem.run_bind,Sem.run_pure,Result.andThen_ok]
   rw[<- hcf]
   congr 2
   simp
  ·cases h
 ·cases h
theorem su {c:Call} {S1:St} (ho:o.op= .call c) (hN:∀ x,x∈o.op.operands->S1.ev x=S.ev x):fL S1 c=fL S c:=by
 obtain⟨callee,cargs,argTypes⟩:=c
 have h1:cargs.toList.map S1.ev=cargs.toList.map S.ev:=aiu fun x hx=>hN x (by
  rw[ho];simp only[Op.operands,Call.operands,Array.mem_append];grind)
 unfold fL
 simp only[h1]
 cases callee with
 | value fop=>
  have:=hN fop (by rw[ho];simp[Op.operands,Call.operands])
  grind
 | invoke r m=>rfl
 | builtin b=>rfl
theorem QI {ps:List PM} (h:ps.all PM.isVal=true):mz ps=false:=by
 induction ps with
 | nil=>rfl
 | cons p r ih=>
  simp only[ahG,ag1] at h
  cases p<;>first | exact ih h.2 | simp[PM.isVal] at h
def ET (G' G3:Gh) (flat:Bool):Prop:=(∀ h b,G'.hnd h=some b->G3.hnd h=some b)/\(flat=true\/G'.le G3)
theorem ET.YH {G' G3:Gh} {t:Ty} (h:ET G' G3 t.flat) {l:List t.den} {cs:List Value} (hx:cM (aN G' t) l cs):cM (aN G3 t) l cs:=by
 rcases h.2 with hf | hle
 ·exact hx.mono (fun x cs hc=>aN.of_flat h.1 hf hc)
 ·exact hx.mono (aN.mono hle t)
theorem Mod.newRow {G':Gh} {a:Act} {w':World} {d:Nat} {v:Value} {r:rY} (h0:Mod C G ρ S w a) (hle:G.le G') (hh:G'.hnd=G.hnd) (hagr:Agr G' w') (hsz:w.heap.size<=w'.heap.size) (hos:w'.os=w.os) (hou:w'.output=w.output) (hold:∀ b,b<w.heap.size->w'.heap[b]? =w.heap[b]?) (hG:∀ b,b<w.heap.size->G' b=G b) (hd2:d<2000) (hd:S.bG d=false) (hf:r.fz=false) (xs:List Value) (hown:w'.ownsRow 0 r.e r.t.size v r.l.length xs) (hrep:cM (aN G' r.t) r.l xs) (hnew:∀ b,v.ownBlock=some b->w.heap.size<=b/\b<w'.heap.size/\G' b=none): Mod C G' (ρ.putRow d v) { tmps:=S.tmps.set d (.v false [.row d]),boxes:=S.boxes,rows:=(d,r)::S.rows,objs:=S.objs } w' (a.put (some d) v):=by
 have h:=h0.after hle hh hagr hsz hos hou hold hG
 have hsame:S.gZ ρ (ρ.putRow d v):=ME _ hd
 have hfree:∀ b,v.ownBlock=some b->ρ.own b=none:=fun b hb=>by
  have h1:=(hnew b hb).1
  cases ho:ρ.own b with
  | none=>rfl
  | some o=>have:=(h0.owned b o ho).2.1;omega
 have hghost:∀ b,v.ownBlock=some b->G' b=none/\b<w'.heap.size/\(C.n0<=b\/C.B b):=fun b hb=>
  ⟨(hnew b hb).2.2,(hnew b hb).2.1,.inl (ajd h0.size (hnew b hb).1)⟩
 have hX0:=h.toMem.toX none
 have hX1:=hX0.state (S':={ tmps:=S.tmps,boxes:=S.boxes,rows:=S.rows.filter fun p=> !Nat.beq p.1 d,objs:=S.objs }) (fun k cs hk _=>hk) (fun j q hj _=>by
  simp only[lJ] at hj
  grind) (fun j q hj _=>hj) (fun t l h=>⟨t,l,h⟩)
 have hX2:=hX1.change (G':=G') (ρ':=ρ.putRow d v) (Gh.le_refl G') rfl hX0.agr hX0.old (fun _ _=>rfl) (fun k hk=>⟨by simp[Env.putRow,show ¬ k=d by omega],rfl⟩) hsame.boxes
  (fun b o ho=>by
    simp only[Env.putRow] at ho
    by_cases e:v.ownBlock=some b
    ·grind
    ·rw[ajY e] at ho;exact hX0.owned b o ho)
  (fun k cs hk _=>⟨rfl,fun ho=>by
    have:v.ownBlock≠some (ρ.bx k):=fun e=>by
     grind
    simp[Env.putRow,this,ho]⟩)
  (fun j q hj _=>by
    simp only[lJ] at hj
    split at hj
    ·cases hj
    ·rename_i hjd
     refine⟨by simp[Env.putRow,hjd],fun b ho=> ?_⟩
     have:v.ownBlock≠some b:=fun e=>by
      grind
     simp[Env.putRow,this,ho])
  (fun j q hj _=>⟨rfl,rfl,fun b ho=>by
    have:v.ownBlock≠some b:=fun e=>by
     grind
    simp[Env.putRow,this,ho]⟩)
 refine { agr:=hX2.agr,le0:=hX2.le0,old:=hX2.old,frame:=hX2.frame,size:=hX2.size,os:=hX2.os,output:=hX2.output,pin:=hX2.pin,pinR:=hX2.pinR,owned:=hX2.owned,boxes:= ?_,rows:= ?_,objs:=fun j q hj=>hX2.objs j q hj (by simp),hndI:=hX2.hndI,tmps:= ?_,defers:=h.defers }
 ·intro k cs hk
  exact hX2.boxes k cs hk (by simp)
 ·intro j q hj
  simp only[aD] at hj
  split at hj
  ·rename_i e
   subst e
   cases hj
   unfold dI
   rw[ajY (by simp[hf])]
   refine⟨xs,by simpa [Env.putRow] using hown,hrep,fun b hb=> ?_⟩
   simp only[Env.putRow,aj0] at hb ⊢
   grind
  ·rename_i e
   have hjd:¬ j=d:=fun h=>e h.symm
   exact hX2.rows j q (by simp only[lJ,ajY hjd];exact hj) (by simp)
 ·exact (h.tmps.congr (Gh.le_refl G') hsame).put (some d) (fun _ _=>⟨by simp[Env.putRow],by
   rcases hown.2 with ⟨e,_⟩ | ⟨g,cap,cur,e,_⟩
   all_goals grind⟩)
theorem ET.RR {G' G3:Gh} {t:Ty} {f:Bool} (h:ET G' G3 f) (hf:f=true->t.flat=true) {x:t.den} {v:Value} (hx:cF G' t x v):cF G3 t x v:=by
 rcases h.2 with he | hle
 ·exact hx.of_flat h.1 (hf he)
 ·exact hx.mono hle
def Env.wq (ρ:Env) (d b:Nat) (es:Array MapEntry):Env:=⟨ρ.bx,ρ.rw,fun i=>if i=b then some (.ob d) else ρ.own i,fun i=>if i=d then .map (some b) else ρ.ob i,fun i=>if i=d then (fun n=>match es.toList[n]? with | some e=>(e.born:Int) | none=>0) else ρ.st i⟩
theorem WW {ρ:Env} {d b:Nat} {es:Array MapEntry} {S:St} (h:S.bV d=false) (h2:S.bN d=false):S.gZ ρ (ρ.wq d b es):=by
 simp only[St.bV,ahe,ahJ] at h
 simp only[St.bN,ahe,ahJ] at h2
 have cv:∀ c:CV,c.bV d=false->c.bN d=false->c.gZ ρ (ρ.wq d b es):=fun c hc hc2=>
  ⟨fun _ _=>rfl,fun _ _=>rfl,fun i hi=>by
    show (if i=d then _ else ρ.ob i)=ρ.ob i
    grind,fun i hi=>by
    show (if i=d then _ else ρ.st i)=ρ.st i
    grind⟩
 refine⟨fun s hs=> ?_,fun p hp c hc=>cv c ?_ ?_⟩
 ·have g1:=h.1 s hs
  have g2:=h2.1 s hs
  cases s with
  | v a cs=>exact fun c hc=>cv c (by simp only[SV.bV,ahK,aj2,aj1] at g1;grind) (by simp only[SV.bN,ahK,aj2,aj1] at g2;grind)
  | tup l=>exact fun p hp c hc=>cv c (by simp only[SV.bV,ahK,aj2,aj1] at g1;grind) (by simp only[SV.bN,ahK,aj2,aj1] at g2;grind)
 all_goals grind
theorem Mod.adZ {a:Act} {d b:Nat} {kk vv:Ty} {m:List (kk.den×vv.den)} (h:Mod C G ρ S w a) (hd2:d<2000) (hn:S.bV d=false) (hs:S.bN d=false) (hb0:ρ.own b=none) (hg:G b=none) (hlt:b<w.heap.size) (hC:C.n0<=b) (hm:zY G w kk vv m b) {sv:SV} {v:Value} (hv:∀ ρ':Env,ρ'.rw=ρ.rw->ρ'.ob d= .map (some b)->bK G ρ' sv v): ∃ ρ',Mod C G ρ' { tmps:=S.tmps.set d sv,boxes:=S.boxes,rows:=S.rows,objs:=(d,.map kk vv m)::S.objs } w (a.put (some d) v):=by
 obtain⟨es,clock,hheap,hes,hborn,hpw⟩:=hm
 have hsame:S.gZ ρ (ρ.wq d b es):=WW hn hs
 have hX:=(h.toMem.toX (some (.ob d))).change (G':=G) (ρ':=ρ.wq d b es) (Gh.le_refl G) rfl
  h.agr h.old (fun k hk=>rfl) (fun k hk=>⟨rfl,by simp[Env.wq,show ¬ k=d by omega]⟩) hsame.boxes
  (fun i o ho=>by
    simp only[Env.wq] at ho
    by_cases e:i=b
    ·grind
    ·rw[ajY e] at ho;exact h.owned i o ho)
  (fun k cs' hk hne=>by
    refine⟨rfl,fun ho=> ?_⟩
    have:ρ.bx k≠b:=fun e=>by grind
    simp[Env.wq,this,ho])
  (fun j r hj _=>⟨rfl,fun i ho=>by
    have:i≠b:=fun e=>by grind
    simp[Env.wq,this,ho]⟩)
  (fun j r hj hne=>by
    have hjd:j≠d:=fun e=>hne (by rw[e])
    refine⟨by simp[Env.wq,hjd],by simp[Env.wq,hjd],fun i ho=> ?_⟩
    have:i≠b:=fun e=>by grind
    simp[Env.wq,this,ho])
 have hX':=hX.state (S':={ tmps:=S.tmps.set d sv,boxes:=S.boxes,rows:=S.rows,objs:=(d,.map kk vv m)::S.objs })
  (fun k cs' hk hne=>hk) (fun j r hj _=>hj) (fun j r hj hne=>by
    have hjd:d≠j:=fun e=>hne (by rw[e])
    simpa [aD,hjd] using hj) (fun t l hl=>by
    have hne:¬ d=bQ:=by simp only[bQ];omega
    simp only[aD,hne,ajX] at hl
    grind)
 have hM:=hX'.toMem (fun k cs' hk e=>by cases e) (fun j r hj e=>by cases e) (fun j r hj e=>by
  cases e
  simp only[aD,aj0,Option.some.injEq] at hj
  subst hj
  exact⟨b,es,clock,by simp[Env.wq],by simp[Env.wq],hheap,hes,fun i e hi=>⟨by show (e.born:Int)=(if d=d then _ else _:Nat->Int) i;grind,hborn i e hi⟩,hpw⟩)
 exact⟨ρ.wq d b es,{ hM with
  tmps:=(h.tmps.congr (Gh.le_refl G) hsame).put (some d) (fun _ _=>hv _ rfl (by simp[Env.wq]))
  defers:=h.defers }⟩
theorem Xp {p:SV->Bool} {l:List SV} {d:Nat} {x:SV} (h:l.any p=false) (hx:p x=false):(l.set d x).any p=false:=by
 grind
theorem ac1 {d:Nat} {ps:List PM} {k:Del->Option β}:∀ {rs:List RM} {y:dc ps rs},ac0 d ps rs y k=some r->(∃ (e:TypeId) (t:Ty) (l:List t.den),k ⟨.v false [.row d],none,some ⟨false,e,t,l⟩,none⟩=some r/\ vJ rs=t.flat/\∀ {G:Gh} {w:World} {ow:Nat->Option Nat} {args vs:List Value},pP G w ow ps args 0 rs y vs->∃ v,vs=[v]/\uO G w e t l v/\∀ b,v.ownBlock=some b->ow b=some (64*24))\/ (∃ (e:TypeId) (t:Ty) (l:List t.den) (kk vv:Ty) (m:List (kk.den×vv.den)),k ⟨.tup [(false,[.row d]),(false,[.mp d])],none,some ⟨false,e,t,l⟩,some (.map kk vv m)⟩=some r/\ vJ rs=(t.flat&&(kk.flat&&vv.flat))/\∀ {G:Gh} {w:World} {ow:Nat->Option Nat} {args vs:List Value},pP G w ow ps args 0 rs y vs->∃ v b,vs=[v,.map (some b)]/\uO G w e t l v/\(∀ b,v.ownBlock=some b->ow b=some (64*24))/\ow b=some (64*25)/\zY G w kk vv m b)\/ (∃ (e:TypeId) (t:Ty) (l:List t.den) (t2:Ty) (z:t2.den),k ⟨.tup [(false,[.row d]),O9 t2 z],none,some ⟨false,e,t,l⟩,none⟩=some r/\ vJ rs=(t.flat&&t2.flat)/\∀ {G:Gh} {w:World} {ow:Nat->Option Nat} {args vs:List Value},pP G w ow ps args 0 rs y vs->∃ v v2,vs=[v,v2]/\uO G w e t l v/\(∀ b,v.ownBlock=some b->ow b=some (64*24))/\cF G t2 z v2)
 | [.row e t],y,h=> .inl ⟨e,t,y.1,h,rfl,fun ⟨v,us,e1,⟨h1,h2⟩,h3⟩=>⟨v,by rw[e1,h3.1],h1,h2⟩⟩
 | [.row e t,.map kk vv],y,h=> .inr <| .inl ⟨e,t,y.1,kk,vv,y.2.1,h,rfl,fun ⟨v,us,e1,⟨h1,h2⟩,⟨v2,us2,e2,⟨b,e3,h4,h5⟩,h3⟩⟩=>⟨v,b,by rw[e1,e2,e3,h3.1],h1,h2,h4,h5⟩⟩
 | [],_,h=>by cases h
 | .row _ _:: .row _ _::_,_,h=>by cases h
 | [.row e t,.val t2],y,h=> .inr <| .inr ⟨e,t,y.1,t2,y.2.1,h,rfl,fun ⟨v,us,e1,⟨h1,h2⟩,⟨v2,us2,e2,h4,h3⟩⟩=>⟨v,v2,by rw[e1,e2,h3.1],h1,h2,h4⟩⟩
 | .row _ _:: .val _::_::_,_,h=>by cases h
 | .row _ _:: .box _::_,_,h=>by cases h
 | .row _ _:: .map _ _::_::_,_,h=>by cases h
 | .val _::_,_,h=>by cases h
 | .map _ _::_,_,h=>by cases h
 | .box _::_,_,h=>by cases h
theorem GS {c:Call} {f:Nat} {args:List SV} {sp:ay} {S1:St} {a:Act} {C:Fr X.P} (hX:cD X) (ho:o.op= .call c) (hcal:fL S c=some (f,args)) (hsp:look X.specs f=some sp) (hc1:sp.ps.all PM.isVal=true) (hc3:vJ sp.rs=true\/(Kq M args=true/\sp.ps.all PM.arg=true)) {x:eL sp.ps} {y:dc sp.ps sp.rs} (hx:lQ (aX M (iK M args)) (mB M args) sp.ps args=some x) (hy:sp.m x=some y) (hM:Mod C G ρ S1 w a) (hN:Nf o S M S1) {post:Act->World->Prop} {Q:Exit->Act->World->Prop} (hpost:∀ (us vs:List Value) (w':World) (G' G3:Gh) (ow':Nat->Option Nat),pP G' w' ow' sp.ps vs 0 sp.rs y us->G.le G3->G3.hnd=G.hnd->Agr G3 w'->w.heap.size<=w'.heap.size->w'.os=w.os->w'.output=w.output-> (∀ b,b<w.heap.size->w'.heap[b]? =w.heap[b]?)->(∀ b,b<w.heap.size->G3 b=G b)->ET G' G3 (vJ sp.rs)->(∀ b i,ow' b=some i->w.heap.size<=b/\b<w'.heap.size/\G3 b=none)->post (a.put o.dst (xB us)) w'): o.wp X.P a w post Q:=by
 obtain⟨hfun,hbody⟩:=hX.fn f sp (ur hsp)
 have hcal1:fL S1 c=some (f,args):=by rw[su ho hN.ops];omega
 have key:∃ G1:Gh,∃ vs:List Value,G.le G1/\G1.hnd=G.hnd/\Agr G1 w/\kF G1 w (fun _=>none) 0 sp.ps x vs/\(execOp a.eval o).run X.P w= .ok (.enter f vs.toArray) w/\
  (vJ sp.rs=true\/G1=G):=by
  rcases hc3 with hflat | hnl
  ·obtain⟨G1,ρ1,G2,hfz,hM1,hle2,hhn2,hagr2,hlent,harok,_⟩:=hM.adS (iK M args) (mB M args) true
   obtain⟨vs,hvs,hrun⟩:=kK (S:=S1) (w:=w) (G:=G1) (ρ:=ρ1) (a:=a) ho hcal1 (fun z _=>by
    have:=hM1.tmps.ev z
    have e:(aX S1 (iK M args)).ev z=S1.ev z:=by rfl
    grind) hbody
   have hF:mc G2 ρ1 (aX M (iK M args)):=fun j q hj hq=>iH.mono hle2 (hM1.toMem.frozen j q (Tb hN.rows j q hj) hq)
   have hL:qK G2 ρ1 (aX M (iK M args)) (mB M args):=fun k cs hk hcs=>hlent k cs hk (hN.boxes k cs hcs)
   refine⟨G2,vs,Gh.le_trans hfz.le hle2,hhn2.trans hfz.hnd,hagr2,Am hF hL w _ 0 (fun _ fz t l hl=>harok rfl fz t l (hN.objs bQ _ hl)) hc1 hx (hvs.mono fun s v hs=>bK.congr hle2 (.refl ρ1 s) hs),hrun,.inl hflat⟩
  ·obtain⟨hlb,hrows⟩:=OF hnl.1
   obtain⟨vs,hvs,hrun⟩:=kK (S:=S1) (w:=w) (G:=G) (ρ:=ρ) (a:=a) ho hcal1 (fun z _=>hM.tmps.ev z) hbody
   have hF:mc G ρ (aX M (iK M args)):=fun j q hj hq=>hM.toMem.frozen j q (hN.rows j q (hrows j q hj)) hq
   refine⟨G,vs,Gh.le_refl G,rfl,hM.agr,Am hF (by rw[hlb];exact qK.nil _ _ _) w _ 0 (fun ⟨p,h1,h2⟩=> ?_) hc1 hx hvs,hrun,.inr rfl⟩
   grind
 obtain⟨G1,vs,hle1,hhn1,hagr1,hargs,hrun,hor⟩:=key
 have hcall:=hfun G1 w (fun _=>none) vs x y hagr1 (fun b i hb=>by cases hb) hargs hy (C.tab.mono (Gh.le_trans hM.le0 hle1))
 unfold Oper.wp
 rw[hrun]
 refine hcall.mono ?_
 rintro e' w' ⟨G',ow',us,hg⟩
 rw[hg.ret]
 let G3:Gh:=⟨fun b=>if b<w.heap.size then G b else G' b,G.hnd⟩
 have hnoar:mz sp.ps=false:=QI hc1
 have hhn':G'.hnd=G.hnd:=(hg.hnd hnoar).trans hhn1
 have hlt:∀ b o',G b=some o'->b<w.heap.size:=fun b o' hb=>dU (hM.agr b o' hb)
 have hle3:G.le G3:=⟨fun b o' hb=>by simp only[G3,ajZ (hlt b o' hb)];exact hb,fun _ _ h=>h⟩
 have hagr3:Agr G3 w':=fun b o' hb=>by
  simp only[G3] at hb
  split at hb
  ·rename_i hb'
   rw[(hg.old b hb' rfl).1];exact hM.agr b o' hb
  ·exact hg.agr b o' hb
 have hT:ET G' G3 (vJ sp.rs):=⟨fun i b hb=>by rw[hhn'] at hb;exact hb,by
  rcases hor with h1 | h1
  ·exact .inl h1
  ·right
   subst h1
   refine⟨fun b o' hb=> ?_,fun i b hb=>by rw[hhn'] at hb;exact hb⟩
   show (if b<w.heap.size then G1 b else G' b)=some o'
   by_cases hb':b<w.heap.size
   ·rw[ajZ hb', <- (hg.old b hb' rfl).2];exact hb
   ·rw[ajY hb'];exact hb⟩
 exact hpost us vs w' G' G3 ow' hg.out hle3 rfl hagr3 hg.size hg.os hg.output (fun b hb=>(hg.old b hb rfl).1) (fun b hb=>by simp only[G3,ajZ hb]) hT (fun b i hb=>by
  obtain⟨h1,h2,h3⟩:=hg.own b i hb
  have h4:w.heap.size<=b:=by rcases h3 with h3 | h3;exact h3;exact absurd rfl h3
  exact⟨h4,h2,by simp only[G3,ajY (Nat.not_lt.2 h4)];exact h1⟩)
theorem acm {c:Call} {f:Nat} {args:List SV} {sp:ay} {d:Nat} {k:Del->Option β} (hX:cD X) (ho:o.op= .call c) (hd:o.dst=some d) (hcal:fL S c=some (f,args)) (hsp:look X.specs f=some sp) (h:Ul sp S M args d k=some r):∃ x,k x=some r/\eo X.P o S M x/\rj o S x:=by
 unfold Ul at h
 split at h
 ·rename_i hc
  simp only[ag1,ahf,ahb] at hc
  obtain⟨⟨⟨⟨⟨hc1,hc3⟩,hrow⟩,hdl⟩,hobj⟩,hstp⟩:=hc
  have hd2:d<2000:=by simp_all
  split at h
  ·rename_i x hx
   obtain⟨y,hy,h⟩:=bind_some h
   rcases ac1 h with ⟨e,t,l,hk,hfl,hout⟩ | ⟨e,t,l,kk,vv,m,hk,hfl,hout⟩ | ⟨e,t,l,t2,z,hk,hfl,hout⟩
   ·refine⟨_,hk,fun C G ρ S1 w a Q hM hN _ hfr _=> ?_,fun d' hd'=>⟨nofun,fun _=>(by grind),nofun⟩⟩
    refine GS hX ho hcal hsp hc1 hc3 hx hy hM hN ?_
    intro us vs w' G' G3 ow' ho1 hle3 hh3 hagr3 hsz hos hou hold hG3 hT hnw
    obtain⟨v,ev,⟨xs,hown,hrep⟩,how⟩:=hout ho1
    rw[hfl] at hT
    have hnew:=hM.newRow (d:=d) (v:=v) (r:=⟨false,e,t,l⟩) hle3 hh3 hagr3 hsz hos hou hold hG3 hd2 (hfr d hd rfl) rfl xs hown (hT.YH hrep) (fun b hb=>hnw b _ (how b hb))
    rw[hd,ev]
    exact⟨G3,_,hnew⟩
   ·refine⟨_,hk,fun C G ρ S1 w a Q hM hN _ hfr hfo=> ?_,fun d' hd'=>⟨nofun,fun _=>(by grind),fun _=>(by grind)⟩⟩
    refine GS hX ho hcal hsp hc1 hc3 hx hy hM hN ?_
    intro us vs w' G' G3 ow' ho1 hle3 hh3 hagr3 hsz hos hou hold hG3 hT hnw
    obtain⟨v,b,ev,⟨xs,hown,hrep⟩,how,hob,hmap⟩:=hout ho1
    rw[hfl] at hT
    have hT1:ET G' G3 t.flat:=⟨hT.1,hT.2.imp (fun e=>by simp only[ag1] at e;exact e.1) id⟩
    have hnew:=hM.newRow (d:=d) (v:=v) (r:=⟨false,e,t,l⟩) hle3 hh3 hagr3 hsz hos hou hold hG3 hd2 (hfr d hd rfl) rfl xs hown (hT1.YH hrep) (fun b hb=>hnw b _ (how b hb))
    obtain⟨hb1,hb2,hb3⟩:=hnw b _ hob
    have hfo1:=hfo d hd rfl
    have hvb:v.ownBlock≠some b:=fun e=>by
     have:=how b e
     rw[hob] at this;simp at this
    have hm3:zY G3 w' kk vv m b:=by
     obtain⟨es,clock,g1,g2,g3,g4⟩:=hmap
     exact⟨es,clock,g1,g2.mono fun p q hpq=>⟨hT.RR (fun e=>by simp only[ag1] at e;exact e.2.1) hpq.1,hT.RR (fun e=>by simp only[ag1] at e;exact e.2.2) hpq.2⟩,g3,g4⟩
    have hsl:∃ a n c,v= .slice a n c:=by
     rcases hown.2 with ⟨e,_⟩ | ⟨g,cap,cur,e,_⟩
     ·exact⟨_,_,_,e⟩
     ·exact⟨_,_,_,e⟩
    obtain⟨ρ',hnew2⟩:=hnew.adZ (d:=d) (b:=b) (kk:=kk) (vv:=vv) (m:=m) hd2
     (by
       have h1:=hfo1.1
       simp only[St.bV,ahe] at h1 ⊢
       exact⟨Xp h1.1 rfl,h1.2⟩)
     (by
       have h1:=hfo1.2
       simp only[St.bN,ahe] at h1 ⊢
       exact⟨Xp h1.1 rfl,h1.2⟩)
     (by
       simp only[Env.putRow,ajY hvb]
       cases hq:ρ.own b with
       | none=>rfl
       | some q=>have:=(hM.owned b q hq).2.1;omega)
     hb3 hb2 (ajd hM.size hb1) hm3 (sv:= .tup [(false,[.row d]),(false,[.mp d])]) (v:= .tuple #[v,.map (some b)]) (fun ρ' h1 h2=>by
      refine⟨[v,.map (some b)],rfl,v,_,rfl, ?_,_,_,rfl, ?_,rfl⟩
      ·exact⟨by rw[h1];simp[Env.putRow],hsl⟩
      ·exact⟨h2.symm,_,rfl⟩)
    rw[hd,ev]
    refine⟨G3,ρ', ?_⟩
    simpa [St.app,aiS,Act.put,xB] using hnew2
   ·refine⟨_,hk,fun C G ρ S1 w a Q hM hN _ hfr _=> ?_,fun d' hd'=>⟨nofun,fun _=>(by grind),nofun⟩⟩
    refine GS hX ho hcal hsp hc1 hc3 hx hy hM hN ?_
    intro us vs w' G' G3 ow' ho1 hle3 hh3 hagr3 hsz hos hou hold hG3 hT hnw
    obtain⟨v,v2,ev,⟨xs,hown,hrep⟩,how,hrep2⟩:=hout ho1
    rw[hfl] at hT
    have hT1:ET G' G3 t.flat:=⟨hT.1,hT.2.imp (fun e=>by simp only[ag1] at e;exact e.1) id⟩
    have hnew:=hM.newRow (d:=d) (v:=v) (r:=⟨false,e,t,l⟩) hle3 hh3 hagr3 hsz hos hou hold hG3 hd2 (hfr d hd rfl) rfl xs hown (hT1.YH hrep) (fun b hb=>hnw b _ (how b hb))
    have hsl:∃ a n c,v= .slice a n c:=by
     rcases hown.2 with ⟨e,_⟩ | ⟨g,cap,cur,e,_⟩
     ·exact⟨_,_,_,e⟩
     ·exact⟨_,_,_,e⟩
    have hnew2:=hnew.put (some d) (s:= .tup [(false,[.row d]),O9 t2 z]) (v:= .tuple #[v,v2]) (fun _ _=>by
     refine⟨[v,v2],rfl,v,_,rfl, ?_,_,_,rfl, ?_,rfl⟩
     ·exact⟨by simp[Env.putRow],hsl⟩
     ·exact EC _ (hT.RR (fun e=>by simp only[ag1] at e;exact e.2) hrep2))
    rw[hd,ev]
    refine⟨G3,ρ.putRow d v, ?_⟩
    simpa [St.app,St.put,aiS,Act.put,xB] using hnew2
  ·cases h
 ·cases h
theorem qz {w:World} {base:Nat} {e:TypeId} {size:Nat} {v:Value} {n:Nat} {xs:List Value} (h:w.ownsRow base e size v n xs):w.ownsRow 0 e size v n xs/\∀ b,v.ownBlock=some b->base<=b/\b<w.heap.size:=by
 refine⟨⟨h.1, ?_⟩,fun b hb=> ?_⟩
 ·rcases h.2 with hn | ⟨g,cap,cur,hv,hb,hg,rest⟩
  all_goals grind
 ·rcases h.2 with hn | ⟨g,cap,cur,hv,hb',hg,rest⟩
  ·rw[hn.1] at hb;cases hb
  ·rw[hv] at hb;cases hb
   grind
theorem We {G:Gh}:∀ l:List Int,cM (aN G (.int .i64)) l (l.map encZ)
 | []=>rfl
 | a::r=>⟨[encZ a],r.map encZ,rfl,rfl,We r⟩
theorem Xl {G:Gh} {ρ:Env}:∀ {cs:List CV} {vs:List Value},aR (br G ρ) cs vs->cs.all CV.ok=true->∀ u,u∈vs->u.oneCell'=true
 | [],[],_,_,u,hu=>by cases hu
 | c::cs,vs,h,hok,u,hu=>by
  obtain⟨v,us,rfl,h1,h2⟩:=h
  rw[ahG,ag1] at hok
  rcases aiz.1 hu with e | e
  ·rw[e];exact (JY h1 hok.1).1
  ·exact Xl h2 hok.2 u e
theorem afU {c:Call} {f:Nat} {args:List SV} {k:Del->Option β} (hX:cD X) (ho:o.op= .call c) (hcal:fL S c=some (f,args)) (h:Yg X S M f args o.dst k=some r):∃ x,k x=some r/\eo X.P o S M x/\rj o S x:=by
 unfold Yg at h
 split at h
 ·rename_i g hk
  obtain⟨⟨bt,hfun⟩,hbody0⟩:=hX.key f _ (ur hk)
  have hbody:=hbody0 nofun
  split at h
  ·rename_i j
   refine⟨_,h,fun C G ρ S1 w a Q hM hN _ _ _=> ?_,rj.val _ _ _⟩
   have hcal1:fL S1 c=some (f,[.v false [.mp j]]):=by rw[su ho hN.ops];omega
   obtain⟨vs,hvs,hrun⟩:=kK (S:=S1) (w:=w) (G:=G) (ρ:=ρ) (a:=a) ho hcal1 (fun z _=>hM.tmps.ev z) hbody
   obtain⟨v,rfl,hv⟩:=hvs.single
   obtain⟨hv1,b,hv2⟩:v=ρ.ob j/\∃ b,v= .map (some b):=hv
   subst hv2
   unfold Oper.wp
   rw[hrun]
   refine (hfun (some b) w).mono ?_
   rintro e w' ⟨rfl,rfl⟩
   let G3:Gh:=⟨fun b'=>if b'=w.heap.size then some (.cells #[.map (some b)] bt (0,0)) else G b',G.hnd⟩
   have hlt:∀ b o',G b=some o'->b<w.heap.size:=fun b o' hb=>dU (hM.agr b o' hb)
   have hle3:G.le G3:=⟨fun b' o' hb=>by
    grind,fun _ _ h=>h⟩
   have hagr3:Agr G3 (w.alloc (.cells #[.map (some b)] bt)):=fun b' o' hb=>by
    simp only[G3] at hb
    split at hb
    ·rename_i e'
     subst e'
     cases hb
     show (w.heap.push _)[w.heap.size]? =_
     simp
    ·have:=hlt b' o' hb
     rw[E7 w _ this]
     exact hM.agr b' o' hb
   have hM3:=hM.after hle3 rfl hagr3 (by simp) rfl rfl (fun b' hb'=>E7 w _ hb') (fun b' hb'=>by grind)
   refine⟨G3,ρ, ?_⟩
   rw[St.JV]
   refine hM3.put o.dst (fun _ _=> ?_)
   exact⟨w.heap.size,bt,(0,0),rfl,by grind⟩
  ·cases h
 ·rename_i g kt e hk
  obtain⟨⟨hkt,hfun⟩,hbody0⟩:=hX.key f _ (ur hk)
  have hbody:=hbody0 nofun
  split at h
  ·rename_i g' j d hd
   split at h
   ·rename_i v l hl
    split at h
    ·rename_i hc
     simp only[ag1,ahb] at hc
     obtain⟨⟨hg,hrow⟩,hdl⟩:=hc
     have hd2:d<2000:=by simp_all
     have hgg:g=g':=ai8 hg
     subst hgg
     obtain⟨hok,h⟩:=lg h
     simp only[Ou,ag1,ajS] at hok
     obtain⟨hlen,hwf,hnd⟩:=hok
     have hml:(1000000:Nat)<=maxLen:=by decide
     refine⟨_,h,fun C G ρ S1 w a Q hM hN _ hfr _=> ?_,fun d' hd'=>⟨nofun,fun _=>(by grind),nofun⟩⟩
     have hcal1:fL S1 c=some (f,[.v false [.kseq g j]]):=by rw[su ho hN.ops];omega
     obtain⟨vs,hvs,hrun⟩:=kK (S:=S1) (w:=w) (G:=G) (ρ:=ρ) (a:=a) ho hcal1 (fun z _=>hM.tmps.ev z) hbody
     obtain⟨v0,rfl,hv⟩:=hvs.single
     obtain⟨Bm,T,fz,hv1,hBm⟩:∃ b T fz,v0= .func (.func g) #[] #[.pointer (some ⟨b,0,none⟩)]/\G b=some (.cells #[ρ.ob j] T fz):=hv
     subst hv1
     obtain⟨b,es,clock,hob,hown,hheap,hes,hborn,hpw⟩:=hM.objs j _ (hN.objs j _ hl)
     have hBh:=hM.agr _ _ hBm
     have hBl:Bm<w.heap.size:=dU hBh
     rw[hob] at hBh
     obtain⟨D0,hD,hperm,hsize⟩:=Zu (P:=X.P) (kt:=kt) hkt hheap hes (fun x hx=>by
      obtain⟨i,hi⟩:=List.getElem?_of_mem hx
      exact (hborn i x hi).2) hpw (ajd hlen hml) (fun p hp=>by
      have:=aj5 (ahH.1 hwf p hp)
      show (decide ((-9223372036854775808:Int)<=p.1)&&decide (p.1<=(9223372036854775807:Int)))=true
      rw[ajR this.1,ajR this.2];rfl) hnd
     have hcall:=hfun Bm b _ D0 w hBl (by simp[World.cell?,hBh]) hD (by rw[hsize];exact ajd hlen hml) (by rw[hsize];omega)
     unfold Oper.wp
     rw[hrun]
     refine hcall.mono ?_
     rintro e' w' ⟨v,ss,rfl,hss,hrowS,hb⟩
     have hsort:ss.mergeSort (fun x y=>decide (x<=y))=Ad l:=mergeSort_of_perm_i (hss.trans hperm.symm)
     have hslen:ss.length=(Ad l).length:=by rw[<- hsort,List.length_mergeSort]
     rw[hsort,hslen] at hrowS
     have hlt:∀ b o',G b=some o'->b<w.heap.size:=fun b o' hb=>dU (hM.agr b o' hb)
     have hold:∀ b',b'<w.heap.size->w'.heap[b']? =w.heap[b']? :=fun b' hb'=>hb.block b' hb'
     have hagr:Agr G w':=fun b' o' hb'=>by rw[hold b' (hlt b' o' hb')];exact hM.agr b' o' hb'
     have hnew:=hM.newRow (d:=d) (v:=v) (r:=⟨false,e,.int .i64,Ad l⟩) (Gh.le_refl G) rfl hagr hb.size hb.os hb.output hold (fun _ _=>rfl) hd2 (hfr d hd rfl) rfl _ (qz hrowS).1 (We _) (fun b' hb'=>by
      have h1:=(qz hrowS).2 b' hb'
      exact⟨h1.1,h1.2,by
       cases hG:G b' with
       | none=>rfl
       | some o'=>exact absurd (hlt b' o' hG) (Nat.not_lt.2 h1.1)⟩)
     rw[hd]
     exact⟨G,_,hnew⟩
    ·cases h
   ·cases h
  ·cases h
 ·rename_i g kt e cl cf hk
  obtain⟨hfun,hbody0⟩:=hX.key f _ (ur hk)
  have hbody:=hbody0 nofun
  split at h
  ·rename_i g' j cl' d hd
   split at h
   ·rename_i v l hl
    split at h
    ·rename_i hc
     simp only[ag1,ahb] at hc
     obtain⟨⟨⟨hg,hcl⟩,hrow⟩,hdl⟩:=hc
     have hd2:d<2000:=by simpa using hdl
     have hgg:g=g':=ai8 hg
     subst hgg
     have hcc:cl=cl':=ai8 hcl
     subst hcc
     obtain⟨hok,h⟩:=lg h
     refine⟨_,h,fun C G ρ S1 w a Q hM hN _ hfr _=> ?_,fun d' hd'=>⟨nofun,fun _=>(by rw[hd] at hd';cases hd';exact hrow),nofun⟩⟩
     have hcal1:fL S1 c=some (f,[.v false [.kseq g j],.v false [.fn cl []]]):=by rw[su ho hN.ops];exact hcal
     obtain⟨vs,hvs,hrun⟩:=kK (S:=S1) (w:=w) (G:=G) (ρ:=ρ) (a:=a) ho hcal1 (fun z _=>hM.tmps.ev z) hbody
     obtain⟨v0,us,rfl,hv,hus⟩:=hvs
     obtain⟨v2,rfl,hv2⟩:=hus.single
     obtain⟨Bm,T,fz,hv1,hBm⟩:∃ b T fz,v0= .func (.func g) #[] #[.pointer (some ⟨b,0,none⟩)]/\G b=some (.cells #[ρ.ob j] T fz):=hv
     subst hv1
     have hv2':v2= .func (.func cl) #[] #[]:=hv2
     subst hv2'
     obtain⟨b,es,clock,hob,hown,hheap,hes,hborn,hpw⟩:=hM.objs j _ (hN.objs j _ hl)
     have hBh:=hM.agr _ _ hBm
     have hBl:Bm<w.heap.size:=dU hBh
     rw[hob] at hBh
     have hlen2:(sW cf l).length=l.length:=Oq cf l
     have hcall:=hfun G v l Bm b clock es w hM.agr (C.tab.mono hM.le0) hBl (by simp[World.cell?,hBh]) hheap hes (fun x hx=>by
      obtain⟨i,hi⟩:=List.getElem?_of_mem hx
      exact (hborn i x hi).2) hpw hok
     unfold Oper.wp
     rw[hrun]
     refine hcall.mono ?_
     rintro e' w' ⟨u,xs,rfl,hrowS,hrep,hsz,hos,hou,hold⟩
     have hlt:∀ b o',G b=some o'->b<w.heap.size:=fun b o' hb=>dU (hM.agr b o' hb)
     have hagr:Agr G w':=fun b' o' hb'=>by rw[hold b' (hlt b' o' hb')];exact hM.agr b' o' hb'
     have hrowS:w'.ownsRow w.heap.size e 2 u (sW cf l).length xs:=by rw[hlen2];exact hrowS
     have hnew:=hM.newRow (d:=d) (v:=u) (r:=⟨false,e,.st (.pair .str .str),sW cf l⟩) (Gh.le_refl G) rfl hagr hsz hos hou hold (fun _ _=>rfl) hd2 (hfr d hd rfl) rfl _ (qz hrowS).1 hrep (fun b' hb'=>by
      have h1:=(qz hrowS).2 b' hb'
      exact⟨h1.1,h1.2,by
       cases hG:G b' with
       | none=>rfl
       | some o'=>exact absurd (hlt b' o' hG) (Nat.not_lt.2 h1.1)⟩)
     rw[hd]
     exact⟨G,_,hnew⟩
    ·cases h
   ·cases h
  ·cases h
 ·rename_i sz lo bb e t hk
  obtain⟨hfun,hbody0⟩:=hX.key f _ (ur hk)
  have hbody:=hbody0 nofun
  split at h
  ·rename_i cs d hd
   split at h
   ·rename_i t' l0 hlo
    split at h
    ·rename_i l hl
     split at h
     ·cases h
     ·rename_i hc
      simp only[ahf,aj4,aha,ag9] at hc
      obtain⟨hsz,hrow,hcs,hdl,hone⟩:=hc
      have hd2:d<2000:=by simpa using hdl
      have hcl:cs.length=sz:=ai8 hsz
      obtain⟨hok,h⟩:=lg h
      simp only[ag1,ajS] at hok
      refine⟨_,h,fun C G ρ S1 w a Q hM hN _ hfr _=> ?_,fun d' hd'=>⟨nofun,fun _=>(by rw[hd] at hd';cases hd';exact hrow),nofun⟩⟩
      have hcal1:fL S1 c=some (f,[.v true cs]):=by rw[su ho hN.ops];exact hcal
      obtain⟨vs,hvs,hrun⟩:=kK (S:=S1) (w:=w) (G:=G) (ρ:=ρ) (a:=a) ho hcal1 (fun z _=>hM.tmps.ev z) hbody
      obtain⟨v0,rfl,hv⟩:=hvs.single
      obtain⟨us,rfl,hus⟩:∃ us:List Value,v0= .agg us.toArray/\aR (br G ρ) cs us:=hv
      obtain⟨u,hu,hsl⟩:=hus.get hlo
      have hsl2:iH G t.size (aN G t) l u:=by
       obtain⟨e1,e2⟩:=mo hl
       subst e1
       have e3:l0=l:=e2
       rw[<- e3]
       exact hsl
      have hcall:=hfun G w us u l hM.agr (C.tab.mono hM.le0) (hus.len.trans hcl) (Xl hus hone) hu hsl2 hok.1 hok.2
      unfold Oper.wp
      rw[hrun]
      refine hcall.mono ?_
      rintro e' w' ⟨G',s,xs,rfl,hle,hh,hagr,hGG,hrowS,hnone,hrep,hsz',hos,hou,hold⟩
      have hnew:=hM.newRow (d:=d) (v:=s) (r:=⟨false,e,t,l⟩) hle hh hagr hsz' hos hou hold hGG hd2 (hfr d hd rfl) rfl _ (qz hrowS).1 hrep (fun b' hb'=>by
       have h1:=(qz hrowS).2 b' hb'
       exact⟨h1.1,h1.2,hnone b' hb'⟩)
      have hsm:∀ c,c∈cs->c.gZ ρ (ρ.putRow d s):=fun c hc=>⟨fun _ _=>rfl,fun k hk=>by
       have:¬ k=d:=fun e=>by
        subst e
        have:=ahJ.1 hcs c hc
        rw[hk] at this
        exact this rfl
       simp[Env.putRow,this],fun _ _=>rfl,fun _ _=>rfl⟩
      have hsr:∃ a n c,s= .slice a n c:=by
       rcases hrowS.2 with ⟨e,_⟩ | ⟨b0,c0,cu,e,_⟩
       ·exact⟨_,_,_,e⟩
       ·exact⟨_,_,_,e⟩
      have hSV:bK G' (ρ.putRow d s) (.v true (cs.set lo (.row d))) (.agg (us.set lo s).toArray):=
       ⟨_,rfl,(aR.BQ (fun c hc v h=>br.congr hle (hsm c hc) h) hus).set (show br G' (ρ.putRow d s) (.row d) s from ⟨by simp[Env.putRow],hsr⟩) lo⟩
      have h2:=hnew.put (some d) (fun _ _=>hSV)
      rw[hd]
      refine⟨G',ρ.putRow d s, ?_⟩
      have es:(St.put { tmps:=S1.tmps.set d (.v false [.row d]),boxes:=S1.boxes,rows:=(d,⟨false,e,t,l⟩)::S1.rows,objs:=S1.objs } (some d) (.v true (cs.set lo (.row d))))=S1.app (some d) ⟨.v true (cs.set lo (.row d)),none,some ⟨false,e,t,l⟩,none⟩:=by
       simp[St.put,St.app,aiS]
      have ea:(a.put (some d) s).put (some d) (.agg (us.set lo s).toArray)=a.put (some d) (.agg (us.set lo s).toArray):=by
       simp[Act.put]
      rw[es,ea] at h2
      exact h2
    ·cases h
   ·cases h
  ·cases h
 ·cases h
theorem afT {c:Call} {k:Del->Option β} (hX:cD X) (ho:o.op= .call c) (h:gz X o S M k=some r):∃ x,k x=some r/\eo X.P o S M x/\rj o S x:=by
 unfold gz at h
 rw[ho] at h
 simp only at h
 split at h
 ·rename_i f args hcal
  split at h
  ·rename_i sp hsp
   split at h
   ·split at h
    ·rename_i d hd
     exact acm hX ho hd hcal hsp h
    ·cases h
   obtain⟨hfun,hbody⟩:=hX.fn f sp (ur hsp)
   unfold ZN at h
   split at h
   ·rename_i hc
    simp only[ag1,ahf] at hc
    obtain⟨⟨hc1,hc2⟩,hc3⟩:=hc
    split at h
    ·rename_i x hx
     obtain⟨y,hy,h⟩:=bind_some h
     refine⟨_,h,fun C G ρ S1 w a Q hM hN _ _ _=> ?_,rj.val _ _ _⟩
     have hcal1:fL S1 c=some (f,args):=by rw[su ho hN.ops];omega
     have key:∃ G1:Gh,∃ vs:List Value,G.le G1/\G1.hnd=G.hnd/\Agr G1 w/\kF G1 w (fun _=>none) 0 sp.ps x vs/\(execOp a.eval o).run X.P w= .ok (.enter f vs.toArray) w/\
      (Kz sp.rs=true\/G1=G):=by
      rcases hc3 with hflat | hnl
      ·obtain⟨G1,ρ1,G2,hfz,hM1,hle2,hhn2,hagr2,hlent,harok,_⟩:=hM.adS (iK M args) (mB M args) true
       obtain⟨vs,hvs,hrun⟩:=kK (S:=S1) (w:=w) (G:=G1) (ρ:=ρ1) (a:=a) ho hcal1 (fun z _=>by
        have:=hM1.tmps.ev z
        have e:(aX S1 (iK M args)).ev z=S1.ev z:=by rfl
        grind) hbody
       have hF:mc G2 ρ1 (aX M (iK M args)):=fun j q hj hq=>iH.mono hle2 (hM1.toMem.frozen j q (Tb hN.rows j q hj) hq)
       have hL:qK G2 ρ1 (aX M (iK M args)) (mB M args):=fun k cs hk hcs=>hlent k cs hk (hN.boxes k cs hcs)
       refine⟨G2,vs,Gh.le_trans hfz.le hle2,hhn2.trans hfz.hnd,hagr2,Am hF hL w _ 0 (fun _ fz t l hl=>harok rfl fz t l (hN.objs bQ _ hl)) hc1 hx (hvs.mono fun s v hs=>bK.congr hle2 (.refl ρ1 s) hs),hrun,.inl hflat⟩
      ·obtain⟨hlb,hrows⟩:=OF hnl.1
       obtain⟨vs,hvs,hrun⟩:=kK (S:=S1) (w:=w) (G:=G) (ρ:=ρ) (a:=a) ho hcal1 (fun z _=>hM.tmps.ev z) hbody
       have hF:mc G ρ (aX M (iK M args)):=fun j q hj hq=>hM.toMem.frozen j q (hN.rows j q (hrows j q hj)) hq
       refine⟨G,vs,Gh.le_refl G,rfl,hM.agr,Am hF (by rw[hlb];exact qK.nil _ _ _) w _ 0 (fun ⟨p,h1,h2⟩=> ?_) hc1 hx hvs,hrun,.inr rfl⟩
       grind
     obtain⟨G1,vs,hle1,hhn1,hagr1,hargs,hrun,hor⟩:=key
     have hcall:=hfun G1 w (fun _=>none) vs x y hagr1 (fun b i hb=>by cases hb) hargs hy (C.tab.mono (Gh.le_trans hM.le0 hle1))
     unfold Oper.wp
     rw[hrun]
     refine hcall.mono ?_
     rintro e w' ⟨G',ow',us,hg⟩
     rw[hg.ret]
     let G3:Gh:=⟨fun b=>if b<w.heap.size then G b else G' b,G.hnd⟩
     have hnoar:mz sp.ps=false:=QI hc1
     have hhn':G'.hnd=G.hnd:=(hg.hnd hnoar).trans hhn1
     have hlt:∀ b o',G b=some o'->b<w.heap.size:=fun b o' hb=>dU (hM.agr b o' hb)
     have hle3:G.le G3:=⟨fun b o' hb=>by grind,fun _ _ h=>h⟩
     have hagr3:Agr G3 w':=fun b o' hb=>by
      simp only[G3] at hb
      split at hb
      ·rename_i hb'
       rw[(hg.old b hb' rfl).1];exact hM.agr b o' hb
      ·exact hg.agr b o' hb
     have hM3:=hM.after hle3 rfl hagr3 hg.size hg.os hg.output (fun b hb=>(hg.old b hb rfl).1) (fun b hb=>by grind)
     have hres:=Z9 hc2 hg.out G3 ρ (fun i b hb=>by grind) (by
      rcases hor with h1 | h1
      ·grind
      ·right
       subst h1
       refine⟨fun b o' hb=> ?_,fun i b hb=>by grind⟩
       show (if b<w.heap.size then G1 b else G' b)=some o'
       by_cases hb':b<w.heap.size
       ·rw[ajZ hb', <- (hg.old b hb' rfl).2];exact hb
       grind)
     refine⟨G3,ρ, ?_⟩
     rw[St.JV]
     exact hM3.put o.dst (fun _ _=>TZ hres)
    ·cases h
   ·cases h
  ·exact afU hX ho hcal h
 ·rename_i hcal
  obtain⟨s,hs,hq⟩:=YG h
  exact⟨_,hs,.Yw hq,rj.val _ _ _⟩
theorem zf {k:Del->Option β} (hX:cD X) (h:gz X o S M k=some r):∃ x,k x=some r/\eo X.P o S M x/\rj o S x:=by
 cases ho:o.op with
 | alloc t=>exact ae5 ho h
 | box t x=>exact agn ho h
 | buildSlice t len parts=>exact WO ho h
 | makeSlice t l c=>exact Zl ho h
 | makeMap t res=>exact acn ho h
 | call c=>exact afT hX ho h
 | _=>
  unfold gz at h
  rw[ho] at h
  obtain⟨s,hs,hq⟩:=YG h
  exact⟨_,hs,.Yw hq,rj.val _ _ _⟩
end Go.Dn
namespace Go.Dn
variable {β:Type} {X:Cx} {o:Oper} {S:St} {r:β} {P0:Program} {C:Fr P0} {G:Gh} {ρ:Env} {w:World}
def gY (P:Program) (o:Oper) (S S':St):Prop:=
 ∀ (C:Fr P) (G:Gh) (ρ:Env) (w:World) (a:Act) (Q:Exit->Act->World->Prop),Mod C G ρ S w a->o.wp P a w (fun a' w'=>∃ G' ρ',Mod C G' ρ' S' w' a') Q
theorem gY.abb {P:Program} {x:Del} (h:eo P o S S x) (hf:rj o S x):gY P o S (S.app o.dst x):=
 fun C G ρ w a Q hM=>h C G ρ S w a Q hM (.refl o S) (fun d hd hb=>(hf d hd).1 hb) (fun d hd hb=>(hf d hd).2.1 hb) (fun d hd hb=>(hf d hd).2.2 hb)
theorem Cj (S:St) (js:List Nat) (x:Operand):(aX S js).ev x=S.ev x:=by rfl
theorem gY.freeze {P:Program} {S':St} (js:List Nat) (h:gY P o (aX S js) S'):gY P o S S':=fun C G ρ w a Q hM=>by
 obtain⟨G1,ρ1,_,hM1⟩:=hM.freeze js
 exact h C G1 ρ1 w a Q hM1
theorem Grow.setRow {w:World} {g:Nat} {c:Array Value}:Grow ρ w (w.setRow g c) (some g):=
 ⟨rfl,rfl,by simp,fun b _ hb=>setRow_other w g b c (fun e=>hb (by rw[e]))⟩
theorem HO {P:Program} {t:TypeId} (hok:okT P t=true) {g off:Nat} {cur:Array Value} {T:TypeId} {v:Value} {us:List Value} (hg:w.heap[g]? =some (.cells cur T (0,0))) (hv:v.cells=us.toArray) (hl:us.length=cB P t) (hle:off+us.length<=cur.size) (h1:∀ u,u∈us->u.oneCell'=true): (Instr.storeAt t (.pointer (some ⟨g,off,none⟩)) v).run P w= .ok () (w.setRow g (cur.toList.take off++us++cur.toList.drop (off+us.length)).toArray):=by
 obtain⟨d,i,hd,hi⟩:=mC hok
 have hst:=run_storeCells_at (P:=P) g off T us 0 cur w hg (by omega) h1
 simp only[ai5] at hst
 simp[Instr.storeAt,Instr.sureAddr,storeVar,run_sizeOf hi,hv,hl,hst]
theorem abn {t:TypeId} {x y:Operand} {b off:Nat} {ag:Bool} {cs:List CV} {k:St->Option β} (ho:o.op= .store t x y) (hd:o.dst=none) (hx:S.ev x= .v false [.ref b off]) (hy:S.ev y= .v ag cs) (h:zO X.P t S b off cs k=some r): ∃ S',k S'=some r/\gY X.P o S S':=by
 unfold zO at h
 split at h
 ·rename_i l hl
  split at h
  ·rename_i hc
   simp only[ag1] at hc
   split at h
   ·rename_i l' hset
    obtain⟨hle,hl'⟩:=Gz hset
    refine⟨_,h,fun C G ρ w a Q hM=> ?_⟩
    have hvx:=one_cell (hM.tmps.ev x) hx
    have hvy:=hM.tmps.ev y
    rw[hy] at hvy
    obtain⟨us,eu,hus,h1⟩:=D8 hvy hc.2
    obtain⟨_,vs,T,hw,hvs⟩:=hM.boxes b l hl
    have hlen:=hus.len
    have hlv:=hvs.len
    have hsz:=ai8 hc.1.2
    have hrun:=HO (P:=X.P) hc.1.1 (off:=off) (v:=a.eval y) hw eu (by omega) (by grind) h1
    unfold Oper.wp
    simp only[execOp,ho,show a.eval x=_ from hvx,Sem.run_bind,hrun,Result.andThen_ok,Sem.run_pure]
    simp only[Oper.upon,hd,Act.put]
    refine⟨G,ρ,hM.TU (vs:=vs.take off++us++vs.drop (off+us.length)) (T:=T) ⟨l,hl⟩ Grow.setRow ?_ ?_⟩
    ·exact setRow_heap w _ _ _ T _ hw
    ·rw[hl'];exact hvs.splice hus
   ·cases h
  ·cases h
 ·cases h
theorem ZD {α:Type} (cur us:List α) (N p sz off:Nat) (h1:p+sz<=N) (h2:N<=cur.length) (h3:off+us.length<=sz): (cur.take (p+off)++us++cur.drop (p+off+us.length)).take N= (cur.take N).take p++((((cur.take N).drop p).take sz).take off++us++(((cur.take N).drop p).take sz).drop (off+us.length))++(cur.take N).drop (p+sz):=by
 apply ahW
 intro k
 have l1:(cur.take (p+off)).length=p+off:=by grind
 have l2:((cur.take N).take p).length=p:=by grind
 have l3:((((cur.take N).drop p).take sz).take off).length=off:=by grind
 have l4:((((cur.take N).drop p).take sz).drop (off+us.length)).length=sz - (off+us.length):=by grind
 have l5:(((((cur.take N).drop p).take sz).take off++us++(((cur.take N).drop p).take sz).drop (off+us.length))).length=sz:=by grind
 by_cases c0:k<N
 ·rw[aij c0]
  by_cases c1:k<p
  ·rw[ahL,ah3 (by omega),ahL,ah3 (by omega)]
   simp[c0,c1,show k<p+off by omega]
  ·by_cases c2:k<p+off
   ·rw[ahL,ah3 (by omega),ahL ((cur.take N).take p),ah4 (by omega),ah3 (by omega),ahL,ah3 (by omega)]
    simp only[aii,ah7,l2]
    rw[ajZ c2,ajZ (by omega),ajZ (by omega),ajZ (by omega)]
    congr 1;omega
   ·by_cases c3:k<p+off+us.length
    ·rw[ahL,ah4 (by omega),ah3 (by omega),ahL ((cur.take N).take p),ah4 (by omega),ah3 (by omega),ahL,ah4 (by omega),ah3 (by omega)]
     congr 1;omega
    ·rw[ah4 (by rw[aim];omega)]
     by_cases c4:k<p+sz
     ·rw[ahL ((cur.take N).take p),ah4 (by omega),ah3 (by omega),ah4 (by rw[aim];omega)]
      simp only[aii,ah7,aim,l1,l2,l3]
      rw[ajZ (by omega),ajZ (by omega)]
      congr 1;omega
     ·rw[ah4 (by rw[aim];omega)]
      simp only[aii,ah7,aim,l1,l2,l3,l4]
      rw[ajZ (by omega)]
      congr 1;omega
 ·rw[ah9 (by simp;omega)]
  symm
  apply ah9
  rw[aim,aim,l2,l5,List.length_drop,ais]
  omega
theorem abo {t:TypeId} {x y:Operand} {j sz i off:Nat} {ag:Bool} {cs:List CV} {k:St->Option β} (ho:o.op= .store t x y) (hd:o.dst=none) (hx:S.ev x= .v false [.rp j sz i off]) (hy:S.ev y= .v ag cs) (h:Et X.P t S j sz i off cs k=some r): ∃ S',k S'=some r/\gY X.P o S S':=by
 unfold Et at h
 split at h
 ·rename_i q hq
  split at h
  ·cases h
  ·rename_i hc
   simp only[ahf,aj4,aha,ag9] at hc
   obtain⟨⟨⟨⟨hfz,hsz⟩,hok⟩,hlen⟩,hcv⟩:=hc
   have hsz':sz=q.t.size:=ai8 hsz
   have hlen':=ai8 hlen
   obtain⟨y0,hy0,h⟩:=bind_some h
   split at h
   ·rename_i cs' hset
    obtain⟨hle,hcs'⟩:=Gz hset
    split at h
    ·rename_i y' hp
     refine⟨_,h,fun C G ρ w a Q hM=> ?_⟩
     have hvx:=one_cell (hM.tmps.ev x) hx
     have hvy:=hM.tmps.ev y
     rw[hy] at hvy
     obtain⟨us,eu,hus,h1⟩:=D8 hvy hcv
     have hrow:=hM.rows j q hq
     unfold dI at hrow
     rw[ajY (by simp[hfz])] at hrow
     obtain⟨xs,⟨hlen2,hn | ⟨g,cap',cur,hv,_,hg,hnc,hcm,hcz,htake⟩⟩,hl,hown⟩:=hrow
     ·grind
     ·obtain⟨b,len,cap,e1,e2⟩:=hvx
      rw[e1] at hv
      cases hv
      have hi:=(aia.1 hy0).1
      have hye:=hl.get (fun x cs hr=>aN.len hr) hy0
      have hae:=jy ρ hye
      have hlu:=hus.len
      have hla:=hae.len
      have hmul:i*q.t.size+q.t.size<=q.l.length*q.t.size:=by rw[<- Nat.succ_mul];exact ajr _ hi
      have hmul2:q.l.length*q.t.size<=cur.size:=by grind
      have hel:((xs.drop (i*q.t.size)).take q.t.size).length=q.t.size:=hye.len
      have hoff:off+us.length<=q.t.size:=by omega
      have hnew:aR (br G ρ) cs' (((xs.drop (i*q.t.size)).take q.t.size).take off++us++((xs.drop (i*q.t.size)).take q.t.size).drop (off+us.length)):=by
       rw[hcs'];exact hae.splice hus
      have hrep:=RN hM.toMem.frozen hp hnew
      have hset':=cM.set (R:=aN G q.t) (n:=q.t.size) (fun x cs hr=>aN.len hr) hrep hl hi
      have hrun:=HO (P:=X.P) hok (off:=i*sz+off) (v:=a.eval y) hg eu (by omega) (by grind) h1
      unfold Oper.wp
      simp only[execOp,ho,e2,Sem.run_bind,hrun,Result.andThen_ok,Sem.run_pure]
      simp only[Oper.upon,hd,Act.put]
      refine⟨G,ρ,hM.setRow (q:=q) (r:={ q with l:=q.l.set i y' }) hq hfz hfz (b:=g) (by rw[e1];rfl) Grow.setRow _ ?_ hset'⟩
      refine⟨?_,.inr ⟨g,cap',_, ?_,ajy _,setRow_heap w g cur _ q.e _ hg, ?_,hcm, ?_, ?_⟩⟩
      ·have:=hset'.len (fun x cs hr=>aN.len hr)
       simpa using this
      ·rw[e1];simp
      ·simpa using hnc
      ·rw[<- hcz]
       simp
       rw[hsz']
       omega
      ·simp only[aiq]
       rw[hsz']
       have:=ZD cur.toList us (q.l.length*q.t.size) (i*q.t.size) q.t.size off hmul (by simpa using hmul2) hoff
       rw[this,htake]
    ·cases h
   ·cases h
 ·cases h
end Go.Dn
namespace Go.Dn
variable {β:Type} {X:Cx} {o:Oper} {S:St} {r:β} {P0:Program} {C:Fr P0} {G:Gh} {ρ:Env} {w:World}
theorem aN.one {t:Ty} {x:t.den} {cs:List Value} (h:aN G t x cs):∀ u,u∈cs->u.oneCell'=true:=by
 have hu:=jy (ρ:=⟨fun _=>0,fun _=> .nilFunc,fun _=>none,fun _=> .nilFunc,fun _ _=>0⟩) h
 have hok:=sC t x
 generalize unpack t x=l at hu hok
 clear h
 induction l generalizing cs with
 | nil=>intro u h;cases hu;cases h
 | cons c l ih=>
  obtain⟨y,s,e,hy,hs⟩:=hu
  simp only[ahG,ag1] at hok
  subst e
  intro u hu
  rcases aiz.1 hu with rfl | hu
  ·exact (JY hy hok.1).1
  grind
theorem cM.one {t:Ty}:∀ {l:List t.den} {cs:List Value},cM (aN G t) l cs->∀ u,u∈cs->u.oneCell'=true
 | [],_,h=>by cases h;simp
 | x::l,_,⟨c,r,e,hx,hl⟩=>by
  subst e
  intro u hu
  rcases aiy.1 hu with hu | hu
  ·exact hx.one u hu
  ·exact cM.one hl u hu
theorem TQ {P:Program} {t ty e:TypeId} {i:TypeInfo} (ht:P.underlying t=some (.slice e)) (hi:P.info? e=some i) {b sa:Option Addr} {n cap c:Nat} (h:n<=cap): (Builtin.append_ #[t,t] ty #[.slice b n cap,.slice sa 0 c]).run P w= .ok (.slice b n cap) w:=by
 cases b with
 | none=>cases sa<;>simp[Builtin.append_,run_underlying ht,sizeOf,typeInfo,hi,Builtin.lenOf,h,Builtin.firstCells,loadCells,loadCellsFrom]
 | some b=>cases sa<;>simp[Builtin.append_,run_underlying ht,sizeOf,typeInfo,hi,Builtin.lenOf,h,Builtin.firstCells,loadCells,loadCellsFrom,storeCells]
theorem TP {P:Program} {t ty e:TypeId} {i:TypeInfo} {z:Value} {size:Nat} (ht:P.underlying t=some (.slice e)) (hi:P.info? e=some i) (hz:i.zero=some z) (hsize:i.size=size) (hzs:z.cells.size=size) (hsz:0<size) {v:Value} {n:Nat} {xs:List Value} (hown:w.ownsRow 0 e size v n xs) {sa:Option Addr} {m c:Nat} {news:List Value} (hl:news.length=m*size) (hnews:m=0\/∃ ad,sa=some ad/\∀ j u,news[j]? =some u->w.cell? (ad.add j)=some u) (h1:∀ u,u∈news->u.oneCell'=true) (h63:n+m<=maxLen) (hbytes:(n+m)*i.bytes<=140737488355328): ∃ v' w',(Builtin.append_ #[t,t] ty #[v,.slice sa m c]).run P w= .ok v' w'/\w'.ownsRow 0 e size v' (n+m) (xs++news)/\w.grownBy w' v.ownBlock/\ ∀ b,v'.ownBlock=some b->(w.heap.size<=b/\b<w'.heap.size)\/v.ownBlock=some b:=by
 by_cases hm:m=0
 ·subst hm
  have hn0:news=[]:=ahV (by omega)
  subst hn0
  have key:∃ b cap,v= .slice b n cap/\n<=cap:=by
   rcases hown.2 with ⟨rfl,rfl⟩ | ⟨g,cap,cur,rfl,_,_,hnc,_⟩
   all_goals grind
  obtain⟨b,cap,rfl,hnc⟩:=key
  refine⟨_,w,TQ ht hi hnc,by grind,⟨rfl,rfl,rfl,ajc _,fun _ _ _=>rfl⟩,fun b' hb'=> .inr hb'⟩
 ·rcases hnews with h0 | ⟨ad,rfl,hnews⟩
  ·omega
  ·obtain⟨v',w',hr,ho',hg',_⟩:=run_append_own (P:=P) w 0 t ty e i z size i.bytes ht hi hz hsize rfl hzs hsz v n xs hown ad m c news hl hnews h1 h63 hbytes (ajy _)
   refine⟨v',w',hr,ho',hg', ?_⟩
   have hsmall:n+m<=9223372036854775807:=by simp only[maxLen] at h63;omega
   subst hsize
   rcases hown.2 with ⟨rfl,rfl⟩ | ⟨g,cap,cur,rfl,hbg,hg,hnc,hcm,hcs,htake⟩
   ·have hr2:=run_append_nil (P:=P) w t ty e i z ht hi hz ad m c news hl hnews (by omega) (by omega) (by grind)
    rw[hr2] at hr
    cases hr
    intro b hb
    left
    simp only[Value.ownBlock,Option.some.injEq] at hb
    simp_all
   ·by_cases hroom:n+m<=cap
    ·have hfit:n*i.size+news.length<=cur.size:=by rw[hl,hcs, <- ai4];exact ajr _ hroom
     have hr2:=run_append_room (P:=P) w t ty e i ht hi g n cap cur hg ad m c news hl hnews h1 hroom hfit
     rw[hr2] at hr
     cases hr
     intro b hb
     right
     exact hb
    ·have holds:∀ j u,xs[j]? =some u->w.cell? ((⟨g,0,none⟩:Addr).add j)=some u:=hown.cells (g:=g) rfl
     have hr2:=run_append_grow (P:=P) w t ty e i z ht hi hz ⟨g,0,none⟩ n cap xs hown.1 holds ad m c news hl hnews (by omega) (by omega) (growslice_fits (by omega) hbytes)
     rw[hr2] at hr
     cases hr
     intro b hb
     left
     simp only[Value.ownBlock,Option.some.injEq] at hb
     simp_all
theorem abB {ty:Ty} {x:CV} {l:List ty.den} {v:Value} (h:Nt S ty x=some l) (hM:Mem C G ρ S w) (hv:br G ρ x v): ∃ sa c news,v= .slice sa l.length c/\news.length=l.length*ty.size/\cM (aN G ty) l news/\(l.length=0\/∃ ad,sa=some ad/\∀ j u,news[j]? =some u->w.cell? (ad.add j)=some u):=by
 have sl:∀ {l:List ty.den} {v:Value},iH G ty.size (aN G ty) l v->∃ sa c news,v= .slice sa l.length c/\news.length=l.length*ty.size/\cM (aN G ty) l news/\(l.length=0\/∃ ad,sa=some ad/\∀ j u,news[j]? =some u->w.cell? (ad.add j)=some u):=by
  intro l v ⟨a,cap,e,_,_,h3⟩
  rcases h3 with rfl | ⟨b,off,c,T,fz,rfl,hb,hs,hl⟩
  ·exact⟨a,cap,[],e,by simp,rfl,.inl rfl⟩
  ·exact⟨_,cap,_,e,hl.len (fun x cs hr=>aN.len hr),hl,.inr ⟨_,rfl,XE (hM.agr b _ hb) _⟩⟩
 cases x<;>simp only[Nt] at h
 case nils=>cases h;exact⟨none,0,[],hv,by simp,rfl,.inl rfl⟩
 case sl t' l'=>
  obtain⟨et,el⟩:=mo h
  subst et;subst el
  exact sl hv
 case row j=>
  split at h
  ·rename_i q hq
   obtain⟨et,el⟩:=mo h
   have hrow:=hM.rows j q hq
   obtain⟨qf,qe,qt,ql⟩:=q
   dsimp only at et el
   subst et;subst el
   unfold dI at hrow
   dsimp only at hrow
   split at hrow
   ·rw[hv.1];exact sl hrow
   ·obtain⟨xs,hown,hl,_⟩:=hrow
    have hown':=hown
    obtain⟨hlen,hn | ⟨g,cap,cur,e,_⟩⟩:=hown'
    ·exact⟨none,0,xs,by rw[hv.1,hn.1,hn.2],hlen,hl,.inl hn.2⟩
    ·exact⟨_,cap,xs,by rw[hv.1,e],hlen,hl,.inr ⟨_,rfl,fun j u hu=>hown.cells (g:=g) (by rw[e];rfl) j u hu⟩⟩
  ·cases h
 all_goals cases h
theorem aed {args:Array Operand} {argTypes:Array TypeId} {k:St->Option β} (ho:o.op= .call { callee:= .builtin .append,args,argTypes }) (h:dV X o S k=some r):∃ S',k S'=some r/\gY X.P o S S':=by
 unfold dV at h
 rw[ho] at h
 simp only at h
 split at h
 ·rename_i s x t t' d he hty hd
  split at h
  ·rename_i e ht
   split at h
   ·rename_i ty zc htyo hzc
    split at h
    ·cases h
    ·rename_i hc
     simp only[ahf,aj4,aha,ag9] at hc
     obtain⟨⟨⟨⟨⟨hc1,hc0⟩,hc2⟩,hc3⟩,hc4⟩,hc5⟩:=hc
     have hd2:d<2000:=by simp_all
     have htt:t=t':=ai8 hc2
     have hsz:cB X.P e=ty.size:=ai8 hc3
     have hzl:zc.length=ty.size:=ai8 hc5
     have hpos:0<ty.size:=by
      grind
     split at h
     ·rename_i l j l' hsrc hnew
      obtain⟨hchk,h⟩:=lg h
      simp only[ag1,ajS] at hchk
      refine⟨_,h,fun C G ρ w a Q hM=> ?_⟩
      obtain⟨ie,z,hie,hz,hzc'⟩:=vH hzc
      have hies:ie.size=ty.size:=by rw[<- hsz,cB,hie];rfl
      have hzs:z.cells.size=ty.size:=by rw[<- hzl, <- (hzc' G ρ).len];simp
      rw[hie] at hchk
      simp only[ajG,ajB] at hchk
      match hargs:args.toList,he with
      | [xs,xx],he=>
       simp only[aiv,aix,List.cons.injEq,ajJ] at he
       have e1:args= #[xs,xx]:=by grind
       have e2:argTypes= #[t,t]:=by grind
       have hvs:=one_cell (hM.tmps.ev xs) he.1
       have hvx:=one_cell (hM.tmps.ev xx) he.2
       obtain⟨sa,c,news,ex,hnl,hnr,hnc⟩:=abB hnew hM.toMem hvx
       have src:∃ us,w.ownsRow 0 e ty.size (a.eval xs) l.length us/\cM (aN G ty) l us/\(∀ b,(a.eval xs).ownBlock=some b->∃ i,j=some i/\ρ.own b=some (.inr i)):=by
        cases s<;>simp only[Si] at hsrc
        case nils=>
         cases hsrc
         refine⟨[], ?_,rfl,fun b hb=> ?_⟩
         ·rw[show a.eval xs=_ from hvs];exact World.ownsRow_nil w 0 e ty.size
         ·rw[show a.eval xs=_ from hvs] at hb;cases hb
        case row i _he=>
         split at hsrc
         ·rename_i q hq
          split at hsrc
          ·cases hsrc
          ·rename_i hqc
           simp only[ahf,aj4,aha,ag9] at hqc
           split at hsrc
           ·rename_i l0 hl0
            cases hsrc
            obtain⟨et,el⟩:=mo hl0
            have hrow:=hM.rows i q hq
            obtain⟨qf,qe,qt,ql⟩:=q
            dsimp only at et el hqc
            subst et;subst el
            have hee:qe=e:=ai8 hqc.2
            subst hee
            unfold dI at hrow
            rw[ajY (by simp[hqc.1])] at hrow
            obtain⟨us,hown,hl,ho'⟩:=hrow
            rw[hvs.1]
            exact⟨us,hown,hl,fun b hb=>⟨i,rfl,ho' b hb⟩⟩
           ·cases hsrc
         ·cases hsrc
        all_goals cases hsrc
       obtain⟨us,hown,hrep,hblk⟩:=src
       obtain⟨v',w',hr,ho',hg',hb'⟩:=TP (P:=X.P) (ty:=o.type) ht hie hz hies hzs hpos hown (sa:=sa) (c:=c) hnl hnc hnr.one hchk.2 hchk.1
       have hrun:(execOp a.eval o).run X.P w= .ok (.value v') w':=by
        simp[execOp,ho,resolve,invoke,builtin,e1,e2,ex,hr]
       unfold Oper.wp
       rw[hrun]
       show ∃ G' ρ',Mod C G' ρ' _ _ (a.put o.dst _)
       rw[hd]
       refine⟨G,_,hM.putRow (w':=w') (blk:=(a.eval xs).ownBlock) (jo:=j) (d:=d) (v:=v') (r:=⟨false,e,ty,l++l'⟩) ⟨hg'.os,hg'.output,hg'.size,hg'.block⟩ hblk ?_ hd2 hc1 rfl (us++news) ?_ (hrep.append hnr) hb'⟩
       ·intro i q hi
        cases j with
        | none=>exact⟨hi,by simp⟩
        | some j=>
         simp only[lJ] at hi
         split at hi
         ·cases hi
         ·rename_i hij;exact⟨hi,fun e=>hij (by cases e;rfl)⟩
       ·simpa using ho'
      | [],he | [_],he | _::_::_::_,he=>grind
     ·cases h
   ·cases h
  ·cases h
 ·cases h
end Go.Dn
namespace Go.Dn
variable {β:Type} {X:Cx} {o:Oper} {S:St} {r:β} {P0:Program} {C:Fr P0} {G:Gh} {ρ:Env} {w:World}
theorem Mod.setObj {a:Act} {w':World} {j b:Nat} {q:vS} {st:Nat->Int} (h:Mod C G ρ S w a) (hst:S.bN j=false\/st=ρ.st j) (ho:ρ.own b=some (.ob j)) (hna:∀ t l,j=bQ->q= .ar false t l->∃ t l,look S.objs bQ=some (.ar false t l)) (hg:Grow ρ w w' (some b)) (hq:sE G ⟨ρ.bx,ρ.rw,ρ.own,ρ.ob,fun i=>if i=j then st else ρ.st i⟩ w' j q):Mod C G ⟨ρ.bx,ρ.rw,ρ.own,ρ.ob,fun i=>if i=j then st else ρ.st i⟩ { S with objs:=(j,q)::S.objs } w' a:=by
 have hc:∀ c:CV,(c.bN j=true->S.bN j=true)->c.gZ ρ ⟨ρ.bx,ρ.rw,ρ.own,ρ.ob,fun i=>if i=j then st else ρ.st i⟩:=fun c hc=>
  ⟨fun _ _=>rfl,fun _ _=>rfl,fun _ _=>rfl,fun k hk=>by
    grind⟩
 have hsame:S.gZ ρ ⟨ρ.bx,ρ.rw,ρ.own,ρ.ob,fun i=>if i=j then st else ρ.st i⟩:=by
  refine⟨fun s hs=> ?_,fun p hp c hc'=>hc c fun hj=> ?_⟩
  ·have key:∀ c,(c.bN j=true->s.bN j=true)->CV.gZ ρ _ c:=fun c hc'=>hc c fun hj=>by
    simp only[St.bN,ahf,ahK];grind
   cases s with
   | v ag cs=>exact fun c hc'=>key c fun hj=>by simp only[SV.bN,ahK];grind
   | tup l=>exact fun p hp c hc'=>key c fun hj=>by simp only[SV.bN,ahK];grind
  ·simp only[St.bN,ahf,ahK];grind
 have hX:=((h.toMem.toX (some (.ob j))).grow hg (fun b' hb'=>by grind))
 have hX2:=hX.change (G':=G) (ρ':=⟨ρ.bx,ρ.rw,ρ.own,ρ.ob,fun i=>if i=j then st else ρ.st i⟩) (Gh.le_refl G) rfl hX.agr hX.old (fun _ _=>rfl) (fun _ _=>⟨rfl,rfl⟩) hsame.boxes hX.owned
  (fun _ _ _ _=>⟨rfl,id⟩) (fun _ _ _ _=>⟨rfl,fun _=>id⟩) (fun i r hi hne=>⟨rfl,by
    grind,fun _=>id⟩)
 have hX3:=hX2.state (S':={ S with objs:=(j,q)::S.objs }) (fun k cs hk _=>hk) (fun i r hi _=>hi) (fun i c hi hne=>by
  have:¬ j=i:=fun e=>hne (by rw[e])
  simpa [aD,this] using hi) (fun t l hl=>by
  simp only[aD] at hl
  grind)
 have hM:=hX3.toMem (fun k cs hk e=>by cases e) (fun k cs hk e=>by cases e) (fun i c hi e=>by
  cases e
  simp only[aD,aj0,Option.some.injEq] at hi
  grind)
 have hT:jO G _ S a:=h.tmps.congr (Gh.le_refl G) hsame
 exact { hM with tmps:=hT,defers:=h.defers }
theorem Grow.setObj {w:World} {b:Nat} {q:Obj}:Grow ρ w { w with heap:=w.heap.setIfInBounds b q } (some b):=
 ⟨rfl,rfl,by simp,fun i _ hi=>by
   grind⟩
theorem aR.setAt {α γ:Type} {R:α->γ->Prop} {l:List α} {r:List γ} (h:aR R l r) {x:α} {y:γ} (hxy:R x y) (n:Nat):aR R (l.set n x) (r.set n y):=h.set hxy n
theorem WU {P:Program} {t kt et:TypeId} {kk vv:Ty} {key:kk.den} {y:vv.den} {l:List (kk.den×vv.den)} {kv xv:Value} {b:Nat} {es:Array MapEntry} {clock:Nat} (ht:P.underlying t=some (.map kt et)) (hchk:jQ P kt kk=true) (hk:cF G kk key kv) (hx:cF G vv y xv) (hb:w.heap[b]? =some (.map es clock)) (hl:aR (AA G kk vv) l es.toList) (h1:∀ (i:Nat) (e:MapEntry),es.toList[i]? =some e->e.born<clock) (h2:es.toList.Pairwise (fun a b=>a.born<b.born)): ∃ es' clock',(Instr.mapUpdate t (.map (some b)) kv xv).run P w= .ok () { w with heap:=w.heap.setIfInBounds b (.map es' clock') }/\aR (AA G kk vv) (jG l key y) es'.toList/\ (∀ (i:Nat) (e:MapEntry),es'.toList[i]? =some e->e.born<clock')/\es'.toList.Pairwise (fun a b=>a.born<b.born):=by
 obtain⟨fr,hf1,hf2⟩:=S6 (w:=w) hchk hk hl
 have hs:=hf2.set y
 cases hf2 with
 | no hn=>
  simp only at hs
  refine⟨es.push { key:=kv,val:=xv,born:=clock },clock+1, ?_, ?_, ?_, ?_⟩
  ·simp[Instr.mapUpdate,run_underlying ht,Gr hb,EG hchk hk,hf1,TV _ hb]
  ·rw[hs,Array.toList_push]
   exact hl.append ⟨_,_,rfl,⟨hk,hx⟩,rfl⟩
  ·grind
  ·rw[Array.toList_push,List.pairwise_append]
   refine⟨h2,by simp,fun a ha b' hb'=> ?_⟩
   rcases aiJ.1 hb' with rfl
   obtain⟨i,hi⟩:=aiD.1 ha
   grind
 | yes i p e hp he hbq hne=>
  simp only at hs
  obtain⟨e',he',hr⟩:=hl.get hp
  rw[he] at he'
  cases he'
  have hkey:e.key=kv:=by
   have:=ack hchk hbq
   subst this
   exact Zz hchk hr.1 hk
  have hilt:i<es.size:=by
   grind
  have hgi:es[i]? =some e:=by grind
  have hmod:(es.modify i fun e=>{ e with key:=kv,val:=xv }).toList=es.toList.set i { e with key:=kv,val:=xv }:=by
   apply ahW
   grind
  refine⟨es.modify i fun e=>{ e with key:=kv,val:=xv },clock, ?_, ?_, ?_, ?_⟩
  ·have hkt:(Instr.keyThatStays (((es[i]?).map (·.key)).getD kv) kv).run P w= .ok kv w:=by
    simp[Instr.keyThatStays,hgi,hkey,sameBits_self hchk hk]
   simp only[Instr.mapUpdate,Sem.run_bind,run_underlying ht,Result.andThen_ok,Gr hb,EG hchk hk,hf1,hkt,TV _ hb]
  ·rw[hs,hmod]
   exact hl.setAt ⟨hk,hx⟩ i
  ·grind
  ·rw[hmod]
   clear hs hmod hgi hkey
   rw[aiN] at h2 ⊢
   grind
theorem ZB {t kt et:TypeId} {m kx x:Operand} {j:Nat} {kk vv:Ty} {l:List (kk.den×vv.den)} {key:kk.den} {y:vv.den} (ho:o.op= .mapUpdate t m kx x) (hd:o.dst=none) (ht:X.P.underlying t=some (.map kt et)) (hm:S.ev m= .v false [.mp j]) (hj:look S.objs j=some (.map kk vv l)) (hk:pG S [] kk (S.ev kx)=some key) (hx:pG S [] vv (S.ev x)=some y) (hchk:jQ X.P kt kk=true) (hst:S.bN j=false):gY X.P o S { S with objs:=(j,.map kk vv (jG l key y))::S.objs }:=by
 intro C G ρ w a Q hM
 have h1:=one_cell (hM.tmps.ev m) hm
 obtain⟨b,es,clock,h2,h3,h4,h5,h6,h7⟩:=hM.objs j _ hj
 have hkv:=qA hM.frozen (qK.nil _ _ _) hk (hM.tmps.ev kx)
 have hxv:=qA hM.frozen (qK.nil _ _ _) hx (hM.tmps.ev x)
 obtain⟨es',clock',hrun,g1,g2,g3⟩:=WU (w:=w) ht hchk hkv hxv h4 h5 (fun i e hi=>(h6 i e hi).2) h7
 unfold Oper.wp
 simp only[execOp,ho,show a.eval m= .map (some b) from h1.1.trans h2,Sem.run_bind,hrun,Result.andThen_ok,Sem.run_pure]
 simp only[Oper.upon,hd,Act.put]
 refine⟨G,_,hM.setObj (j:=j) (b:=b) (st:=fun i=>((es'.toList[i]?).map fun e=>(e.born:Int)).getD 0) (.inl hst) h3 (fun t l _ e=>by cases e) Grow.setObj ?_⟩
 refine⟨b,es',clock',h2,h3, ?_,g1,fun i e hi=>⟨?_,g2 i e hi⟩,g3⟩
 all_goals grind
theorem ac3 {t:TypeId} {x y:Operand} {h0 off:Nat} {ag:Bool} {cs:List CV} {k:St->Option β} (ho:o.op= .store t x y) (hd:o.dst=none) (hx:S.ev x= .v false [.hnd (some h0) off]) (hy:S.ev y= .v ag cs) (h:GL X.P t S h0 off cs k=some r): ∃ S',k S'=some r/\gY X.P o S S':=by
 unfold GL at h
 split at h
 ·rename_i ty l hl
  split at h
  ·cases h
  ·rename_i hc
   simp only[ahf,aj4,aha,ag9] at hc
   obtain⟨⟨hok,hlen⟩,hcv⟩:=hc
   have hlen':=ai8 hlen
   obtain⟨y0,hy0,h⟩:=bind_some h
   split at h
   ·rename_i cs' hset
    obtain⟨hle,hcs'⟩:=Gz hset
    split at h
    ·rename_i y' hp
     refine⟨_,h,fun C G ρ w a Q hM=> ?_⟩
     have hvx:=one_cell (hM.tmps.ev x) hx
     have hvy:=hM.tmps.ev y
     rw[hy] at hvy
     obtain⟨us,eu,hus,h1⟩:=D8 hvy hcv
     obtain⟨hj,hA⟩:=hM.objs bQ _ hl
     obtain⟨b,vs,T,g1,g2,g3,g4,g5⟩:=hA.2.2 h0 y0 hy0
     obtain⟨b',hb',e2⟩:=hvx
     rw[g1] at hb'
     cases hb'
     have hae:=jy ρ g5
     have hlu:=hus.len
     have hla:=hae.len
     have hnew:aR (br G ρ) cs' (vs.take off++us++vs.drop (off+us.length)):=by
      rw[hcs'];exact hae.splice hus
     have hrep:=RN hM.toMem.frozen hp hnew
     have hrun:=HO (P:=X.P) hok (off:=off) (v:=a.eval y) g4 eu (by omega) (by grind) h1
     unfold Oper.wp
     simp only[execOp,ho,e2,Sem.run_bind,hrun,Result.andThen_ok,Sem.run_pure]
     simp only[Oper.upon,hd,Act.put]
     have hlt:=(aia.1 hy0).1
     refine⟨G,_,hM.setObj (j:=bQ) (b:=b) (st:=ρ.st bQ) (.inr rfl) (g3 rfl) (fun t l _ _=>⟨_,_,hl⟩) Grow.setRow ⟨rfl,fun i b' hb'=>by simpa using hA.1 i b' hb',hA.2.1,fun i z hz=> ?_⟩⟩
     rw[aie] at hz
     split at hz
     ·rename_i ei
      subst ei
      simp only[Option.some.injEq] at hz
      subst hz
      exact⟨b,_,T,g1,nofun,fun _=>g3 rfl,setRow_heap w b _ _ T _ g4,hrep⟩
     ·rename_i ei
      obtain⟨b2,vs2,T2,f1,f2,f3,f4,f5⟩:=hA.2.2 i z hz
      have hbne:b2≠b:=fun e=>ei (hA.2.1 h0 i b g1 (by grind))
      exact⟨b2,vs2,T2,f1,nofun,fun _=>f3 rfl,(setRow_other w b b2 _ hbne).trans f4,f5⟩
    ·cases h
   ·cases h
 ·cases h
theorem RZ {G G':Gh} {ρ ρ':Env} {k h:Nat} (hG:G.le G') (hh:G'.hnd h=some (ρ.bx k)) (h1:ρ'.bx=ρ.bx) (h2:ρ'.rw=ρ.rw) (h3:ρ'.ob=ρ.ob) (h4:ρ'.st=ρ.st) {c:CV} {v:Value} (hv:br G ρ c v):br G' ρ' (c.BD k h) v:=by
 have same:br G' ρ' c v:=br.congr hG (JZ h1 h2 h3 h4 c) hv
 cases c with
 | ref j o=>
  simp only[CV.BD]
  cases hb:Nat.beq j k with
  | true=>
   have:=ai8 hb
   subst this
   exact⟨ρ.bx j,hh,hv⟩
  | false=>grind
 | _=>exact same
theorem aR.LV {α γ δ:Type} {R:α->γ->Prop} {R':δ->γ->Prop} (f:α->δ) (h:∀ x y,R x y->R' (f x) y):∀ {l:List α} {r:List γ},aR R l r->aR R' (l.map f) r
 | [],_,hh=>hh
 | _::_,_,⟨y,s,e,hx,hl⟩=>⟨y,s,e,h _ _ hx,hl.LV f h⟩
theorem Y3 {G G':Gh} {ρ ρ':Env} {k h:Nat} (hG:G.le G') (hh:G'.hnd h=some (ρ.bx k)) (h1:ρ'.bx=ρ.bx) (h2:ρ'.rw=ρ.rw) (h3:ρ'.ob=ρ.ob) (h4:ρ'.st=ρ.st) {s:SV} {v:Value} (hv:bK G ρ s v):bK G' ρ' (s.BD k h) v:=by
 have xv:∀ (a:Bool) (cs:List CV) (v:Value),oz G ρ a cs v->oz G' ρ' a (cs.map (CV.BD k h)) v:=by
  intro a cs v hx
  cases a with
  | true=>obtain⟨vs,e,hl⟩:=hx;exact⟨vs,e,hl.LV (CV.BD k h) fun c y hc=>RZ hG hh h1 h2 h3 h4 hc⟩
  | false=>
   match cs,hx with
   | [c],hx=>exact RZ hG hh h1 h2 h3 h4 hx
 cases s with
 | v a cs=>exact xv a cs v hv
 | tup l=>
  obtain⟨vs,e,hl⟩:=hv
  exact⟨vs,e,hl.LV (fun p:Bool×List CV=>(p.1,p.2.map (CV.BD k h))) fun p y hp=>xv p.1 p.2 y hp⟩
theorem V3 {α γ:Type} (f:α->γ):∀ (l:List (Nat×α)) (k:Nat),look (l.map fun p=>(p.1,f p.2)) k=(look l k).map f
 | [],k=>rfl
 | (j,x)::l,k=>by
  rw[aiv,aD,aD,V3 f l k]
  grind
theorem Mod.GF {a:Act} (h:Mod C G ρ S w a) (k:Nat):∃ G' ρ',Mod C G' ρ' (GF S k) w a:=by
 unfold Dn.GF
 split
 ·rename_i t l cs har hbx
  simp only
  split
  ·grind
  ·rename_i hcond
   simp only[ahf,aj4,aha,ag9] at hcond
   split
   ·rename_i x hp
    obtain⟨G1,ρ1,hfz,hM⟩:=h.freeze (kP cs)
    generalize hS1:aX S (kP cs)=S1 at hM hp hcond
    have har1:look S1.objs bQ=some (.ar false t l):=by rw[<- hS1];exact har
    have hbx1:look S1.boxes k=some cs:=by rw[<- hS1];exact hbx
    obtain⟨hown,vs,T,hw,hvs⟩:=hM.boxes k cs hbx1
    obtain⟨_,hA⟩:=hM.objs bQ _ har1
    let G2:Gh:=⟨G1.blk,fun i=>if i=l.length then some (ρ1.bx k) else G1.hnd i⟩
    let ρ2:Env:=⟨ρ1.bx,ρ1.rw,fun b=>if b=ρ1.bx k then some (.ob bQ) else ρ1.own b,ρ1.ob,ρ1.st⟩
    have hle:G1.le G2:=⟨fun _ _ hb=>hb,fun i b hb=>by
     have:=hA.1 i b hb
     grind⟩
    have hh2:G2.hnd l.length=some (ρ1.bx k):=by simp[G2]
    have hkeep:∀ b o,ρ1.own b=some o->o≠ .inl k->ρ2.own b=some o:=fun b o hb hne=>by
     grind
    refine⟨G2,ρ2,{ agr:=hM.agr,le0:=Gh.le_trans hM.le0 hle,old:=hM.old,frame:=hM.frame,size:=hM.size,os:=hM.os,output:=hM.output,pin:=hM.pin,pinR:=hM.pinR,owned:= ?_,boxes:= ?_,rows:= ?_,objs:= ?_,hndI:=fun hn=>absurd har1 ((hM.hndI hn).2 t l),tmps:= ?_,defers:=hM.defers }⟩
    ·intro b o ho
     by_cases e:b=ρ1.bx k
     ·rw[e];exact hM.owned _ _ hown
     ·simp only[ρ2,ajY e] at ho;exact hM.owned b o ho
    ·intro k' cs' hk'
     rw[V3,lJ] at hk'
     split at hk'
     ·cases hk'
     ·rename_i hne
      cases hl':look S1.boxes k' with
      | none=>grind
      | some c0=>
       rw[hl'] at hk'
       simp only[ajG,Option.some.injEq] at hk'
       subst hk'
       obtain⟨o1,vs1,T1,w1,v1⟩:=hM.boxes k' c0 hl'
       exact⟨hkeep _ _ o1 (by grind),vs1,T1,w1,v1.LV (CV.BD k l.length) fun c y hc=>RZ (ρ:=ρ1) (ρ':=ρ2) hle hh2 rfl rfl rfl rfl hc⟩
    ·intro j q hj
     exact dI.congr (ρ:=ρ1) (ρ':=ρ2) hle rfl (fun b hb=>hkeep b _ hb (by simp)) (hM.rows j q hj)
    ·intro j q hj
     simp only[aD] at hj
     split at hj
     ·rename_i ej
      subst ej
      cases hj
      refine⟨rfl,fun i b hb=> ?_,fun i i' b hb hb'=> ?_,fun i z hz=> ?_⟩
      ·simp only[G2] at hb
       split at hb
       ·grind
       ·have:=hA.1 i b hb;grind
      ·have old:∀ i b,G1.hnd i=some b->b≠ρ1.bx k:=fun i b hb e=>by
        have hlt:=hA.1 i b hb
        obtain⟨b',vs',T',f1,f2,f3,_⟩:=hA.2.2 i l[i] (ah8 hlt)
        grind
       simp only[G2] at hb hb'
       split at hb
       ·grind
       ·split at hb'
        ·grind
        ·exact hA.2.1 i i' b hb hb'
      ·rw[ah2] at hz
       split at hz
       ·rename_i hlt
        obtain⟨b,vs',T',f1,f2,f3,f4,f5⟩:=hA.2.2 i z hz
        exact⟨b,vs',T',hle.hnd i b f1,nofun,fun _=>hkeep b _ (f3 rfl) (by simp),f4,aN.mono hle t z _ f5⟩
       ·rename_i hge
        simp only[List.getElem?_singleton] at hz
        split at hz
        ·rename_i ei
         cases hz
         have:i=l.length:=by omega
         subst this
         exact⟨ρ1.bx k,vs,T,hh2,nofun,fun _=>by simp[ρ2],hw,aN.mono hle t x _ (RN hM.toMem.frozen hp hvs)⟩
        grind
     ·rename_i hne
      have hq:=hM.objs j q hj
      cases q with
      | map kk vv ll=>
       obtain⟨b,es,clock,h1,h2,h3,h4,h5,h6⟩:=hq
       exact⟨b,es,clock,h1,hkeep b _ h2 (by simp),h3,h4.mono fun x y hxy=>hxy.mono hle,h5,h6⟩
      | ar fz t' l'=>exact absurd hq.1.symm hne
    ·refine⟨by simpa using hM.tmps.1,fun i s hi=> ?_⟩
     simp only[aib] at hi
     cases hs:S1.tmps[i]? with
     | none=>rw[hs] at hi;cases hi
     | some s0=>
      rw[hs] at hi
      simp only[ajG,Option.some.injEq] at hi
      subst hi
      exact Y3 (ρ:=ρ1) (ρ':=ρ2) hle hh2 rfl rfl rfl rfl (hM.tmps.2 i s0 hs)
   grind
 grind
theorem Mod.ZU {a:Act}:∀ (ks:List Nat) {G:Gh} {ρ:Env} {S:St},Mod C G ρ S w a->∃ G' ρ',Mod C G' ρ' (ks.foldl Dn.GF S) w a
 | [],G,ρ,S,h=>⟨G,ρ,h⟩
 | k::ks,G,ρ,S,h=>by
  obtain⟨G1,ρ1,h1⟩:=h.GF k
  exact Mod.ZU ks h1
theorem Mod.mZ {a:Act}:∀ (l:List SV) {G:Gh} {ρ:Env} {S:St},Mod C G ρ S w a->∃ G' ρ',Mod C G' ρ' (Dn.mZ S l) w a
 | [],G,ρ,S,h=>⟨G,ρ,h⟩
 | .v _ cs::r,G,ρ,S,h=>by
  obtain⟨G1,ρ1,h1⟩:=Mod.ZU (acW cs) h
  exact Mod.mZ r h1
 | .tup _::r,G,ρ,S,h=>Mod.mZ r h
theorem gY.intern {P:Program} {S':St} (l:List SV) (h:gY P o (mZ S l) S'):gY P o S S':=fun C G ρ w a Q hM=>by
 obtain⟨G1,ρ1,hM1⟩:=Mod.mZ l hM
 exact h C G1 ρ1 w a Q hM1
end Go.Dn
namespace Go.Dn
variable {β:Type} {X:Cx} {o:Oper} {S:St} {r:β} {P0:Program} {C:Fr P0} {G:Gh} {ρ:Env} {w:World}
theorem bE.beq_eq {a b:bE}:bE.beq a b=true↔a=b:=by
 cases a<;>cases b<;>simp[bE.beq]
theorem LR (l:List (bE×Nat)) (o x:bE) (n:Nat):cq ((o,n)::l) x=if o=x then some n else cq l x:=by
 simp only[cq]
 by_cases h:o=x
 ·subst h;simp[bE.beq_eq.2 rfl]
 ·have:bE.beq o x=false:=by
   cases hb:bE.beq o x with
   | false=>rfl
   | true=>exact absurd (bE.beq_eq.1 hb) h
  grind
theorem acv {l:List (bE×Nat)} {o:bE} {n:Nat} (h:cq l o=some n):(o,n)∈l:=by
 induction l with
 | nil=>simp[cq] at h
 | cons p r ih=>
  obtain⟨o',n'⟩:=p
  rw[LR] at h
  grind
theorem LS {l:List (bE×Nat)} {o:bE} {n:Nat} (h:(o,n)∈l):(cq l o).isSome=true:=by
 induction l with
 | nil=>simp at h
 | cons p r ih=>
  obtain⟨o',n'⟩:=p
  rw[LR]
  grind
theorem qR {l:List (bE×Nat)} {o:bE} {n:Nat} (hd:BJ l=false) (h:(o,n)∈l):cq l o=some n:=by
 induction l with
 | nil=>simp at h
 | cons p r ih=>
  obtain⟨o',n'⟩:=p
  simp only[BJ,ahe] at hd
  rw[LR]
  grind
theorem Lp {x:Nat} {l:List Nat} (h:dup (x::l)=false):x∉l/\dup l=false:=by
 simp only[dup,ahe,ahJ] at h
 refine⟨fun hm=> ?_,h.2⟩
 have:=h.1 x hm
 simp at this
theorem Qq {l:List (bE×Nat)} {o o':bE} {n:Nat} (hd:dup (l.map (·.2))=false) (h:(o,n)∈l) (h':(o',n)∈l):o=o':=by
 induction l with
 | nil=>simp at h
 | cons p r ih=>
  rw[aiv] at hd
  obtain⟨h1,h2⟩:=Lp hd
  grind
theorem uy {α:Type} {f:CV->Option α} {cs r:List CV} {x:α} (h:zm f cs=some (x,r)):r=cs.drop 1:=by
 cases cs with
 | nil=>cases h
 | cons c q=>
  simp only[zm] at h
  grind
theorem Dc {S:St} {fb:List Nat}:∀ (t:Ty) {cs r:List CV} {x:t.den},jd S fb t cs=some (x,r)->r=cs.drop t.size
 | .int _,_,_,_,h=>uy h
 | .bool,_,_,_,h=>uy h
 | .str,_,_,_,h=>uy h
 | .unit,_,_,_,h=>by simp only[jd] at h;cases h;rfl
 | .pair a b,cs,r,x,h=>by
  simp only[jd] at h
  split at h
  ·rename_i y q h1
   split at h
   ·rename_i z q' h2
    cases h
    rw[Dc b h2,Dc a h1,ahQ];rfl
   ·cases h
  ·cases h
 | .st t,_,_,_,h=>Dc t h
 | .slice _,_,_,_,h=>uy h
 | .ptr _,_,_,_,h=>uy h
 | .clo _ _,_,_,_,h=>uy h
 | .hnd,_,_,_,h=>uy h
def fe (ρ:Env) (ow:List (bE×Nat)) (b:Nat):Option Nat:=(ρ.own b).bind (cq ow)
section
variable {V:St} {G2:Gh} {ow:List (bE×Nat)} (hM:Mem C G ρ V w) (hle:G.le G2) (hh:G2.hnd=G.hnd)
include hM hle
theorem xI {e:TypeId} {t:Ty} {c:CV} {l:List t.den} {v:Value} {n:Nat} (h:mH V e t c=some l) (hv:br G ρ c v) (ho:∀ p,p∈s7 n c->cq ow p.1=some p.2): uO G2 w e t l v/\∀ b,v.ownBlock=some b->fe ρ ow b=some n:=by
 cases c<;>simp only[mH] at h<;>try cases h
 case row j=>
  split at h
  ·rename_i q hq
   split at h
   ·cases h
   ·rename_i hc
    simp only[ahf,aj4,aha,ag9] at hc
    obtain⟨et,el⟩:=mo h
    have hrow:=hM.rows j q hq
    obtain⟨qf,qe,qt,ql⟩:=q
    dsimp only at et el hc
    subst et;subst el
    have hee:qe=e:=ai8 hc.2
    subst hee
    unfold dI at hrow
    rw[ajY (by simp[hc.1])] at hrow
    obtain⟨xs,hown,hl,hb⟩:=hrow
    have hv1:=hv.1
    subst hv1
    refine⟨⟨xs,hown,hl.mono (aN.mono hle _)⟩,fun b hb'=> ?_⟩
    have:=hb b hb'
    simp only[fe,this,ajA]
    exact ho (.inr j,n) (by simp[s7])
  ·cases h
 case nils=>
  have hv':v= .slice none 0 0:=hv
  subst hv'
  exact⟨⟨[],World.ownsRow_nil w 0 e t.size,rfl⟩,fun b hb=>by cases hb⟩
theorem EK {kk vv:Ty} {c:CV} {l:List (kk.den×vv.den)} {v:Value} {n:Nat} (h:uz V kk vv c=some l) (hv:br G ρ c v) (ho:∀ p,p∈s7 n c->cq ow p.1=some p.2): ∃ b,v= .map (some b)/\fe ρ ow b=some n/\zY G2 w kk vv l b:=by
 cases c<;>simp only[uz] at h<;>try cases h
 case mp j=>
  split at h
  ·rename_i k' v' l' hl
   obtain⟨e1,e2,e3⟩:=K8 h
   subst e1;subst e2;subst e3
   obtain⟨b,es,clock,h1,h2,h3,h4,h5,h6⟩:=hM.objs j _ hl
   refine⟨b,hv.1.trans h1, ?_,es,clock,h3,h4.mono fun x y hxy=>hxy.mono hle,fun i e hi=>(h5 i e hi).2,h6⟩
   simp only[fe,h2,ajA]
   exact ho (.ob j,n) (by simp[s7])
  ·cases h
theorem Fh:∀ {l:List OT} {cs:List CV} {x:rE l} {vs:List Value} {n:Nat},tc V l cs=some x->aR (br G ρ) cs vs->(∀ p,p∈vm n l cs->cq ow p.1=some p.2)->EE G2 w (fe ρ ow) n l x vs
 | [],[],x,vs,n,h,hv,_=>hv
 | [],_::_,x,vs,n,h,hv,_=>by simp[tc] at h
 | .val t::r,cs,x,vs,n,h,hv,ho=>by
  simp only[tc] at h
  split at h
  ·rename_i y cs' hy
   split at h
   ·rename_i z hz
    cases h
    obtain⟨a,b,e,h1,h2⟩:=aaf hM.frozen t cs y cs' vs hy hv
    have hr:=Dc t hy
    refine⟨a,b,e,aN.mono hle t y a h1,Fh hz h2 (fun p hp=>ho p ?_)⟩
    simp only[vm, <- hr];exact hp
   ·cases h
  ·cases h
 | .row e t::r,[],x,vs,n,h,hv,_=>by simp[tc] at h
 | .row e t::r,c::cs,x,vs,n,h,⟨v,us,ev,hc,hcs⟩,ho=>by
  simp only[tc] at h
  split at h
  ·rename_i y hy
   split at h
   ·rename_i z hz
    cases h
    subst ev
    have h1:=xI (n:=n) hM hle hy hc (fun p hp=>ho p (by simp[vm,hp]))
    exact⟨[v],us,rfl,⟨v,rfl,h1⟩,Fh hz hcs (fun p hp=>ho p (by simp[vm,hp]))⟩
   ·cases h
  ·cases h
 | .map k v'::r,[],x,vs,n,h,hv,_=>by simp[tc] at h
 | .map k v'::r,c::cs,x,vs,n,h,⟨v,us,ev,hc,hcs⟩,ho=>by
  simp only[tc] at h
  split at h
  ·rename_i y hy
   split at h
   ·rename_i z hz
    cases h
    subst ev
    obtain⟨b,h1,h2,h3⟩:=EK (n:=n) hM hle hy hc (fun p hp=>ho p (by simp[vm,hp]))
    subst h1
    exact⟨[_],us,rfl,⟨b,rfl,h2,h3⟩,Fh hz hcs (fun p hp=>ho p (by simp[vm,hp]))⟩
   ·cases h
  ·cases h
include hh
theorem TD {fb:List Nat} (hF:mc G2 ρ V) (hL:qK G2 ρ V fb) {p:PM} (hA:(∃ t,p= .arR t)->∀ fz t l,look V.objs bQ=some (.ar fz t l)->Az G2 w (fun _=>True) true t l) {s:SV} {x:p.den} {v:Value} {i:Nat} (h:Cn V fb p s=some x) (hv:p.arg=true->bK G ρ s v) (ho:∀ q,q∈nO V i p s->cq ow q.1=some q.2):Pc G2 w (fe ρ ow) i p x v:=by
 have cv:∀ {c:CV},yy s=some c->bK G ρ s v->br G ρ c v:=by
  intro c hc hs
  unfold yy at hc
  split at hc
  ·cases hc;exact hs
  grind
 cases p with
 | val t=>exact qA hF hL h (bK.congr hle (.refl ρ s) (hv rfl))
 | row e t=>
  simp only[Cn] at h
  split at h
  ·rename_i c hc
   exact xI hM hle h (cv hc (hv rfl)) (fun q hq=>ho q (by simp only[nO,hc];exact hq))
  ·cases h
 | mrow e t=>
  simp only[Cn] at h
  split at h
  ·rename_i c hc
   exact xI hM hle h (cv hc (hv rfl)) (fun q hq=>ho q (by simp only[nO,hc];exact hq))
  ·cases h
 | map k e=>
  simp only[Cn] at h
  split at h
  ·rename_i c hc
   exact EK hM hle h (cv hc (hv rfl)) (fun q hq=>ho q (by simp only[nO,hc];exact hq))
  ·cases h
 | box l=>
  simp only[Cn] at h
  split at h
  ·rename_i k hk
   split at h
   ·rename_i cs hcs
    obtain⟨h1,vs,T,h2,h3⟩:=hM.boxes k cs hcs
    have hp:v= .pointer (some ⟨ρ.bx k,0,none⟩):=by
     have hs:=hv rfl
     unfold vj at hk
     split at hk
     ·split at hk
      ·rename_i hb
       cases hk
       have:=ai8 hb
       subst this
       exact hs
      grind
     grind
    refine⟨ρ.bx k,vs,T,hp, ?_,h2,Fh hM hle h h3 (fun q hq=>ho q (by simp only[nO,hk,hcs];grind))⟩
    simp only[fe,h1,ajA]
    exact ho (.inl k,64*i) (by simp[nO,hk])
   ·cases h
  ·cases h
 | ar t=>
  obtain⟨f,hl,hf⟩:=zl (show A7 V false t=some x from h)
  have:=hf rfl
  subst this
  obtain⟨_,h1,h2,h3⟩:=hM.objs bQ _ hl
  refine⟨fun i b hb=>h1 i b (by grind),fun i i' b hb hb'=>h2 i i' b (by grind) (by grind),fun n z hz=> ?_⟩
  obtain⟨b,vs,T,g1,g2,g3,g4,g5⟩:=h3 n z hz
  refine⟨b,vs,T,by grind,nofun,fun _=> ?_,g4,aN.mono hle t z _ g5⟩
  have:=g3 rfl
  simp only[fe,this,ajA]
  exact ho (.ob bQ,64*i) (by simp[nO])
 | arR t=>
  obtain⟨f,hl,_⟩:=zl (show A7 V true t=some x from h)
  exact hA ⟨t,rfl⟩ f t x hl
theorem OQ {fb:List Nat} (hF:mc G2 ρ V) (hL:qK G2 ρ V fb):∀ {ps:List PM} {args:List SV} {x:eL ps} {vs:List Value} (i:Nat),((C5 ps=true)->∀ fz t l,look V.objs bQ=some (.ar fz t l)->Az G2 w (fun _=>True) true t l)-> (∀ q,q∈iM V i ps args->cq ow q.1=some q.2)->lQ V fb ps args=some x->aR (bK G ρ) args vs->kF G2 w (fe ρ ow) i ps x vs
 | [],[],x,vs,i,_,_,h,hv=>by cases hv;rfl
 | [],_::_,x,vs,i,_,_,h,hv=>by simp[lQ] at h
 | p::r,args,x,vs,i,hA,ho,h,hv=>by
  simp only[lQ] at h
  simp only[iM] at ho
  have hA':C5 r=true->∀ fz t l,look V.objs bQ=some (.ar fz t l)->Az G2 w (fun _=>True) true t l:=fun hr=>hA (by cases p<;>first | rfl | exact hr)
  split at h
  ·rename_i s hs
   rw[hs] at ho
   split at h
   ·rename_i y hy
    split at h
    ·rename_i z hz
     cases h
     have hAp:(∃ t,p= .arR t)->∀ fz t l,look V.objs bQ=some (.ar fz t l)->Az G2 w (fun _=>True) true t l:=fun ⟨t,e⟩=>hA (by subst e;rfl)
     cases hp:p.arg with
     | true=>
      rw[hp] at hs hz ho
      simp only[ajO] at hs hz ho
      match args,hv,hs,hz with
      | s'::q,⟨v,us,e,hsv,hq⟩,hs,hz=>
       simp only[List.head?_cons,Option.some.injEq] at hs
       subst hs
       exact⟨v,us,fun _=>e,fun e=>(by grind),TD hM hle hh hF hL hAp hy (fun _=>hsv) (fun q hq=>ho q (by simp[hq])),OQ hF hL (i+1) hA' (fun q hq=>ho q (by grind)) hz hq⟩
     | false=>
      rw[hp] at hs hz ho
      simp only[ajN] at hs hz ho
      exact⟨undef,vs,fun e=>(by grind),fun _=>rfl,TD hM hle hh hF hL hAp hy (fun e=>(by grind)) (fun q hq=>ho q (by simp[hq])),OQ hF hL (i+1) hA' (fun q hq=>ho q (by simp[hq])) hz hv⟩
    ·cases h
   ·cases h
  ·cases h
end
end Go.Dn
namespace Go.Dn
variable {β:Type} {X:Cx} {o:Oper} {S:St} {r:β} {P0:Program} {C:Fr P0} {G:Gh} {ρ:Env} {w:World}
def Asg (ρ:Env) (w:World):bE->Value->Prop
 | .inl k,v=>v= .pointer (some ⟨ρ.bx k,0,none⟩)
 | .inr j,v=>ρ.rw j=v
 | .ob j,v=>∀ b,v= .map (some b)->ρ.ob j= .map (some b)/\∀ es clock,w.heap[b]? =some (.map es clock)->∀ (i:Nat) (e:MapEntry),es.toList[i]? =some e->(e.born:Int)=ρ.st j i
section
variable {G' G3:Gh} {w':World} {ow':Nat->Option Nat} {ρ3:Env}
theorem cM.of_flat (hh:∀ h b,G'.hnd h=some b->G3.hnd h=some b) {t:Ty} (hf:t.flat=true):∀ {l:List t.den} {cs:List Value},cM (aN G' t) l cs->cM (aN G3 t) l cs
 | [],_,h=>h
 | _::_,_,⟨c,r,e,hx,hl⟩=>⟨c,r,e,aN.of_flat hh hf hx,cM.of_flat hh hf hl⟩
def Trans (G' G3:Gh) (flat:Bool):Prop:=(∀ h b,G'.hnd h=some b->G3.hnd h=some b)/\(flat=true\/G'.le G3)
theorem Trans.left {a b:Bool} (h:Trans G' G3 (a&&b)):Trans G' G3 a:=⟨h.1,h.2.imp (fun e=>by grind) id⟩
theorem Trans.right {a b:Bool} (h:Trans G' G3 (a&&b)):Trans G' G3 b:=⟨h.1,h.2.imp (fun e=>by grind) id⟩
theorem Trans.af6 {t:Ty} (h:Trans G' G3 t.flat) {x:t.den} {cs:List Value} (hx:aN G' t x cs):aN G3 t x cs:=by
 rcases h.2 with hf | hle
 ·exact hx.of_flat h.1 hf
 ·exact aN.mono hle t x cs hx
theorem Trans.RR {t:Ty} (h:Trans G' G3 t.flat) {x:t.den} {v:Value} (hx:cF G' t x v):cF G3 t x v:=by
 rcases h.2 with hf | hle
 ·exact hx.of_flat h.1 hf
 ·exact hx.mono hle
theorem Trans.YH {t:Ty} (h:Trans G' G3 t.flat) {l:List t.den} {cs:List Value} (hx:cM (aN G' t) l cs):cM (aN G3 t) l cs:=by
 rcases h.2 with hf | hle
 ·exact hx.of_flat h.1 hf
 ·exact hx.mono (aN.mono hle t)
theorem uO.ok {e:TypeId} {t:Ty} {l:List t.den} {v:Value} {j:Nat} (hT:Trans G' G3 t.flat) (h:uO G' w' e t l v) (hv:ρ3.rw j=v) (ho:∀ b,v.ownBlock=some b->ρ3.own b=some (.inr j)):dI G3 ρ3 w' j ⟨false,e,t,l⟩:=by
 obtain⟨xs,h1,h2⟩:=h
 unfold dI
 rw[ajY (by simp)]
 subst hv
 exact⟨xs,h1,hT.YH h2,ho⟩
theorem uO.isSlice {e:TypeId} {t:Ty} {l:List t.den} {v:Value} (h:uO G' w' e t l v):∃ a n c,v= .slice a n c:=by
 obtain⟨xs,h1,h2⟩:=h
 rcases h1.2 with ⟨e,_⟩ | ⟨g,cap,cur,e,_⟩
 all_goals grind
theorem zY.ok {k v:Ty} {l:List (k.den×v.den)} {b j:Nat} (hT:Trans G' G3 (k.flat&&v.flat)) (h:zY G' w' k v l b) (ha:Asg ρ3 w' (.ob j) (.map (some b))) (ho:ρ3.own b=some (.ob j)):sE G3 ρ3 w' j (.map k v l)/\ρ3.ob j= .map (some b):=by
 obtain⟨es,clock,h1,h2,h3,h4⟩:=h
 obtain⟨ha,hs⟩:=ha b rfl
 exact⟨⟨b,es,clock,ha,ho,h1,h2.mono fun x y hxy=>⟨hT.left.RR hxy.1,hT.right.RR hxy.2⟩,fun i e hi=>⟨hs es clock h1 i e hi,h3 i e hi⟩,h4⟩,ha⟩
theorem LZ {d i:Nat}:∀ {l:List OT} {c:Nat} {x:rE l} {vs:List Value},Trans G' G3 (xo l)->EE G' w' ow' (64*i+c) l x vs-> ∃ vals:List (bE×Value),vals.map (·.1)=(gR d i c l).map (·.1)/\∀ ρ3:Env,(∀ o v,(o,v)∈vals->Asg ρ3 w' o v)->(∀ o n,(o,n)∈gR d i c l->∀ b,ow' b=some n->ρ3.own b=some o)-> aR (br G3 ρ3) (ON d i c l x) vs/\(∀ j q,look (xq d i c l x) j=some q->dI G3 ρ3 w' j q)/\(∀ j q,look (qU d i c l x) j=some q->sE G3 ρ3 w' j q)
 | [],c,x,vs,_,h=>⟨[],rfl,fun ρ3 _ _=>⟨h,fun j q hj=>by simp[xq,look] at hj,fun j q hj=>by simp[qU,look] at hj⟩⟩
 | .val t::r,c,x,vs,hT,⟨a,b,e,h1,h2⟩=>by
  obtain⟨vals,hv,hr⟩:=LZ (d:=d) (i:=i) (c:=c+1) (l:=r) (Trans.right (a:=t.flat) hT) h2
  refine⟨vals,hv,fun ρ3 hA hO=> ?_⟩
  obtain⟨g1,g2,g3⟩:=hr ρ3 hA hO
  subst e
  exact⟨(jy ρ3 (Trans.af6 (Trans.left (b:=xo r) hT) h1)).append g1,g2,g3⟩
 | .row e' t::r,c,x,vs,hT,⟨a,b,e,⟨v,ea,h1,h1'⟩,h2⟩=>by
  obtain⟨vals,hv,hr⟩:=LZ (d:=d) (i:=i) (c:=c+1) (l:=r) (Trans.right (a:=t.flat) hT) h2
  refine⟨(.inr (nid d i c),v)::vals,by simp[gR,hv],fun ρ3 hA hO=> ?_⟩
  obtain⟨g1,g2,g3⟩:=hr ρ3 (fun o v h=>hA o v (by simp[h])) (fun o n h=>hO o n (by simp[gR,h]))
  have hav:ρ3.rw (nid d i c)=v:=hA (.inr (nid d i c)) v (by simp)
  subst e;subst ea
  refine⟨⟨v,b,rfl,⟨hav.symm,h1.isSlice⟩,g1⟩,fun j q hj=> ?_,g3⟩
  simp only[xq,aD] at hj
  split at hj
  ·rename_i ej
   subst ej
   cases hj
   exact h1.ok (Trans.left (b:=xo r) hT) hav (fun b' hb'=>hO _ _ (by simp[gR]) b' (h1' b' hb'))
  grind
 | .map k v'::r,c,x,vs,hT,⟨a,b,e,⟨bb,ea,h1,h1'⟩,h2⟩=>by
  obtain⟨vals,hv,hr⟩:=LZ (d:=d) (i:=i) (c:=c+1) (l:=r) (Trans.right (a:=k.flat&&v'.flat) hT) h2
  refine⟨(.ob (nid d i c),.map (some bb))::vals,by simp[gR,hv],fun ρ3 hA hO=> ?_⟩
  obtain⟨g1,g2,g3⟩:=hr ρ3 (fun o v h=>hA o v (by simp[h])) (fun o n h=>hO o n (by simp[gR,h]))
  have ho:ρ3.own bb=some (.ob (nid d i c)):=hO _ _ (by simp[gR]) bb h1
  obtain⟨m1,m2⟩:=h1'.ok (Trans.left (b:=xo r) hT) (hA (.ob (nid d i c)) (.map (some bb)) (by simp)) ho
  subst e;subst ea
  refine⟨⟨_,b,rfl,⟨m2.symm,bb,rfl⟩,g1⟩,g2,fun j q hj=> ?_⟩
  simp only[qU,aD] at hj
  grind
theorem BT {d i:Nat}:∀ {l:List OT} {c:Nat} {x:rE l},(∀ j n,(.inr j,n)∈gR d i c l->(look (xq d i c l x) j).isSome=true)/\(∀ j n,(.ob j,n)∈gR d i c l->(look (qU d i c l x) j).isSome=true)/\ (∀ k n,(.inl k,n)∉gR d i c l)
 | [],c,x=>⟨fun j n h=>by simp[gR] at h,fun j n h=>by simp[gR] at h,fun j n h=>by simp[gR] at h⟩
 | .val t::r,c,x=>by
  obtain⟨h1,h2,h3⟩:=BT (d:=d) (i:=i) (l:=r) (c:=c+1) (x:=x.2)
  exact⟨h1,h2,h3⟩
 | .row e t::r,c,x=>by
  obtain⟨h1,h2,h3⟩:=BT (d:=d) (i:=i) (l:=r) (c:=c+1) (x:=x.2)
  refine⟨fun j n h=> ?_,fun j n h=> ?_,fun k n h=> ?_⟩
  ·simp only[gR,aiz,Prod.mk.injEq,bE.inr.injEq] at h
   simp only[xq,aD]
   grind
  ·simp only[gR,aiz,Prod.mk.injEq,reduceCtorEq,ajV,ajW] at h
   exact h2 j n h
  ·simp only[gR,aiz,Prod.mk.injEq,reduceCtorEq,ajV,ajW] at h
   grind
 | .map kk vv::r,c,x=>by
  obtain⟨h1,h2,h3⟩:=BT (d:=d) (i:=i) (l:=r) (c:=c+1) (x:=x.2)
  refine⟨fun j n h=> ?_,fun j n h=> ?_,fun k n h=> ?_⟩
  ·simp only[gR,aiz,Prod.mk.injEq,reduceCtorEq,ajV,ajW] at h
   exact h1 j n h
  ·simp only[gR,aiz,Prod.mk.injEq,bE.ob.injEq] at h
   simp only[qU,aD]
   grind
  ·simp only[gR,aiz,Prod.mk.injEq,reduceCtorEq,ajV,ajW] at h
   grind
theorem dJ {α:Type}:∀ (l m:List (Nat×α)) (k:Nat),look (l++m) k=(look l k).or (look m k)
 | [],m,k=>by rfl
 | (j,x)::l,m,k=>by
  rw[ahN,aD,aD,dJ l m k]
  grind
theorem or_some {α:Type} {a b:Option α} {x:α} (h:a.or b=some x):a=some x\/(a=none/\b=some x):=by
 simp_all
theorem isSome_or {α:Type} {a b:Option α} (h:a.isSome=true\/b.isSome=true):(a.or b).isSome=true:=by
 grind
def LJ (d:Nat) (o:bE) (n:Nat):Prop:=o= .inr (nid d 0 0+n)\/o= .ob (nid d 0 0+n)
theorem HD (d i c:Nat):nid d i c=nid d 0 0+(64*i+c):=by simp only[nid];omega
theorem GI {d i:Nat}:∀ {l:List OT} {c:Nat} {o:bE} {n:Nat},(o,n)∈gR d i c l->LJ d o n
 | [],c,o,n,h=>by simp[gR] at h
 | .val t::r,c,o,n,h=>GI (l:=r) h
 | .row e t::r,c,o,n,h=>by
  simp only[gR,aiz,Prod.mk.injEq] at h
  rcases h with ⟨h,h'⟩ | h
  ·subst h;subst h';exact .inl (by rw[HD])
  ·exact GI (l:=r) h
 | .map e t::r,c,o,n,h=>by
  simp only[gR,aiz,Prod.mk.injEq] at h
  rcases h with ⟨h,h'⟩ | h
  ·subst h;subst h';exact .inr (by rw[HD])
  ·exact GI (l:=r) h
structure nv (G3:Gh) (ρ3:Env) (w':World) (bx:List (Nat×List CV)) (rw:List (Nat×rY)) (ob:List (Nat×vS)):Prop where
 bx:∀ k cs,look bx k=some cs->ρ3.own (ρ3.bx k)=some (.inl k)/\∃ vs T,w'.heap[ρ3.bx k]? =some (.cells (List.toArray vs) T (0,0))/\aR (br G3 ρ3) cs vs
 rw:∀ j q,look rw j=some q->dI G3 ρ3 w' j q
 ob:∀ j q,look ob j=some q->sE G3 ρ3 w' j q
theorem nv.app {a b:List (Nat×List CV)} {c e:List (Nat×rY)} {f g:List (Nat×vS)} (h:nv G3 ρ3 w' a c f) (k:nv G3 ρ3 w' b e g):nv G3 ρ3 w' (a++b) (c++e) (f++g) where
 bx:=fun i cs hi=>by
  rw[dJ] at hi
  rcases or_some hi with h1 | ⟨_,h1⟩
  ·exact h.bx i cs h1
  ·exact k.bx i cs h1
 rw:=fun i cs hi=>by
  rw[dJ] at hi
  rcases or_some hi with h1 | ⟨_,h1⟩
  ·exact h.rw i cs h1
  ·exact k.rw i cs h1
 ob:=fun i cs hi=>by
  rw[dJ] at hi
  rcases or_some hi with h1 | ⟨_,h1⟩
  ·exact h.ob i cs h1
  ·exact k.ob i cs h1
theorem nv.nil:nv G3 ρ3 w' [] [] []:=⟨fun k cs h=>by simp[look] at h,fun k cs h=>by simp[look] at h,fun k cs h=>by simp[look] at h⟩
theorem Rb {d i k:Nat} {l:List OT} {x:rE l} {v:Value} (hT:Trans G' G3 (xo l)) (h:CI G' w' ow' (64*i) l x v): ∃ vals:List (bE×Value),vals.map (·.1)=(gR d i 1 l).map (·.1)/\∀ ρ3:Env,Asg ρ3 w' (.inl k) v->(∀ o v,(o,v)∈vals->Asg ρ3 w' o v)->(∀ o n,(o,n)∈(.inl k,64*i)::gR d i 1 l->∀ b,ow' b=some n->ρ3.own b=some o)-> nv G3 ρ3 w' [(k,ON d i 1 l x)] (xq d i 1 l x) (qU d i 1 l x):=by
 obtain⟨b,vs,T,h1,h2,h3,h4⟩:=h
 obtain⟨vals,hv,hr⟩:=LZ (G3:=G3) (d:=d) (i:=i) (c:=1) hT h4
 refine⟨vals,hv,fun ρ3 hk hA hO=> ?_⟩
 obtain⟨g1,g2,g3⟩:=hr ρ3 hA (fun o n h=>hO o n (by simp[h]))
 refine⟨fun k' cs hk'=> ?_,g2,g3⟩
 rw[aD] at hk'
 split at hk'
 ·rename_i ek
  subst ek
  cases hk'
  have hb:b=ρ3.bx k:=by
   rw[h1] at hk
   have hk2:Value.pointer (some ⟨b,0,none⟩)= .pointer (some ⟨ρ3.bx k,0,none⟩):=hk
   grind
  grind
 ·cases hk'
theorem HL {ps:List PM} {args:List Value} {d:Nat}:∀ {rs:List RM} {c:Nat} {y:dc ps rs} {vs:List Value},Trans G' G3 (mV rs)->pP G' w' ow' ps args c rs y vs-> uW G' w' ow' 0 ps (L3 ps rs y) args/\∃ vals:List (bE×Value),vals.map (·.1)=(gp d c rs).map (·.1)/\(∀ k v,(.inl k,v)∈vals->∃ b,v= .pointer (some ⟨b,0,none⟩))/\∀ ρ3:Env,(∀ o v,(o,v)∈vals->Asg ρ3 w' o v)->(∀ o n,(o,n)∈gp d c rs->∀ b,ow' b=some n->ρ3.own b=some o)-> aR (fun p=>oz G3 ρ3 p.1 p.2) (Fg ps d rs c y) vs/\nv G3 ρ3 w' (xu ps d rs c y) (xw ps d rs c y) (pF ps d rs c y)
 | [],c,y,vs,_,h=>⟨h.2,[],rfl,fun k v h=>(by simp at h),fun ρ3 _ _=>⟨h.1,nv.nil⟩⟩
 | .val t::r,c,y,vs,hT,⟨v,us,e,hv,hu⟩=>by
  obtain⟨h0,vals,hv',hpt,hr⟩:=HL (d:=d) (rs:=r) (Trans.right (a:=t.flat) hT) hu
  refine⟨h0,vals,hv',hpt,fun ρ3 hA hO=> ?_⟩
  obtain⟨g1,g2⟩:=hr ρ3 hA hO
  subst e
  exact⟨⟨v,us,rfl,EC ρ3 (Trans.RR (Trans.left (b:=mV r) hT) hv),g1⟩,g2⟩
 | .row e' t::r,c,y,vs,hT,⟨v,us,e,⟨hv,hv2⟩,hu⟩=>by
  obtain⟨h0,vals,hv',hpt,hr⟩:=HL (d:=d) (rs:=r) (Trans.right (a:=t.flat) hT) hu
  refine⟨h0,(.inr (nid d (24+c) 0),v)::vals,by simp[gp,hv'],fun k v h=>hpt k v (by grind),fun ρ3 hA hO=> ?_⟩
  obtain⟨g1,g2⟩:=hr ρ3 (fun o v h=>hA o v (by simp[h])) (fun o n h=>hO o n (by simp[gp,h]))
  have hav:ρ3.rw (nid d (24+c) 0)=v:=hA (.inr (nid d (24+c) 0)) v (by simp)
  subst e
  refine⟨⟨v,us,rfl,⟨hav.symm,hv.isSlice⟩,g1⟩,g2.bx,fun j q hj=> ?_,g2.ob⟩
  simp only[xw,aD] at hj
  split at hj
  ·rename_i ej
   subst ej
   cases hj
   exact hv.ok (Trans.left (b:=mV r) hT) hav (fun b' hb'=>hO _ _ (by simp[gp]) b' (hv2 b' hb'))
  ·exact g2.rw j q hj
 | .map k' v'::r,c,y,vs,hT,⟨v,us,e,⟨bb,hv,hv1,hv2⟩,hu⟩=>by
  obtain⟨h0,vals,hv',hpt,hr⟩:=HL (d:=d) (rs:=r) (Trans.right (a:=k'.flat&&v'.flat) hT) hu
  refine⟨h0,(.ob (nid d (24+c) 0),v)::vals,by simp[gp,hv'],fun k v h=>hpt k v (by grind),fun ρ3 hA hO=> ?_⟩
  obtain⟨g1,g2⟩:=hr ρ3 (fun o v h=>hA o v (by simp[h])) (fun o n h=>hO o n (by simp[gp,h]))
  subst e;subst hv
  have ho:ρ3.own bb=some (.ob (nid d (24+c) 0)):=hO _ _ (by simp[gp]) bb hv1
  obtain⟨m1,m2⟩:=hv2.ok (Trans.left (b:=mV r) hT) (hA (.ob (nid d (24+c) 0)) (.map (some bb)) (by simp)) ho
  refine⟨⟨_,us,rfl,⟨m2.symm,bb,rfl⟩,g1⟩,g2.bx,g2.rw,fun j q hj=> ?_⟩
  simp only[pF,aD] at hj
  split at hj
  ·grind
  ·exact g2.ob j q hj
 | .box l::r,c,y,vs,hT,⟨v,us,e,hv,hu⟩=>by
  obtain⟨h0,vals,hv',hpt,hr⟩:=HL (d:=d) (rs:=r) (Trans.right (a:=xo l) hT) hu
  obtain⟨vals2,hv2,hr2⟩:=Rb (G3:=G3) (d:=d) (k:=d) (Trans.left (b:=mV r) hT) hv
  refine⟨h0,((.inl d,v)::vals2)++vals,by simp[gp,hv',hv2],fun k v' h=> ?_,fun ρ3 hA hO=> ?_⟩
  ·rcases aiy.1 h with h | h
   ·rcases aiz.1 h with h | h
    ·cases h
     obtain⟨b,_,_,e1,_⟩:=hv
     grind
    ·have hm:(.inl k:bE)∈vals2.map (·.1):=aiE.2 ⟨_,h,rfl⟩
     rw[hv2] at hm
     obtain⟨p,hp,e1⟩:=aiE.1 hm
     obtain⟨p1,p2⟩:=p
     simp only at e1
     subst e1
     exact absurd hp ((BT (x:=y.1)).2.2 k p2)
   grind
  obtain⟨g1,g2⟩:=hr ρ3 (fun o v h=>hA o v (by simp[h])) (fun o n h=>hO o n (by simp[gp,h]))
  have g3:=hr2 ρ3 (hA (.inl d) v (by simp)) (fun o v h=>hA o v (by simp[h])) (fun o n h=>hO o n (by
   simp only[aiz] at h
   simp only[gp,ahN,aiz,aiy]
   grind))
  subst e
  exact⟨⟨v,us,rfl,hA (.inl d) v (by simp),g1⟩,g3.app g2⟩
theorem acN {s:SV} {v:Value} {j:Option Nat} (h:OI s=some j) (hv:bK G ρ s v):match j with | some j=>v=ρ.rw j | none=>v= .slice none 0 0:=by
 unfold OI at h
 split at h
 ·cases h;exact hv.1
 ·cases h;exact hv
 ·cases h
theorem V7 {s:SV} {v:Value} {k:Nat} (h:vj s=some k) (hv:bK G ρ s v):v= .pointer (some ⟨ρ.bx k,0,none⟩):=by
 unfold vj at h
 split at h
 ·split at h
  ·rename_i hb
   cases h
   have:=ai8 hb
   subst this
   exact hv
  ·cases h
 ·cases h
theorem acM {s:SV} {v:Value} {j:Nat} (h:OH s=some j) (hv:bK G ρ s v):v=ρ.ob j:=by
 unfold OH at h
 split at h
 ·cases h;exact hv.1
 ·cases h
def Old (ρ:Env):bE->Value->Prop
 | .inl k,v=>v= .pointer (some ⟨ρ.bx k,0,none⟩)
 | .inr j,v=>ρ.rw j=v
 | .ob j,v=>∀ b,v= .map (some b)->ρ.ob j= .map (some b)
theorem NF {s:SV} {q:List SV} {vs:List Value} (h:aR (bK G ρ) (s::q) vs) {v:Value} (hv:vs.head? =some v):bK G ρ s v/\aR (bK G ρ) q vs.tail:=by
 obtain⟨u,us,e,h1,h2⟩:=h
 grind
theorem VH {s:SV} {q:List SV} {vs:List Value} (h:aR (bK G ρ) (s::q) vs):aR (bK G ρ) q vs.tail:=by
 obtain⟨u,us,e,h1,h2⟩:=h
 grind
theorem Cb {d:Nat} (hh3:G3.hnd=G'.hnd):∀ {ps:List PM} {args:List SV} {i:Nat} {y:ia ps} {vs:List Value},Trans G' G3 (lF ps)->uW G' w' ow' i ps y vs->aR (bK G ρ) args vs-> ∃ vals:List (bE×Value),vals.map (·.1)=(di d i ps args).map (·.1)/\(∀ o v,(o,v)∈vals->Old ρ o v\/∃ n,(o,n)∈di d i ps args/\LJ d o n)/\∀ ρ3:Env,(∀ o v,(o,v)∈vals->Asg ρ3 w' o v)->(∀ o n,(o,n)∈di d i ps args->∀ b,ow' b=some n->ρ3.own b=some o)-> nv G3 ρ3 w' (fN d i ps args y) (kJ d i ps args y) (fD d i ps args y)
 | [],args,i,y,vs,_,h,hv=>⟨[],rfl,fun o v h=>by simp at h,fun ρ3 _ _=>nv.nil⟩
 | .val t::r,[],i,y,vs,_,_,hv=>⟨[],rfl,fun o v h=>by simp at h,fun ρ3 _ _=>nv.nil⟩
 | .row e t::r,[],i,y,vs,_,_,hv=>⟨[],rfl,fun o v h=>by simp at h,fun ρ3 _ _=>nv.nil⟩
 | .mrow e t::r,[],i,y,vs,_,_,hv=>⟨[],rfl,fun o v h=>by simp at h,fun ρ3 _ _=>nv.nil⟩
 | .map e t::r,[],i,y,vs,_,_,hv=>⟨[],rfl,fun o v h=>by simp at h,fun ρ3 _ _=>nv.nil⟩
 | .box l::r,[],i,y,vs,_,_,hv=>⟨[],rfl,fun o v h=>by simp at h,fun ρ3 _ _=>nv.nil⟩
 | .val t::r,s::q,i,y,vs,hT,h,hv=>Cb hh3 (ps:=r) (by simpa [lF] using hT) h (VH hv)
 | .row e t::r,s::q,i,y,vs,hT,h,hv=>Cb hh3 (ps:=r) (by simpa [lF] using hT) h (VH hv)
 | .arR t::r,q,i,y,vs,hT,h,hv=>by
  have:=Cb (d:=d) hh3 (ps:=r) (args:=q) (i:=i+1) (y:=y) (by simpa [lF] using hT) h hv
  cases q<;>exact this
 | .ar t::r,q,i,y,vs,hT,⟨h1,h2⟩,hv=>by
  obtain⟨vals,hv',hold,hr⟩:=Cb (d:=d) hh3 (ps:=r) (args:=q) (i:=i+1) (y:=y.2) (Trans.right (a:=t.flat) hT) h2 hv
  have e1:di d i (.ar t::r) q=(.ob bQ,64*i)::di d (i+1) r q:=by rfl
  have e2:fN d i (.ar t::r) q y=fN d (i+1) r q y.2:=by rfl
  have e3:kJ d i (.ar t::r) q y=kJ d (i+1) r q y.2:=by rfl
  have e4:fD d i (.ar t::r) q y=(bQ,.ar false t y.1)::fD d (i+1) r q y.2:=by rfl
  rw[e1,e2,e3,e4]
  refine⟨(.ob bQ,undef)::vals,by simp[hv'],fun o v h=> ?_,fun ρ3 hA hO=> ?_⟩
  ·rcases aiz.1 h with h | h
   ·cases h;exact .inl fun b e=>by cases e
   grind
  ·have g:=hr ρ3 (fun o v h=>hA o v (by simp[h])) (fun o n h=>hO o n (by simp[h]))
   refine⟨g.bx,g.rw,fun j q' hj=> ?_⟩
   simp only[aD] at hj
   split at hj
   ·rename_i ej
    subst ej
    cases hj
    refine⟨rfl,fun i b hb=>h1.1 i b (by grind),fun i i' b hb hb'=>h1.2.1 i i' b (by grind) (by grind),fun n z hz=> ?_⟩
    obtain⟨b,ws,T,f1,f2,f3,f4,f5⟩:=h1.2.2 n z hz
    exact⟨b,ws,T,by grind,nofun,fun _=>hO _ _ (by simp) b (f3 rfl),f4,Trans.af6 (Trans.left (b:=lF r) hT) f5⟩
   ·exact g.ob j q' hj
 | .mrow e t::r,s::q,i,y,vs,hT,⟨⟨v,h0,h1,h1'⟩,h2⟩,hv=>by
  obtain⟨hs,hq⟩:=NF hv h0
  obtain⟨vals,hv',hold,hr⟩:=Cb (d:=d) hh3 (ps:=r) (args:=q) (i:=i+1) (y:=y.2) (Trans.right (a:=t.flat) hT) h2 hq
  simp only[di,fN,kJ,fD]
  cases ho:OI s with
  | none=>grind
  | some jo=>
   cases jo with
   | none=>grind
   | some j=>
    have hvj:v=ρ.rw j:=acN ho hs
    refine⟨(.inr j,v)::vals,by simp[hv'],fun o v' h=> ?_,fun ρ3 hA hO=> ?_⟩
    ·rcases aiz.1 h with h | h
     ·cases h;exact .inl hvj.symm
     grind
    ·have g:=hr ρ3 (fun o v h=>hA o v (by simp[h])) (fun o n h=>hO o n (by simp[h]))
     refine⟨g.bx,fun j' q' hj=> ?_,g.ob⟩
     simp only[ahN,aiL,aD] at hj
     split at hj
     ·rename_i ej
      subst ej
      cases hj
      exact h1.ok (Trans.left (b:=lF r) hT) (hA (.inr j) v (by simp)) (fun b' hb'=>hO _ _ (by simp) b' (h1' b' hb'))
     ·exact g.rw j' q' hj
 | .map kk vv::r,s::q,i,y,vs,hT,⟨⟨bb,h0,h1,h1'⟩,h2⟩,hv=>by
  obtain⟨hs,hq⟩:=NF hv h0
  obtain⟨vals,hv',hold,hr⟩:=Cb (d:=d) hh3 (ps:=r) (args:=q) (i:=i+1) (y:=y.2) (Trans.right (a:=kk.flat&&vv.flat) hT) h2 hq
  simp only[di,fN,kJ,fD]
  cases ho:OH s with
  | none=>grind
  | some j=>
   have hvj:Value.map (some bb)=ρ.ob j:=acM ho hs
   refine⟨(.ob j,.map (some bb))::vals,by simp[hv'],fun o v' h=> ?_,fun ρ3 hA hO=> ?_⟩
   ·rcases aiz.1 h with h | h
    ·cases h;exact .inl fun b e=>by grind
    grind
   ·have g:=hr ρ3 (fun o v h=>hA o v (by simp[h])) (fun o n h=>hO o n (by simp[h]))
    have hob:ρ3.own bb=some (.ob j):=hO _ _ (by simp) bb h1
    obtain⟨m1,m2⟩:=h1'.ok (Trans.left (b:=lF r) hT) (hA (.ob j) (.map (some bb)) (by simp)) hob
    refine⟨g.bx,g.rw,fun j' q' hj=> ?_⟩
    simp only[ahN,aiL,aD] at hj
    split at hj
    ·rename_i ej
     subst ej
     cases hj
     exact m1
    ·exact g.ob j' q' hj
 | .box l::r,s::q,i,y,vs,hT,⟨⟨v,h0,h1⟩,h2⟩,hv=>by
  obtain⟨hs,hq⟩:=NF hv h0
  obtain⟨vals,hv',hold,hr⟩:=Cb (d:=d) hh3 (ps:=r) (args:=q) (i:=i+1) (y:=y.2) (Trans.right (a:=xo l) hT) h2 hq
  simp only[di,fN,kJ,fD]
  cases ho:vj s with
  | none=>
   simpa using ⟨vals,hv',hold,hr⟩
  | some k=>
   have hvk:=V7 ho hs
   obtain⟨vals2,hv2,hr2⟩:=Rb (G3:=G3) (d:=d) (k:=k) (Trans.left (b:=lF r) hT) h1
   refine⟨((.inl k,v)::vals2)++vals,by simp[hv',hv2],fun o v' h=> ?_,fun ρ3 hA hO=> ?_⟩
   ·rcases aiy.1 h with h | h
    ·rcases aiz.1 h with h | h
     ·cases h;exact .inl hvk
     ·right
      have hm:o∈vals2.map (·.1):=aiE.2 ⟨_,h,rfl⟩
      rw[hv2] at hm
      obtain⟨p,hp,e⟩:=aiE.1 hm
      refine⟨p.2, ?_,by rw[<- e];exact GI (n:=p.2) hp⟩
      rw[<- e]
      simp[hp]
    ·exact (hold o v' h).imp id fun ⟨n,h1,h2⟩=>⟨n,by simp[h1],h2⟩
   ·have g:=hr ρ3 (fun o v h=>hA o v (by simp[h])) (fun o n h=>hO o n (by simp[h]))
    have g3:=hr2 ρ3 (hA (.inl k) v (by simp)) (fun o v h=>hA o v (by simp[h])) (fun o n h=>hO o n (by
     simp only[aiz] at h
     simp only[ahN,aiz,aiy]
     rcases h with h | h
     ·exact .inl h
     ·exact .inr (.inl h)))
    exact g3.app g
end
theorem xF {d:Nat}:∀ {ps:List PM} {args:List SV} {i:Nat} {y:ia ps},(∀ j n,(.inr j,n)∈di d i ps args->(look (kJ d i ps args y) j).isSome=true)/\(∀ j n,(.ob j,n)∈di d i ps args->(look (fD d i ps args y) j).isSome=true)/\ (∀ k n,(.inl k,n)∈di d i ps args->(look (fN d i ps args y) k).isSome=true)
 | [],args,i,y=>⟨fun j n h=>by simp[di] at h,fun j n h=>by simp[di] at h,fun j n h=>by simp[di] at h⟩
 | .val t::r,[],i,y=>⟨fun j n h=>by simp[di] at h,fun j n h=>by simp[di] at h,fun j n h=>by simp[di] at h⟩
 | .row e t::r,[],i,y=>⟨fun j n h=>by simp[di] at h,fun j n h=>by simp[di] at h,fun j n h=>by simp[di] at h⟩
 | .mrow e t::r,[],i,y=>⟨fun j n h=>by simp[di] at h,fun j n h=>by simp[di] at h,fun j n h=>by simp[di] at h⟩
 | .map e t::r,[],i,y=>⟨fun j n h=>by simp[di] at h,fun j n h=>by simp[di] at h,fun j n h=>by simp[di] at h⟩
 | .box l::r,[],i,y=>⟨fun j n h=>by simp[di] at h,fun j n h=>by simp[di] at h,fun j n h=>by simp[di] at h⟩
 | .val t::r,s::q,i,y=>xF (ps:=r) (args:=q) (i:=i+1)
 | .row e t::r,s::q,i,y=>xF (ps:=r) (args:=q) (i:=i+1)
 | .arR t::r,q,i,y=>by
  have:=xF (d:=d) (ps:=r) (args:=q) (i:=i+1) (y:=y)
  cases q<;>exact this
 | .ar t::r,q,i,y=>by
  obtain⟨h1,h2,h3⟩:=xF (d:=d) (ps:=r) (args:=q) (i:=i+1) (y:=y.2)
  have e1:di d i (.ar t::r) q=(.ob bQ,64*i)::di d (i+1) r q:=by rfl
  have e2:fN d i (.ar t::r) q y=fN d (i+1) r q y.2:=by rfl
  have e3:kJ d i (.ar t::r) q y=kJ d (i+1) r q y.2:=by rfl
  have e4:fD d i (.ar t::r) q y=(bQ,.ar false t y.1)::fD d (i+1) r q y.2:=by rfl
  rw[e1,e2,e3,e4]
  refine⟨fun j n h=>h1 j n (by grind),fun j n h=> ?_,fun k n h=>h3 k n (by grind)⟩
  rw[aD]
  grind
 | .mrow e t::r,s::q,i,y=>by
  obtain⟨h1,h2,h3⟩:=xF (d:=d) (ps:=r) (args:=q) (i:=i+1) (y:=y.2)
  simp only[di,fN,kJ,fD]
  refine⟨fun j n h=> ?_,fun j n h=> ?_,fun k n h=> ?_⟩
  ·rw[dJ]
   rcases aiy.1 h with h | h
   ·apply isSome_or;left
    split at h
    ·rename_i j' hj
     simp only[aiJ,Prod.mk.injEq,bE.inr.injEq] at h
     simp[aD,h.1]
    grind
   grind
  all_goals grind
 | .map e t::r,s::q,i,y=>by
  obtain⟨h1,h2,h3⟩:=xF (d:=d) (ps:=r) (args:=q) (i:=i+1) (y:=y.2)
  simp only[di,fN,kJ,fD]
  refine⟨fun j n h=> ?_,fun j n h=> ?_,fun k n h=> ?_⟩
  ·grind
  ·rw[dJ]
   rcases aiy.1 h with h | h
   ·apply isSome_or;left
    split at h
    ·rename_i j' hj
     simp only[aiJ,Prod.mk.injEq,bE.ob.injEq] at h
     simp[aD,h.1]
    grind
   grind
  grind
 | .box l::r,s::q,i,y=>by
  obtain⟨h1,h2,h3⟩:=xF (d:=d) (ps:=r) (args:=q) (i:=i+1) (y:=y.2)
  obtain⟨g1,g2,g3⟩:=BT (d:=d) (i:=i) (l:=l) (c:=1) (x:=y.1)
  simp only[di,fN,kJ,fD]
  refine⟨fun j n h=> ?_,fun j n h=> ?_,fun k n h=> ?_⟩
  ·rw[dJ]
   grind
  ·rw[dJ]
   grind
  ·rw[dJ]
   rcases aiy.1 h with h | h
   ·apply isSome_or;left
    split at h
    ·rename_i k' hk'
     rcases aiz.1 h with h | h
     ·cases h;simp[aD]
     grind
    grind
   grind
theorem Cq {ps:List PM} {d:Nat}:∀ {rs:List RM} {c:Nat} {y:dc ps rs},(∀ j n,(.inr j,n)∈gp d c rs->(look (xw ps d rs c y) j).isSome=true)/\(∀ j n,(.ob j,n)∈gp d c rs->(look (pF ps d rs c y) j).isSome=true)/\ (∀ k n,(.inl k,n)∈gp d c rs->k=d/\0<HC rs/\(look (xu ps d rs c y) k).isSome=true)
 | [],c,y=>⟨fun j n h=>by simp[gp] at h,fun j n h=>by simp[gp] at h,fun j n h=>by simp[gp] at h⟩
 | .val t::r,c,y=>Cq (rs:=r) (c:=c+1) (y:=y.2)
 | .row e t::r,c,y=>by
  obtain⟨h1,h2,h3⟩:=Cq (ps:=ps) (d:=d) (rs:=r) (c:=c+1) (y:=y.2)
  simp only[gp,xw,pF,xu,HC,aiz,Prod.mk.injEq,bE.inr.injEq,reduceCtorEq,ajV,ajW]
  refine⟨fun j n h=> ?_,h2,h3⟩
  rw[aD]
  grind
 | .map e t::r,c,y=>by
  obtain⟨h1,h2,h3⟩:=Cq (ps:=ps) (d:=d) (rs:=r) (c:=c+1) (y:=y.2)
  simp only[gp,xw,pF,xu,HC,aiz,Prod.mk.injEq,bE.ob.injEq,reduceCtorEq,ajV,ajW]
  refine⟨h1,fun j n h=> ?_,h3⟩
  rw[aD]
  grind
 | .box l::r,c,y=>by
  obtain⟨h1,h2,h3⟩:=Cq (ps:=ps) (d:=d) (rs:=r) (c:=c+1) (y:=y.2)
  obtain⟨g1,g2,g3⟩:=BT (d:=d) (i:=24+c) (l:=l) (c:=1) (x:=y.1)
  simp only[gp,xw,pF,xu,HC,ahN,aiz,aiy,Prod.mk.injEq,bE.inl.injEq,reduceCtorEq,ajV,ajW]
  refine⟨fun j n h=> ?_,fun j n h=> ?_,fun k n h=> ?_⟩
  ·rw[dJ]
   grind
  ·rw[dJ]
   grind
  ·rcases h with ⟨h,_⟩ | h | h
   ·subst h;exact⟨rfl,by omega,by simp[aD]⟩
   ·grind
   ·obtain⟨e,_,hk⟩:=h3 k n h
    refine⟨e,by omega, ?_⟩
    rw[aD]
    grind
theorem OS {d:Nat}:∀ {rs:List RM} {c:Nat} {o:bE} {n:Nat},(o,n)∈gp d c rs->o= .inl d\/LJ d o n
 | [],c,o,n,h=>by simp[gp] at h
 | .val t::r,c,o,n,h=>OS (rs:=r) h
 | .row e t::r,c,o,n,h=>by
  simp only[gp,aiz,Prod.mk.injEq] at h
  rcases h with ⟨h,h'⟩ | h
  ·subst h;subst h';exact .inr (.inl (by rfl))
  ·exact OS (rs:=r) h
 | .map e t::r,c,o,n,h=>by
  simp only[gp,aiz,Prod.mk.injEq] at h
  rcases h with ⟨h,h'⟩ | h
  ·subst h;subst h';exact .inr (.inr (by rfl))
  ·exact OS (rs:=r) h
 | .box l::r,c,o,n,h=>by
  simp only[gp,ahN,aiz,aiy,Prod.mk.injEq] at h
  rcases h with ⟨h,_⟩ | h | h
  ·grind
  ·exact .inr (GI h)
  ·exact OS (rs:=r) h
end Go.Dn
