/-
  The executor, its second part: operations with memory are sound. No condition.
-/
import Derived.Test.YtjlkkapojeldlabGreatDoorYa
import Derived.Maps.Own
import Derived.Maps.Range
import Derived.Lib.SlKeysI
import Derived.Laws.OwnMore
set_option linter.all false
namespace Go.Dn
variable {β:Type}
theorem xJ {G:Gh} {ρ:Env} {a:Bool} {cs:List CV} {v:Value} (h:ku G ρ a cs v) (hok:cs.all CV.ok=true): ∃ vs:List Value,v.cells=vs.toArray/\aG (aQ G ρ) cs vs/\∀ u,u∈vs->u.oneCell'=true:=by
 have one:∀ {cs:List CV} {vs:List Value},aG (aQ G ρ) cs vs->cs.all CV.ok=true->∀ u,u∈vs->u.oneCell'=true:=by
  intro cs
  induction cs with
  | nil=>intro vs h _ u hu;cases h;cases hu
  | cons c cs ih=>
   intro vs ⟨y,s,e,hy,hs⟩ hok u hu
   simp only[adP,adj] at hok
   subst e
   rcases aeO.1 hu with rfl | hu
   ·exact (DX hy hok.1).1
   ·exact ih hs hok.2 u hu
 cases a with
 | true=>
  obtain⟨vs,e,hl⟩:=h
  exact⟨vs,by rw[e];rfl,hl,one hl hok⟩
 | false=>
  match cs,h,hok with
  | [c],h,hok=>
   simp only[adP,List.all_nil,adm] at hok
   exact⟨[v],(DX h hok).2,⟨v,[],rfl,h,rfl⟩,fun u hu=>by
    rcases aeY.1 hu with rfl
    exact (DX h hok).1⟩
theorem AX {l new l':List CV} {off:Nat} (h:setAt l off new=some l'):off+new.length<=l.length/\l'=l.take off++new++l.drop (off+new.length):=by
 unfold setAt at h
 by_cases hb:Nat.ble (off+new.length) l.length=true
 ·rw[af9 hb] at h;cases h;exact⟨afo hb,rfl⟩
 ·rw[af8 hb] at h;cases h
theorem aG.splice {α γ:Type} {R:α->γ->Prop} {l new:List α} {vs us:List γ} {off:Nat} (h:aG R l vs) (hn:aG R new us): aG R (l.take off++new++l.drop (off+new.length)) (vs.take off++us++vs.drop (off+us.length)):=by
 rw[hn.len]
 exact ((h.take off).append hn).append (h.drop _)
theorem Uz (off:Nat) (us:List Value) (cs:List Value) (h:off+us.length<=cs.length): us.toArray.zipIdx.foldl (fun cs (x:Value×Nat)=>cs.setIfInBounds (off+x.2) x.1) cs.toArray=(cs.take off++us++cs.drop (off+us.length)).toArray:=by
 obtain⟨h1,h2⟩:=Great.foldl_set off us 0 cs.toArray
 have e:us.toArray.zipIdx.foldl (fun cs (x:Value×Nat)=>cs.setIfInBounds (off+x.2) x.1) cs.toArray=(us.zipIdx 0).foldl (fun cs (x:Value×Nat)=>cs.setIfInBounds (off+x.2) x.1) cs.toArray:=by
  rw[<- Array.foldl_toList]
  simp
 rw[e]
 apply Array.ext_getElem?
 intro k
 rw[h2 k]
 simp only[afj,ae9,aev]
 by_cases hk:off<=k/\k<off+us.length
 ·rw[af9 ⟨hk.1,hk.2,by omega⟩,adT,aeh (by simp;omega),aeg (by simp;omega)]
  congr 1
  simp;omega
 ·rw[af8 (by omega)]
  by_cases hlt:k<off
  ·rw[adT,aeg (by simp;omega),aeu hlt]
  ·rw[aeh (by simp;omega),aek]
   congr 1
   simp
   omega
theorem LN {G:Gh} {ρ:Env} {place:Nat->Option (Nat×Nat)}:∀ {parts:List (Nat×SV)} {pv:List (Nat×Value)} {cells cs:List CV} {vs:List Value}, Fo place cells parts=some cs->aG (aQ G ρ) cells vs->aG (fun (p:Nat×SV) (q:Nat×Value)=>p.1=q.1/\aZ G ρ p.2 q.2) parts pv-> ∃ us:List Value,Instr.fill place vs.toArray pv=some us.toArray/\aG (aQ G ρ) cs us
 | [],pv,cells,cs,vs,h,hv,hp=>by
  cases hp
  simp only[Fo] at h
  cases h
  exact⟨vs,rfl,hv⟩
 | (i,.tup l)::rest,pv,cells,cs,vs,h,hv,hp=>by simp[Fo] at h
 | (i,.v a c)::rest,pv,cells,cs,vs,h,hv,⟨y,s,e,hy,hs⟩=>by
  subst e
  simp only[Fo] at h
  split at h
  ·cases h
  ·rename_i off size hpl
   split at h
   ·rename_i hc
    simp only[adj] at hc
    have hsz:=afm hc.1
    split at h
    ·rename_i c' hset
     obtain⟨hle,hc'⟩:=AX hset
     obtain⟨us,eu,hus,_⟩:=xJ hy.2 hc.2
     have hlu:=hus.len
     have hlv:=hv.len
     have hnew:aG (aQ G ρ) c' (vs.take off++us++vs.drop (off+us.length)):=by rw[hc'];exact hv.splice hus
     obtain⟨zs,hz,hz'⟩:=LN (parts:=rest) (pv:=s) (cells:=c') h hnew hs
     refine⟨zs, ?_,hz'⟩
     obtain⟨y1,y2⟩:=y
     have:i=y1:=hy.1
     subst this
     unfold Instr.fill
     dsimp only at hpl eu ⊢
     rw[hpl]
     dsimp only
     rw[eu]
     rw[af8 (by simp;omega)]
     rw[Uz off us vs (by omega)]
     exact hz
    ·cases h
   ·cases h
theorem nZ {P:Program} {t:TypeId} {z:List CV} (h:zeroCells P t=some z):∃ i v,P.info? t=some i/\i.zero=some v/\∀ G ρ,aG (aQ G ρ) z v.cells.toList:=by
 unfold zeroCells at h
 cases hi:P.info? t with
 | none=>rw[hi] at h;cases h
 | some i=>
  rw[hi] at h
  simp only[afJ] at h
  cases hz:i.zero with
  | none=>rw[hz] at h;cases h
  | some v=>
   rw[hz] at h
   refine⟨i,v,rfl,hz,fun G ρ=> ?_⟩
   cases v with
   | agg cs=>cases h;exact zX HJ (Jx G ρ) cs.toList
   | _=>cases h;exact⟨_,[],rfl,Jx G ρ _,rfl⟩
theorem Qq {P:Program}:∀ (fs:List Field),(fs.all fun f=>okT P f.type)=true->fs.mapM (fun f=>(P.info? f.type).map fun i=>(f.offset,i.size))=some (fs.map fun f=>(f.offset,b6 P f.type))
 | [],_=>rfl
 | f::fs,h=>by
  simp only[adP,adj] at h
  obtain⟨d,i,hd,hi⟩:=iG h.1
  simp[List.mapM_cons,hi,Qq fs h.2,b6]
section
variable {X:Cx} {o:Oper} {S M:St} {k:SV->Option β} {r:β}
theorem abr {t:TypeId} {parts:Array (Nat×Operand)} (ho:o.op= .build t parts) (h:cZ X o S M k=some r):∃ s,k s=some r/\gF X.P o S M s:=by
 unfold cZ at h
 rw[ho] at h
 simp only at h
 split at h
 ·rename_i fs z ht hz
  split at h
  ·cases h
  ·rename_i hok
   have hok':(fs.toList.all fun f=>okT X.P f.type)=true:=by simpa using hok
   split at h
   ·rename_i cs hf
    refine⟨_,h,fun C G ρ w a hM hop=> ?_⟩
    obtain⟨i,v,hi,hv,hzc⟩:=nZ hz
    have hpl:∀ n,(fs.toList.map fun f=>(f.offset,b6 X.P f.type)).toArray[n]? =Ds X.P fs n:=by
     intro n
     simp only[Ds]
     cases hn:fs[n]? <;>simp[hn]
    have hpv:aG (fun (p:Nat×SV) (q:Nat×Value)=>p.1=q.1/\aZ G ρ p.2 q.2) (parts.toList.map fun p=>(p.1,S.ev p.2)) (parts.toList.map fun p=>(p.1,a.eval p.2)):=by
     have hmem:∀ p,p∈parts.toList->aZ G ρ (S.ev p.2) (a.eval p.2):=fun p hp=>hop p.2 (by
      rw[ho]
      simp only[Op.operands,List.mem_toArray,aeT]
      exact⟨p,hp,rfl⟩)
     generalize parts.toList=l at hmem ⊢
     induction l with
     | nil=>rfl
     | cons p l ih=>exact⟨_,_,rfl,⟨rfl,hmem p (by simp)⟩,ih (fun q hq=>hmem q (by simp[hq]))⟩
    obtain⟨us,hus,hcs⟩:=LN hf (hzc G ρ) hpv
    refine⟨.agg us.toArray, ?_,us,rfl,hcs⟩
    have hb:=run_build (P:=X.P) w t (parts.map fun (i,x)=>(i,a.eval x)) us.toArray (by
     unfold Program.built
     simp only[hi,ht,hv,Qq fs.toList hok']
     rw[<- hus]
     congr 1
     ·funext n;exact hpl n
     ·simp)
    simp only[execOp,ho,Sem.run_bind,hb,Result.andThen_ok,Sem.run_pure]
   ·cases h
 ·rename_i n e z ht hz
  split at h
  ·cases h
  ·rename_i hok
   have hok':okT X.P e=true:=by simpa using hok
   obtain⟨d,j,hd,hj⟩:=iG hok'
   split at h
   ·rename_i cs hf
    refine⟨_,h,fun C G ρ w a hM hop=> ?_⟩
    obtain⟨i,v,hi,hv,hzc⟩:=nZ hz
    have hpv:aG (fun (p:Nat×SV) (q:Nat×Value)=>p.1=q.1/\aZ G ρ p.2 q.2) (parts.toList.map fun p=>(p.1,S.ev p.2)) (parts.toList.map fun p=>(p.1,a.eval p.2)):=by
     have hmem:∀ p,p∈parts.toList->aZ G ρ (S.ev p.2) (a.eval p.2):=fun p hp=>hop p.2 (by
      rw[ho]
      simp only[Op.operands,List.mem_toArray,aeT]
      exact⟨p,hp,rfl⟩)
     generalize parts.toList=l at hmem ⊢
     induction l with
     | nil=>rfl
     | cons p l ih=>exact⟨_,_,rfl,⟨rfl,hmem p (by simp)⟩,ih (fun q hq=>hmem q (by simp[hq]))⟩
    obtain⟨us,hus,hcs⟩:=LN hf (hzc G ρ) hpv
    refine⟨.agg us.toArray, ?_,us,rfl,hcs⟩
    have hb:=run_build (P:=X.P) w t (parts.map fun (i,x)=>(i,a.eval x)) us.toArray (by
     unfold Program.built
     simp only[hi,ht,hv,hj]
     rw[<- hus]
     have hs:b6 X.P e=j.size:=by simp[b6,hj]
     rw[hs]
     simp)
    simp only[execOp,ho,Sem.run_bind,hb,Result.andThen_ok,Sem.run_pure]
   ·cases h
 ·cases h
theorem abt {t:TypeId} {x:Operand} {f:Nat} (ho:o.op= .field t x f) (h:cZ X o S M k=some r):∃ s,k s=some r/\gF X.P o S M s:=by
 unfold cZ at h
 rw[ho] at h
 simp only at h
 split at h
 ·rename_i fs cs ht hx
  split at h
  ·rename_i fd hf
   unfold kU at h
   split at h
   ·rename_i hok
    obtain⟨d,i,hd,hi⟩:=iG hok
    split at h
    ·rename_i cs' hc
     obtain⟨e,hlen⟩:=Bs hc
     split at h
     ·rename_i ha
      refine⟨_,h,fun C G ρ w a hM hop=> ?_⟩
      have hv:=hop x (by simp[ho,Op.operands])
      rw[hx] at hv
      obtain⟨vs,ev,hl⟩:=hv
      refine⟨.agg ((vs.drop fd.offset).take (b6 X.P fd.type)).toArray, ?_,_,rfl,by rw[e];exact (hl.drop _).take _⟩
      simp only[execOp,ho,ev,Instr.field,Sem.run_bind,run_underlying ht,Result.andThen_ok,hf,asAgg,Sem.run_pure,part,ov hd,ha,aga,run_sizeOf hi]
      congr 3
      simp
     ·rename_i ha
      split at h
      ·rename_i c
       refine⟨_,h,fun C G ρ w a hM hop=> ?_⟩
       have hv:=hop x (by simp[ho,Op.operands])
       rw[hx] at hv
       obtain⟨vs,ev,hl⟩:=hv
       have hsub:=(hl.drop fd.offset).take (b6 X.P fd.type)
       rw[<- e] at hsub
       obtain⟨y,ey,hy⟩:=hsub.single
       have hy0:vs[fd.offset]? =some y:=by
        have:((vs.drop fd.offset).take (b6 X.P fd.type))[0]? =some y:=by rw[ey];rfl
        rw[aet] at this
        split at this
        ·simpa using this
        ·cases this
       refine⟨y, ?_,hy⟩
       simp[execOp,ho,ev,Instr.field,run_underlying ht,hf,asAgg,part,ov hd,ha,hy0]
      ·cases h
    ·cases h
   ·cases h
  ·cases h
 ·cases h
theorem CT {P:Program} {w:World} {ik:IntKind} {i:Int} {y:Nat} {c:BoundsCode} (h0:0<=i) (h1:i<=y):(Instr.sliceBound (.int ik i) y c).run P w= .ok i.toNat w:=by
 simp[Instr.sliceBound,asIntOf,h0,h1]
theorem FZ {P:Program} {w:World} {isSl:Bool} {len cap:Nat} {lo hi:Option Value} {a b:Int} (hlo:(lo=none/\a=0)\/∃ ik,lo=some (.int ik a)) (hhi:(hi=none/\b=len)\/∃ ik,hi=some (.int ik b)) (h0:0<=a) (h1:a<=b) (h2:b<=cap):(Instr.sliceBounds isSl len cap lo hi none).run P w= .ok (a.toNat,b.toNat,cap) w:=by
 rcases hlo with ⟨rfl,rfl⟩ | ⟨ik,rfl⟩<;>rcases hhi with ⟨rfl,rfl⟩ | ⟨ik',rfl⟩
 ·simp[Instr.sliceBounds]
 ·cases isSl<;>simp[Instr.sliceBounds,CT (show 0<=b by omega) h2]
 ·have:a<=((len:Int).toNat:Nat):=by omega
  cases isSl<;>simp[Instr.sliceBounds,CT h0 h1]
 ·have:a<=(b.toNat:Int):=by omega
  cases isSl<;>simp[Instr.sliceBounds,CT (show 0<=b by omega) h2,CT h0 this]
theorem bJ.cut {G:Gh} {t:Ty} {l:List t.den} {v:Value} (h:bJ G t.size (ax G t) l v) {a b:Nat} (hab:a<=b) (hb:b<=l.length): ∃ p cap,v= .slice p l.length cap/\l.length<=cap/\bJ G t.size (ax G t) ((l.take b).drop a) (.slice (if cap=a then p else p.map (·.add (a*t.size))) (b - a) (cap - a)):=by
 obtain⟨p,cap,hv,h1,h2,h3⟩:=h
 refine⟨p,cap,hv,h1, ?_⟩
 have hlen:((l.take b).drop a).length=b - a:=by simp;omega
 refine⟨_,_,by rw[hlen],by rw[hlen];omega,by omega, ?_⟩
 by_cases he:b=a
 ·left;exact ad8 (by rw[hlen];omega)
 ·right
  rcases h3 with rfl | ⟨bl,off,c,T,fz,rfl,hbl,hs,hl⟩
  ·simp at hb;omega
  ·have hne:¬ cap=a:=by omega
   refine⟨bl,off+a*t.size,c,T,fz, ?_,hbl, ?_, ?_⟩
   ·rw[af8 hne]
    simp only[afP,Option.some.injEq]
    unfold Addr.add;split<;>simp_all
   ·rw[hlen]
    have e1:a*t.size+(b - a)*t.size=b*t.size:=by rw[<- afi];congr 1;omega
    have e2:b*t.size<=l.length*t.size:=afB _ hb
    omega
   ·have hd:=(hl.take (fun x cs hr=>ax.len hr) b).drop (fun x cs hr=>ax.len hr) a
    rw[hlen]
    rw[aff,ad5 (i:=a*t.size),ad0] at hd
    have e1:min (b*t.size) (l.length*t.size) - a*t.size=(b - a)*t.size:=by
     have e2:b*t.size<=l.length*t.size:=afB _ hb
     rw[afA e2,Nat.sub_mul]
    rw[e1] at hd
    exact hd
theorem DU {G:Gh} {ρ:Env} {a:Act} {S:St} {x:Option Operand} {d p:Int} (h:bnd d (x.map S.ev)=some p) (hx:∀ y,x=some y->aZ G ρ (S.ev y) (a.eval y)): (x.map a.eval=none/\p=d)\/∃ ik,x.map a.eval=some (.int ik p):=by
 cases x with
 | none=>simp only[bnd,Option.map_none] at h;cases h;exact .inl ⟨rfl,rfl⟩
 | some y=>
  right
  have hy:=hx y rfl
  unfold bnd at h
  split at h
  ·rename_i e;cases e
  ·rename_i ik n e
   simp only[afP,Option.some.injEq] at e
   rw[e] at hy
   cases h
   exact⟨ik,by rw[afP,show a.eval y= .int ik p from hy]⟩
  ·cases h
theorem Wo (s:List UInt8) (a b:Nat):(bs s).extract a b=bs ((s.take b).drop a):=by
 apply ByteArray.ext
 apply Array.ext'
 rw[ByteArray.data_extract]
 simp[bs]
 rw[ad5]
theorem abv {t:TypeId} {x:Operand} {lo hi:Option Operand} (ho:o.op= .slice t x lo hi none) (h:cZ X o S M k=some r):∃ s,k s=some r/\gF X.P o S M s:=by
 unfold cZ at h
 rw[ho] at h
 simp only at h
 have opx:x∈o.op.operands:=by simp[ho,Op.operands]
 have opl:∀ y,lo=some y->y∈o.op.operands:=fun y hy=>by simp[ho,Op.operands,hy]
 have oph:∀ y,hi=some y->y∈o.op.operands:=fun y hy=>by simp[ho,Op.operands,hy]
 split at h
 ·rename_i s ht hx
  split at h
  ·rename_i a b ha hb
   obtain⟨hc,h⟩:=dX h
   simp only[adj,af1] at hc
   refine⟨_,h,fun C G ρ w act hM hop=> ?_⟩
   have hv:=aV (hop x opx) hx
   have hb':=FZ (P:=X.P) (w:=w) (isSl:=false) (len:=s.length) (cap:=s.length) (DU ha fun y hy=>hop y (opl y hy)) (DU hb fun y hy=>hop y (oph y hy)) hc.1.1 hc.1.2 hc.2
   refine⟨.string ((bs s).extract a.toNat b.toNat), ?_, ?_⟩
   ·simp[execOp,ho,show act.eval x= .string (bs s) from hv,Instr.sliceAt,run_underlying ht,Instr.slice,DV,hb']
   ·show Value.string _=_
    rw[Wo]
  ·cases h
 ·rename_i e ty l ht hx
  split at h
  ·rename_i hok
   simp only[adj] at hok
   have hsz:=afm hok.2
   obtain⟨d,i,hd,hi'⟩:=iG hok.1
   split at h
   ·rename_i a b ha hb
    obtain⟨hc,h⟩:=dX h
    simp only[adj,af1] at hc
    refine⟨_,h,fun C G ρ w act hM hop=> ?_⟩
    have hv:=aV (hop x opx) hx
    obtain⟨p,cap,ev,hcap,hrep⟩:=bJ.cut (a:=a.toNat) (b:=b.toNat) hv (by omega) (by omega)
    have hb':=FZ (P:=X.P) (w:=w) (isSl:=true) (len:=l.length) (cap:=cap) (DU ha fun y hy=>hop y (opl y hy)) (DU hb fun y hy=>hop y (oph y hy)) hc.1.1 hc.1.2 (by omega)
    refine⟨_, ?_,hrep⟩
    simp only[execOp,ho,ev,Instr.sliceAt,Sem.run_bind,run_underlying ht,Result.andThen_ok,Instr.slice,Option.map_none,hb',run_sizeOf hi',hsz,Sem.run_pure]
   ·cases h
  ·cases h
 ·rename_i e j ht hx
  split at h
  ·rename_i q hq
   split at h
   ·rename_i hok
    simp only[adj] at hok
    have hsz:=afm hok.2
    obtain⟨d,i,hd,hi'⟩:=iG hok.1.2
    split at h
    ·rename_i a b ha hb
     obtain⟨hc,h⟩:=dX h
     simp only[adj,af1] at hc
     refine⟨_,h,fun C G ρ w act hM hop=> ?_⟩
     have hv0:=aV (hop x opx) hx
     have hv:=hM.frozen j q hq hok.1.1
     rw[<- hv0.1] at hv
     obtain⟨p,cap,ev,hcap,hrep⟩:=bJ.cut (a:=a.toNat) (b:=b.toNat) hv (by omega) (by omega)
     have hb':=FZ (P:=X.P) (w:=w) (isSl:=true) (len:=q.l.length) (cap:=cap) (DU ha fun y hy=>hop y (opl y hy)) (DU hb fun y hy=>hop y (oph y hy)) hc.1.1 hc.1.2 (by omega)
     refine⟨_, ?_,hrep⟩
     simp only[execOp,ho,ev,Instr.sliceAt,Sem.run_bind,run_underlying ht,Result.andThen_ok,Instr.slice,Option.map_none,hb',run_sizeOf hi',hsz,Sem.run_pure]
    ·cases h
   ·cases h
  ·cases h
 ·cases h
theorem Mo {G:Gh} {ρ:Env}:∀ {ss:List SV} {ks:List Nat} {vs:List Value},allRefs ss=some ks->aG (aZ G ρ) ss vs->vs=ks.map fun k=>Value.pointer (some ⟨ρ.bx k,0,none⟩)
 | [],ks,vs,h,hv=>by
  cases hv
  simp only[allRefs,Option.some.injEq] at h
  subst h;rfl
 | s::r,ks,vs,h,⟨v,us,e,hs,hr⟩=>by
  unfold allRefs at h
  split at h
  ·rename_i he;cases he
  ·rename_i k o r' he
   cases he
   split at h
   ·rename_i h0
    have:=afm h0
    subst this
    split at h
    ·rename_i l hl
     cases h
     subst e
     rw[Mo hl hr,show v=_ from hs]
     rfl
    ·cases h
   ·cases h
  ·cases h
theorem Ml {α γ δ:Type} {R:γ->δ->Prop} (f:α->γ) (g:α->δ):∀ (l:List α),(∀ x,x∈l->R (f x) (g x))->aG R (l.map f) (l.map g)
 | [],_=>rfl
 | x::l,h=>⟨_,_,rfl,h x (by simp),Ml f g l (fun y hy=>h y (by simp[hy]))⟩
theorem Xq {fn:Fn} {first caps:Array Operand} (ho:o.op= .makeFunc fn first caps) (h:cZ X o S M k=some r):∃ s,k s=some r/\gF X.P o S M s:=by
 unfold cZ at h
 rw[ho] at h
 cases fn<;>simp only at h<;>try cases h
 case func g=>
  split at h
  ·rename_i ks hks
   split at h
   ·rename_i hf
    refine⟨_,h,fun C G ρ w a hM hop=> ?_⟩
    have hv:=Mo hks (Ml (R:=aZ G ρ) S.ev a.eval caps.toList fun x hx=>hop x (by
     rw[ho];simp only[Op.operands,Array.mem_append];right;simpa using hx))
    have hf':first= #[]:=by simpa using hf
    refine⟨.func (.func g) #[] (ks.map fun k=>Value.pointer (some ⟨ρ.bx k,0,none⟩)).toArray, ?_,rfl⟩
    have e:caps.map a.eval=(ks.map fun k=>Value.pointer (some ⟨ρ.bx k,0,none⟩)).toArray:=by
     apply Array.ext'
     rw[<- hv];simp
    simp only[execOp,ho,Instr.makeFunc,hf',e,Array.map_empty]
    rfl
   ·cases h
  ·cases h
theorem Og {P:Program} {t:TypeId} {ty:Ty} {z:ty.den} (h:EO P t ty=some z):∃ i v,P.info? t=some i/\i.zero=some v/\(∀ w:World,(zeroValue t).run P w= .ok v w)/\∀ G,bT G ty z v:=by
 unfold EO at h
 split at h
 ·rename_i v hv
  cases hi:P.info? t with
  | none=>rw[hi] at hv;cases hv
  | some i=>
   rw[hi] at hv
   have hz:i.zero=some v:=hv
   refine⟨i,v,rfl,hz,fun w=>by simp[zeroValue,typeInfo,hi,hz],fun G=> ?_⟩
   let ρ:Env:=⟨fun _=>0,fun _=> .nilFunc,fun _=>none,fun _=> .nilFunc,fun _ _=>0⟩
   exact kI (ρ:=ρ) (fun j r hj=>by simp[look] at hj) (kQ.nil _ _ _) h (NZ G ρ v)
 ·cases h
theorem AT {P:Program} {w:World} {r:Nat} {es:Array MapEntry} {clock:Nat} (hb:w.heap[r]? =some (.map es clock)):(getObj r).run P w= .ok (.map es clock) w:=by
 simp[getObj,Sem.run,hb]
theorem NR {P:Program} {w:World} {r:Nat} {es:Array MapEntry} {clock:Nat} (o:Obj) (hb:w.heap[r]? =some (.map es clock)):(setObj r o).run P w= .ok () { w with heap:=w.heap.setIfInBounds r o }:=by
 simp[setObj,Sem.run,hb]
theorem aaA {t:TypeId} {x ix:Operand} {cok:Bool} (ho:o.op= .lookup t x ix cok) (h:cZ X o S M k=some r):∃ s,k s=some r/\gF X.P o S M s:=by
 unfold cZ at h
 rw[ho] at h
 simp only at h
 split at h
 ·rename_i kt et j ht hx
  split at h
  ·rename_i kk vv l hl
   split at h
   ·rename_i key z hkey hz
    split at h
    ·rename_i hchk
     obtain⟨iz,zv,hiz,hzi,hzr,hzv⟩:=Og hz
     have main:∀ (C:Fr X.P) (G:Gh) (ρ:Env) (w:World) (a:Act),Mem C G ρ M w->(∀ x,x∈o.op.operands->aZ G ρ (S.ev x) (a.eval x))->
      ∃ v,(∀ (b:Bool),(Instr.lookup t (a.eval x) (a.eval ix) b).run X.P w= .ok (if b then .tuple #[v,.bool (jy l key).isSome] else v) w)/\bT G vv ((jy l key).getD z) v:=by
      intro C G ρ w a hM hop
      have h1:=aV (hop x (by simp[ho,Op.operands])) hx
      obtain⟨b,es,clock,h2,h3,h4,h5,_⟩:=hM.objs j _ hl
      have hk:bT G kk key (a.eval ix):=kI hM.frozen (kQ.nil _ _ _) hkey (hop ix (by simp[ho,Op.operands]))
      obtain⟨fr,hf1,hf2⟩:=M7 (w:=w) hchk hk h5
      have hg:=hf2.get
      have hobj:(getObj b).run X.P w= .ok (.map es clock) w:=AT h4
      cases fr with
      | none=>
       simp only at hg
       refine⟨zv,fun bb=> ?_,by rw[hg];exact hzv G⟩
       rw[show a.eval x= .map (some b) from h1.1.trans h2]
       simp only[Instr.lookup,Sem.run_bind,run_underlying ht,Result.andThen_ok,hobj,Sem.run_pure,yF hchk hk,hf1,hzr w,hg]
       cases bb<;>rfl
      | some p=>
       obtain⟨i,u⟩:=p
       simp only at hg
       obtain⟨q,e,g1,g2,g3,g4⟩:=hg
       obtain⟨e',ge,gr⟩:=h5.get g1
       rw[g2] at ge
       cases ge
       refine⟨u,fun bb=> ?_,by rw[g4,g3];exact gr.2⟩
       rw[show a.eval x= .map (some b) from h1.1.trans h2]
       simp only[Instr.lookup,Sem.run_bind,run_underlying ht,Result.andThen_ok,hobj,Sem.run_pure,yF hchk hk,hf1,g4]
       cases bb<;>rfl
     split at h
     ·rename_i hok
      refine⟨_,h,fun C G ρ w a hM hop=> ?_⟩
      obtain⟨v,hr,hv⟩:=main C G ρ w a hM hop
      refine⟨_, ?_,[v,.bool (jy l key).isSome],rfl,v,_,rfl,yz ρ hv,_,_,rfl,rfl,rfl⟩
      simp only[execOp,ho,Sem.run_bind,hr,Result.andThen_ok,Sem.run_pure,hok,aga]
     ·rename_i hok
      refine⟨_,h,fun C G ρ w a hM hop=> ?_⟩
      obtain⟨v,hr,hv⟩:=main C G ρ w a hM hop
      refine⟨v, ?_,EK ρ hv⟩
      simp only[execOp,ho,Sem.run_bind,hr,Result.andThen_ok,Sem.run_pure,hok]
      rfl
    ·cases h
   ·cases h
  ·cases h
 ·cases h
theorem aam {G:Gh} {ρ:Env} {P0:Program} {C:Fr P0} {w:World} {P:Program} {d:TypeDesc} {x:CV} {n:Int} {v:Value} {t ty:TypeId} (h:WX M d x=some n) (ht:P.underlying t=some d) (hM:Mem C G ρ M w) (hv:aQ G ρ x v): (Builtin.len_ #[t] ty #[v]).run P w= .ok (.int .i64 n) w:=by
 cases x<;>simp only[WX] at h
 case str s=>
  split at h
  ·cases h
   simp[Builtin.len_,run_underlying ht,show v= .string (bs s) from hv,goInt,DV]
  ·cases h
 case sl t' l=>
  split at h
  ·cases h
   obtain⟨a,cap,e,_⟩:=hv
   simp[Builtin.len_,run_underlying ht,e,goInt]
  ·cases h
 case nils=>
  split at h
  ·cases h
   simp[Builtin.len_,run_underlying ht,show v=_ from hv,goInt]
  ·cases h
 case row j=>
  split at h
  ·split at h
   ·rename_i q hq
    cases h
    have hrow:=hM.rows j q hq
    have key:∃ a cap,ρ.rw j= .slice a q.l.length cap:=by
     unfold cN at hrow
     split at hrow
     ·obtain⟨a,cap,e,_⟩:=hrow;exact⟨a,cap,e⟩
     ·obtain⟨xs,⟨_,⟨e,e'⟩ | ⟨g,cap,cur,e,_⟩⟩,_⟩:=hrow
      ·exact⟨none,0,by rw[e,e']⟩
      ·exact⟨_,_,e⟩
    obtain⟨a,cap,e⟩:=key
    simp[Builtin.len_,run_underlying ht,hv.1,e,goInt]
   ·cases h
  ·cases h
 case mp j=>
  split at h
  ·split at h
   ·rename_i kk vv l hl
    cases h
    obtain⟨b,es,clock,h2,h3,h4,h5,_⟩:=hM.objs j _ hl
    have hlen:=h5.len
    simp only[Array.length_toList] at hlen
    simp[Builtin.len_,run_underlying ht,hv.1.trans h2,AT h4,goInt,hlen]
   ·cases h
  ·cases h
 all_goals cases h
theorem ab5 {c:Call} (ho:o.op= .call c) (h:cZ X o S M k=some r):∃ s,k s=some r/\gF X.P o S M s:=by
 unfold cZ at h
 rw[ho] at h
 simp only at h
 split at h
 ·rename_i b hcal
  obtain⟨callee,args,argTypes⟩:=c
  dsimp only at hcal
  subst hcal
  have opm:∀ x,x∈args->x∈o.op.operands:=fun x hx=>by simp[ho,Op.operands,Call.operands,hx]
  unfold Yf at h
  split at h
  ·split at h
   ·rename_i x t he ht
    split at h
    ·rename_i d hd
     split at h
     ·rename_i n hn
      refine⟨_,h,fun C G ρ w a hM hop=> ?_⟩
      match hargs:args.toList,he with
      | [y],he=>
       have hy:=aV (hop y (opm y (by rw[<- adf,hargs];simp))) (by simpa using he)
       have e1:args= #[y]:=by rw[<- adh (xs:=args),hargs]
       have e2:argTypes= #[t]:=by rw[<- adh (xs:=argTypes),ht]
       refine⟨.int .i64 n, ?_,rfl⟩
       have hl:=aam (ty:=o.type) hn hd hM hy
       simp[execOp,ho,resolve,invoke,builtin,e1,e2,hl]
      | [],he=>simp at he
      | _::_::_,he=>simp at he
     ·cases h
    ·cases h
   ·cases h
  ·split at h
   ·rename_i ik n ik' m he
    refine⟨_,h,fun C G ρ w a hM hop=> ?_⟩
    match hargs:args.toList,he with
    | [x,y],he=>
     simp only[aeK,aeM,List.cons.injEq,afR] at he
     have hx:=aV (hop x (opm x (by rw[<- adf,hargs];simp))) he.1
     have hy:=aV (hop y (opm y (by rw[<- adf,hargs];simp))) he.2
     have e1:args= #[x,y]:=by rw[<- adh (xs:=args),hargs]
     refine⟨.int ik (if m<n then m else n), ?_,rfl⟩
     simp[execOp,ho,resolve,invoke,builtin,e1,Builtin.min_,Builtin.min2,show a.eval x=_ from hx,show a.eval y=_ from hy]
    | [],he | [_],he | _::_::_::_,he=>simp at he
   ·cases h
  ·split at h
   ·rename_i ik n ik' m he
    refine⟨_,h,fun C G ρ w a hM hop=> ?_⟩
    match hargs:args.toList,he with
    | [x,y],he=>
     simp only[aeK,aeM,List.cons.injEq,afR] at he
     have hx:=aV (hop x (opm x (by rw[<- adf,hargs];simp))) he.1
     have hy:=aV (hop y (opm y (by rw[<- adf,hargs];simp))) he.2
     have e1:args= #[x,y]:=by rw[<- adh (xs:=args),hargs]
     refine⟨.int ik (if m>n then m else n), ?_,rfl⟩
     simp[execOp,ho,resolve,invoke,builtin,e1,Builtin.max_,Builtin.max2,show a.eval x=_ from hx,show a.eval y=_ from hy]
    | [],he | [_],he | _::_::_::_,he=>simp at he
   ·cases h
  ·cases h
 ·cases h
theorem Tx (h:cZ X o S M k=some r):∃ s,k s=some r/\gF X.P o S M s:=by
 cases ho:o.op with
 | move x=>exact Zh (.inl ho) h
 | assign x=>exact Zh (.inr ho) h
 | pick c x y=>exact ab8 ho h
 | binOp op t x y u=>exact abq ho h
 | unOp op t x=>exact ab9 ho h
 | convert t u x=>exact Zf ho h
 | nilCheck x=>exact Xr ho h
 | fieldAddr t x f=>exact US ho h
 | field t x f=>exact abt ho h
 | load t x=>exact ab7 ho h
 | indexAddr t x ix=>exact UT ho h
 | index t x ix=>exact abu ho h
 | extract x i=>exact Zg ho h
 | build t parts=>exact abr ho h
 | slice t x lo hi mx=>
  cases mx with
  | none=>exact abv ho h
  | some m=>unfold cZ at h;rw[ho] at h;cases h
 | call c=>exact ab5 ho h
 | makeFunc fn first caps=>exact Xq ho h
 | lookup t x ix cok=>exact aaA ho h
 | _=>unfold cZ at h;rw[ho] at h;cases h
end
end Go.Dn
namespace Go.Dn
variable {β:Type}
def l6 (G:Gh) (w:World) (e:TypeId) (t:Ty) (l:List t.den) (v:Value):Prop:=∃ xs,w.ownsRow 0 e t.size v l.length xs/\bQ (ax G t) l xs
def rS (G:Gh) (w:World) (k v:Ty) (l:List (k.den×v.den)) (b:Nat):Prop:=∃ es clock,w.heap[b]? =some (.map es clock)/\aG (vU G k v) l es.toList/\
 (∀ (i:Nat) (e:MapEntry),es.toList[i]? =some e->e.born<clock)/\es.toList.Pairwise (fun a b=>a.born<b.born)
def acU (G:Gh) (w:World) (ow:Nat->Option Nat) (n:Nat):(o:OT)->o.den->List Value->Prop
 | .val t,x,vs=>ax G t x vs
 | .row e t,l,vs=>∃ v,vs=[v]/\l6 G w e t l v/\∀ b,v.ownBlock=some b->ow b=some n
 | .map k v,l,vs=>∃ b,vs=[.map (some b)]/\ow b=some n/\rS G w k v l b
def yA (G:Gh) (w:World) (ow:Nat->Option Nat):Nat->(l:List OT)->kz l->List Value->Prop
 | _,[],_,vs=>vs=[]
 | n,o::r,x,vs=>∃ a b,vs=a++b/\acU G w ow n o x.1 a/\yA G w ow (n+1) r x.2 b
def vS (G:Gh) (w:World) (ow:Nat->Option Nat) (n:Nat) (l:List OT) (x:kz l) (v:Value):Prop:=
 ∃ b vs T,v= .pointer (some ⟨b,0,none⟩)/\ow b=some n/\w.heap[b]? =some (.cells (List.toArray vs) T (0,0))/\yA G w ow (n+1) l x vs
def AK (G:Gh) (w:World) (ow:Nat->Option Nat) (i:Nat):(p:PM)->p.den->Value->Prop
 | .val t,x,v=>bT G t x v
 | .row e t,l,v=>l6 G w e t l v/\∀ b,v.ownBlock=some b->ow b=some (64*i)
 | .mrow e t,l,v=>l6 G w e t l v/\∀ b,v.ownBlock=some b->ow b=some (64*i)
 | .map k e,l,v=>∃ b,v= .map (some b)/\ow b=some (64*i)/\rS G w k e l b
 | .box l,x,v=>vS G w ow (64*i) l x v
 | .ar t,l,_=>jR G w (fun b=>ow b=some (64*i)) false t l
 | .arR t,l,_=>jR G w (fun _=>True) true t l
def gf (G:Gh) (w:World) (ow:Nat->Option Nat):Nat->(ps:List PM)->dL ps->List Value->Prop
 | _,[],_,vs=>vs=[]
 | i,p::r,x,vs=>∃ v us,(p.arg=true->vs=v::us)/\(p.arg=false->vs=us)/\AK G w ow i p x.1 v/\gf G w ow (i+1) r x.2 us
def nC (G:Gh) (w:World) (ow:Nat->Option Nat):Nat->(ps:List PM)->dK ps->List Value->Prop
 | _,[],_,_=>True
 | i,.mrow e t::r,x,vs=>(∃ v,vs.head? =some v/\l6 G w e t x.1 v/\∀ b,v.ownBlock=some b->ow b=some (64*i))/\nC G w ow (i+1) r x.2 vs.tail
 | i,.map k e::r,x,vs=>(∃ b,vs.head? =some (.map (some b))/\ow b=some (64*i)/\rS G w k e x.1 b)/\nC G w ow (i+1) r x.2 vs.tail
 | i,.box l::r,x,vs=>(∃ v,vs.head? =some v/\vS G w ow (64*i) l x.1 v)/\nC G w ow (i+1) r x.2 vs.tail
 | i,.ar t::r,x,vs=>jR G w (fun b=>ow b=some (64*i)) false t x.1/\nC G w ow (i+1) r x.2 vs
 | i,.val _::r,x,vs=>nC G w ow (i+1) r x vs.tail
 | i,.row _ _::r,x,vs=>nC G w ow (i+1) r x vs.tail
 | i,.arR _::r,x,vs=>nC G w ow (i+1) r x vs
def Wd (G:Gh) (w:World) (ow:Nat->Option Nat) (c:Nat):(p:RM)->p.den->Value->Prop
 | .val t,x,v=>bT G t x v
 | .row e t,l,v=>l6 G w e t l v/\∀ b,v.ownBlock=some b->ow b=some (64*(24+c))
 | .map k e,l,v=>∃ b,v= .map (some b)/\ow b=some (64*(24+c))/\rS G w k e l b
 | .box l,x,v=>vS G w ow (64*(24+c)) l x v
def kr (G:Gh) (w:World) (ow:Nat->Option Nat) (ps:List PM) (args:List Value):Nat->(rs:List RM)->cD ps rs->List Value->Prop
 | _,[],x,vs=>vs=[]/\nC G w ow 0 ps x args
 | c,p::r,x,vs=>∃ v us,vs=v::us/\Wd G w ow c p x.1 v/\kr G w ow ps args (c+1) r x.2 us
def iU:List PM->Bool
 | []=>false
 | .ar _::_=>true
 | _::r=>iU r
def rj:List Value->Value
 | [v]=>v
 | l=> .tuple l.toArray
structure Jt (G:Gh) (w:World) (ow:Nat->Option Nat) (sp:an) (args:List Value) (y:cD sp.ps sp.rs) (e:Ending) (w':World) (G':Gh) (ow':Nat->Option Nat) (vs:List Value):Prop where
 ret:e= .returned (rj vs)
 le:G.le G'
 agr:Agr G' w'
 size:w.heap.size<=w'.heap.size
 os:w'.os=w.os
 output:w'.output=w.output
 old:∀ b,b<w.heap.size->ow b=none->w'.heap[b]? =w.heap[b]? /\G' b=G b
 own:∀ b i,ow' b=some i->G' b=none/\b<w'.heap.size/\(w.heap.size<=b\/ow b≠none)
 out:kr G' w' ow' sp.ps args 0 sp.rs y vs
 hnd:iU sp.ps=false->G'.hnd=G.hnd
def cM (P:Program) (f:FuncId) (sp:an):Prop:=
 ∀ (G:Gh) (w:World) (ow:Nat->Option Nat) (args:List Value) (x:dL sp.ps) (y:cD sp.ps sp.rs),Agr G w->(∀ b i,ow b=some i->G b=none/\b<w.heap.size)->
  gf G w ow 0 sp.ps x args->sp.m x=some y->bZ P G->Calls P f args.toArray w fun e w'=>∃ G' ow' vs,Jt G w ow sp args y e w' G' ow' vs
def dZ (P:Program) (f:FuncId):Prop:=∃ fn,P.funcs[f]? =some fn/\fn.body.isSome=true/\fn.name≠ "runtime.NumGoroutine"
def acA (P:Program) (f:FuncId):Hf->Prop
 | .mk g=>∃ bt,∀ (mb:Option Nat) (w:World),Calls P f #[.map mb] w fun e w'=>e= .returned (.func (.func g) #[] #[.pointer (some ⟨w.heap.size,0,none⟩)])/\w'=w.alloc (.cells #[.map mb] bt)
 | .srt g kt e=>P.underlying kt=some (.int .i64)/\∀ (Bm b nn:Nat) (D0:DataW Unit) (w:World),Bm<w.heap.size->w.cell? ⟨Bm,0,none⟩=some (.map (some b))->w.ownsMap P kt (fun _=>some (.nil,[])) b nn D0->Maps.size D0<=maxLen->Maps.size D0*8<=140737488355328->
  Calls P f #[.func (.func g) #[] #[.pointer (some ⟨Bm,0,none⟩)]] w fun e' w'=>∃ (v:Value) (ss:List Int),e'= .returned v/\ss.Perm (intKeys D0)/\w'.ownsRow w.heap.size e 1 v ss.length ((ss.mergeSort fun x y=>decide (x<=y)).map encZ)/\RowKit.Below w.heap.size w w'
 | .elt lo nb tb te m=>∀ (G:Gh) (w:World) (B R i cap:Nat) (e T:TypeId) (vs:List Value) (l:List tb.den) (ql ql':List te.den) (xs:List Value),Agr G w->bZ P G->B≠R->w.heap[B]? =some (.cells vs.toArray T (0,0))->vs.length=nb->
  (∃ u,vs[lo]? =some u/\bJ G tb.size (ax G tb) l u)->R<w.heap.size->w.ownsRow 0 e te.size (.slice (some ⟨R,0,none⟩) ql.length cap) ql.length xs->bQ (ax G te) ql xs->G B=none->G R=none->m l ql i=some ql'->
  Calls P f #[.pointer (some ⟨B,0,none⟩),.pointer (some ⟨R,i*te.size,none⟩)] w fun e' w'=>e'= .returned (rj [])/\∃ (G':Gh) (vs' xs':List Value) (T':TypeId),G.le G'/\G'.hnd=G.hnd/\Agr G' w'/\(∀ b,b<w.heap.size->G' b=G b)/\
   w'.os=w.os/\w'.output=w.output/\w.heap.size<=w'.heap.size/\(∀ b,b<w.heap.size->b≠B->b≠R->w'.heap[b]? =w.heap[b]?)/\w'.heap[B]? =some (.cells vs'.toArray T' (0,0))/\vs'.length=nb/\(∀ k,k≠lo->vs'[k]? =vs[k]?)/\
   (∃ u,vs'[lo]? =some u/\bJ G' tb.size (ax G' tb) l u)/\w'.ownsRow 0 e te.size (.slice (some ⟨R,0,none⟩) ql.length cap) ql'.length xs'/\bQ (ax G' te) ql' xs'
 | .nest p sp=>∀ (G:Gh) (w:World) (ow:Nat->Option Nat) (args:List Value) (x:dL sp.ps) (y:cD sp.ps sp.rs) (bm:Nat) (v:Value) (T:TypeId),Agr G w->(∀ b i,ow b=some i->G b=none/\b<w.heap.size)->
  gf G w ow 0 sp.ps x args->sp.m x=some y->bZ P G->args[p]? =some v->ow bm=none->G bm=none->w.heap[bm]? =some (.cells #[v] T (0,0))->
  Calls P f (args.set p (.pointer (some ⟨bm,0,none⟩))).toArray w fun e w'=>∃ w1 G' ow' vs T',w1.os=w'.os/\w1.output=w'.output/\w1.heap.size=w'.heap.size/\(∀ b,b≠bm->w1.heap[b]? =w'.heap[b]?)/\w'.heap[bm]? =some (.cells #[v] T' (0,0))/\Jt G w ow sp args y e w1 G' ow' vs
 | .srt2 g kt e cl cf=>∀ (G:Gh) (vt:Ty) (l:List ((List UInt8×List UInt8)×vt.den)) (Bm b clock:Nat) (es:Array MapEntry) (w:World),Agr G w->bZ P G->Bm<w.heap.size->w.cell? ⟨Bm,0,none⟩=some (.map (some b))->w.heap[b]? =some (.map es clock)->
  aG (vU G (.st (.pair .str .str)) vt) l es.toList->(∀ x,x∈es.toList->x.born<clock)->es.toList.Pairwise (fun a b=>a.born<b.born)->VD cf l=true->
  Calls P f #[.func (.func g) #[] #[.pointer (some ⟨Bm,0,none⟩)],.func (.func cl) #[] #[]] w fun e' w'=>∃ (v:Value) (xs:List Value),e'= .returned v/\w'.ownsRow w.heap.size e 2 v l.length xs/\bQ (ax G (.st (.pair .str .str))) (Fv cf l) xs/\
   w.heap.size<=w'.heap.size/\w'.os=w.os/\w'.output=w.output/\∀ b,b<w.heap.size->w'.heap[b]? =w.heap[b]?
 | .cop sz lo b e t=>∀ (G:Gh) (w:World) (vs:List Value) (u:Value) (l:List t.den),Agr G w->bZ P G->vs.length=sz->(∀ v∈vs,v.oneCell'=true)->vs[lo]? =some u->bJ G t.size (ax G t) l u->l.length*b<=140737488355328->l.length<=maxLen->
  Calls P f #[.agg vs.toArray] w fun e' w'=>∃ (G':Gh) (s:Value) (xs:List Value),e'= .returned (.agg (vs.set lo s).toArray)/\G.le G'/\G'.hnd=G.hnd/\Agr G' w'/\(∀ b,b<w.heap.size->G' b=G b)/\
   w'.ownsRow w.heap.size e t.size s l.length xs/\(∀ b,s.ownBlock=some b->G' b=none)/\bQ (ax G' t) l xs/\
   w.heap.size<=w'.heap.size/\w'.os=w.os/\w'.output=w.output/\∀ b,b<w.heap.size->w'.heap[b]? =w.heap[b]?
 | .own=>True
structure cA (X:Cx):Prop where
 fn:∀ f sp,(f,sp)∈X.specs->cM X.P f sp/\dZ X.P f
 key:∀ f kf,(f,kf)∈X.keys->acA X.P f kf/\(kf≠ .own->dZ X.P f)
theorem I8 {P:Program} {f:FuncId} {args:Array Value} {w:World} (h:dZ P f):(callFunc f args).run P w= .ok (.enter f args) w:=by
 obtain⟨fn,hf,hb,hn⟩:=h
 simp[callFunc,hf,hn]
 intro h0
 rw[h0] at hb
 cases hb
variable {P0:Program} {C:Fr P0} {G:Gh} {ρ:Env} {S:St} {w:World}
structure ER (o:Oper) (S M S1:St):Prop where
 ops:∀ x,x∈o.op.operands->S1.ev x=S.ev x
 boxes:∀ k cs,look M.boxes k=some cs->look S1.boxes k=some cs
 rows:∀ j q,look M.rows j=some q->look S1.rows j=some q
 objs:∀ j q,look M.objs j=some q->look S1.objs j=some q
theorem ER.refl (o:Oper) (S:St):ER o S S S:=⟨fun _ _=>rfl,fun _ _ h=>h,fun _ _ h=>h,fun _ _ h=>h⟩
theorem Mem.sub {M:St} (h:Mem C G ρ S w) (hb:∀ k cs,look M.boxes k=some cs->look S.boxes k=some cs) (hr:∀ j q,look M.rows j=some q->look S.rows j=some q) (ho:∀ j q,look M.objs j=some q->look S.objs j=some q):Mem C G ρ M w:=
 { h with boxes:=fun k cs hk=>h.boxes k cs (hb k cs hk),rows:=fun j q hj=>h.rows j q (hr j q hj),objs:=fun j q hj=>h.objs j q (ho j q hj),hndI:=fun hn=>⟨(h.hndI hn).1,fun t l hl=>(h.hndI hn).2 t l (ho br _ hl)⟩ }
def de (P:Program) (o:Oper) (S M:St) (x:Del):Prop:=
 ∀ (C:Fr P) (G:Gh) (ρ:Env) (S1:St) (w:World) (a:Act) (Q:Exit->Act->World->Prop),Mod C G ρ S1 w a->ER o S M S1->
  (∀ d,o.dst=some d->x.box.isSome=true->S1.bV d=false)->(∀ d,o.dst=some d->x.row.isSome=true->S1.aX d=false)->(∀ d,o.dst=some d->x.obj.isSome=true->S1.bu d=false/\S1.bn d=false)->
  o.wp P a w (fun a' w'=>∃ G' ρ',Mod C G' ρ' (S1.app o.dst x) w' a') Q
def lA (o:Oper) (S:St) (x:Del):Prop:=∀ d,o.dst=some d->(x.box.isSome=true->S.bV d=false)/\(x.row.isSome=true->S.aX d=false)/\(x.obj.isSome=true->S.bu d=false/\S.bn d=false)
theorem lA.val (o:Oper) (S:St) (s:SV):lA o S ⟨s,none,none,none⟩:=fun _ _=>⟨nofun,nofun,nofun⟩
theorem St.DR (S:St) (d:Option Tmp) (s:SV):S.app d ⟨s,none,none,none⟩=S.put d s:=by
 cases d<;>rfl
theorem de.Tj {P:Program} {o:Oper} {S M:St} {s:SV} (h:gF P o S M s):de P o S M ⟨s,none,none,none⟩:=by
 intro C G ρ S1 w a Q hM hN _ _ _
 obtain⟨v,hr,hv⟩:=h C G ρ w a (hM.toMem.sub hN.boxes hN.rows hN.objs) (fun x hx=>by rw[<- hN.ops x hx];exact hM.tmps.ev x)
 unfold Oper.wp
 rw[hr]
 refine⟨G,ρ, ?_⟩
 rw[St.DR]
 exact hM.put o.dst (fun _ _=>hv)
theorem ax.of_flat {G G':Gh} (hh:∀ h b,G.hnd h=some b->G'.hnd h=some b):∀ {t:Ty} {x:t.den} {cs:List Value},t.flat=true->ax G t x cs->ax G' t x cs
 | .int _,_,_,_,h=>h
 | .bool,_,_,_,h=>h
 | .str,_,_,_,h=>h
 | .unit,_,_,_,h=>h
 | .pair a b,(x,y),_,hf,⟨c,r,e,hx,hy⟩=>by
  simp only[Ty.flat,adj] at hf
  exact⟨c,r,e,ax.of_flat hh hf.1 hx,ax.of_flat hh hf.2 hy⟩
 | .st t,x,cs,hf,h=>ax.of_flat hh (t:=t) (x:=x) (by simpa [Ty.flat] using hf) h
 | .slice t,_,_,hf,_=>by simp[Ty.flat] at hf
 | .ptr t,x,_,hf,_=>by simp[Ty.flat] at hf
 | .clo _ t,x,_,hf,_=>by simp[Ty.flat] at hf
 | .hnd,none,_,_,h=>h
 | .hnd,some _,_,_,⟨b,hb,e⟩=>⟨b,hh _ _ hb,e⟩
theorem bT.of_flat {G G':Gh} (hh:∀ h b,G.hnd h=some b->G'.hnd h=some b) {t:Ty} {x:t.den} {v:Value} (hf:t.flat=true) (h:bT G t x v):bT G' t x v:=by
 cases t with
 | st t=>obtain⟨vs,e,hv⟩:=h;exact⟨vs,e,hv.of_flat hh (by simpa [Ty.flat] using hf)⟩
 | _=>exact ax.of_flat hh hf h
theorem Mod.after {G':Gh} {w':World} {a:Act} (h:Mod C G ρ S w a) (hle:G.le G') (hh:G'.hnd=G.hnd) (hagr:Agr G' w') (hs:w.heap.size<=w'.heap.size) (hos:w'.os=w.os) (hou:w'.output=w.output) (hold:∀ b,b<w.heap.size->w'.heap[b]? =w.heap[b]?) (hG:∀ b,b<w.heap.size->G' b=G b):Mod C G' ρ S w' a:=by
 have hX:=(h.toMem.toX none).grow (w':=w') (blk:=none) ⟨hos,hou,hs,fun b hb _=>hold b hb⟩ (by simp)
 have hX2:=hX.change (G':=G') (ρ':=ρ) hle hh hagr (fun b hb hB=>by rw[hG b (aft hb h.size)];exact h.old b hb hB) (fun _ _=>rfl) (fun _ _=>⟨rfl,rfl⟩) (fun p _ c _=> .refl ρ c)
  (fun b o ho=>by
    have:=h.owned b o ho
    exact⟨by rw[hG b this.2.1];exact this.1,aft this.2.1 hs,this.2.2⟩)
  (fun k cs _ _=>⟨rfl,id⟩) (fun j r _ _=>⟨rfl,fun _=>id⟩) (fun j r _ _=>⟨rfl,rfl,fun _=>id⟩)
 have hM:=hX2.toMem (fun k cs _ e=>by cases e) (fun j r _ e=>by cases e) (fun j r _ e=>by cases e)
 exact { hM with tmps:=h.tmps.congr hle ⟨fun s _=> .refl ρ s,fun p _ c _=> .refl ρ c⟩,defers:=h.defers }
theorem Te (rs:List (Nat×lJ)) (j i:Nat):look (vD rs j) i=if i=j then (look rs j).map (fun q=>{ q with fz:=true }) else look rs i:=by
 unfold vD
 cases hj:look rs j with
 | none=>
  by_cases e:i=j
  ·subst e;simp[hj]
  ·simp[e]
 | some q=>
  simp only[aq]
  by_cases e:i=j
  ·subst e;simp
  ·have:¬ j=i:=fun h=>e h.symm
   simp[e,this]
theorem Dw:∀ (js:List Nat) (rs:List (Nat×lJ)) (i:Nat),look (js.foldl vD rs) i=if i∈js then (look rs i).map (fun q=>{ q with fz:=true }) else look rs i
 | [],rs,i=>by simp
 | j::js,rs,i=>by
  rw[aed,Dw js,Te]
  by_cases e:i=j
  ·subst e
   by_cases e':i∈js
   ·simp[e',afO,Function.comp_def]
   ·simp[e']
  ·simp[e]
theorem M9 {M S1:St} {js:List Nat} (h:∀ j q,look M.rows j=some q->look S1.rows j=some q):∀ j q,look (aF M js).rows j=some q->look (aF S1 js).rows j=some q:=by
 intro j q hq
 simp only[Gv,Dw] at hq ⊢
 split at hq
 ·rename_i hm
  rw[af9 hm]
  cases hl:look M.rows j with
  | none=>rw[hl] at hq;cases hq
  | some q'=>rw[hl] at hq;rw[h j q' hl];exact hq
 ·rename_i hm
  rw[af8 hm]
  exact h j q hq
theorem IJ {M:St} {args:List SV} (h:Es M args=true):gP M args=[]/\∀ j q,look (aF M (eC M args)).rows j=some q->look M.rows j=some q:=by
 simp only[Es,adj,List.isEmpty_iff] at h
 refine⟨h.1,fun j q hq=> ?_⟩
 have e:eC M args=Dv args:=by simp[eC,h.1,vC]
 rw[e] at hq
 simp only[Gv,Dw] at hq
 split at hq
 ·rename_i hm
  have h2:=h.2
  simp only[adQ] at h2
  have:=h2 j hm
  cases hl:look M.rows j with
  | none=>rw[hl] at hq;cases hq
  | some q'=>
   rw[hl] at hq this
   simp only[afP,Option.some.injEq] at hq
   obtain⟨fz,e,t,l⟩:=q'
   dsimp only at this hq
   subst this
   rw[<- hq]
 ·exact hq
theorem Mod.aan {a:Act} (h:Mod C G ρ S w a) (js ks:List Nat) (ar:Bool):∃ G1 ρ1 G2,Fz G G1 ρ ρ1/\Mod C G1 ρ1 (aF S js) w a/\G1.le G2/\G2.hnd=G1.hnd/\Agr G2 w/\kQ G2 ρ1 (aF S js) ks/\ (ar=true->∀ fz t l,look S.objs br=some (.ar fz t l)->jR G2 w (fun _=>True) true t l)/\ (∀ b,G2 b≠G1 b->(∃ k,ρ1.own b=some (.inl k)/\inL ks k=true)\/(ar=true/\ρ1.own b=some (.ob br))):=by
 obtain⟨G1,ρ1,hfz,hM1⟩:=h.freeze js
 let G2:Gh:=⟨fun b=>match ρ1.own b with
  | some (.inl k)=>if inL ks k=true then w.heap[b]? else G1 b
  | some (.ob j)=>if ar=true/\j=br then w.heap[b]? else G1 b
  | some (.inr _)=>G1 b
  | none=>G1 b,G1.hnd⟩
 have hval:∀ b,G2 b=G1 b\/(G2 b=w.heap[b]? /\∃ o,ρ1.own b=some o):=fun b=>by
  simp only[G2]
  cases ho:ρ1.own b with
  | none=>exact .inl rfl
  | some o=>
   cases o with
   | inl k=>
    by_cases hk:inL ks k=true
    ·right;simp[hk]
    ·left;simp[hk]
   | inr j=>exact .inl rfl
   | ob j=>
    by_cases hk:ar=true/\j=br
    ·right;simp[hk]
    ·left;simp only[af8 hk]
 have hle:G1.le G2:=⟨fun b o hb=>by
  rcases hval b with h1 | ⟨_,o',ho⟩
  ·rw[h1];exact hb
  ·have:=(hM1.owned b o' ho).1
   rw[hb] at this
   (cases this),fun _ _ h=>h⟩
 refine⟨G1,ρ1,G2,hfz,hM1,hle,rfl, ?_, ?_, ?_, ?_⟩
 ·intro b o hb
  rcases hval b with h1 | ⟨h1,_⟩
  ·exact hM1.agr b o (by rw[<- h1];exact hb)
  ·rw[<- h1];exact hb
 ·intro k cs hk hcs
  obtain⟨ho,vs,T,hw,hv⟩:=hM1.boxes k cs hcs
  refine⟨vs,T,(0,0), ?_,hv.mono fun c v hc=>aQ.congr hle (.refl ρ1 c) hc⟩
  simp only[G2,ho,af9 hk];exact hw
 ·intro har fz t l hl
  have hok:jR G1 w (fun b=>ρ1.own b=some (.ob br)) fz t l:=(hM1.objs br _ (show look (aF S js).objs br=_ from hl)).2
  refine⟨hok.1,hok.2.1,fun i x hx=> ?_⟩
  obtain⟨b,vs,T,h1,h2,h3,h4,h5⟩:=hok.2.2 i x hx
  refine⟨b,vs,T,h1,fun _=> ?_,fun e=>(by cases e),h4,ax.mono hle t x _ h5⟩
  cases fz with
  | true=>exact hle _ _ (h2 rfl)
  | false=>simp only[G2,h3 rfl,har,and_self,aga];exact h4
 ·intro b hb
  simp only[G2] at hb
  cases ho:ρ1.own b with
  | none=>rw[ho] at hb;exact absurd rfl hb
  | some o=>
   rw[ho] at hb
   cases o with
   | inl k=>
    by_cases hk:inL ks k=true
    ·exact .inl ⟨k,rfl,hk⟩
    ·simp[hk] at hb
   | inr j=>exact absurd rfl hb
   | ob j=>
    by_cases hk:ar=true/\j=br
    ·right;exact⟨hk.1,by rw[hk.2]⟩
    ·simp only[af8 hk] at hb;exact absurd rfl hb
theorem qP {V:St} {fz:Bool} {t:Ty} {l:List t.den} (h:tZ V fz t=some l):∃ f,look V.objs br=some (.ar f t l)/\(fz=false->f=false):=by
 unfold tZ at h
 split at h
 ·rename_i f t' l' hl
  split at h
  ·cases h
  ·rename_i hf
   obtain⟨et,el⟩:=gN h
   subst et;subst el
   refine⟨f,hl,fun e=> ?_⟩
   subst e
   simpa using hf
 ·cases h
theorem sF {V:St} {fb:List Nat} (hF:ir G ρ V) (hL:kQ G ρ V fb) (w:World) (ow:Nat->Option Nat):∀ {ps:List PM} {args:List SV} {x:dL ps} {vs:List Value} (i:Nat), ((∃ p,p∈ps/\p.arg=false)->∀ fz t l,look V.objs br=some (.ar fz t l)->jR G w (fun _=>True) true t l)-> ps.all PM.isVal=true->cV V fb ps args=some x->aG (aZ G ρ) args vs->gf G w ow i ps x vs
 | [],[],x,vs,i,_,_,h,hv=>by cases hv;rfl
 | [],_::_,x,vs,i,_,_,h,hv=>by simp[cV] at h
 | p::r,args,x,vs,i,hA,hp,h,hv=>by
  simp only[adP,adj] at hp
  simp only[cV] at h
  have hA':(∃ p,p∈r/\p.arg=false)->∀ fz t l,look V.objs br=some (.ar fz t l)->jR G w (fun _=>True) true t l:=fun ⟨p',h1,h2⟩=>hA ⟨p',by simp[h1],h2⟩
  split at h
  ·rename_i s hs
   split at h
   ·rename_i y hy
    split at h
    ·rename_i z hz
     cases h
     cases p with
     | val t=>
      simp only[PM.arg,afX] at hs hz
      match args,hv,hs,hz with
      | s'::q,⟨v,us,e,hsv,hq⟩,hs,hz=>
       simp only[aex,Option.some.injEq] at hs
       subst hs
       exact⟨v,us,fun _=>e,fun e=>(by cases e),kI hF hL hy hsv,sF hF hL w ow (i+1) hA' hp.2 hz hq⟩
     | arR t=>
      simp only[PM.arg,afW] at hz
      obtain⟨f,hl,_⟩:=qP (show tZ V true t=some y from hy)
      exact⟨undef,vs,fun e=>(by cases e),fun _=>rfl,hA ⟨.arR t,by simp,rfl⟩ f t y hl,sF hF hL w ow (i+1) hA' hp.2 hz hv⟩
     | _=>simp[PM.isVal] at hp
    ·cases h
   ·cases h
  ·cases h
theorem VL {w:World} {ow:Nat->Option Nat} {ps:List PM} {args:List Value}:∀ {rs:List RM} {c:Nat} {y:cD ps rs} {vs:List Value},sL rs=true->kr G w ow ps args c rs y vs-> ∀ (G2:Gh) (ρ:Env),(∀ h b,G.hnd h=some b->G2.hnd h=some b)->(Ey rs=true\/G.le G2)->aG (fun p=>ku G2 ρ p.1 p.2) (JQ ps rs y) vs
 | [],c,y,vs,_,h,G2,ρ,_,_=>h.1
 | .val t::r,c,y,vs,hr,⟨v,us,e,hv,hu⟩,G2,ρ,hh,hG=>by
  refine⟨v,us,e, ?_,VL (by simpa [sL] using hr) hu G2 ρ hh ?_⟩
  ·rcases hG with hf | hle
   ·simp only[Ey,adj] at hf
    exact yz ρ (bT.of_flat hh hf.1 hv)
   ·exact yz ρ (bT.mono hle hv)
  ·rcases hG with hf | hle
   ·simp only[Ey,adj] at hf;exact .inl hf.2
   ·exact .inr hle
 | .row e t::r,c,y,vs,hr,_,_,_,_,_=>by simp[sL] at hr
 | .map e t::r,c,y,vs,hr,_,_,_,_,_=>by simp[sL] at hr
 | .box e::r,c,y,vs,hr,_,_,_,_,_=>by simp[sL] at hr
theorem N6 {l:List (Bool×List CV)} {vs:List Value} (h:aG (fun p=>ku G ρ p.1 p.2) l vs):aZ G ρ (yt l) (rj vs):=by
 match l,h with
 | [],h=>exact trivial
 | [p],h=>
  obtain⟨v,e,hv⟩:=h.single
  subst e
  exact hv
 | p::q::r,⟨v,us,e,hv,u,vs',e',hu,hr⟩=>
  subst e;subst e'
  exact⟨v::u::vs',rfl,v,u::vs',rfl,hv,u,vs',rfl,hu,hr⟩
end Go.Dn
namespace Go.Dn
variable {β:Type} {X:Cx} {o:Oper} {S M:St} {k:Del->Option β} {r:β}
theorem zw (w:World) (o:Obj) {b:Nat} (h:b<w.heap.size):(w.alloc o).heap[b]? =w.heap[b]? :=by
 simp only[World.alloc]
 rw[Array.getElem?_push_lt h,ac6 h]
theorem za {α γ δ:Type} {R:γ->δ->Prop} (f:α->γ) (g:α->δ):∀ (l:List α),(∀ x,x∈l->R (f x) (g x))->aG R (l.map f) (l.map g)
 | [],_=>rfl
 | x::l,h=>⟨_,_,rfl,h x (by simp),za f g l (fun y hy=>h y (by simp[hy]))⟩
theorem aba {t:TypeId} (ho:o.op= .alloc t) (h:dU X o S M k=some r):∃ x,k x=some r/\de X.P o S M x/\lA o S x:=by
 unfold dU at h
 rw[ho] at h
 simp only at h
 split at h
 ·rename_i z d hz hd
  split at h
  ·cases h
  ·rename_i hb
   simp only[adx,agd,ads,adr] at hb
   have hd2:d<2000:=by simpa using hb.2
   refine⟨_,h,fun C G ρ S1 w a Q hM hN hfb _ _=> ?_,fun d' hd'=>⟨fun _=>(by rw[hd] at hd';cases hd';exact hb.1.1),nofun,nofun⟩⟩
   obtain⟨i,v,hi,hv,hzc⟩:=nZ hz
   have hrun:(execOp a.eval o).run X.P w= .ok (.value (.pointer (some ⟨w.heap.size,0,none⟩))) (w.alloc (.cells v.cells t)):=by
    simp[execOp,ho,Instr.alloc,zeroValue,typeInfo,hi,hv,newVar,newRow]
   unfold Oper.wp
   rw[hrun]
   have hnb:=hM.jz (d:=d) (cs:=z) (vs:=v.cells.toList) (T:=t) hd2 (hfb d hd rfl) (fun c hc=>by
    have:=hb.1.2
    simp only[adR] at this
    simpa using this c hc) (hzc G ρ)
   refine⟨G,ρ.jz d w.heap.size, ?_⟩
   rw[hd]
   simpa [St.app] using hnb
 ·cases h
theorem acJ {t:TypeId} {x:Operand} (ho:o.op= .box t x) (h:dU X o S M k=some r):∃ x,k x=some r/\de X.P o S M x/\lA o S x:=by
 unfold dU at h
 rw[ho] at h
 simp only at h
 split at h
 ·rename_i ag cs d hx hd
  split at h
  ·cases h
  ·rename_i hb
   simp only[adx,agd,ads] at hb
   obtain⟨⟨⟨⟨⟨hb1,hb2⟩,hb0⟩,hb3⟩,hb4⟩,hb5⟩:=hb
   have hd2:d<2000:=by simpa using hb0
   refine⟨_,h,fun C G ρ S1 w a Q hM hN hfb _ _=> ?_,fun d' hd'=>⟨fun _=>(by rw[hd] at hd';cases hd';exact hb1),nofun,nofun⟩⟩
   have hv:=hM.tmps.ev x
   rw[hN.ops x (by simp[ho,Op.operands]),hx] at hv
   obtain⟨vs,ev,hvs,_⟩:=xJ hv (by simpa using hb5)
   have hrun:(execOp a.eval o).run X.P w= .ok (.value (.pointer (some ⟨w.heap.size,0,none⟩))) (w.alloc (.cells vs.toArray t)):=by
    simp[execOp,ho,Instr.box,newVar,newRow,ev]
   unfold Oper.wp
   rw[hrun]
   have hnb:=hM.jz (d:=d) (cs:=cs) (vs:=vs) (T:=t) hd2 (hfb d hd rfl) (fun c hc=>by
    simp only[adR] at hb2
    simpa using hb2 c hc) hvs
   refine⟨G,ρ.jz d w.heap.size, ?_⟩
   rw[hd]
   simpa [St.app] using hnb
 ·cases h
theorem lW:∀ (t:Ty) (x:t.den),(unpack t x).all CV.ok=true
 | .int _,_=>rfl
 | .bool,_=>rfl
 | .str,_=>rfl
 | .unit,_=>rfl
 | .pair a b,(x,y)=>by simp[unpack,adO,lW a x,lW b y]
 | .st t,x=>lW t x
 | .slice _,_=>rfl
 | .ptr _,_=>rfl
 | .clo _ _,_=>rfl
 | .hnd,_=>rfl
theorem bT.cells {G:Gh} {t:Ty} {x:t.den} {v:Value} (h:bT G t x v):∃ cs:List Value,v.cells=cs.toArray/\ax G t x cs/\∀ u,u∈cs->u.oneCell'=true:=by
 have hx:=yz (ρ:=⟨fun _=>0,fun _=> .nilFunc,fun _=>none,fun _=> .nilFunc,fun _ _=>0⟩) h
 cases t with
 | st t=>
  obtain⟨vs,e,hv⟩:=h
  obtain⟨us,eu,_,h1⟩:=xJ hx (lW t x)
  have:us=vs:=by
   rw[e] at eu
   simpa [Value.cells] using eu.symm
  subst this
  exact⟨us,eu,hv,h1⟩
 | _=>
  have hu:=fW (ρ:=⟨fun _=>0,fun _=> .nilFunc,fun _=>none,fun _=> .nilFunc,fun _ _=>0⟩) h
  have hok:=lW _ x
  match hq:unpack _ x,hu,hok with
  | [c],hu,hok=>
   obtain⟨y,e,hy⟩:=hu.single
   cases e
   simp only[adP,List.all_nil,adm] at hok
   have h1:=DX hy hok
   exact⟨[v],h1.2,h,fun u hu=>by
    rcases aeY.1 hu with rfl
    exact h1.1⟩
  | [],hu,_=>have:=hu.len;simp at this
  | _::_::_,hu,_=>have:=hu.len;simp at this
theorem FN {G:Gh} {ρ:Env} {M:St} (hF:ir G ρ M) {t:Ty}:∀ {ss:List SV} {l:List t.den} {vs:List Value},Be M t ss=some l->aG (aZ G ρ) ss vs-> l.length=vs.length/\(∀ v,v∈vs->v.cells.size=t.size)/\bQ (ax G t) l (vs.flatMap fun v=>v.cells.toList)
 | [],l,vs,h,hv=>by
  cases hv
  simp only[Be] at h
  cases h
  exact⟨rfl,fun v hv=>by (cases hv),rfl⟩
 | s::ss,l,vs,h,⟨v,us,e,hs,hus⟩=>by
  simp only[Be] at h
  split at h
  ·rename_i x hx
   split at h
   ·rename_i l' hl'
    cases h
    subst e
    obtain⟨h1,h2,h3⟩:=FN hF hl' hus
    obtain⟨cs,ec,hc,_⟩:=(kI hF (kQ.nil _ _ _) hx hs).cells
    refine⟨by simp[h1],fun u hu=> ?_, ?_⟩
    ·rcases aeO.1 hu with rfl | hu
     ·rw[ec];simpa using hc.len
     ·exact h2 u hu
    ·exact⟨cs,_,by simp[ec],hc,h3⟩
   ·cases h
  ·cases h
theorem Grow.XV {ρ:Env} {w:World} {o:Obj}:Grow ρ w (w.alloc o) none:=Grow.alloc ρ w o
theorem IB {t:TypeId} {len:Nat} {parts:Array (Nat×Operand)} (ho:o.op= .buildSlice t len parts) (h:NH X o t len parts S M k=some r):∃ x,k x=some r/\de X.P o S M x/\lA o S x:=by
 unfold NH at h
 split at h
 ·rename_i e d ht hd
  split at h
  ·rename_i ty zc hty hzc
   split at h
   ·cases h
   ·rename_i hb
    simp only[adx,agd,ads] at hb
    obtain⟨⟨⟨⟨⟨⟨hb1,hb0⟩,hb2⟩,hb3⟩,hb4⟩,hb5⟩,hb6⟩:=hb
    have hd2:d<2000:=by simpa using hb0
    have hlen:parts.size=len:=afm (by simpa using hb2)
    have hidx:parts.toList.map (·.1)=List.range len:=by simpa using hb3
    have hsz:b6 X.P e=ty.size:=afm (by simpa using hb4)
    have hpos:0<ty.size:=by
     rcases afn ty.size with h0 | h0
     ·rw[h0] at hb5;cases hb5
     ·exact h0
    have hsmall:len*ty.size<=16777216:=afo (by simpa using hb6)
    split at h
    ·rename_i l hl
     refine⟨_,h,fun C G ρ S1 w a Q hM hN _ hfr _=> ?_,fun d' hd'=>⟨nofun,fun _=>(by rw[hd] at hd';cases hd';exact hb1),nofun⟩⟩
     obtain⟨ie,z,hie,hz,_⟩:=nZ hzc
     have hies:ie.size=ty.size:=by rw[<- hsz,b6,hie];rfl
     have hF:ir G ρ M:=(hM.toMem.sub hN.boxes hN.rows hN.objs).frozen
     have hmem:∀ p,p∈parts.toList->p.2∈o.op.operands:=fun p hp=>by
      rw[ho];simp only[Op.operands,List.mem_toArray,aeT];exact⟨p,hp,rfl⟩
     have hvs:aG (aZ G ρ) (parts.toList.map fun p=>S.ev p.2) (parts.toList.map fun p=>a.eval p.2):=
      za _ _ _ fun p hp=>by rw[<- hN.ops p.2 (hmem p hp)];exact hM.tmps.ev p.2
     obtain⟨h1,h2,h3⟩:=FN hF hl hvs
     have hll:l.length=len:=by rw[h1];simp[hlen]
     have hparts:(parts.map fun (i,x)=>(i,a.eval x)).toList=((parts.toList.map fun p=>a.eval p.2).zipIdx 0).map fun x=>(x.2,x.1):=by
      simp only[Array.toList_map]
      apply ad9
      intro n
      simp only[aeo,List.getElem?_zipIdx,afH,afO]
      cases hn:parts.toList[n]? with
      | none=>simp
      | some p=>
       have:(parts.toList.map (·.1))[n]? =some p.1:=by rw[aeo,hn];rfl
       rw[hidx] at this
       have hlt:n<len:=by
        have:=(aen.1 this).1
        simpa using this
       rw[aep hlt] at this
       have:n=p.1:=by simpa using this
       simp[this]
     have hrun:(execOp a.eval o).run X.P w= .ok (.value (.slice (some ⟨w.heap.size,0,none⟩) len len)) (w.alloc (.cells ((parts.toList.map fun p=>a.eval p.2).flatMap fun v=>v.cells.toList).toArray e)):=by
      have hb:(Instr.buildSlice t len (parts.map fun (i,x)=>(i,a.eval x))).run X.P w= .ok (.slice (some ⟨w.heap.size,0,none⟩) len len) (w.alloc (.cells ((parts.toList.map fun p=>a.eval p.2).flatMap fun v=>v.cells.toList).toArray e)):=by
       by_cases h0:len=0
       ·have hpe:parts= #[]:=by
         apply Array.eq_empty_of_size_eq_zero;omega
        subst hpe
        subst h0
        simp[Instr.buildSlice,run_underlying ht,sizeOf,typeInfo,hie,newRow,Instr.fill,Array.range_zero']
       ·refine run_buildSlice w t e len _ _ ie z ht hie hz (by rw[hies];omega) (by rw[hies];exact Nat.mul_ne_zero h0 (by omega)) ?_
        rw[hparts,hies]
        exact Great.fill_whole hpos _ _ h2 (by simp[hlen])
      simp only[execOp,ho,Sem.run_bind,hb,Result.andThen_ok,Sem.run_pure]
     unfold Oper.wp
     rw[hrun]
     show ∃ G' ρ',Mod C G' ρ' (S1.app o.dst _) _ (a.put o.dst _)
     have hcsz:((parts.toList.map fun p=>a.eval p.2).flatMap fun v=>v.cells.toList).length=len*ty.size:=by
      rw[h3.len (fun x cs hr=>ax.len hr),hll]
     have hnew:=hM.putRow (w':=w.alloc (.cells ((parts.toList.map fun p=>a.eval p.2).flatMap fun v=>v.cells.toList).toArray e)) (blk:=none) (jo:=none) (d:=d)
      (v:= .slice (some ⟨w.heap.size,0,none⟩) len len) (r:=⟨false,e,ty,l⟩) (R:=S1.rows) Grow.XV (by simp) (fun i q hi=>⟨hi,by simp⟩) hd2 (hfr d hd rfl) rfl _
      (by rw[hll];exact World.ownsRow_lit (e:=e) (size:=ty.size) (base:=0) w _ len (afI _) (by simp only[maxLen];have:len<=len*ty.size:=Nat.le_mul_of_pos_right _ hpos;omega) (by simpa using hcsz))
      (by simpa using h3) (fun b hb=>by
        left
        simp only[Value.ownBlock,Option.some.injEq] at hb
        subst hb
        exact⟨afq _,by simp⟩)
     rw[hd]
     exact⟨G,_,hnew⟩
    ·cases h
  ·cases h
 ·cases h
theorem Rf {t:TypeId} {len:Nat} {parts:Array (Nat×Operand)} (ho:o.op= .buildSlice t len parts) (h:dU X o S M k=some r):∃ x,k x=some r/\de X.P o S M x/\lA o S x:=by
 unfold dU at h
 rw[ho] at h
 simp only at h
 split at h
 ·exact IB ho h
 split at h
 ·rename_i e ht
  split at h
  ·rename_i ty zc hty hzc
   split at h
   ·cases h
   ·rename_i hb
    simp only[adx,agd,ads] at hb
    obtain⟨⟨⟨⟨hb2,hb3⟩,hb4⟩,hb5⟩,hb6⟩:=hb
    have hlen:parts.size=len:=afm (by simpa using hb2)
    have hidx:parts.toList.map (·.1)=List.range len:=by simpa using hb3
    have hsz:b6 X.P e=ty.size:=afm (by simpa using hb4)
    have hpos:0<ty.size:=by
     rcases afn ty.size with h0 | h0
     ·rw[h0] at hb5;cases hb5
     ·exact h0
    have hsmall:len*ty.size<=16777216:=afo (by simpa using hb6)
    split at h
    ·rename_i l hl
     refine⟨_,h,fun C G ρ S1 w a Q hM hN _ _ _=> ?_,lA.val _ _ _⟩
     obtain⟨ie,z,hie,hz,_⟩:=nZ hzc
     have hies:ie.size=ty.size:=by rw[<- hsz,b6,hie];rfl
     have hF:ir G ρ M:=(hM.toMem.sub hN.boxes hN.rows hN.objs).frozen
     have hmem:∀ p,p∈parts.toList->p.2∈o.op.operands:=fun p hp=>by
      rw[ho];simp only[Op.operands,List.mem_toArray,aeT];exact⟨p,hp,rfl⟩
     have hvs:aG (aZ G ρ) (parts.toList.map fun p=>S.ev p.2) (parts.toList.map fun p=>a.eval p.2):=
      za _ _ _ fun p hp=>by rw[<- hN.ops p.2 (hmem p hp)];exact hM.tmps.ev p.2
     obtain⟨h1,h2,h3⟩:=FN hF hl hvs
     have hll:l.length=len:=by rw[h1];simp[hlen]
     have hparts:(parts.map fun (i,x)=>(i,a.eval x)).toList=((parts.toList.map fun p=>a.eval p.2).zipIdx 0).map fun x=>(x.2,x.1):=by
      simp only[Array.toList_map]
      apply ad9
      intro n
      simp only[aeo,List.getElem?_zipIdx,afH,afO]
      cases hn:parts.toList[n]? with
      | none=>simp
      | some p=>
       have:(parts.toList.map (·.1))[n]? =some p.1:=by rw[aeo,hn];rfl
       rw[hidx] at this
       have hlt:n<len:=by
        have:=(aen.1 this).1
        simpa using this
       rw[aep hlt] at this
       have:n=p.1:=by simpa using this
       simp[this]
     have hrun:(execOp a.eval o).run X.P w= .ok (.value (.slice (some ⟨w.heap.size,0,none⟩) len len)) (w.alloc (.cells ((parts.toList.map fun p=>a.eval p.2).flatMap fun v=>v.cells.toList).toArray e)):=by
      have hb:(Instr.buildSlice t len (parts.map fun (i,x)=>(i,a.eval x))).run X.P w= .ok (.slice (some ⟨w.heap.size,0,none⟩) len len) (w.alloc (.cells ((parts.toList.map fun p=>a.eval p.2).flatMap fun v=>v.cells.toList).toArray e)):=by
       by_cases h0:len=0
       ·have hpe:parts= #[]:=by
         apply Array.eq_empty_of_size_eq_zero;omega
        subst hpe
        subst h0
        simp[Instr.buildSlice,run_underlying ht,sizeOf,typeInfo,hie,newRow,Instr.fill,Array.range_zero']
       ·refine run_buildSlice w t e len _ _ ie z ht hie hz (by rw[hies];omega) (by rw[hies];exact Nat.mul_ne_zero h0 (by omega)) ?_
        rw[hparts,hies]
        exact Great.fill_whole hpos _ _ h2 (by simp[hlen])
      simp only[execOp,ho,Sem.run_bind,hb,Result.andThen_ok,Sem.run_pure]
     unfold Oper.wp
     rw[hrun]
     show ∃ G' ρ',Mod C G' ρ' (S1.app o.dst _) _ (a.put o.dst _)
     have hcsz:((parts.toList.map fun p=>a.eval p.2).flatMap fun v=>v.cells.toList).length=len*ty.size:=by
      rw[h3.len (fun x cs hr=>ax.len hr),hll]
     generalize hcells:((parts.toList.map fun p=>a.eval p.2).flatMap fun v=>v.cells.toList)=cells at*
     let G':Gh:=⟨fun b=>if b=w.heap.size then some (.cells cells.toArray e (0,0)) else G b,G.hnd⟩
     have hgn:=Is hM.toMem
     have hle:G.le G':=⟨fun b o hb=>by
      show (if b=w.heap.size then some (.cells cells.toArray e (0,0)) else G b)=some o
      by_cases e':b=w.heap.size
      ·subst e';rw[hgn] at hb;cases hb
      ·rw[af8 e'];exact hb,fun _ _ h=>h⟩
     have hM2:Mod C G' ρ S1 (w.alloc (.cells cells.toArray e)) a:=hM.after hle rfl (fun b o hb=>by
      have hb':(if b=w.heap.size then some (Obj.cells cells.toArray e (0,0)) else G b)=some o:=hb
      by_cases e':b=w.heap.size
      ·subst e'
       rw[af9 rfl] at hb'
       cases hb'
       exact heap_alloc_new w _
      ·rw[af8 e'] at hb'
       rw[zw _ _ (aB (hM.agr b o hb'))];exact hM.agr b o hb') (by simp) rfl rfl (fun b hb=>zw _ _ hb) (fun b hb=>by
      show (if b=w.heap.size then _ else G b)=G b
      rw[af8 (by omega)])
     refine⟨G',ρ, ?_⟩
     rw[St.DR]
     refine hM2.put o.dst (fun _ _=> ?_)
     show bJ G' ty.size (ax G' ty) l _
     refine⟨some ⟨w.heap.size,0,none⟩,len,by rw[hll],by rw[hll];exact afq _,by simp only[maxLen];have:len<=len*ty.size:=Nat.le_mul_of_pos_right _ hpos;omega,.inr ⟨w.heap.size,0,cells.toArray,e,(0,0),rfl, ?_, ?_, ?_⟩⟩
     ·show (if w.heap.size=w.heap.size then _ else _)=_
      rw[af9 rfl]
     ·simp only[ae9,afH];rw[hcsz,hll];exact afq _
     ·simp only[ad6]
      rw[afd (by rw[hcsz,hll];exact afq _)]
      exact h3.mono (ax.mono hle ty)
    ·cases h
  ·cases h
 ·cases h
theorem Pd (z:Value) {s:Nat} (hs:0<s) (hz:z.cells.size=s) (n:Nat):(madeCells z.cells (n*s)).toList=(List.replicate n z).flatMap fun v=>v.cells.toList:=by
 apply ad9
 intro k
 rw[Great.flat_get hs _ (fun v hv=>by rw[List.eq_of_mem_replicate hv];exact hz) k]
 simp only[madeCells,Array.toList_map,aeo,Array.toList_range]
 by_cases hk:k<n*s
 ·have h1:k / s<n:=(Nat.div_lt_iff_lt_mul hs).2 hk
  have h2:k % s<z.cells.size:=by rw[hz];exact Nat.mod_lt _ hs
  rw[aep hk]
  simp[h1,hz]
  rw[getElem!_pos z.cells (k % s) h2]
  simp[h2]
 ·have h1:¬ k / s<n:=fun h=>hk ((Nat.div_lt_iff_lt_mul hs).1 h)
  rw[aem (by simp;omega)]
  simp[h1]
theorem Ip (z:Value) {s:Nat} (hz:z.cells.size=s) (n m:Nat) (h:n<=m):((List.replicate m z).flatMap fun v=>v.cells.toList).take (n*s)=(List.replicate n z).flatMap fun v=>v.cells.toList:=by
 obtain⟨d,rfl⟩:=Nat.exists_eq_add_of_le h
 rw[<- List.replicate_append_replicate,aeb]
 have:((List.replicate n z).flatMap fun v=>v.cells.toList).length=n*s:=by
  clear h
  induction n with
  | zero=>simp
  | succ n ih=>simp[ae4,ih,hz,afi];omega
 rw[<- this,afb]
theorem bQ.replicate {α:Type} {R:α->List Value->Prop} {x:α} {c:List Value} (h:R x c):∀ n,bQ R (List.replicate n x) ((List.replicate n c).flatten)
 | 0=>rfl
 | n+1=>⟨c,_,by simp[ae4],h,bQ.replicate h n⟩
theorem UE {t:TypeId} {xl xc:Operand} (ho:o.op= .makeSlice t xl xc) (h:dU X o S M k=some r):∃ x,k x=some r/\de X.P o S M x/\lA o S x:=by
 unfold dU at h
 rw[ho] at h
 simp only at h
 split at h
 ·rename_i e d kl l kc c ht hd hl hc
  split at h
  ·rename_i ty hty
   split at h
   ·rename_i z hz
    split at h
    ·cases h
    ·rename_i hb
     simp only[adx,agd,ads] at hb
     obtain⟨⟨⟨hb1,hb0⟩,hb4⟩,hb5⟩:=hb
     have hd2:d<2000:=by simpa using hb0
     have hsz:b6 X.P e=ty.size:=afm (by simpa using hb4)
     have hpos:0<ty.size:=by
      rcases afn ty.size with h0 | h0
      ·rw[h0] at hb5;cases hb5
      ·exact h0
     obtain⟨hchk,h⟩:=dX h
     simp only[adj,af1] at hchk
     obtain⟨⟨⟨hc1,hc2⟩,hc3⟩,hc4⟩:=hchk
     refine⟨_,h,fun C G ρ S1 w a Q hM hN _ hfr _=> ?_,fun d' hd'=>⟨nofun,fun _=>(by rw[hd] at hd';cases hd';exact hb1),nofun⟩⟩
     obtain⟨ie,zv,hie,hzv,_,hzR⟩:=Og hz
     have hies:ie.size=ty.size:=by rw[<- hsz,b6,hie];rfl
     have hrep:ax G ty z zv.cells.toList:=by
      obtain⟨cs,ec,hc,_⟩:=(hzR G).cells
      rw[ec];simpa using hc
     have hzsz:zv.cells.size=ty.size:=by simpa using hrep.len
     have hvl:=aV (hM.tmps.ev xl) (by rw[hN.ops xl (by simp[ho,Op.operands])];exact hl)
     have hvc:=aV (hM.tmps.ev xc) (by rw[hN.ops xc (by simp[ho,Op.operands])];exact hc)
     rw[hie] at hc3
     have hrun:=run_make (P:=X.P) w t e ie zv ht hie hzv kl kc l c hc1 hc2 hc3 hc4
     unfold Oper.wp
     simp only[execOp,ho,show a.eval xl=_ from hvl,show a.eval xc=_ from hvc,Sem.run_bind,hrun,Result.andThen_ok,Sem.run_pure]
     have hcm:c.toNat<=maxLen:=by simp only[maxLen];omega
     have hnew:=hM.putRow (w':=w.alloc (.cells (madeCells zv.cells (c.toNat*ie.size)) e)) (blk:=none) (jo:=none) (d:=d)
      (v:= .slice (some ⟨w.heap.size,0,none⟩) l.toNat c.toNat) (r:=⟨false,e,ty,List.replicate l.toNat z⟩) (R:=S1.rows) Grow.XV (by simp) (fun i q hi=>⟨hi,by simp⟩) hd2 (hfr d hd rfl) rfl
      ((List.replicate l.toNat zv).flatMap fun v=>v.cells.toList)
      (by
        refine⟨?_,.inr ⟨w.heap.size,c.toNat,_,by simp,afI _,heap_alloc_new w _,by simp;omega,hcm,by rw[size_madeCells,hies], ?_⟩⟩
        ·rw[<- Ip zv hzsz l.toNat l.toNat (afq _)]
         have:=Ip zv hzsz l.toNat l.toNat (afq _)
         have hl2:((List.replicate l.toNat zv).flatMap fun v=>v.cells.toList).length=l.toNat*ty.size:=by
          generalize l.toNat=n
          induction n with
          | zero=>simp
          | succ n ih=>simp[ae4,ih,hzsz,afi];omega
         simp[hl2]
        ·rw[hies,Pd zv hpos hzsz,aeE]
         exact Ip zv hzsz _ _ (by omega))
      (by
        have:=bQ.replicate hrep l.toNat
        have e1:(List.replicate l.toNat zv.cells.toList).flatten=(List.replicate l.toNat zv).flatMap fun v=>v.cells.toList:=by
         rw[List.flatMap_def,List.map_replicate]
        rw[<- e1];exact this)
      (fun b hb=>by
        left
        simp only[Value.ownBlock,Option.some.injEq] at hb
        subst hb
        exact⟨afq _,by simp⟩)
     show ∃ G' ρ',Mod C G' ρ' (S1.app o.dst _) _ (a.put o.dst _)
     rw[hd]
     exact⟨G,_,hnew⟩
   ·cases h
  ·cases h
 ·cases h
def Env.kV (ρ:Env) (d b:Nat):Env:=⟨ρ.bx,ρ.rw,fun i=>if i=b then some (.ob d) else ρ.own i,fun i=>if i=d then .map (some b) else ρ.ob i,ρ.st⟩
theorem Mod.kV {P0:Program} {C:Fr P0} {G:Gh} {ρ:Env} {S:St} {w:World} {a:Act} {d:Nat} {kk vv:Ty} (h:Mod C G ρ S w a) (hd2:d<2000) (hn:S.bu d=false): Mod C G (ρ.kV d w.heap.size) { tmps:=S.tmps.set d (.v false [.mp d]),boxes:=S.boxes,rows:=S.rows,objs:=(d,.map kk vv [])::S.objs } (w.alloc (.map #[] 0)) (a.put (some d) (.map (some w.heap.size))):=by
 have hown:=VM h.toMem
 have hgh:=Is h.toMem
 have hsame:S.eY ρ (ρ.kV d w.heap.size):=Rq _ hn
 have hX:=((h.toMem.toX (some (.ob d))).grow (Grow.alloc ρ w (.map #[] 0)) (by simp)).change (G':=G) (ρ':=ρ.kV d w.heap.size) (Gh.le_refl G) rfl
  (fun b o hb=>by rw[zw _ _ (aB (h.agr b o hb))];exact h.agr b o hb) h.old (fun k hk=>rfl) (fun k hk=>⟨rfl,by simp[Env.kV,show ¬ k=d by omega]⟩) hsame.boxes
  (fun b o ho=>by
    simp only[Env.kV] at ho
    by_cases e:b=w.heap.size
    ·subst e;exact⟨hgh,by simp,.inl h.size⟩
    ·rw[af8 e] at ho;exact⟨(h.owned b o ho).1,by have:=(h.owned b o ho).2.1;simp;omega,(h.owned b o ho).2.2⟩)
  (fun k cs' hk hne=>by
    refine⟨rfl,fun ho=> ?_⟩
    have:ρ.bx k≠w.heap.size:=fun e=>by rw[e,hown] at ho;cases ho
    simp[Env.kV,this,ho])
  (fun j r hj _=>⟨rfl,fun b ho=>by
    have:b≠w.heap.size:=fun e=>by rw[e,hown] at ho;cases ho
    simp[Env.kV,this,ho]⟩)
  (fun j r hj hne=>by
    have hjd:j≠d:=fun e=>hne (by rw[e])
    refine⟨by simp[Env.kV,hjd],rfl,fun b ho=> ?_⟩
    have:b≠w.heap.size:=fun e=>by rw[e,hown] at ho;cases ho
    simp[Env.kV,this,ho])
 have hX':=hX.state (S':={ tmps:=S.tmps.set d (.v false [.mp d]),boxes:=S.boxes,rows:=S.rows,objs:=(d,.map kk vv [])::S.objs })
  (fun k cs' hk hne=>hk) (fun j r hj _=>hj) (fun j r hj hne=>by
    have hjd:d≠j:=fun e=>hne (by rw[e])
    simpa [aq,hjd] using hj) (fun t l hl=>by
    have hne:¬ d=br:=by simp only[br];omega
    simp only[aq,hne,af7] at hl
    exact⟨t,l,hl⟩)
 have hM:=hX'.toMem (fun k cs' hk e=>by cases e) (fun j r hj e=>by cases e) (fun j r hj e=>by
  cases e
  simp only[aq,aga,Option.some.injEq] at hj
  subst hj
  exact⟨w.heap.size, #[],0,by simp[Env.kV],by simp[Env.kV],heap_alloc_new w _,rfl,fun i e hi=>by simp at hi,by simp⟩)
 exact { hM with
  tmps:=(h.tmps.congr (Gh.le_refl G) hsame).put (some d) (fun _ _=>⟨by simp[Env.kV],_,rfl⟩)
  defers:=h.defers }
theorem YJ {t:TypeId} {res:Option Operand} (ho:o.op= .makeMap t res) (h:dU X o S M k=some r):∃ x,k x=some r/\de X.P o S M x/\lA o S x:=by
 unfold dU at h
 rw[ho] at h
 cases res with
 | some y=>simp only at h;unfold cZ at h;rw[ho] at h;cases h
 | none=>
  simp only at h
  split at h
  ·rename_i kt et d ht hd
   split at h
   ·rename_i kk vv hk hv
    split at h
    ·cases h
    ·rename_i hb
     simp only[adx,agd,ads,adr] at hb
     refine⟨_,h,fun C G ρ S1 w a Q hM hN _ _ hfo=> ?_,fun d' hd'=>⟨nofun,nofun,fun _=>(by rw[hd] at hd';cases hd';exact hb.1.1)⟩⟩
     have hrun:(execOp a.eval o).run X.P w= .ok (.value (.map (some w.heap.size))) (w.alloc (.map #[] 0)):=by
      simp[execOp,ho,Instr.makeMap,newObj]
      rfl
     unfold Oper.wp
     rw[hrun]
     have hnb:=hM.kV (d:=d) (kk:=kk) (vv:=vv) (by simpa using hb.2) (hfo d hd rfl).1
     refine⟨G,ρ.kV d w.heap.size, ?_⟩
     rw[hd]
     simpa [St.app] using hnb
   ·cases h
  ·cases h
end Go.Dn
namespace Go.Dn
open Go.Maps Go.WideElems
theorem PN {G:Gh} {e:Ty}:∀ {l:List (Int×e.den)} {es:List MapEntry},aG (vU G (.int .i64) e) l es->es.map (·.key)=l.map fun p=>Value.int .i64 p.1
 | [],es,h=>by
  have:es=[]:=h
  rw[this];rfl
 | p::l,es,⟨x,s,e0,h,hr⟩=>by
  subst e0
  have h1:[x.key]=[Value.int .i64 p.1]:=h.1
  rw[aeK,aeK,PN hr,(List.cons.inj h1).1]
theorem UO {P:Program} {kt:TypeId} {G:Gh} {w:World} {e:Ty} {l:List (Int×e.den)} {es:Array MapEntry} {clock b:Nat} (hk:P.underlying kt=some (.int .i64)) (hb:w.heap[b]? =some (.map es clock)) (h2:aG (vU G (.int .i64) e) l es.toList) (hborn:∀ x,x∈es.toList->x.born<clock) (hpw:es.toList.Pairwise (fun a b=>a.born<b.born)) (hlen:l.length<=maxLen) (hr:∀ p,p∈l->(Lit.int .i64 p.1).wf=true) (hnd:(l.map (·.1)).Nodup): ∃ D0:DataW Unit,w.ownsMap P kt (fun _=>some (.nil,[])) b l.length D0/\(l.map (·.1)).Perm (intKeys D0)/\Maps.size D0=l.length:=by
 have hkeys:=PN h2
 have hel:es.toList.length=l.length:=by
  have:=congrArg List.length hkeys
  simpa using this
 have hrd:∀ x,x∈es.toList->∃ n:Int,x.key= .int .i64 n/\(Lit.int .i64 n).wf=true:=by
  intro x hx
  have:x.key∈es.toList.map (·.key):=aeT.2 ⟨x,hx,rfl⟩
  rw[hkeys] at this
  obtain⟨p,hp,e⟩:=aeT.1 this
  exact⟨p.1,e.symm,hr p hp⟩
 have hrg:∀ x,x∈es.toList->∀ n:Int,x.key= .int .i64 n->(Lit.int .i64 n).wf=true->rd (H:=Unit) P kt (fun _=>some (.nil,[])) x=some (.int .i64 n,.nil):=by
  intro x _ n hn hw
  unfold rd
  have:keyOf P kt x.key=some (.int .i64 n):=by
   rw[hn]
   simp[keyOf,hk,mapKey,hw]
  rw[this];rfl
 refine⟨.map ((es.toList.map (rg P kt fun _=>some (.nil,[]))).foldr DataW.insert []),⟨es,clock,hb,⟨by rw[<- Array.length_toList,hel];exact hlen,⟨hborn, ?_, ?_⟩, ?_⟩,by rw[<- Array.length_toList,hel];exact afq _,rfl⟩, ?_, ?_⟩
 ·refine List.Pairwise.map _ (fun a b h=> ?_) hpw
  exact afD h
 ·rw[hkeys]
  have:(l.map fun p=>Value.int .i64 p.1)=(l.map (·.1)).map (Value.int .i64):=by rw[aeL];rfl
  rw[this]
  exact List.Pairwise.map _ (fun a b h e=>h (by cases e;rfl)) hnd
 ·intro x hx
  obtain⟨n,hn,hw⟩:=hrd x hx
  exact⟨_,hrg x hx n hn hw⟩
 ·have e1:(es.toList.map (rg (H:=Unit) P kt fun _=>some (.nil,[]))).map (fun p=>intOf p.1)=l.map (·.1):=by
   have:(es.toList.map (rg (H:=Unit) P kt fun _=>some (.nil,[]))).map (fun p=>intOf p.1)=es.toList.map fun x=>match x.key with | .int _ n=>n | _=>0:=by
    rw[aeL]
    apply aeJ
    intro x hx
    obtain⟨n,hn,hw⟩:=hrd x hx
    show intOf (rg P kt _ x).1=_
    unfold rg
    rw[hrg x hx n hn hw,hn]
    rfl
   rw[this]
   have:(es.toList.map fun x=>match x.key with | .int _ n=>n | _=>0)=(es.toList.map (·.key)).map fun v=>match v with | .int _ n=>n | _=>0:=by rw[aeL];rfl
   rw[this,hkeys,aeL]
   rfl
  show (l.map (·.1)).Perm (List.map (fun p:Lit×DataW Unit=>intOf p.1) _)
  rw[<- e1]
  exact ((Go.WideShapes.sorted_perm _).map _).symm
 ·show List.length _=_
  rw[length_sorted,aeB,hel]
end Go.Dn
namespace Go.Dn
variable {β:Type} {X:Cx} {o:Oper} {S M:St} {r:β} {P0:Program} {C:Fr P0} {G:Gh} {ρ:Env} {w:World}
theorem He {G:Gh} {ρ:Env}:∀ {cs:List CV} {vs:List Value},aG (aQ G ρ) cs vs->aG (aZ G ρ) (cs.map fun c=> .v false [c]) vs
 | [],_,h=>h
 | _::_,_,⟨v,us,e,hc,hr⟩=>⟨v,us,e,hc,He hr⟩
theorem gH {c:Call} {f:Nat} {args:List SV} {a:Act} (ho:o.op= .call c) (h:dD S c=some (f,args)) (hop:∀ x,x∈o.op.operands->aZ G ρ (S.ev x) (a.eval x)) (hb:dZ X.P f): ∃ vs:List Value,aG (aZ G ρ) args vs/\(execOp a.eval o).run X.P w= .ok (.enter f vs.toArray) w:=by
 obtain⟨callee,cargs,argTypes⟩:=c
 unfold dD at h
 simp only at h
 have hargs:aG (aZ G ρ) (cargs.toList.map S.ev) (cargs.toList.map a.eval):=za _ _ _ fun x hx=>hop x (by
  rw[ho];simp only[Op.operands,Call.operands,Array.mem_append];right;simpa using hx)
 split at h
 ·rename_i _ fop
  have hf:=hop fop (by rw[ho];simp[Op.operands,Call.operands])
  split at h
  ·rename_i g ks hg
   cases h
   rw[hg] at hf
   refine⟨cargs.toList.map a.eval++ks.map (fun k=>Value.pointer (some ⟨ρ.bx k,0,none⟩)),hargs.append (za _ _ _ fun k _=>rfl), ?_⟩
   have hv:a.eval fop= .func (.func f) #[] (ks.map fun k=>Value.pointer (some ⟨ρ.bx k,0,none⟩)).toArray:=hf
   have hcf:=I8 (w:=w) (args:=(cargs.toList.map a.eval++ks.map (fun k=>Value.pointer (some ⟨ρ.bx k,0,none⟩))).toArray) hb
   simp only[execOp,ho,resolve,hv,Deferred.ofValue,invoke,Sem.run_bind,Sem.run_pure,Result.andThen_ok]
   rw[<- hcf]
   congr 2
   apply Array.ext'
   simp
  ·rename_i g t x hg
   cases h
   rw[hg] at hf
   obtain⟨caps,ev,hc⟩:=hf
   refine⟨cargs.toList.map a.eval++caps,hargs.append (He (fW ρ hc)), ?_⟩
   have hcf:=I8 (w:=w) (args:=(cargs.toList.map a.eval++caps).toArray) hb
   simp only[execOp,ho,resolve,ev,Deferred.ofValue,invoke,Sem.run_bind,Sem.run_pure,Result.andThen_ok]
   rw[<- hcf]
   congr 2
   apply Array.ext'
   simp
  ·cases h
 ·cases h
theorem lQ {c:Call} {S1:St} (ho:o.op= .call c) (hN:∀ x,x∈o.op.operands->S1.ev x=S.ev x):dD S1 c=dD S c:=by
 obtain⟨callee,cargs,argTypes⟩:=c
 have h1:cargs.toList.map S1.ev=cargs.toList.map S.ev:=aeJ fun x hx=>hN x (by
  rw[ho];simp only[Op.operands,Call.operands,Array.mem_append];right;simpa using hx)
 unfold dD
 simp only[h1]
 cases callee with
 | value fop=>
  have:=hN fop (by rw[ho];simp[Op.operands,Call.operands])
  simp only[this]
 | invoke r m=>rfl
 | builtin b=>rfl
theorem KL {ps:List PM} (h:ps.all PM.isVal=true):iU ps=false:=by
 induction ps with
 | nil=>rfl
 | cons p r ih=>
  simp only[adP,adj] at h
  cases p<;>first | exact ih h.2 | simp[PM.isVal] at h
def zb (G' G3:Gh) (flat:Bool):Prop:=(∀ h b,G'.hnd h=some b->G3.hnd h=some b)/\(flat=true\/G'.le G3)
theorem zb.TC {G' G3:Gh} {t:Ty} (h:zb G' G3 t.flat) {l:List t.den} {cs:List Value} (hx:bQ (ax G' t) l cs):bQ (ax G3 t) l cs:=by
 rcases h.2 with hf | hle
 ·exact hx.mono (fun x cs hc=>ax.of_flat h.1 hf hc)
 ·exact hx.mono (ax.mono hle t)
theorem Mod.newRow {G':Gh} {a:Act} {w':World} {d:Nat} {v:Value} {r:lJ} (h0:Mod C G ρ S w a) (hle:G.le G') (hh:G'.hnd=G.hnd) (hagr:Agr G' w') (hsz:w.heap.size<=w'.heap.size) (hos:w'.os=w.os) (hou:w'.output=w.output) (hold:∀ b,b<w.heap.size->w'.heap[b]? =w.heap[b]?) (hG:∀ b,b<w.heap.size->G' b=G b) (hd2:d<2000) (hd:S.aX d=false) (hf:r.fz=false) (xs:List Value) (hown:w'.ownsRow 0 r.e r.t.size v r.l.length xs) (hrep:bQ (ax G' r.t) r.l xs) (hnew:∀ b,v.ownBlock=some b->w.heap.size<=b/\b<w'.heap.size/\G' b=none): Mod C G' (ρ.putRow d v) { tmps:=S.tmps.set d (.v false [.row d]),boxes:=S.boxes,rows:=(d,r)::S.rows,objs:=S.objs } w' (a.put (some d) v):=by
 have h:=h0.after hle hh hagr hsz hos hou hold hG
 have hsame:S.eY ρ (ρ.putRow d v):=GD _ hd
 have hfree:∀ b,v.ownBlock=some b->ρ.own b=none:=fun b hb=>by
  have h1:=(hnew b hb).1
  cases ho:ρ.own b with
  | none=>rfl
  | some o=>have:=(h0.owned b o ho).2.1;omega
 have hghost:∀ b,v.ownBlock=some b->G' b=none/\b<w'.heap.size/\(C.n0<=b\/C.B b):=fun b hb=>
  ⟨(hnew b hb).2.2,(hnew b hb).2.1,.inl (afs h0.size (hnew b hb).1)⟩
 have hX0:=h.toMem.toX none
 have hX1:=hX0.state (S':={ tmps:=S.tmps,boxes:=S.boxes,rows:=S.rows.filter fun p=> !Nat.beq p.1 d,objs:=S.objs }) (fun k cs hk _=>hk) (fun j q hj _=>by
  simp only[gV] at hj
  split at hj
  ·cases hj
  ·exact hj) (fun j q hj _=>hj) (fun t l h=>⟨t,l,h⟩)
 have hX2:=hX1.change (G':=G') (ρ':=ρ.putRow d v) (Gh.le_refl G') rfl hX0.agr hX0.old (fun _ _=>rfl) (fun k hk=>⟨by simp[Env.putRow,show ¬ k=d by omega],rfl⟩) hsame.boxes
  (fun b o ho=>by
    simp only[Env.putRow] at ho
    by_cases e:v.ownBlock=some b
    ·exact hghost b e
    ·rw[af8 e] at ho;exact hX0.owned b o ho)
  (fun k cs hk _=>⟨rfl,fun ho=>by
    have:v.ownBlock≠some (ρ.bx k):=fun e=>by
     have h1:=hfree _ e
     rw[ho] at h1;cases h1
    simp[Env.putRow,this,ho]⟩)
  (fun j q hj _=>by
    simp only[gV] at hj
    split at hj
    ·cases hj
    ·rename_i hjd
     refine⟨by simp[Env.putRow,hjd],fun b ho=> ?_⟩
     have:v.ownBlock≠some b:=fun e=>by
      have h1:=hfree _ e
      rw[ho] at h1;cases h1
     simp[Env.putRow,this,ho])
  (fun j q hj _=>⟨rfl,rfl,fun b ho=>by
    have:v.ownBlock≠some b:=fun e=>by
     have h1:=hfree _ e
     rw[ho] at h1;cases h1
    simp[Env.putRow,this,ho]⟩)
 refine { agr:=hX2.agr,le0:=hX2.le0,old:=hX2.old,frame:=hX2.frame,size:=hX2.size,os:=hX2.os,output:=hX2.output,pin:=hX2.pin,pinR:=hX2.pinR,owned:=hX2.owned,boxes:= ?_,rows:= ?_,objs:=fun j q hj=>hX2.objs j q hj (by simp),hndI:=hX2.hndI,tmps:= ?_,defers:=h.defers }
 ·intro k cs hk
  exact hX2.boxes k cs hk (by simp)
 ·intro j q hj
  simp only[aq] at hj
  split at hj
  ·rename_i e
   subst e
   cases hj
   unfold cN
   rw[af8 (by simp[hf])]
   refine⟨xs,by simpa [Env.putRow] using hown,hrep,fun b hb=> ?_⟩
   simp only[Env.putRow,aga] at hb ⊢
   rw[af9 hb]
  ·rename_i e
   have hjd:¬ j=d:=fun h=>e h.symm
   exact hX2.rows j q (by simp only[gV,af8 hjd];exact hj) (by simp)
 ·exact (h.tmps.congr (Gh.le_refl G') hsame).put (some d) (fun _ _=>⟨by simp[Env.putRow],by
   rcases hown.2 with ⟨e,_⟩ | ⟨g,cap,cur,e,_⟩
   ·exact⟨_,_,_,e⟩
   ·exact⟨_,_,_,e⟩⟩)
theorem zb.Mf {G' G3:Gh} {t:Ty} {f:Bool} (h:zb G' G3 f) (hf:f=true->t.flat=true) {x:t.den} {v:Value} (hx:bT G' t x v):bT G3 t x v:=by
 rcases h.2 with he | hle
 ·exact hx.of_flat h.1 (hf he)
 ·exact hx.mono hle
def Env.oJ (ρ:Env) (d b:Nat) (es:Array MapEntry):Env:=⟨ρ.bx,ρ.rw,fun i=>if i=b then some (.ob d) else ρ.own i,fun i=>if i=d then .map (some b) else ρ.ob i,fun i=>if i=d then (fun n=>match es.toList[n]? with | some e=>(e.born:Int) | none=>0) else ρ.st i⟩
theorem Rp {ρ:Env} {d b:Nat} {es:Array MapEntry} {S:St} (h:S.bu d=false) (h2:S.bn d=false):S.eY ρ (ρ.oJ d b es):=by
 simp only[St.bu,adw,adR] at h
 simp only[St.bn,adw,adR] at h2
 have cv:∀ c:CV,c.bu d=false->c.bn d=false->c.eY ρ (ρ.oJ d b es):=fun c hc hc2=>
  ⟨fun _ _=>rfl,fun _ _=>rfl,fun i hi=>by
    show (if i=d then _ else ρ.ob i)=ρ.ob i
    by_cases e:i=d
    ·subst e;rw[hc] at hi;cases hi
    ·simp[e],fun i hi=>by
    show (if i=d then _ else ρ.st i)=ρ.st i
    by_cases e:i=d
    ·subst e;rw[hc2] at hi;cases hi
    ·simp[e]⟩
 refine⟨fun s hs=> ?_,fun p hp c hc=>cv c ?_ ?_⟩
 ·have g1:=h.1 s hs
  have g2:=h2.1 s hs
  cases s with
  | v a cs=>exact fun c hc=>cv c (by simp only[SV.bu,adS,agc,agb] at g1;simpa using g1 c hc) (by simp only[SV.bn,adS,agc,agb] at g2;simpa using g2 c hc)
  | tup l=>exact fun p hp c hc=>cv c (by simp only[SV.bu,adS,agc,agb] at g1;simpa using g1 p hp c hc) (by simp only[SV.bn,adS,agc,agb] at g2;simpa using g2 p hp c hc)
 ·have:=h.2 p hp
  simp only[adS,agc,agb] at this
  simpa using this c hc
 ·have:=h2.2 p hp
  simp only[adS,agc,agb] at this
  simpa using this c hc
theorem Mod.aap {a:Act} {d b:Nat} {kk vv:Ty} {m:List (kk.den×vv.den)} (h:Mod C G ρ S w a) (hd2:d<2000) (hn:S.bu d=false) (hs:S.bn d=false) (hb0:ρ.own b=none) (hg:G b=none) (hlt:b<w.heap.size) (hC:C.n0<=b) (hm:rS G w kk vv m b) {sv:SV} {v:Value} (hv:∀ ρ':Env,ρ'.rw=ρ.rw->ρ'.ob d= .map (some b)->aZ G ρ' sv v): ∃ ρ',Mod C G ρ' { tmps:=S.tmps.set d sv,boxes:=S.boxes,rows:=S.rows,objs:=(d,.map kk vv m)::S.objs } w (a.put (some d) v):=by
 obtain⟨es,clock,hheap,hes,hborn,hpw⟩:=hm
 have hsame:S.eY ρ (ρ.oJ d b es):=Rp hn hs
 have hX:=(h.toMem.toX (some (.ob d))).change (G':=G) (ρ':=ρ.oJ d b es) (Gh.le_refl G) rfl
  h.agr h.old (fun k hk=>rfl) (fun k hk=>⟨rfl,by simp[Env.oJ,show ¬ k=d by omega]⟩) hsame.boxes
  (fun i o ho=>by
    simp only[Env.oJ] at ho
    by_cases e:i=b
    ·subst e;exact⟨hg,hlt,.inl hC⟩
    ·rw[af8 e] at ho;exact h.owned i o ho)
  (fun k cs' hk hne=>by
    refine⟨rfl,fun ho=> ?_⟩
    have:ρ.bx k≠b:=fun e=>by rw[e,hb0] at ho;cases ho
    simp[Env.oJ,this,ho])
  (fun j r hj _=>⟨rfl,fun i ho=>by
    have:i≠b:=fun e=>by rw[e,hb0] at ho;cases ho
    simp[Env.oJ,this,ho]⟩)
  (fun j r hj hne=>by
    have hjd:j≠d:=fun e=>hne (by rw[e])
    refine⟨by simp[Env.oJ,hjd],by simp[Env.oJ,hjd],fun i ho=> ?_⟩
    have:i≠b:=fun e=>by rw[e,hb0] at ho;cases ho
    simp[Env.oJ,this,ho])
 have hX':=hX.state (S':={ tmps:=S.tmps.set d sv,boxes:=S.boxes,rows:=S.rows,objs:=(d,.map kk vv m)::S.objs })
  (fun k cs' hk hne=>hk) (fun j r hj _=>hj) (fun j r hj hne=>by
    have hjd:d≠j:=fun e=>hne (by rw[e])
    simpa [aq,hjd] using hj) (fun t l hl=>by
    have hne:¬ d=br:=by simp only[br];omega
    simp only[aq,hne,af7] at hl
    exact⟨t,l,hl⟩)
 have hM:=hX'.toMem (fun k cs' hk e=>by cases e) (fun j r hj e=>by cases e) (fun j r hj e=>by
  cases e
  simp only[aq,aga,Option.some.injEq] at hj
  subst hj
  exact⟨b,es,clock,by simp[Env.oJ],by simp[Env.oJ],hheap,hes,fun i e hi=>⟨by show (e.born:Int)=(if d=d then _ else _:Nat->Int) i;rw[af9 rfl];show _=(match es.toList[i]? with | some e=>(e.born:Int) | none=>0);rw[hi],hborn i e hi⟩,hpw⟩)
 exact⟨ρ.oJ d b es,{ hM with
  tmps:=(h.tmps.congr (Gh.le_refl G) hsame).put (some d) (fun _ _=>hv _ rfl (by simp[Env.oJ]))
  defers:=h.defers }⟩
theorem RT {p:SV->Bool} {l:List SV} {d:Nat} {x:SV} (h:l.any p=false) (hx:p x=false):(l.set d x).any p=false:=by
 rw[adR] at h ⊢
 intro y hy
 rcases aeW hy with h1 | h1
 ·exact h y h1
 ·subst h1;simp[hx]
theorem Zx {d:Nat} {ps:List PM} {k:Del->Option β}:∀ {rs:List RM} {y:cD ps rs},Zw d ps rs y k=some r->(∃ (e:TypeId) (t:Ty) (l:List t.den),k ⟨.v false [.row d],none,some ⟨false,e,t,l⟩,none⟩=some r/\ ou rs=t.flat/\∀ {G:Gh} {w:World} {ow:Nat->Option Nat} {args vs:List Value},kr G w ow ps args 0 rs y vs->∃ v,vs=[v]/\l6 G w e t l v/\∀ b,v.ownBlock=some b->ow b=some (64*24))\/ (∃ (e:TypeId) (t:Ty) (l:List t.den) (kk vv:Ty) (m:List (kk.den×vv.den)),k ⟨.tup [(false,[.row d]),(false,[.mp d])],none,some ⟨false,e,t,l⟩,some (.map kk vv m)⟩=some r/\ ou rs=(t.flat&&(kk.flat&&vv.flat))/\∀ {G:Gh} {w:World} {ow:Nat->Option Nat} {args vs:List Value},kr G w ow ps args 0 rs y vs->∃ v b,vs=[v,.map (some b)]/\l6 G w e t l v/\(∀ b,v.ownBlock=some b->ow b=some (64*24))/\ow b=some (64*25)/\rS G w kk vv m b)\/ (∃ (e:TypeId) (t:Ty) (l:List t.den) (t2:Ty) (z:t2.den),k ⟨.tup [(false,[.row d]),Js t2 z],none,some ⟨false,e,t,l⟩,none⟩=some r/\ ou rs=(t.flat&&t2.flat)/\∀ {G:Gh} {w:World} {ow:Nat->Option Nat} {args vs:List Value},kr G w ow ps args 0 rs y vs->∃ v v2,vs=[v,v2]/\l6 G w e t l v/\(∀ b,v.ownBlock=some b->ow b=some (64*24))/\bT G t2 z v2)
 | [.row e t],y,h=> .inl ⟨e,t,y.1,h,rfl,fun ⟨v,us,e1,⟨h1,h2⟩,h3⟩=>⟨v,by rw[e1,h3.1],h1,h2⟩⟩
 | [.row e t,.map kk vv],y,h=> .inr <| .inl ⟨e,t,y.1,kk,vv,y.2.1,h,rfl,fun ⟨v,us,e1,⟨h1,h2⟩,⟨v2,us2,e2,⟨b,e3,h4,h5⟩,h3⟩⟩=>⟨v,b,by rw[e1,e2,e3,h3.1],h1,h2,h4,h5⟩⟩
 | [],_,h=>by cases h
 | .row _ _:: .row _ _::_,_,h=>by cases h
 | [.row e t,.val t2],y,h=> .inr <| .inr ⟨e,t,y.1,t2,y.2.1,h,rfl,fun ⟨v,us,e1,⟨h1,h2⟩,⟨v2,us2,e2,h4,h3⟩⟩=>⟨v,v2,by rw[e1,e2,h3.1],h1,h2,h4⟩⟩
 | .row _ _:: .val _::_::_,_,h=>by cases h
 | .row _ _:: .box _::_,_,h=>by cases h
 | .row _ _:: .map _ _::_::_,_,h=>by cases h
 | .val _::_,_,h=>by cases h
 | .map _ _::_,_,h=>by cases h
 | .box _::_,_,h=>by cases h
theorem Br {c:Call} {f:Nat} {args:List SV} {sp:an} {S1:St} {a:Act} {C:Fr X.P} (hX:cA X) (ho:o.op= .call c) (hcal:dD S c=some (f,args)) (hsp:look X.specs f=some sp) (hc1:sp.ps.all PM.isVal=true) (hc3:ou sp.rs=true\/(Es M args=true/\sp.ps.all PM.arg=true)) {x:dL sp.ps} {y:cD sp.ps sp.rs} (hx:cV (aF M (eC M args)) (gP M args) sp.ps args=some x) (hy:sp.m x=some y) (hM:Mod C G ρ S1 w a) (hN:ER o S M S1) {post:Act->World->Prop} {Q:Exit->Act->World->Prop} (hpost:∀ (us vs:List Value) (w':World) (G' G3:Gh) (ow':Nat->Option Nat),kr G' w' ow' sp.ps vs 0 sp.rs y us->G.le G3->G3.hnd=G.hnd->Agr G3 w'->w.heap.size<=w'.heap.size->w'.os=w.os->w'.output=w.output-> (∀ b,b<w.heap.size->w'.heap[b]? =w.heap[b]?)->(∀ b,b<w.heap.size->G3 b=G b)->zb G' G3 (ou sp.rs)->(∀ b i,ow' b=some i->w.heap.size<=b/\b<w'.heap.size/\G3 b=none)->post (a.put o.dst (rj us)) w'): o.wp X.P a w post Q:=by
 obtain⟨hfun,hbody⟩:=hX.fn f sp (mW hsp)
 have hcal1:dD S1 c=some (f,args):=by rw[lQ ho hN.ops];exact hcal
 have key:∃ G1:Gh,∃ vs:List Value,G.le G1/\G1.hnd=G.hnd/\Agr G1 w/\gf G1 w (fun _=>none) 0 sp.ps x vs/\(execOp a.eval o).run X.P w= .ok (.enter f vs.toArray) w/\
  (ou sp.rs=true\/G1=G):=by
  rcases hc3 with hflat | hnl
  ·obtain⟨G1,ρ1,G2,hfz,hM1,hle2,hhn2,hagr2,hlent,harok,_⟩:=hM.aan (eC M args) (gP M args) true
   obtain⟨vs,hvs,hrun⟩:=gH (S:=S1) (w:=w) (G:=G1) (ρ:=ρ1) (a:=a) ho hcal1 (fun z _=>by
    have:=hM1.tmps.ev z
    have e:(aF S1 (eC M args)).ev z=S1.ev z:=by cases z<;>rfl
    rw[e] at this;exact this) hbody
   have hF:ir G2 ρ1 (aF M (eC M args)):=fun j q hj hq=>bJ.mono hle2 (hM1.toMem.frozen j q (M9 hN.rows j q hj) hq)
   have hL:kQ G2 ρ1 (aF M (eC M args)) (gP M args):=fun k cs hk hcs=>hlent k cs hk (hN.boxes k cs hcs)
   refine⟨G2,vs,Gh.le_trans hfz.le hle2,hhn2.trans hfz.hnd,hagr2,sF hF hL w _ 0 (fun _ fz t l hl=>harok rfl fz t l (hN.objs br _ hl)) hc1 hx (hvs.mono fun s v hs=>aZ.congr hle2 (.refl ρ1 s) hs),hrun,.inl hflat⟩
  ·obtain⟨hlb,hrows⟩:=IJ hnl.1
   obtain⟨vs,hvs,hrun⟩:=gH (S:=S1) (w:=w) (G:=G) (ρ:=ρ) (a:=a) ho hcal1 (fun z _=>hM.tmps.ev z) hbody
   have hF:ir G ρ (aF M (eC M args)):=fun j q hj hq=>hM.toMem.frozen j q (hN.rows j q (hrows j q hj)) hq
   refine⟨G,vs,Gh.le_refl G,rfl,hM.agr,sF hF (by rw[hlb];exact kQ.nil _ _ _) w _ 0 (fun ⟨p,h1,h2⟩=> ?_) hc1 hx hvs,hrun,.inr rfl⟩
   have:=hnl.2
   simp only[adQ] at this
   rw[this p h1] at h2;cases h2
 obtain⟨G1,vs,hle1,hhn1,hagr1,hargs,hrun,hor⟩:=key
 have hcall:=hfun G1 w (fun _=>none) vs x y hagr1 (fun b i hb=>by cases hb) hargs hy (C.tab.mono (Gh.le_trans hM.le0 hle1))
 unfold Oper.wp
 rw[hrun]
 refine hcall.mono ?_
 rintro e' w' ⟨G',ow',us,hg⟩
 rw[hg.ret]
 let G3:Gh:=⟨fun b=>if b<w.heap.size then G b else G' b,G.hnd⟩
 have hnoar:iU sp.ps=false:=KL hc1
 have hhn':G'.hnd=G.hnd:=(hg.hnd hnoar).trans hhn1
 have hlt:∀ b o',G b=some o'->b<w.heap.size:=fun b o' hb=>aB (hM.agr b o' hb)
 have hle3:G.le G3:=⟨fun b o' hb=>by simp only[G3,af9 (hlt b o' hb)];exact hb,fun _ _ h=>h⟩
 have hagr3:Agr G3 w':=fun b o' hb=>by
  simp only[G3] at hb
  split at hb
  ·rename_i hb'
   rw[(hg.old b hb' rfl).1];exact hM.agr b o' hb
  ·exact hg.agr b o' hb
 have hT:zb G' G3 (ou sp.rs):=⟨fun i b hb=>by rw[hhn'] at hb;exact hb,by
  rcases hor with h1 | h1
  ·exact .inl h1
  ·right
   subst h1
   refine⟨fun b o' hb=> ?_,fun i b hb=>by rw[hhn'] at hb;exact hb⟩
   show (if b<w.heap.size then G1 b else G' b)=some o'
   by_cases hb':b<w.heap.size
   ·rw[af9 hb', <- (hg.old b hb' rfl).2];exact hb
   ·rw[af8 hb'];exact hb⟩
 exact hpost us vs w' G' G3 ow' hg.out hle3 rfl hagr3 hg.size hg.os hg.output (fun b hb=>(hg.old b hb rfl).1) (fun b hb=>by simp only[G3,af9 hb]) hT (fun b i hb=>by
  obtain⟨h1,h2,h3⟩:=hg.own b i hb
  have h4:w.heap.size<=b:=by rcases h3 with h3 | h3;exact h3;exact absurd rfl h3
  exact⟨h4,h2,by simp only[G3,af8 (Nat.not_lt.2 h4)];exact h1⟩)
theorem YI {c:Call} {f:Nat} {args:List SV} {sp:an} {d:Nat} {k:Del->Option β} (hX:cA X) (ho:o.op= .call c) (hd:o.dst=some d) (hcal:dD S c=some (f,args)) (hsp:look X.specs f=some sp) (h:Ot sp S M args d k=some r):∃ x,k x=some r/\de X.P o S M x/\lA o S x:=by
 unfold Ot at h
 split at h
 ·rename_i hc
  simp only[adj,adx,adt] at hc
  obtain⟨⟨⟨⟨⟨hc1,hc3⟩,hrow⟩,hdl⟩,hobj⟩,hstp⟩:=hc
  have hd2:d<2000:=by simpa using hdl
  split at h
  ·rename_i x hx
   obtain⟨y,hy,h⟩:=bind_some h
   rcases Zx h with ⟨e,t,l,hk,hfl,hout⟩ | ⟨e,t,l,kk,vv,m,hk,hfl,hout⟩ | ⟨e,t,l,t2,z,hk,hfl,hout⟩
   ·refine⟨_,hk,fun C G ρ S1 w a Q hM hN _ hfr _=> ?_,fun d' hd'=>⟨nofun,fun _=>(by rw[hd] at hd';cases hd';exact hrow),nofun⟩⟩
    refine Br hX ho hcal hsp hc1 hc3 hx hy hM hN ?_
    intro us vs w' G' G3 ow' ho1 hle3 hh3 hagr3 hsz hos hou hold hG3 hT hnw
    obtain⟨v,ev,⟨xs,hown,hrep⟩,how⟩:=hout ho1
    rw[hfl] at hT
    have hnew:=hM.newRow (d:=d) (v:=v) (r:=⟨false,e,t,l⟩) hle3 hh3 hagr3 hsz hos hou hold hG3 hd2 (hfr d hd rfl) rfl xs hown (hT.TC hrep) (fun b hb=>hnw b _ (how b hb))
    rw[hd,ev]
    exact⟨G3,_,hnew⟩
   ·refine⟨_,hk,fun C G ρ S1 w a Q hM hN _ hfr hfo=> ?_,fun d' hd'=>⟨nofun,fun _=>(by rw[hd] at hd';cases hd';exact hrow),fun _=>(by rw[hd] at hd';cases hd';exact⟨hobj,hstp⟩)⟩⟩
    refine Br hX ho hcal hsp hc1 hc3 hx hy hM hN ?_
    intro us vs w' G' G3 ow' ho1 hle3 hh3 hagr3 hsz hos hou hold hG3 hT hnw
    obtain⟨v,b,ev,⟨xs,hown,hrep⟩,how,hob,hmap⟩:=hout ho1
    rw[hfl] at hT
    have hT1:zb G' G3 t.flat:=⟨hT.1,hT.2.imp (fun e=>by simp only[adj] at e;exact e.1) id⟩
    have hnew:=hM.newRow (d:=d) (v:=v) (r:=⟨false,e,t,l⟩) hle3 hh3 hagr3 hsz hos hou hold hG3 hd2 (hfr d hd rfl) rfl xs hown (hT1.TC hrep) (fun b hb=>hnw b _ (how b hb))
    obtain⟨hb1,hb2,hb3⟩:=hnw b _ hob
    have hfo1:=hfo d hd rfl
    have hvb:v.ownBlock≠some b:=fun e=>by
     have:=how b e
     rw[hob] at this;simp at this
    have hm3:rS G3 w' kk vv m b:=by
     obtain⟨es,clock,g1,g2,g3,g4⟩:=hmap
     exact⟨es,clock,g1,g2.mono fun p q hpq=>⟨hT.Mf (fun e=>by simp only[adj] at e;exact e.2.1) hpq.1,hT.Mf (fun e=>by simp only[adj] at e;exact e.2.2) hpq.2⟩,g3,g4⟩
    have hsl:∃ a n c,v= .slice a n c:=by
     rcases hown.2 with ⟨e,_⟩ | ⟨g,cap,cur,e,_⟩
     ·exact⟨_,_,_,e⟩
     ·exact⟨_,_,_,e⟩
    obtain⟨ρ',hnew2⟩:=hnew.aap (d:=d) (b:=b) (kk:=kk) (vv:=vv) (m:=m) hd2
     (by
       have h1:=hfo1.1
       simp only[St.bu,adw] at h1 ⊢
       exact⟨RT h1.1 rfl,h1.2⟩)
     (by
       have h1:=hfo1.2
       simp only[St.bn,adw] at h1 ⊢
       exact⟨RT h1.1 rfl,h1.2⟩)
     (by
       simp only[Env.putRow,af8 hvb]
       cases hq:ρ.own b with
       | none=>rfl
       | some q=>have:=(hM.owned b q hq).2.1;omega)
     hb3 hb2 (afs hM.size hb1) hm3 (sv:= .tup [(false,[.row d]),(false,[.mp d])]) (v:= .tuple #[v,.map (some b)]) (fun ρ' h1 h2=>by
      refine⟨[v,.map (some b)],rfl,v,_,rfl, ?_,_,_,rfl, ?_,rfl⟩
      ·exact⟨by rw[h1];simp[Env.putRow],hsl⟩
      ·exact⟨h2.symm,_,rfl⟩)
    rw[hd,ev]
    refine⟨G3,ρ', ?_⟩
    simpa [St.app,List.set_set,Act.put,rj] using hnew2
   ·refine⟨_,hk,fun C G ρ S1 w a Q hM hN _ hfr _=> ?_,fun d' hd'=>⟨nofun,fun _=>(by rw[hd] at hd';cases hd';exact hrow),nofun⟩⟩
    refine Br hX ho hcal hsp hc1 hc3 hx hy hM hN ?_
    intro us vs w' G' G3 ow' ho1 hle3 hh3 hagr3 hsz hos hou hold hG3 hT hnw
    obtain⟨v,v2,ev,⟨xs,hown,hrep⟩,how,hrep2⟩:=hout ho1
    rw[hfl] at hT
    have hT1:zb G' G3 t.flat:=⟨hT.1,hT.2.imp (fun e=>by simp only[adj] at e;exact e.1) id⟩
    have hnew:=hM.newRow (d:=d) (v:=v) (r:=⟨false,e,t,l⟩) hle3 hh3 hagr3 hsz hos hou hold hG3 hd2 (hfr d hd rfl) rfl xs hown (hT1.TC hrep) (fun b hb=>hnw b _ (how b hb))
    have hsl:∃ a n c,v= .slice a n c:=by
     rcases hown.2 with ⟨e,_⟩ | ⟨g,cap,cur,e,_⟩
     ·exact⟨_,_,_,e⟩
     ·exact⟨_,_,_,e⟩
    have hnew2:=hnew.put (some d) (s:= .tup [(false,[.row d]),Js t2 z]) (v:= .tuple #[v,v2]) (fun _ _=>by
     refine⟨[v,v2],rfl,v,_,rfl, ?_,_,_,rfl, ?_,rfl⟩
     ·exact⟨by simp[Env.putRow],hsl⟩
     ·exact yz _ (hT.Mf (fun e=>by simp only[adj] at e;exact e.2) hrep2))
    rw[hd,ev]
    refine⟨G3,ρ.putRow d v, ?_⟩
    simpa [St.app,St.put,List.set_set,Act.put,rj] using hnew2
  ·cases h
 ·cases h
theorem pT {w:World} {base:Nat} {e:TypeId} {size:Nat} {v:Value} {n:Nat} {xs:List Value} (h:w.ownsRow base e size v n xs):w.ownsRow 0 e size v n xs/\∀ b,v.ownBlock=some b->base<=b/\b<w.heap.size:=by
 refine⟨⟨h.1, ?_⟩,fun b hb=> ?_⟩
 ·rcases h.2 with hn | ⟨g,cap,cur,hv,hb,hg,rest⟩
  ·exact .inl hn
  ·exact .inr ⟨g,cap,cur,hv,afI _,hg,rest⟩
 ·rcases h.2 with hn | ⟨g,cap,cur,hv,hb',hg,rest⟩
  ·rw[hn.1] at hb;cases hb
  ·rw[hv] at hb;cases hb
   exact⟨hb',aB hg⟩
theorem Qt {G:Gh}:∀ l:List Int,bQ (ax G (.int .i64)) l (l.map encZ)
 | []=>rfl
 | a::r=>⟨[encZ a],r.map encZ,rfl,rfl,Qt r⟩
theorem RP {G:Gh} {ρ:Env}:∀ {cs:List CV} {vs:List Value},aG (aQ G ρ) cs vs->cs.all CV.ok=true->∀ u,u∈vs->u.oneCell'=true
 | [],[],_,_,u,hu=>by cases hu
 | c::cs,vs,h,hok,u,hu=>by
  obtain⟨v,us,rfl,h1,h2⟩:=h
  rw[adP,adj] at hok
  rcases aeO.1 hu with e | e
  ·rw[e];exact (DX h1 hok.1).1
  ·exact RP h2 hok.2 u e
theorem abZ {c:Call} {f:Nat} {args:List SV} {k:Del->Option β} (hX:cA X) (ho:o.op= .call c) (hcal:dD S c=some (f,args)) (h:SW X S M f args o.dst k=some r):∃ x,k x=some r/\de X.P o S M x/\lA o S x:=by
 unfold SW at h
 split at h
 ·rename_i g hk
  obtain⟨⟨bt,hfun⟩,hbody0⟩:=hX.key f _ (mW hk)
  have hbody:=hbody0 nofun
  split at h
  ·rename_i j
   refine⟨_,h,fun C G ρ S1 w a Q hM hN _ _ _=> ?_,lA.val _ _ _⟩
   have hcal1:dD S1 c=some (f,[.v false [.mp j]]):=by rw[lQ ho hN.ops];exact hcal
   obtain⟨vs,hvs,hrun⟩:=gH (S:=S1) (w:=w) (G:=G) (ρ:=ρ) (a:=a) ho hcal1 (fun z _=>hM.tmps.ev z) hbody
   obtain⟨v,rfl,hv⟩:=hvs.single
   obtain⟨hv1,b,hv2⟩:v=ρ.ob j/\∃ b,v= .map (some b):=hv
   subst hv2
   unfold Oper.wp
   rw[hrun]
   refine (hfun (some b) w).mono ?_
   rintro e w' ⟨rfl,rfl⟩
   let G3:Gh:=⟨fun b'=>if b'=w.heap.size then some (.cells #[.map (some b)] bt (0,0)) else G b',G.hnd⟩
   have hlt:∀ b o',G b=some o'->b<w.heap.size:=fun b o' hb=>aB (hM.agr b o' hb)
   have hle3:G.le G3:=⟨fun b' o' hb=>by
    have:=hlt b' o' hb
    simp only[G3,af8 (afD this)];exact hb,fun _ _ h=>h⟩
   have hagr3:Agr G3 (w.alloc (.cells #[.map (some b)] bt)):=fun b' o' hb=>by
    simp only[G3] at hb
    split at hb
    ·rename_i e'
     subst e'
     cases hb
     show (w.heap.push _)[w.heap.size]? =_
     rw[ac9]
    ·have:=hlt b' o' hb
     rw[zw w _ this]
     exact hM.agr b' o' hb
   have hM3:=hM.after hle3 rfl hagr3 (by simp) rfl rfl (fun b' hb'=>zw w _ hb') (fun b' hb'=>by simp only[G3,af8 (afD hb')])
   refine⟨G3,ρ, ?_⟩
   rw[St.DR]
   refine hM3.put o.dst (fun _ _=> ?_)
   exact⟨w.heap.size,bt,(0,0),rfl,by simp only[G3,af9];rw[hv1]⟩
  ·cases h
 ·rename_i g kt e hk
  obtain⟨⟨hkt,hfun⟩,hbody0⟩:=hX.key f _ (mW hk)
  have hbody:=hbody0 nofun
  split at h
  ·rename_i g' j d hd
   split at h
   ·rename_i v l hl
    split at h
    ·rename_i hc
     simp only[adj,adt] at hc
     obtain⟨⟨hg,hrow⟩,hdl⟩:=hc
     have hd2:d<2000:=by simpa using hdl
     have hgg:g=g':=afm hg
     subst hgg
     obtain⟨hok,h⟩:=dX h
     simp only[YH,adj,af1] at hok
     obtain⟨hlen,hwf,hnd⟩:=hok
     have hml:(1000000:Nat)<=maxLen:=by decide
     refine⟨_,h,fun C G ρ S1 w a Q hM hN _ hfr _=> ?_,fun d' hd'=>⟨nofun,fun _=>(by rw[hd] at hd';cases hd';exact hrow),nofun⟩⟩
     have hcal1:dD S1 c=some (f,[.v false [.kseq g j]]):=by rw[lQ ho hN.ops];exact hcal
     obtain⟨vs,hvs,hrun⟩:=gH (S:=S1) (w:=w) (G:=G) (ρ:=ρ) (a:=a) ho hcal1 (fun z _=>hM.tmps.ev z) hbody
     obtain⟨v0,rfl,hv⟩:=hvs.single
     obtain⟨Bm,T,fz,hv1,hBm⟩:∃ b T fz,v0= .func (.func g) #[] #[.pointer (some ⟨b,0,none⟩)]/\G b=some (.cells #[ρ.ob j] T fz):=hv
     subst hv1
     obtain⟨b,es,clock,hob,hown,hheap,hes,hborn,hpw⟩:=hM.objs j _ (hN.objs j _ hl)
     have hBh:=hM.agr _ _ hBm
     have hBl:Bm<w.heap.size:=aB hBh
     rw[hob] at hBh
     obtain⟨D0,hD,hperm,hsize⟩:=UO (P:=X.P) (kt:=kt) hkt hheap hes (fun x hx=>by
      obtain⟨i,hi⟩:=List.getElem?_of_mem hx
      exact (hborn i x hi).2) hpw (afs hlen hml) (fun p hp=>by
      have:=age (adQ.1 hwf p hp)
      show (decide ((-9223372036854775808:Int)<=p.1)&&decide (p.1<=(9223372036854775807:Int)))=true
      rw[af0 this.1,af0 this.2];rfl) hnd
     have hcall:=hfun Bm b _ D0 w hBl (by simp[World.cell?,hBh]) hD (by rw[hsize];exact afs hlen hml) (by rw[hsize];omega)
     unfold Oper.wp
     rw[hrun]
     refine hcall.mono ?_
     rintro e' w' ⟨v,ss,rfl,hss,hrowS,hb⟩
     have hsort:ss.mergeSort (fun x y=>decide (x<=y))=RA l:=mergeSort_of_perm_i (hss.trans hperm.symm)
     have hslen:ss.length=(RA l).length:=by rw[<- hsort,List.length_mergeSort]
     rw[hsort,hslen] at hrowS
     have hlt:∀ b o',G b=some o'->b<w.heap.size:=fun b o' hb=>aB (hM.agr b o' hb)
     have hold:∀ b',b'<w.heap.size->w'.heap[b']? =w.heap[b']? :=fun b' hb'=>hb.block b' hb'
     have hagr:Agr G w':=fun b' o' hb'=>by rw[hold b' (hlt b' o' hb')];exact hM.agr b' o' hb'
     have hnew:=hM.newRow (d:=d) (v:=v) (r:=⟨false,e,.int .i64,RA l⟩) (Gh.le_refl G) rfl hagr hb.size hb.os hb.output hold (fun _ _=>rfl) hd2 (hfr d hd rfl) rfl _ (pT hrowS).1 (Qt _) (fun b' hb'=>by
      have h1:=(pT hrowS).2 b' hb'
      exact⟨h1.1,h1.2,by
       cases hG:G b' with
       | none=>rfl
       | some o'=>exact absurd (hlt b' o' hG) (Nat.not_lt.2 h1.1)⟩)
     rw[hd]
     exact⟨G,_,hnew⟩
    ·cases h
   ·cases h
  ·cases h
 ·rename_i g kt e cl cf hk
  obtain⟨hfun,hbody0⟩:=hX.key f _ (mW hk)
  have hbody:=hbody0 nofun
  split at h
  ·rename_i g' j cl' d hd
   split at h
   ·rename_i v l hl
    split at h
    ·rename_i hc
     simp only[adj,adt] at hc
     obtain⟨⟨⟨hg,hcl⟩,hrow⟩,hdl⟩:=hc
     have hd2:d<2000:=by simpa using hdl
     have hgg:g=g':=afm hg
     subst hgg
     have hcc:cl=cl':=afm hcl
     subst hcc
     obtain⟨hok,h⟩:=dX h
     refine⟨_,h,fun C G ρ S1 w a Q hM hN _ hfr _=> ?_,fun d' hd'=>⟨nofun,fun _=>(by rw[hd] at hd';cases hd';exact hrow),nofun⟩⟩
     have hcal1:dD S1 c=some (f,[.v false [.kseq g j],.v false [.fn cl []]]):=by rw[lQ ho hN.ops];exact hcal
     obtain⟨vs,hvs,hrun⟩:=gH (S:=S1) (w:=w) (G:=G) (ρ:=ρ) (a:=a) ho hcal1 (fun z _=>hM.tmps.ev z) hbody
     obtain⟨v0,us,rfl,hv,hus⟩:=hvs
     obtain⟨v2,rfl,hv2⟩:=hus.single
     obtain⟨Bm,T,fz,hv1,hBm⟩:∃ b T fz,v0= .func (.func g) #[] #[.pointer (some ⟨b,0,none⟩)]/\G b=some (.cells #[ρ.ob j] T fz):=hv
     subst hv1
     have hv2':v2= .func (.func cl) #[] #[]:=hv2
     subst hv2'
     obtain⟨b,es,clock,hob,hown,hheap,hes,hborn,hpw⟩:=hM.objs j _ (hN.objs j _ hl)
     have hBh:=hM.agr _ _ hBm
     have hBl:Bm<w.heap.size:=aB hBh
     rw[hob] at hBh
     have hlen2:(Fv cf l).length=l.length:=YG cf l
     have hcall:=hfun G v l Bm b clock es w hM.agr (C.tab.mono hM.le0) hBl (by simp[World.cell?,hBh]) hheap hes (fun x hx=>by
      obtain⟨i,hi⟩:=List.getElem?_of_mem hx
      exact (hborn i x hi).2) hpw hok
     unfold Oper.wp
     rw[hrun]
     refine hcall.mono ?_
     rintro e' w' ⟨u,xs,rfl,hrowS,hrep,hsz,hos,hou,hold⟩
     have hlt:∀ b o',G b=some o'->b<w.heap.size:=fun b o' hb=>aB (hM.agr b o' hb)
     have hagr:Agr G w':=fun b' o' hb'=>by rw[hold b' (hlt b' o' hb')];exact hM.agr b' o' hb'
     have hrowS:w'.ownsRow w.heap.size e 2 u (Fv cf l).length xs:=by rw[hlen2];exact hrowS
     have hnew:=hM.newRow (d:=d) (v:=u) (r:=⟨false,e,.st (.pair .str .str),Fv cf l⟩) (Gh.le_refl G) rfl hagr hsz hos hou hold (fun _ _=>rfl) hd2 (hfr d hd rfl) rfl _ (pT hrowS).1 hrep (fun b' hb'=>by
      have h1:=(pT hrowS).2 b' hb'
      exact⟨h1.1,h1.2,by
       cases hG:G b' with
       | none=>rfl
       | some o'=>exact absurd (hlt b' o' hG) (Nat.not_lt.2 h1.1)⟩)
     rw[hd]
     exact⟨G,_,hnew⟩
    ·cases h
   ·cases h
  ·cases h
 ·rename_i sz lo bb e t hk
  obtain⟨hfun,hbody0⟩:=hX.key f _ (mW hk)
  have hbody:=hbody0 nofun
  split at h
  ·rename_i cs d hd
   split at h
   ·rename_i t' l0 hlo
    split at h
    ·rename_i l hl
     split at h
     ·cases h
     ·rename_i hc
      simp only[adx,agd,ads,adr] at hc
      obtain⟨hsz,hrow,hcs,hdl,hone⟩:=hc
      have hd2:d<2000:=by simpa using hdl
      have hcl:cs.length=sz:=afm hsz
      obtain⟨hok,h⟩:=dX h
      simp only[adj,af1] at hok
      refine⟨_,h,fun C G ρ S1 w a Q hM hN _ hfr _=> ?_,fun d' hd'=>⟨nofun,fun _=>(by rw[hd] at hd';cases hd';exact hrow),nofun⟩⟩
      have hcal1:dD S1 c=some (f,[.v true cs]):=by rw[lQ ho hN.ops];exact hcal
      obtain⟨vs,hvs,hrun⟩:=gH (S:=S1) (w:=w) (G:=G) (ρ:=ρ) (a:=a) ho hcal1 (fun z _=>hM.tmps.ev z) hbody
      obtain⟨v0,rfl,hv⟩:=hvs.single
      obtain⟨us,rfl,hus⟩:∃ us:List Value,v0= .agg us.toArray/\aG (aQ G ρ) cs us:=hv
      obtain⟨u,hu,hsl⟩:=hus.get hlo
      have hsl2:bJ G t.size (ax G t) l u:=by
       obtain⟨e1,e2⟩:=gN hl
       subst e1
       have e3:l0=l:=e2
       rw[<- e3]
       exact hsl
      have hcall:=hfun G w us u l hM.agr (C.tab.mono hM.le0) (hus.len.trans hcl) (RP hus hone) hu hsl2 hok.1 hok.2
      unfold Oper.wp
      rw[hrun]
      refine hcall.mono ?_
      rintro e' w' ⟨G',s,xs,rfl,hle,hh,hagr,hGG,hrowS,hnone,hrep,hsz',hos,hou,hold⟩
      have hnew:=hM.newRow (d:=d) (v:=s) (r:=⟨false,e,t,l⟩) hle hh hagr hsz' hos hou hold hGG hd2 (hfr d hd rfl) rfl _ (pT hrowS).1 hrep (fun b' hb'=>by
       have h1:=(pT hrowS).2 b' hb'
       exact⟨h1.1,h1.2,hnone b' hb'⟩)
      have hsm:∀ c,c∈cs->c.eY ρ (ρ.putRow d s):=fun c hc=>⟨fun _ _=>rfl,fun k hk=>by
       have:¬ k=d:=fun e=>by
        subst e
        have:=adR.1 hcs c hc
        rw[hk] at this
        exact this rfl
       simp[Env.putRow,this],fun _ _=>rfl,fun _ _=>rfl⟩
      have hsr:∃ a n c,s= .slice a n c:=by
       rcases hrowS.2 with ⟨e,_⟩ | ⟨b0,c0,cu,e,_⟩
       ·exact⟨_,_,_,e⟩
       ·exact⟨_,_,_,e⟩
      have hSV:aZ G' (ρ.putRow d s) (.v true (cs.set lo (.row d))) (.agg (us.set lo s).toArray):=
       ⟨_,rfl,(aG.uY (fun c hc v h=>aQ.congr hle (hsm c hc) h) hus).set (show aQ G' (ρ.putRow d s) (.row d) s from ⟨by simp[Env.putRow],hsr⟩) lo⟩
      have h2:=hnew.put (some d) (fun _ _=>hSV)
      rw[hd]
      refine⟨G',ρ.putRow d s, ?_⟩
      have es:(St.put { tmps:=S1.tmps.set d (.v false [.row d]),boxes:=S1.boxes,rows:=(d,⟨false,e,t,l⟩)::S1.rows,objs:=S1.objs } (some d) (.v true (cs.set lo (.row d))))=S1.app (some d) ⟨.v true (cs.set lo (.row d)),none,some ⟨false,e,t,l⟩,none⟩:=by
       simp[St.put,St.app,List.set_set]
      have ea:(a.put (some d) s).put (some d) (.agg (us.set lo s).toArray)=a.put (some d) (.agg (us.set lo s).toArray):=by
       simp[Act.put]
      rw[es,ea] at h2
      exact h2
    ·cases h
   ·cases h
  ·cases h
 ·cases h
theorem abY {c:Call} {k:Del->Option β} (hX:cA X) (ho:o.op= .call c) (h:dU X o S M k=some r):∃ x,k x=some r/\de X.P o S M x/\lA o S x:=by
 unfold dU at h
 rw[ho] at h
 simp only at h
 split at h
 ·rename_i f args hcal
  split at h
  ·rename_i sp hsp
   split at h
   ·split at h
    ·rename_i d hd
     exact YI hX ho hd hcal hsp h
    ·cases h
   obtain⟨hfun,hbody⟩:=hX.fn f sp (mW hsp)
   unfold Vl at h
   split at h
   ·rename_i hc
    simp only[adj,adx] at hc
    obtain⟨⟨hc1,hc2⟩,hc3⟩:=hc
    split at h
    ·rename_i x hx
     obtain⟨y,hy,h⟩:=bind_some h
     refine⟨_,h,fun C G ρ S1 w a Q hM hN _ _ _=> ?_,lA.val _ _ _⟩
     have hcal1:dD S1 c=some (f,args):=by rw[lQ ho hN.ops];exact hcal
     have key:∃ G1:Gh,∃ vs:List Value,G.le G1/\G1.hnd=G.hnd/\Agr G1 w/\gf G1 w (fun _=>none) 0 sp.ps x vs/\(execOp a.eval o).run X.P w= .ok (.enter f vs.toArray) w/\
      (Ey sp.rs=true\/G1=G):=by
      rcases hc3 with hflat | hnl
      ·obtain⟨G1,ρ1,G2,hfz,hM1,hle2,hhn2,hagr2,hlent,harok,_⟩:=hM.aan (eC M args) (gP M args) true
       obtain⟨vs,hvs,hrun⟩:=gH (S:=S1) (w:=w) (G:=G1) (ρ:=ρ1) (a:=a) ho hcal1 (fun z _=>by
        have:=hM1.tmps.ev z
        have e:(aF S1 (eC M args)).ev z=S1.ev z:=by cases z<;>rfl
        rw[e] at this;exact this) hbody
       have hF:ir G2 ρ1 (aF M (eC M args)):=fun j q hj hq=>bJ.mono hle2 (hM1.toMem.frozen j q (M9 hN.rows j q hj) hq)
       have hL:kQ G2 ρ1 (aF M (eC M args)) (gP M args):=fun k cs hk hcs=>hlent k cs hk (hN.boxes k cs hcs)
       refine⟨G2,vs,Gh.le_trans hfz.le hle2,hhn2.trans hfz.hnd,hagr2,sF hF hL w _ 0 (fun _ fz t l hl=>harok rfl fz t l (hN.objs br _ hl)) hc1 hx (hvs.mono fun s v hs=>aZ.congr hle2 (.refl ρ1 s) hs),hrun,.inl hflat⟩
      ·obtain⟨hlb,hrows⟩:=IJ hnl.1
       obtain⟨vs,hvs,hrun⟩:=gH (S:=S1) (w:=w) (G:=G) (ρ:=ρ) (a:=a) ho hcal1 (fun z _=>hM.tmps.ev z) hbody
       have hF:ir G ρ (aF M (eC M args)):=fun j q hj hq=>hM.toMem.frozen j q (hN.rows j q (hrows j q hj)) hq
       refine⟨G,vs,Gh.le_refl G,rfl,hM.agr,sF hF (by rw[hlb];exact kQ.nil _ _ _) w _ 0 (fun ⟨p,h1,h2⟩=> ?_) hc1 hx hvs,hrun,.inr rfl⟩
       have:=hnl.2
       simp only[adQ] at this
       rw[this p h1] at h2;cases h2
     obtain⟨G1,vs,hle1,hhn1,hagr1,hargs,hrun,hor⟩:=key
     have hcall:=hfun G1 w (fun _=>none) vs x y hagr1 (fun b i hb=>by cases hb) hargs hy (C.tab.mono (Gh.le_trans hM.le0 hle1))
     unfold Oper.wp
     rw[hrun]
     refine hcall.mono ?_
     rintro e w' ⟨G',ow',us,hg⟩
     rw[hg.ret]
     let G3:Gh:=⟨fun b=>if b<w.heap.size then G b else G' b,G.hnd⟩
     have hnoar:iU sp.ps=false:=KL hc1
     have hhn':G'.hnd=G.hnd:=(hg.hnd hnoar).trans hhn1
     have hlt:∀ b o',G b=some o'->b<w.heap.size:=fun b o' hb=>aB (hM.agr b o' hb)
     have hle3:G.le G3:=⟨fun b o' hb=>by simp only[G3,af9 (hlt b o' hb)];exact hb,fun _ _ h=>h⟩
     have hagr3:Agr G3 w':=fun b o' hb=>by
      simp only[G3] at hb
      split at hb
      ·rename_i hb'
       rw[(hg.old b hb' rfl).1];exact hM.agr b o' hb
      ·exact hg.agr b o' hb
     have hM3:=hM.after hle3 rfl hagr3 hg.size hg.os hg.output (fun b hb=>(hg.old b hb rfl).1) (fun b hb=>by simp only[G3,af9 hb])
     have hres:=VL hc2 hg.out G3 ρ (fun i b hb=>by rw[hhn'] at hb;exact hb) (by
      rcases hor with h1 | h1
      ·exact .inl h1
      ·right
       subst h1
       refine⟨fun b o' hb=> ?_,fun i b hb=>by rw[hhn'] at hb;exact hb⟩
       show (if b<w.heap.size then G1 b else G' b)=some o'
       by_cases hb':b<w.heap.size
       ·rw[af9 hb', <- (hg.old b hb' rfl).2];exact hb
       ·rw[af8 hb'];exact hb)
     refine⟨G3,ρ, ?_⟩
     rw[St.DR]
     exact hM3.put o.dst (fun _ _=>N6 hres)
    ·cases h
   ·cases h
  ·exact abZ hX ho hcal h
 ·rename_i hcal
  obtain⟨s,hs,hq⟩:=Tx h
  exact⟨_,hs,.Tj hq,lA.val _ _ _⟩
theorem qM {k:Del->Option β} (hX:cA X) (h:dU X o S M k=some r):∃ x,k x=some r/\de X.P o S M x/\lA o S x:=by
 cases ho:o.op with
 | alloc t=>exact aba ho h
 | box t x=>exact acJ ho h
 | buildSlice t len parts=>exact Rf ho h
 | makeSlice t l c=>exact UE ho h
 | makeMap t res=>exact YJ ho h
 | call c=>exact abY hX ho h
 | _=>
  unfold dU at h
  rw[ho] at h
  obtain⟨s,hs,hq⟩:=Tx h
  exact⟨_,hs,.Tj hq,lA.val _ _ _⟩
end Go.Dn
namespace Go.Dn
variable {β:Type} {X:Cx} {o:Oper} {S:St} {r:β} {P0:Program} {C:Fr P0} {G:Gh} {ρ:Env} {w:World}
def eX (P:Program) (o:Oper) (S S':St):Prop:=
 ∀ (C:Fr P) (G:Gh) (ρ:Env) (w:World) (a:Act) (Q:Exit->Act->World->Prop),Mod C G ρ S w a->o.wp P a w (fun a' w'=>∃ G' ρ',Mod C G' ρ' S' w' a') Q
theorem eX.Xg {P:Program} {x:Del} (h:de P o S S x) (hf:lA o S x):eX P o S (S.app o.dst x):=
 fun C G ρ w a Q hM=>h C G ρ S w a Q hM (.refl o S) (fun d hd hb=>(hf d hd).1 hb) (fun d hd hb=>(hf d hd).2.1 hb) (fun d hd hb=>(hf d hd).2.2 hb)
theorem vE (S:St) (js:List Nat) (x:Operand):(aF S js).ev x=S.ev x:=by cases x<;>rfl
theorem eX.freeze {P:Program} {S':St} (js:List Nat) (h:eX P o (aF S js) S'):eX P o S S':=fun C G ρ w a Q hM=>by
 obtain⟨G1,ρ1,_,hM1⟩:=hM.freeze js
 exact h C G1 ρ1 w a Q hM1
theorem Grow.setRow {w:World} {g:Nat} {c:Array Value}:Grow ρ w (w.setRow g c) (some g):=
 ⟨rfl,rfl,by simp,fun b _ hb=>setRow_other w g b c (fun e=>hb (by rw[e]))⟩
theorem B7 {P:Program} {t:TypeId} (hok:okT P t=true) {g off:Nat} {cur:Array Value} {T:TypeId} {v:Value} {us:List Value} (hg:w.heap[g]? =some (.cells cur T (0,0))) (hv:v.cells=us.toArray) (hl:us.length=b6 P t) (hle:off+us.length<=cur.size) (h1:∀ u,u∈us->u.oneCell'=true): (Instr.storeAt t (.pointer (some ⟨g,off,none⟩)) v).run P w= .ok () (w.setRow g (cur.toList.take off++us++cur.toList.drop (off+us.length)).toArray):=by
 obtain⟨d,i,hd,hi⟩:=iG hok
 have hst:=run_storeCells_at (P:=P) g off T us 0 cur w hg (by simpa using hle) h1
 simp only[afj] at hst
 simp[Instr.storeAt,Instr.sureAddr,storeVar,run_sizeOf hi,hv,hl,hst]
theorem XF {t:TypeId} {x y:Operand} {b off:Nat} {ag:Bool} {cs:List CV} {k:St->Option β} (ho:o.op= .store t x y) (hd:o.dst=none) (hx:S.ev x= .v false [.ref b off]) (hy:S.ev y= .v ag cs) (h:rI X.P t S b off cs k=some r): ∃ S',k S'=some r/\eX X.P o S S':=by
 unfold rI at h
 split at h
 ·rename_i l hl
  split at h
  ·rename_i hc
   simp only[adj] at hc
   split at h
   ·rename_i l' hset
    obtain⟨hle,hl'⟩:=AX hset
    refine⟨_,h,fun C G ρ w a Q hM=> ?_⟩
    have hvx:=aV (hM.tmps.ev x) hx
    have hvy:=hM.tmps.ev y
    rw[hy] at hvy
    obtain⟨us,eu,hus,h1⟩:=xJ hvy hc.2
    obtain⟨_,vs,T,hw,hvs⟩:=hM.boxes b l hl
    have hlen:=hus.len
    have hlv:=hvs.len
    have hsz:=afm hc.1.2
    have hrun:=B7 (P:=X.P) hc.1.1 (off:=off) (v:=a.eval y) hw eu (by omega) (by simp;omega) h1
    unfold Oper.wp
    simp only[execOp,ho,show a.eval x=_ from hvx,Sem.run_bind,hrun,Result.andThen_ok,Sem.run_pure]
    simp only[Oper.upon,hd,Act.put]
    refine⟨G,ρ,hM.TG (vs:=vs.take off++us++vs.drop (off+us.length)) (T:=T) ⟨l,hl⟩ Grow.setRow ?_ ?_⟩
    ·exact setRow_heap w _ _ _ T _ hw
    ·rw[hl'];exact hvs.splice hus
   ·cases h
  ·cases h
 ·cases h
theorem Vg {α:Type} (cur us:List α) (N p sz off:Nat) (h1:p+sz<=N) (h2:N<=cur.length) (h3:off+us.length<=sz): (cur.take (p+off)++us++cur.drop (p+off+us.length)).take N= (cur.take N).take p++((((cur.take N).drop p).take sz).take off++us++(((cur.take N).drop p).take sz).drop (off+us.length))++(cur.take N).drop (p+sz):=by
 apply ad9
 intro k
 have l1:(cur.take (p+off)).length=p+off:=by simp;omega
 have l2:((cur.take N).take p).length=p:=by simp;omega
 have l3:((((cur.take N).drop p).take sz).take off).length=off:=by simp;omega
 have l4:((((cur.take N).drop p).take sz).drop (off+us.length)).length=sz - (off+us.length):=by simp;omega
 have l5:(((((cur.take N).drop p).take sz).take off++us++(((cur.take N).drop p).take sz).drop (off+us.length))).length=sz:=by rw[aey,aey,l3,l4];omega
 by_cases c0:k<N
 ·rw[aeu c0]
  by_cases c1:k<p
  ·rw[adT,aeg (by omega),adT,aeg (by omega)]
   simp[c0,c1,show k<p+off by omega]
  ·by_cases c2:k<p+off
   ·rw[adT,aeg (by omega),adT ((cur.take N).take p),aeh (by omega),aeg (by omega),adT,aeg (by omega)]
    simp only[aet,aek,l2]
    rw[af9 c2,af9 (by omega),af9 (by omega),af9 (by omega)]
    congr 1;omega
   ·by_cases c3:k<p+off+us.length
    ·rw[adT,aeh (by omega),aeg (by omega),adT ((cur.take N).take p),aeh (by omega),aeg (by omega),adT,aeh (by omega),aeg (by omega)]
     congr 1;omega
    ·rw[aeh (by rw[aey];omega)]
     by_cases c4:k<p+sz
     ·rw[adT ((cur.take N).take p),aeh (by omega),aeg (by omega),aeh (by rw[aey];omega)]
      simp only[aet,aek,aey,l1,l2,l3]
      rw[af9 (by omega),af9 (by omega)]
      congr 1;omega
     ·rw[aeh (by rw[aey];omega)]
      simp only[aet,aek,aey,l1,l2,l3,l4]
      rw[af9 (by omega)]
      congr 1;omega
 ·rw[aem (by simp;omega)]
  symm
  apply aem
  rw[aey,aey,l2,l5,aeA,aeH]
  omega
theorem XG {t:TypeId} {x y:Operand} {j sz i off:Nat} {ag:Bool} {cs:List CV} {k:St->Option β} (ho:o.op= .store t x y) (hd:o.dst=none) (hx:S.ev x= .v false [.rp j sz i off]) (hy:S.ev y= .v ag cs) (h:yq X.P t S j sz i off cs k=some r): ∃ S',k S'=some r/\eX X.P o S S':=by
 unfold yq at h
 split at h
 ·rename_i q hq
  split at h
  ·cases h
  ·rename_i hc
   simp only[adx,agd,ads,adr] at hc
   obtain⟨⟨⟨⟨hfz,hsz⟩,hok⟩,hlen⟩,hcv⟩:=hc
   have hsz':sz=q.t.size:=afm hsz
   have hlen':=afm hlen
   obtain⟨y0,hy0,h⟩:=bind_some h
   split at h
   ·rename_i cs' hset
    obtain⟨hle,hcs'⟩:=AX hset
    split at h
    ·rename_i y' hp
     refine⟨_,h,fun C G ρ w a Q hM=> ?_⟩
     have hvx:=aV (hM.tmps.ev x) hx
     have hvy:=hM.tmps.ev y
     rw[hy] at hvy
     obtain⟨us,eu,hus,h1⟩:=xJ hvy hcv
     have hrow:=hM.rows j q hq
     unfold cN at hrow
     rw[af8 (by simp[hfz])] at hrow
     obtain⟨xs,⟨hlen2,hn | ⟨g,cap',cur,hv,_,hg,hnc,hcm,hcz,htake⟩⟩,hl,hown⟩:=hrow
     ·have:q.l=[]:=ad8 hn.2
      rw[this] at hy0;simp at hy0
     ·obtain⟨b,len,cap,e1,e2⟩:=hvx
      rw[e1] at hv
      cases hv
      have hi:=(aen.1 hy0).1
      have hye:=hl.get (fun x cs hr=>ax.len hr) hy0
      have hae:=fW ρ hye
      have hlu:=hus.len
      have hla:=hae.len
      have hmul:i*q.t.size+q.t.size<=q.l.length*q.t.size:=by rw[<- Nat.succ_mul];exact afB _ hi
      have hmul2:q.l.length*q.t.size<=cur.size:=by rw[hcz];exact afB _ hnc
      have hel:((xs.drop (i*q.t.size)).take q.t.size).length=q.t.size:=hye.len
      have hoff:off+us.length<=q.t.size:=by omega
      have hnew:aG (aQ G ρ) cs' (((xs.drop (i*q.t.size)).take q.t.size).take off++us++((xs.drop (i*q.t.size)).take q.t.size).drop (off+us.length)):=by
       rw[hcs'];exact hae.splice hus
      have hrep:=L9 hM.toMem.frozen hp hnew
      have hset':=bQ.set (R:=ax G q.t) (n:=q.t.size) (fun x cs hr=>ax.len hr) hrep hl hi
      have hrun:=B7 (P:=X.P) hok (off:=i*sz+off) (v:=a.eval y) hg eu (by omega) (by rw[hsz'];omega) h1
      unfold Oper.wp
      simp only[execOp,ho,e2,Sem.run_bind,hrun,Result.andThen_ok,Sem.run_pure]
      simp only[Oper.upon,hd,Act.put]
      refine⟨G,ρ,hM.setRow (q:=q) (r:={ q with l:=q.l.set i y' }) hq hfz hfz (b:=g) (by rw[e1];rfl) Grow.setRow _ ?_ hset'⟩
      refine⟨?_,.inr ⟨g,cap',_, ?_,afI _,setRow_heap w g cur _ q.e _ hg, ?_,hcm, ?_, ?_⟩⟩
      ·have:=hset'.len (fun x cs hr=>ax.len hr)
       simpa using this
      ·rw[e1];simp
      ·simpa using hnc
      ·rw[<- hcz]
       simp
       rw[hsz']
       omega
      ·simp only[aeF]
       rw[hsz']
       have:=Vg cur.toList us (q.l.length*q.t.size) (i*q.t.size) q.t.size off hmul (by simpa using hmul2) hoff
       rw[this,htake]
    ·cases h
   ·cases h
 ·cases h
end Go.Dn
namespace Go.Dn
variable {β:Type} {X:Cx} {o:Oper} {S:St} {r:β} {P0:Program} {C:Fr P0} {G:Gh} {ρ:Env} {w:World}
theorem ax.one {t:Ty} {x:t.den} {cs:List Value} (h:ax G t x cs):∀ u,u∈cs->u.oneCell'=true:=by
 have hu:=fW (ρ:=⟨fun _=>0,fun _=> .nilFunc,fun _=>none,fun _=> .nilFunc,fun _ _=>0⟩) h
 have hok:=lW t x
 generalize unpack t x=l at hu hok
 clear h
 induction l generalizing cs with
 | nil=>intro u h;cases hu;cases h
 | cons c l ih=>
  obtain⟨y,s,e,hy,hs⟩:=hu
  simp only[adP,adj] at hok
  subst e
  intro u hu
  rcases aeO.1 hu with rfl | hu
  ·exact (DX hy hok.1).1
  ·exact ih hs hok.2 u hu
theorem bQ.one {t:Ty}:∀ {l:List t.den} {cs:List Value},bQ (ax G t) l cs->∀ u,u∈cs->u.oneCell'=true
 | [],_,h=>by cases h;intro u hu;cases hu
 | x::l,_,⟨c,r,e,hx,hl⟩=>by
  subst e
  intro u hu
  rcases aeN.1 hu with hu | hu
  ·exact hx.one u hu
  ·exact bQ.one hl u hu
theorem NJ {P:Program} {t ty e:TypeId} {i:TypeInfo} (ht:P.underlying t=some (.slice e)) (hi:P.info? e=some i) {b sa:Option Addr} {n cap c:Nat} (h:n<=cap): (Builtin.append_ #[t,t] ty #[.slice b n cap,.slice sa 0 c]).run P w= .ok (.slice b n cap) w:=by
 cases b with
 | none=>cases sa<;>simp[Builtin.append_,run_underlying ht,sizeOf,typeInfo,hi,Builtin.lenOf,h,Builtin.firstCells,loadCells,loadCellsFrom]
 | some b=>cases sa<;>simp[Builtin.append_,run_underlying ht,sizeOf,typeInfo,hi,Builtin.lenOf,h,Builtin.firstCells,loadCells,loadCellsFrom,storeCells]
theorem NI {P:Program} {t ty e:TypeId} {i:TypeInfo} {z:Value} {size:Nat} (ht:P.underlying t=some (.slice e)) (hi:P.info? e=some i) (hz:i.zero=some z) (hsize:i.size=size) (hzs:z.cells.size=size) (hsz:0<size) {v:Value} {n:Nat} {xs:List Value} (hown:w.ownsRow 0 e size v n xs) {sa:Option Addr} {m c:Nat} {news:List Value} (hl:news.length=m*size) (hnews:m=0\/∃ ad,sa=some ad/\∀ j u,news[j]? =some u->w.cell? (ad.add j)=some u) (h1:∀ u,u∈news->u.oneCell'=true) (h63:n+m<=maxLen) (hbytes:(n+m)*i.bytes<=140737488355328): ∃ v' w',(Builtin.append_ #[t,t] ty #[v,.slice sa m c]).run P w= .ok v' w'/\w'.ownsRow 0 e size v' (n+m) (xs++news)/\w.grownBy w' v.ownBlock/\ ∀ b,v'.ownBlock=some b->(w.heap.size<=b/\b<w'.heap.size)\/v.ownBlock=some b:=by
 by_cases hm:m=0
 ·subst hm
  have hn0:news=[]:=ad8 (by simpa using hl)
  subst hn0
  have key:∃ b cap,v= .slice b n cap/\n<=cap:=by
   rcases hown.2 with ⟨rfl,rfl⟩ | ⟨g,cap,cur,rfl,_,_,hnc,_⟩
   ·exact⟨none,0,rfl,afq _⟩
   ·exact⟨_,cap,rfl,hnc⟩
  obtain⟨b,cap,rfl,hnc⟩:=key
  refine⟨_,w,NJ ht hi hnc,by simpa using hown,⟨rfl,rfl,rfl,afq _,fun _ _ _=>rfl⟩,fun b' hb'=> .inr hb'⟩
 ·rcases hnews with h0 | ⟨ad,rfl,hnews⟩
  ·exact absurd h0 hm
  ·obtain⟨v',w',hr,ho',hg',_⟩:=run_append_own (P:=P) w 0 t ty e i z size i.bytes ht hi hz hsize rfl hzs hsz v n xs hown ad m c news hl hnews h1 h63 hbytes (afI _)
   refine⟨v',w',hr,ho',hg', ?_⟩
   have hsmall:n+m<=9223372036854775807:=by simp only[maxLen] at h63;omega
   subst hsize
   rcases hown.2 with ⟨rfl,rfl⟩ | ⟨g,cap,cur,rfl,hbg,hg,hnc,hcm,hcs,htake⟩
   ·have hr2:=run_append_nil (P:=P) w t ty e i z ht hi hz ad m c news hl hnews (by omega) (by omega) (by simp only[afH] at hbytes;omega)
    rw[hr2] at hr
    cases hr
    intro b hb
    left
    simp only[Value.ownBlock,Option.some.injEq] at hb
    subst hb
    exact⟨afq _,by simp[heap_drew]⟩
   ·by_cases hroom:n+m<=cap
    ·have hfit:n*i.size+news.length<=cur.size:=by rw[hl,hcs, <- afi];exact afB _ hroom
     have hr2:=run_append_room (P:=P) w t ty e i ht hi g n cap cur hg ad m c news hl hnews h1 hroom hfit
     rw[hr2] at hr
     cases hr
     intro b hb
     right
     exact hb
    ·have holds:∀ j u,xs[j]? =some u->w.cell? ((⟨g,0,none⟩:Addr).add j)=some u:=hown.cells (g:=g) rfl
     have hr2:=run_append_grow (P:=P) w t ty e i z ht hi hz ⟨g,0,none⟩ n cap xs hown.1 holds ad m c news hl hnews (by omega) (by omega) (growslice_fits (by omega) hbytes)
     rw[hr2] at hr
     cases hr
     intro b hb
     left
     simp only[Value.ownBlock,Option.some.injEq] at hb
     subst hb
     exact⟨afq _,by simp[heap_drew]⟩
theorem XX {ty:Ty} {x:CV} {l:List ty.den} {v:Value} (h:Hr S ty x=some l) (hM:Mem C G ρ S w) (hv:aQ G ρ x v): ∃ sa c news,v= .slice sa l.length c/\news.length=l.length*ty.size/\bQ (ax G ty) l news/\(l.length=0\/∃ ad,sa=some ad/\∀ j u,news[j]? =some u->w.cell? (ad.add j)=some u):=by
 have sl:∀ {l:List ty.den} {v:Value},bJ G ty.size (ax G ty) l v->∃ sa c news,v= .slice sa l.length c/\news.length=l.length*ty.size/\bQ (ax G ty) l news/\(l.length=0\/∃ ad,sa=some ad/\∀ j u,news[j]? =some u->w.cell? (ad.add j)=some u):=by
  intro l v ⟨a,cap,e,_,_,h3⟩
  rcases h3 with rfl | ⟨b,off,c,T,fz,rfl,hb,hs,hl⟩
  ·exact⟨a,cap,[],e,by simp,rfl,.inl rfl⟩
  ·exact⟨_,cap,_,e,hl.len (fun x cs hr=>ax.len hr),hl,.inr ⟨_,rfl,xI (hM.agr b _ hb) _⟩⟩
 cases x<;>simp only[Hr] at h
 case nils=>cases h;exact⟨none,0,[],hv,by simp,rfl,.inl rfl⟩
 case sl t' l'=>
  obtain⟨et,el⟩:=gN h
  subst et;subst el
  exact sl hv
 case row j=>
  split at h
  ·rename_i q hq
   obtain⟨et,el⟩:=gN h
   have hrow:=hM.rows j q hq
   obtain⟨qf,qe,qt,ql⟩:=q
   dsimp only at et el
   subst et;subst el
   unfold cN at hrow
   dsimp only at hrow
   split at hrow
   ·rw[hv.1];exact sl hrow
   ·obtain⟨xs,hown,hl,_⟩:=hrow
    have hown':=hown
    obtain⟨hlen,hn | ⟨g,cap,cur,e,_⟩⟩:=hown'
    ·exact⟨none,0,xs,by rw[hv.1,hn.1,hn.2],hlen,hl,.inl hn.2⟩
    ·exact⟨_,cap,xs,by rw[hv.1,e],hlen,hl,.inr ⟨_,rfl,fun j u hu=>hown.cells (g:=g) (by rw[e];rfl) j u hu⟩⟩
  ·cases h
 all_goals cases h
theorem aaH {args:Array Operand} {argTypes:Array TypeId} {k:St->Option β} (ho:o.op= .call { callee:= .builtin .append,args,argTypes }) (h:cF X o S k=some r):∃ S',k S'=some r/\eX X.P o S S':=by
 unfold cF at h
 rw[ho] at h
 simp only at h
 split at h
 ·rename_i s x t t' d he hty hd
  split at h
  ·rename_i e ht
   split at h
   ·rename_i ty zc htyo hzc
    split at h
    ·cases h
    ·rename_i hc
     simp only[adx,agd,ads,adr] at hc
     obtain⟨⟨⟨⟨⟨hc1,hc0⟩,hc2⟩,hc3⟩,hc4⟩,hc5⟩:=hc
     have hd2:d<2000:=by simpa using hc0
     have htt:t=t':=afm hc2
     have hsz:b6 X.P e=ty.size:=afm hc3
     have hzl:zc.length=ty.size:=afm hc5
     have hpos:0<ty.size:=by
      rcases afn ty.size with h0 | h0
      ·rw[h0] at hc4;cases hc4
      ·exact h0
     split at h
     ·rename_i l j l' hsrc hnew
      obtain⟨hchk,h⟩:=dX h
      simp only[adj,af1] at hchk
      refine⟨_,h,fun C G ρ w a Q hM=> ?_⟩
      obtain⟨ie,z,hie,hz,hzc'⟩:=nZ hzc
      have hies:ie.size=ty.size:=by rw[<- hsz,b6,hie];rfl
      have hzs:z.cells.size=ty.size:=by rw[<- hzl, <- (hzc' G ρ).len];simp
      rw[hie] at hchk
      simp only[afP,afK] at hchk
      match hargs:args.toList,he with
      | [xs,xx],he=>
       simp only[aeK,aeM,List.cons.injEq,afR] at he
       have e1:args= #[xs,xx]:=by rw[<- adh (xs:=args),hargs]
       have e2:argTypes= #[t,t]:=by rw[<- adh (xs:=argTypes),hty, <- htt]
       have hvs:=aV (hM.tmps.ev xs) he.1
       have hvx:=aV (hM.tmps.ev xx) he.2
       obtain⟨sa,c,news,ex,hnl,hnr,hnc⟩:=XX hnew hM.toMem hvx
       have src:∃ us,w.ownsRow 0 e ty.size (a.eval xs) l.length us/\bQ (ax G ty) l us/\(∀ b,(a.eval xs).ownBlock=some b->∃ i,j=some i/\ρ.own b=some (.inr i)):=by
        cases s<;>simp only[Mv] at hsrc
        case nils=>
         cases hsrc
         refine⟨[], ?_,rfl,fun b hb=> ?_⟩
         ·rw[show a.eval xs=_ from hvs];exact World.ownsRow_nil w 0 e ty.size
         ·rw[show a.eval xs=_ from hvs] at hb;cases hb
        case row i _he=>
         split at hsrc
         ·rename_i q hq
          split at hsrc
          ·cases hsrc
          ·rename_i hqc
           simp only[adx,agd,ads,adr] at hqc
           split at hsrc
           ·rename_i l0 hl0
            cases hsrc
            obtain⟨et,el⟩:=gN hl0
            have hrow:=hM.rows i q hq
            obtain⟨qf,qe,qt,ql⟩:=q
            dsimp only at et el hqc
            subst et;subst el
            have hee:qe=e:=afm hqc.2
            subst hee
            unfold cN at hrow
            rw[af8 (by simp[hqc.1])] at hrow
            obtain⟨us,hown,hl,ho'⟩:=hrow
            rw[hvs.1]
            exact⟨us,hown,hl,fun b hb=>⟨i,rfl,ho' b hb⟩⟩
           ·cases hsrc
         ·cases hsrc
        all_goals cases hsrc
       obtain⟨us,hown,hrep,hblk⟩:=src
       obtain⟨v',w',hr,ho',hg',hb'⟩:=NI (P:=X.P) (ty:=o.type) ht hie hz hies hzs hpos hown (sa:=sa) (c:=c) hnl hnc hnr.one hchk.2 hchk.1
       have hrun:(execOp a.eval o).run X.P w= .ok (.value v') w':=by
        simp[execOp,ho,resolve,invoke,builtin,e1,e2,ex,hr]
       unfold Oper.wp
       rw[hrun]
       show ∃ G' ρ',Mod C G' ρ' _ _ (a.put o.dst _)
       rw[hd]
       refine⟨G,_,hM.putRow (w':=w') (blk:=(a.eval xs).ownBlock) (jo:=j) (d:=d) (v:=v') (r:=⟨false,e,ty,l++l'⟩) ⟨hg'.os,hg'.output,hg'.size,hg'.block⟩ hblk ?_ hd2 hc1 rfl (us++news) ?_ (hrep.append hnr) hb'⟩
       ·intro i q hi
        cases j with
        | none=>exact⟨hi,by simp⟩
        | some j=>
         simp only[gV] at hi
         split at hi
         ·cases hi
         ·rename_i hij;exact⟨hi,fun e=>hij (by cases e;rfl)⟩
       ·simpa using ho'
      | [],he | [_],he | _::_::_::_,he=>simp at he
     ·cases h
   ·cases h
  ·cases h
 ·cases h
end Go.Dn
namespace Go.Dn
variable {β:Type} {X:Cx} {o:Oper} {S:St} {r:β} {P0:Program} {C:Fr P0} {G:Gh} {ρ:Env} {w:World}
theorem Mod.setObj {a:Act} {w':World} {j b:Nat} {q:oz} {st:Nat->Int} (h:Mod C G ρ S w a) (hst:S.bn j=false\/st=ρ.st j) (ho:ρ.own b=some (.ob j)) (hna:∀ t l,j=br->q= .ar false t l->∃ t l,look S.objs br=some (.ar false t l)) (hg:Grow ρ w w' (some b)) (hq:lZ G ⟨ρ.bx,ρ.rw,ρ.own,ρ.ob,fun i=>if i=j then st else ρ.st i⟩ w' j q):Mod C G ⟨ρ.bx,ρ.rw,ρ.own,ρ.ob,fun i=>if i=j then st else ρ.st i⟩ { S with objs:=(j,q)::S.objs } w' a:=by
 have hc:∀ c:CV,(c.bn j=true->S.bn j=true)->c.eY ρ ⟨ρ.bx,ρ.rw,ρ.own,ρ.ob,fun i=>if i=j then st else ρ.st i⟩:=fun c hc=>
  ⟨fun _ _=>rfl,fun _ _=>rfl,fun _ _=>rfl,fun k hk=>by
    show (if k=j then st else ρ.st k)=ρ.st k
    by_cases e:k=j
    ·subst e
     rcases hst with h1 | h1
     ·rw[hc hk] at h1;cases h1
     ·simp[h1]
    ·simp[e]⟩
 have hsame:S.eY ρ ⟨ρ.bx,ρ.rw,ρ.own,ρ.ob,fun i=>if i=j then st else ρ.st i⟩:=by
  refine⟨fun s hs=> ?_,fun p hp c hc'=>hc c fun hj=> ?_⟩
  ·have key:∀ c,(c.bn j=true->s.bn j=true)->CV.eY ρ _ c:=fun c hc'=>hc c fun hj=>by
    simp only[St.bn,adx,adS];exact .inl ⟨s,hs,hc' hj⟩
   cases s with
   | v ag cs=>exact fun c hc'=>key c fun hj=>by simp only[SV.bn,adS];exact⟨c,hc',hj⟩
   | tup l=>exact fun p hp c hc'=>key c fun hj=>by simp only[SV.bn,adS];exact⟨p,hp,c,hc',hj⟩
  ·simp only[St.bn,adx,adS];exact .inr ⟨p,hp,c,hc',hj⟩
 have hX:=((h.toMem.toX (some (.ob j))).grow hg (fun b' hb'=>by cases hb';exact⟨.ob j,rfl,ho⟩))
 have hX2:=hX.change (G':=G) (ρ':=⟨ρ.bx,ρ.rw,ρ.own,ρ.ob,fun i=>if i=j then st else ρ.st i⟩) (Gh.le_refl G) rfl hX.agr hX.old (fun _ _=>rfl) (fun _ _=>⟨rfl,rfl⟩) hsame.boxes hX.owned
  (fun _ _ _ _=>⟨rfl,id⟩) (fun _ _ _ _=>⟨rfl,fun _=>id⟩) (fun i r hi hne=>⟨rfl,by
    have:¬ i=j:=fun e=>hne (by rw[e])
    simp[this],fun _=>id⟩)
 have hX3:=hX2.state (S':={ S with objs:=(j,q)::S.objs }) (fun k cs hk _=>hk) (fun i r hi _=>hi) (fun i c hi hne=>by
  have:¬ j=i:=fun e=>hne (by rw[e])
  simpa [aq,this] using hi) (fun t l hl=>by
  simp only[aq] at hl
  split at hl
  ·rename_i e;cases hl;exact hna t l e rfl
  ·exact⟨t,l,hl⟩)
 have hM:=hX3.toMem (fun k cs hk e=>by cases e) (fun k cs hk e=>by cases e) (fun i c hi e=>by
  cases e
  simp only[aq,aga,Option.some.injEq] at hi
  subst hi
  exact hq)
 have hT:gj G _ S a:=h.tmps.congr (Gh.le_refl G) hsame
 exact { hM with tmps:=hT,defers:=h.defers }
theorem Grow.setObj {w:World} {b:Nat} {q:Obj}:Grow ρ w { w with heap:=w.heap.setIfInBounds b q } (some b):=
 ⟨rfl,rfl,by simp,fun i _ hi=>by
   have:b≠i:=fun e=>hi (by rw[e])
   simp[adb this]⟩
theorem aG.setAt {α γ:Type} {R:α->γ->Prop} {l:List α} {r:List γ} (h:aG R l r) {x:α} {y:γ} (hxy:R x y) (n:Nat):aG R (l.set n x) (r.set n y):=h.set hxy n
theorem Rn {P:Program} {t kt et:TypeId} {kk vv:Ty} {key:kk.den} {y:vv.den} {l:List (kk.den×vv.den)} {kv xv:Value} {b:Nat} {es:Array MapEntry} {clock:Nat} (ht:P.underlying t=some (.map kt et)) (hchk:gm P kt kk=true) (hk:bT G kk key kv) (hx:bT G vv y xv) (hb:w.heap[b]? =some (.map es clock)) (hl:aG (vU G kk vv) l es.toList) (h1:∀ (i:Nat) (e:MapEntry),es.toList[i]? =some e->e.born<clock) (h2:es.toList.Pairwise (fun a b=>a.born<b.born)): ∃ es' clock',(Instr.mapUpdate t (.map (some b)) kv xv).run P w= .ok () { w with heap:=w.heap.setIfInBounds b (.map es' clock') }/\aG (vU G kk vv) (wF l key y) es'.toList/\ (∀ (i:Nat) (e:MapEntry),es'.toList[i]? =some e->e.born<clock')/\es'.toList.Pairwise (fun a b=>a.born<b.born):=by
 obtain⟨fr,hf1,hf2⟩:=M7 (w:=w) hchk hk hl
 have hs:=hf2.set y
 cases hf2 with
 | no hn=>
  simp only at hs
  refine⟨es.push { key:=kv,val:=xv,born:=clock },clock+1, ?_, ?_, ?_, ?_⟩
  ·simp[Instr.mapUpdate,run_underlying ht,AT hb,yF hchk hk,hf1,NR _ hb]
  ·rw[hs,Array.toList_push]
   exact hl.append ⟨_,_,rfl,⟨hk,hx⟩,rfl⟩
  ·intro i e hi
   rw[Array.toList_push,aef] at hi
   split at hi
   ·have:=h1 i e hi;omega
   ·simp only[List.getElem?_singleton] at hi
    split at hi
    ·cases hi;simp
    ·cases hi
  ·rw[Array.toList_push,ae3]
   refine⟨h2,by simp,fun a ha b' hb'=> ?_⟩
   rcases aeY.1 hb' with rfl
   obtain⟨i,hi⟩:=aeS.1 ha
   exact h1 i a hi
 | yes i p e hp he hbq hne=>
  simp only at hs
  obtain⟨e',he',hr⟩:=hl.get hp
  rw[he] at he'
  cases he'
  have hkey:e.key=kv:=by
   have:=YF hchk hbq
   subst this
   exact Vc hchk hr.1 hk
  have hilt:i<es.size:=by
   have:=(aen.1 he).1
   simpa using this
  have hgi:es[i]? =some e:=by simpa using he
  have hmod:(es.modify i fun e=>{ e with key:=kv,val:=xv }).toList=es.toList.set i { e with key:=kv,val:=xv }:=by
   apply ad9
   intro n
   rw[Array.getElem?_toList,Array.getElem?_modify,aeq]
   simp only[Array.getElem?_toList]
   by_cases en:i=n
   ·subst en
    have:es[i]=e:=by simpa [hilt] using hgi
    simp[hilt,this]
   ·simp[en]
  refine⟨es.modify i fun e=>{ e with key:=kv,val:=xv },clock, ?_, ?_, ?_, ?_⟩
  ·have hkt:(Instr.keyThatStays (((es[i]?).map (·.key)).getD kv) kv).run P w= .ok kv w:=by
    simp[Instr.keyThatStays,hgi,hkey,sameBits_self hchk hk]
   simp only[Instr.mapUpdate,Sem.run_bind,run_underlying ht,Result.andThen_ok,AT hb,yF hchk hk,hf1,hkt,NR _ hb]
  ·rw[hs,hmod]
   exact hl.setAt ⟨hk,hx⟩ i
  ·intro n e' hn
   rw[hmod,aeq] at hn
   split at hn
   ·split at hn
    ·cases hn;exact h1 i e he
    ·cases hn
   ·exact h1 n e' hn
  ·rw[hmod]
   clear hs hmod hgi hkey
   rw[List.pairwise_iff_getElem] at h2 ⊢
   intro m n hm hn hmn
   simp only[aeF] at hm hn
   have hei:es.toList[i]'(by simpa using hilt)=e:=(aen.1 he).2
   have:=h2 m n hm hn hmn
   rw[List.getElem_set,List.getElem_set]
   by_cases e1:i=m
   ·subst e1
    rw[af9 rfl,af8 (by omega)]
    rw[hei] at this;exact this
   ·rw[af8 e1]
    by_cases e2:i=n
    ·subst e2
     rw[af9 rfl]
     rw[hei] at this;exact this
    ·rw[af8 e2];exact this
theorem Ve {t kt et:TypeId} {m kx x:Operand} {j:Nat} {kk vv:Ty} {l:List (kk.den×vv.den)} {key:kk.den} {y:vv.den} (ho:o.op= .mapUpdate t m kx x) (hd:o.dst=none) (ht:X.P.underlying t=some (.map kt et)) (hm:S.ev m= .v false [.mp j]) (hj:look S.objs j=some (.map kk vv l)) (hk:iI S [] kk (S.ev kx)=some key) (hx:iI S [] vv (S.ev x)=some y) (hchk:gm X.P kt kk=true) (hst:S.bn j=false):eX X.P o S { S with objs:=(j,.map kk vv (wF l key y))::S.objs }:=by
 intro C G ρ w a Q hM
 have h1:=aV (hM.tmps.ev m) hm
 obtain⟨b,es,clock,h2,h3,h4,h5,h6,h7⟩:=hM.objs j _ hj
 have hkv:=kI hM.frozen (kQ.nil _ _ _) hk (hM.tmps.ev kx)
 have hxv:=kI hM.frozen (kQ.nil _ _ _) hx (hM.tmps.ev x)
 obtain⟨es',clock',hrun,g1,g2,g3⟩:=Rn (w:=w) ht hchk hkv hxv h4 h5 (fun i e hi=>(h6 i e hi).2) h7
 unfold Oper.wp
 simp only[execOp,ho,show a.eval m= .map (some b) from h1.1.trans h2,Sem.run_bind,hrun,Result.andThen_ok,Sem.run_pure]
 simp only[Oper.upon,hd,Act.put]
 refine⟨G,_,hM.setObj (j:=j) (b:=b) (st:=fun i=>((es'.toList[i]?).map fun e=>(e.born:Int)).getD 0) (.inl hst) h3 (fun t l _ e=>by cases e) Grow.setObj ?_⟩
 refine⟨b,es',clock',h2,h3, ?_,g1,fun i e hi=>⟨?_,g2 i e hi⟩,g3⟩
 ·rw[ade (aB h4)]
 ·simp only[aga,hi,afP,afK]
theorem ZC {t:TypeId} {x y:Operand} {h0 off:Nat} {ag:Bool} {cs:List CV} {k:St->Option β} (ho:o.op= .store t x y) (hd:o.dst=none) (hx:S.ev x= .v false [.hnd (some h0) off]) (hy:S.ev y= .v ag cs) (h:Bh X.P t S h0 off cs k=some r): ∃ S',k S'=some r/\eX X.P o S S':=by
 unfold Bh at h
 split at h
 ·rename_i ty l hl
  split at h
  ·cases h
  ·rename_i hc
   simp only[adx,agd,ads,adr] at hc
   obtain⟨⟨hok,hlen⟩,hcv⟩:=hc
   have hlen':=afm hlen
   obtain⟨y0,hy0,h⟩:=bind_some h
   split at h
   ·rename_i cs' hset
    obtain⟨hle,hcs'⟩:=AX hset
    split at h
    ·rename_i y' hp
     refine⟨_,h,fun C G ρ w a Q hM=> ?_⟩
     have hvx:=aV (hM.tmps.ev x) hx
     have hvy:=hM.tmps.ev y
     rw[hy] at hvy
     obtain⟨us,eu,hus,h1⟩:=xJ hvy hcv
     obtain⟨hj,hA⟩:=hM.objs br _ hl
     obtain⟨b,vs,T,g1,g2,g3,g4,g5⟩:=hA.2.2 h0 y0 hy0
     obtain⟨b',hb',e2⟩:=hvx
     rw[g1] at hb'
     cases hb'
     have hae:=fW ρ g5
     have hlu:=hus.len
     have hla:=hae.len
     have hnew:aG (aQ G ρ) cs' (vs.take off++us++vs.drop (off+us.length)):=by
      rw[hcs'];exact hae.splice hus
     have hrep:=L9 hM.toMem.frozen hp hnew
     have hrun:=B7 (P:=X.P) hok (off:=off) (v:=a.eval y) g4 eu (by omega) (by simp;omega) h1
     unfold Oper.wp
     simp only[execOp,ho,e2,Sem.run_bind,hrun,Result.andThen_ok,Sem.run_pure]
     simp only[Oper.upon,hd,Act.put]
     have hlt:=(aen.1 hy0).1
     refine⟨G,_,hM.setObj (j:=br) (b:=b) (st:=ρ.st br) (.inr rfl) (g3 rfl) (fun t l _ _=>⟨_,_,hl⟩) Grow.setRow ⟨rfl,fun i b' hb'=>by simpa using hA.1 i b' hb',hA.2.1,fun i z hz=> ?_⟩⟩
     rw[aeq] at hz
     split at hz
     ·rename_i ei
      subst ei
      simp only[Option.some.injEq] at hz
      subst hz
      exact⟨b,_,T,g1,nofun,fun _=>g3 rfl,setRow_heap w b _ _ T _ g4,hrep⟩
     ·rename_i ei
      obtain⟨b2,vs2,T2,f1,f2,f3,f4,f5⟩:=hA.2.2 i z hz
      have hbne:b2≠b:=fun e=>ei (hA.2.1 h0 i b g1 (by rw[<- e];exact f1))
      exact⟨b2,vs2,T2,f1,nofun,fun _=>f3 rfl,(setRow_other w b b2 _ hbne).trans f4,f5⟩
    ·cases h
   ·cases h
 ·cases h
theorem Mi {G G':Gh} {ρ ρ':Env} {k h:Nat} (hG:G.le G') (hh:G'.hnd h=some (ρ.bx k)) (h1:ρ'.bx=ρ.bx) (h2:ρ'.rw=ρ.rw) (h3:ρ'.ob=ρ.ob) (h4:ρ'.st=ρ.st) {c:CV} {v:Value} (hv:aQ G ρ c v):aQ G' ρ' (c.uL k h) v:=by
 have same:aQ G' ρ' c v:=aQ.congr hG (DY h1 h2 h3 h4 c) hv
 cases c with
 | ref j o=>
  simp only[CV.uL]
  cases hb:Nat.beq j k with
  | true=>
   have:=afm hb
   subst this
   exact⟨ρ.bx j,hh,hv⟩
  | false=>exact same
 | _=>exact same
theorem aG.FF {α γ δ:Type} {R:α->γ->Prop} {R':δ->γ->Prop} (f:α->δ) (h:∀ x y,R x y->R' (f x) y):∀ {l:List α} {r:List γ},aG R l r->aG R' (l.map f) r
 | [],_,hh=>hh
 | _::_,_,⟨y,s,e,hx,hl⟩=>⟨y,s,e,h _ _ hx,hl.FF f h⟩
theorem TV {G G':Gh} {ρ ρ':Env} {k h:Nat} (hG:G.le G') (hh:G'.hnd h=some (ρ.bx k)) (h1:ρ'.bx=ρ.bx) (h2:ρ'.rw=ρ.rw) (h3:ρ'.ob=ρ.ob) (h4:ρ'.st=ρ.st) {s:SV} {v:Value} (hv:aZ G ρ s v):aZ G' ρ' (s.uL k h) v:=by
 have xv:∀ (a:Bool) (cs:List CV) (v:Value),ku G ρ a cs v->ku G' ρ' a (cs.map (CV.uL k h)) v:=by
  intro a cs v hx
  cases a with
  | true=>obtain⟨vs,e,hl⟩:=hx;exact⟨vs,e,hl.FF (CV.uL k h) fun c y hc=>Mi hG hh h1 h2 h3 h4 hc⟩
  | false=>
   match cs,hx with
   | [c],hx=>exact Mi hG hh h1 h2 h3 h4 hx
 cases s with
 | v a cs=>exact xv a cs v hv
 | tup l=>
  obtain⟨vs,e,hl⟩:=hv
  exact⟨vs,e,hl.FF (fun p:Bool×List CV=>(p.1,p.2.map (CV.uL k h))) fun p y hp=>xv p.1 p.2 y hp⟩
theorem Qi {α γ:Type} (f:α->γ):∀ (l:List (Nat×α)) (k:Nat),look (l.map fun p=>(p.1,f p.2)) k=(look l k).map f
 | [],k=>rfl
 | (j,x)::l,k=>by
  rw[aeK,aq,aq,Qi f l k]
  split<;>rfl
theorem Mod.Ba {a:Act} (h:Mod C G ρ S w a) (k:Nat):∃ G' ρ',Mod C G' ρ' (Ba S k) w a:=by
 unfold Dn.Ba
 split
 ·rename_i t l cs har hbx
  simp only
  split
  ·exact⟨G,ρ,h⟩
  ·rename_i hcond
   simp only[adx,agd,ads,adr] at hcond
   split
   ·rename_i x hp
    obtain⟨G1,ρ1,hfz,hM⟩:=h.freeze (gJ cs)
    generalize hS1:aF S (gJ cs)=S1 at hM hp hcond
    have har1:look S1.objs br=some (.ar false t l):=by rw[<- hS1];exact har
    have hbx1:look S1.boxes k=some cs:=by rw[<- hS1];exact hbx
    obtain⟨hown,vs,T,hw,hvs⟩:=hM.boxes k cs hbx1
    obtain⟨_,hA⟩:=hM.objs br _ har1
    let G2:Gh:=⟨G1.blk,fun i=>if i=l.length then some (ρ1.bx k) else G1.hnd i⟩
    let ρ2:Env:=⟨ρ1.bx,ρ1.rw,fun b=>if b=ρ1.bx k then some (.ob br) else ρ1.own b,ρ1.ob,ρ1.st⟩
    have hle:G1.le G2:=⟨fun _ _ hb=>hb,fun i b hb=>by
     have:=hA.1 i b hb
     show (if i=l.length then _ else _)=_
     rw[af8 (by omega)];exact hb⟩
    have hh2:G2.hnd l.length=some (ρ1.bx k):=by simp[G2]
    have hkeep:∀ b o,ρ1.own b=some o->o≠ .inl k->ρ2.own b=some o:=fun b o hb hne=>by
     have:b≠ρ1.bx k:=fun e=>by rw[e,hown] at hb;cases hb;exact hne rfl
     simp only[ρ2,af8 this];exact hb
    refine⟨G2,ρ2,{ agr:=hM.agr,le0:=Gh.le_trans hM.le0 hle,old:=hM.old,frame:=hM.frame,size:=hM.size,os:=hM.os,output:=hM.output,pin:=hM.pin,pinR:=hM.pinR,owned:= ?_,boxes:= ?_,rows:= ?_,objs:= ?_,hndI:=fun hn=>absurd har1 ((hM.hndI hn).2 t l),tmps:= ?_,defers:=hM.defers }⟩
    ·intro b o ho
     by_cases e:b=ρ1.bx k
     ·rw[e];exact hM.owned _ _ hown
     ·simp only[ρ2,af8 e] at ho;exact hM.owned b o ho
    ·intro k' cs' hk'
     rw[Qi,gV] at hk'
     split at hk'
     ·cases hk'
     ·rename_i hne
      cases hl':look S1.boxes k' with
      | none=>rw[hl'] at hk';cases hk'
      | some c0=>
       rw[hl'] at hk'
       simp only[afP,Option.some.injEq] at hk'
       subst hk'
       obtain⟨o1,vs1,T1,w1,v1⟩:=hM.boxes k' c0 hl'
       exact⟨hkeep _ _ o1 (by simp;exact hne),vs1,T1,w1,v1.FF (CV.uL k l.length) fun c y hc=>Mi (ρ:=ρ1) (ρ':=ρ2) hle hh2 rfl rfl rfl rfl hc⟩
    ·intro j q hj
     exact cN.congr (ρ:=ρ1) (ρ':=ρ2) hle rfl (fun b hb=>hkeep b _ hb (by simp)) (hM.rows j q hj)
    ·intro j q hj
     simp only[aq] at hj
     split at hj
     ·rename_i ej
      subst ej
      cases hj
      refine⟨rfl,fun i b hb=> ?_,fun i i' b hb hb'=> ?_,fun i z hz=> ?_⟩
      ·simp only[G2] at hb
       split at hb
       ·rename_i ei;subst ei;simp
       ·have:=hA.1 i b hb;simp;omega
      ·have old:∀ i b,G1.hnd i=some b->b≠ρ1.bx k:=fun i b hb e=>by
        have hlt:=hA.1 i b hb
        obtain⟨b',vs',T',f1,f2,f3,_⟩:=hA.2.2 i l[i] (ael hlt)
        rw[hb] at f1
        cases f1
        have:=f3 rfl
        rw[e,hown] at this;cases this
       simp only[G2] at hb hb'
       split at hb
       ·rename_i e1
        split at hb'
        ·rename_i e2;omega
        ·cases hb;exact absurd rfl (old i' _ hb')
       ·split at hb'
        ·cases hb';exact absurd rfl (old i _ hb)
        ·exact hA.2.1 i i' b hb hb'
      ·rw[aef] at hz
       split at hz
       ·rename_i hlt
        obtain⟨b,vs',T',f1,f2,f3,f4,f5⟩:=hA.2.2 i z hz
        exact⟨b,vs',T',hle.hnd i b f1,nofun,fun _=>hkeep b _ (f3 rfl) (by simp),f4,ax.mono hle t z _ f5⟩
       ·rename_i hge
        simp only[List.getElem?_singleton] at hz
        split at hz
        ·rename_i ei
         cases hz
         have:i=l.length:=by omega
         subst this
         exact⟨ρ1.bx k,vs,T,hh2,nofun,fun _=>by simp[ρ2],hw,ax.mono hle t x _ (L9 hM.toMem.frozen hp hvs)⟩
        ·cases hz
     ·rename_i hne
      have hq:=hM.objs j q hj
      cases q with
      | map kk vv ll=>
       obtain⟨b,es,clock,h1,h2,h3,h4,h5,h6⟩:=hq
       exact⟨b,es,clock,h1,hkeep b _ h2 (by simp),h3,h4.mono fun x y hxy=>hxy.mono hle,h5,h6⟩
      | ar fz t' l'=>exact absurd hq.1.symm hne
    ·refine⟨by simpa using hM.tmps.1,fun i s hi=> ?_⟩
     simp only[aeo] at hi
     cases hs:S1.tmps[i]? with
     | none=>rw[hs] at hi;cases hi
     | some s0=>
      rw[hs] at hi
      simp only[afP,Option.some.injEq] at hi
      subst hi
      exact TV (ρ:=ρ1) (ρ':=ρ2) hle hh2 rfl rfl rfl rfl (hM.tmps.2 i s0 hs)
   ·exact⟨G,ρ,h⟩
 ·exact⟨G,ρ,h⟩
theorem Mod.Vx {a:Act}:∀ (ks:List Nat) {G:Gh} {ρ:Env} {S:St},Mod C G ρ S w a->∃ G' ρ',Mod C G' ρ' (ks.foldl Dn.Ba S) w a
 | [],G,ρ,S,h=>⟨G,ρ,h⟩
 | k::ks,G,ρ,S,h=>by
  obtain⟨G1,ρ1,h1⟩:=h.Ba k
  exact Mod.Vx ks h1
theorem Mod.iQ {a:Act}:∀ (l:List SV) {G:Gh} {ρ:Env} {S:St},Mod C G ρ S w a->∃ G' ρ',Mod C G' ρ' (Dn.iQ S l) w a
 | [],G,ρ,S,h=>⟨G,ρ,h⟩
 | .v _ cs::r,G,ρ,S,h=>by
  obtain⟨G1,ρ1,h1⟩:=Mod.Vx (Zt cs) h
  exact Mod.iQ r h1
 | .tup _::r,G,ρ,S,h=>Mod.iQ r h
theorem eX.intern {P:Program} {S':St} (l:List SV) (h:eX P o (iQ S l) S'):eX P o S S':=fun C G ρ w a Q hM=>by
 obtain⟨G1,ρ1,hM1⟩:=Mod.iQ l hM
 exact h C G1 ρ1 w a Q hM1
end Go.Dn
