/-
  The executor, its second part: operations with memory are sound. No condition.
-/
import Derived.Test.YtjlkkapojeldlaaGreatDoorYa
import Derived.Maps.Own
import Derived.Maps.Range
import Derived.Lib.SlKeysI
import Derived.Laws.OwnMore
set_option linter.all false
namespace Go.Dn
variable {β:Type}
theorem tO {G:Gh} {ρ:Env} {a:Bool} {cs:List CV} {v:Value} (h:iy G ρ a cs v) (hok:cs.all CV.ok=true): ∃ vs:List Value,v.cells=vs.toArray/\aE (aN G ρ) cs vs/\∀ u,u∈vs->u.oneCell'=true:=by
 have one:∀ {cs:List CV} {vs:List Value},aE (aN G ρ) cs vs->cs.all CV.ok=true->∀ u,u∈vs->u.oneCell'=true:=by
  intro cs
  induction cs with
  | nil=>intro vs h _ u hu;cases h;cases hu
  | cons c cs ih=>
   intro vs ⟨y,s,e,hy,hs⟩ hok u hu
   simp only[Wu,VZ] at hok
   subst e
   rcases XB.1 hu with rfl | hu
   ·exact (zV hy hok.1).1
   ·exact ih hs hok.2 u hu
 cases a with
 | true=>
  obtain⟨vs,e,hl⟩:=h
  exact⟨vs,by rw[e];rfl,hl,one hl hok⟩
 | false=>
  match cs,h,hok with
  | [c],h,hok=>
   simp only[Wu,List.all_nil,V2] at hok
   exact⟨[v],(zV h hok).2,⟨v,[],rfl,h,rfl⟩,fun u hu=>by
    rcases XL.1 hu with rfl
    exact (zV h hok).1⟩
theorem wS {l new l':List CV} {off:Nat} (h:setAt l off new=some l'):off+new.length<=l.length/\l'=l.take off++new++l.drop (off+new.length):=by
 unfold setAt at h
 by_cases hb:Nat.ble (off+new.length) l.length=true
 ·rw[YR hb] at h;cases h;exact⟨Ya hb,rfl⟩
 ·rw[YQ hb] at h;cases h
theorem aE.splice {α γ:Type} {R:α->γ->Prop} {l new:List α} {vs us:List γ} {off:Nat} (h:aE R l vs) (hn:aE R new us): aE R (l.take off++new++l.drop (off+new.length)) (vs.take off++us++vs.drop (off+us.length)):=by
 rw[hn.len]
 exact ((h.take off).append hn).append (h.drop _)
theorem OQ (off:Nat) (us:List Value) (cs:List Value) (h:off+us.length<=cs.length): us.toArray.zipIdx.foldl (fun cs (x:Value×Nat)=>cs.setIfInBounds (off+x.2) x.1) cs.toArray=(cs.take off++us++cs.drop (off+us.length)).toArray:=by
 obtain⟨h1,h2⟩:=Great.foldl_set off us 0 cs.toArray
 have e:us.toArray.zipIdx.foldl (fun cs (x:Value×Nat)=>cs.setIfInBounds (off+x.2) x.1) cs.toArray=(us.zipIdx 0).foldl (fun cs (x:Value×Nat)=>cs.setIfInBounds (off+x.2) x.1) cs.toArray:=by
  rw[<- Array.foldl_toList]
  simp
 rw[e]
 apply Array.ext_getElem?
 intro k
 rw[h2 k]
 simp only[X5,XW,Xi]
 by_cases hk:off<=k/\k<off+us.length
 ·rw[YR ⟨hk.1,hk.2,by omega⟩,Wy,WV (by simp;omega),WU (by simp;omega)]
  congr 1
  simp;omega
 ·rw[YQ (by omega)]
  by_cases hlt:k<off
  ·rw[Wy,WU (by simp;omega),Xh hlt]
  ·rw[WV (by simp;omega),WY]
   congr 1
   simp
   omega
theorem Gx {G:Gh} {ρ:Env} {place:Nat->Option (Nat×Nat)}:∀ {parts:List (Nat×SV)} {pv:List (Nat×Value)} {cells cs:List CV} {vs:List Value}, Bk place cells parts=some cs->aE (aN G ρ) cells vs->aE (fun (p:Nat×SV) (q:Nat×Value)=>p.1=q.1/\aU G ρ p.2 q.2) parts pv-> ∃ us:List Value,Instr.fill place vs.toArray pv=some us.toArray/\aE (aN G ρ) cs us
 | [],pv,cells,cs,vs,h,hv,hp=>by
  cases hp
  simp only[Bk] at h
  cases h
  exact⟨vs,rfl,hv⟩
 | (i,.tup l)::rest,pv,cells,cs,vs,h,hv,hp=>by simp[Bk] at h
 | (i,.v a c)::rest,pv,cells,cs,vs,h,hv,⟨y,s,e,hy,hs⟩=>by
  subst e
  simp only[Bk] at h
  split at h
  ·cases h
  ·rename_i off size hpl
   split at h
   ·rename_i hc
    simp only[VZ] at hc
    have hsz:=X8 hc.1
    split at h
    ·rename_i c' hset
     obtain⟨hle,hc'⟩:=wS hset
     obtain⟨us,eu,hus,_⟩:=tO hy.2 hc.2
     have hlu:=hus.len
     have hlv:=hv.len
     have hnew:aE (aN G ρ) c' (vs.take off++us++vs.drop (off+us.length)):=by rw[hc'];exact hv.splice hus
     obtain⟨zs,hz,hz'⟩:=Gx (parts:=rest) (pv:=s) (cells:=c') h hnew hs
     refine⟨zs, ?_,hz'⟩
     obtain⟨y1,y2⟩:=y
     have:i=y1:=hy.1
     subst this
     unfold Instr.fill
     dsimp only at hpl eu ⊢
     rw[hpl]
     dsimp only
     rw[eu]
     rw[YQ (by simp;omega)]
     rw[OQ off us vs (by omega)]
     exact hz
    ·cases h
   ·cases h
theorem lJ {P:Program} {t:TypeId} {z:List CV} (h:zeroCells P t=some z):∃ i v,P.info? t=some i/\i.zero=some v/\∀ G ρ,aE (aN G ρ) z v.cells.toList:=by
 unfold zeroCells at h
 cases hi:P.info? t with
 | none=>rw[hi] at h;cases h
 | some i=>
  rw[hi] at h
  simp only[Yt] at h
  cases hz:i.zero with
  | none=>rw[hz] at h;cases h
  | some v=>
   rw[hz] at h
   refine⟨i,v,rfl,hz,fun G ρ=> ?_⟩
   cases v with
   | agg cs=>cases h;exact vQ C5 (EC G ρ) cs.toList
   | _=>cases h;exact⟨_,[],rfl,EC G ρ _,rfl⟩
theorem La {P:Program}:∀ (fs:List Field),(fs.all fun f=>okT P f.type)=true->fs.mapM (fun f=>(P.info? f.type).map fun i=>(f.offset,i.size))=some (fs.map fun f=>(f.offset,bE P f.type))
 | [],_=>rfl
 | f::fs,h=>by
  simp only[Wu,VZ] at h
  obtain⟨d,i,hd,hi⟩:=fK h.1
  simp[List.mapM_cons,hi,La fs h.2,bE]
section
variable {X:Cx} {o:Oper} {S M:St} {k:SV->Option β} {r:β}
theorem Uv {t:TypeId} {parts:Array (Nat×Operand)} (ho:o.op= .build t parts) (h:cy X o S M k=some r):∃ s,k s=some r/\eH X.P o S M s:=by
 unfold cy at h
 rw[ho] at h
 simp only at h
 split at h
 ·rename_i fs z ht hz
  split at h
  ·cases h
  ·rename_i hok
   have hok':(fs.toList.all fun f=>okT X.P f.type)=true:=by simpa using hok
   split at h
   ·rename_i cs hf
    refine⟨_,h,fun C G ρ w a hM hop=> ?_⟩
    obtain⟨i,v,hi,hv,hzc⟩:=lJ hz
    have hpl:∀ n,(fs.toList.map fun f=>(f.offset,bE X.P f.type)).toArray[n]? =zi X.P fs n:=by
     intro n
     simp only[zi]
     cases hn:fs[n]? <;>simp[hn]
    have hpv:aE (fun (p:Nat×SV) (q:Nat×Value)=>p.1=q.1/\aU G ρ p.2 q.2) (parts.toList.map fun p=>(p.1,S.ev p.2)) (parts.toList.map fun p=>(p.1,a.eval p.2)):=by
     have hmem:∀ p,p∈parts.toList->aU G ρ (S.ev p.2) (a.eval p.2):=fun p hp=>hop p.2 (by
      rw[ho]
      simp only[Op.operands,List.mem_toArray,XG]
      exact⟨p,hp,rfl⟩)
     generalize parts.toList=l at hmem ⊢
     induction l with
     | nil=>rfl
     | cons p l ih=>exact⟨_,_,rfl,⟨rfl,hmem p (by simp)⟩,ih (fun q hq=>hmem q (by simp[hq]))⟩
    obtain⟨us,hus,hcs⟩:=Gx hf (hzc G ρ) hpv
    refine⟨.agg us.toArray, ?_,us,rfl,hcs⟩
    have hb:=run_build (P:=X.P) w t (parts.map fun (i,x)=>(i,a.eval x)) us.toArray (by
     unfold Program.built
     simp only[hi,ht,hv,La fs.toList hok']
     rw[<- hus]
     congr 1
     ·funext n;exact hpl n
     ·simp)
    simp only[execOp,ho,Sem.run_bind,hb,Result.andThen_ok,Sem.run_pure]
   ·cases h
 ·rename_i n e z ht hz
  split at h
  ·cases h
  ·rename_i hok
   have hok':okT X.P e=true:=by simpa using hok
   obtain⟨d,j,hd,hj⟩:=fK hok'
   split at h
   ·rename_i cs hf
    refine⟨_,h,fun C G ρ w a hM hop=> ?_⟩
    obtain⟨i,v,hi,hv,hzc⟩:=lJ hz
    have hpv:aE (fun (p:Nat×SV) (q:Nat×Value)=>p.1=q.1/\aU G ρ p.2 q.2) (parts.toList.map fun p=>(p.1,S.ev p.2)) (parts.toList.map fun p=>(p.1,a.eval p.2)):=by
     have hmem:∀ p,p∈parts.toList->aU G ρ (S.ev p.2) (a.eval p.2):=fun p hp=>hop p.2 (by
      rw[ho]
      simp only[Op.operands,List.mem_toArray,XG]
      exact⟨p,hp,rfl⟩)
     generalize parts.toList=l at hmem ⊢
     induction l with
     | nil=>rfl
     | cons p l ih=>exact⟨_,_,rfl,⟨rfl,hmem p (by simp)⟩,ih (fun q hq=>hmem q (by simp[hq]))⟩
    obtain⟨us,hus,hcs⟩:=Gx hf (hzc G ρ) hpv
    refine⟨.agg us.toArray, ?_,us,rfl,hcs⟩
    have hb:=run_build (P:=X.P) w t (parts.map fun (i,x)=>(i,a.eval x)) us.toArray (by
     unfold Program.built
     simp only[hi,ht,hv,hj]
     rw[<- hus]
     have hs:bE X.P e=j.size:=by simp[bE,hj]
     rw[hs]
     simp)
    simp only[execOp,ho,Sem.run_bind,hb,Result.andThen_ok,Sem.run_pure]
   ·cases h
 ·cases h
theorem Uw {t:TypeId} {x:Operand} {f:Nat} (ho:o.op= .field t x f) (h:cy X o S M k=some r):∃ s,k s=some r/\eH X.P o S M s:=by
 unfold cy at h
 rw[ho] at h
 simp only at h
 split at h
 ·rename_i fs cs ht hx
  split at h
  ·rename_i fd hf
   unfold iS at h
   split at h
   ·rename_i hok
    obtain⟨d,i,hd,hi⟩:=fK hok
    split at h
    ·rename_i cs' hc
     obtain⟨e,hlen⟩:=xh hc
     split at h
     ·rename_i ha
      refine⟨_,h,fun C G ρ w a hM hop=> ?_⟩
      have hv:=hop x (by simp[ho,Op.operands])
      rw[hx] at hv
      obtain⟨vs,ev,hl⟩:=hv
      refine⟨.agg ((vs.drop fd.offset).take (bE X.P fd.type)).toArray, ?_,_,rfl,by rw[e];exact (hl.drop _).take _⟩
      simp only[execOp,ho,ev,Instr.field,Sem.run_bind,run_underlying ht,Result.andThen_ok,hf,asAgg,Sem.run_pure,part,lT hd,ha,YS,run_sizeOf hi]
      congr 3
      simp
     ·rename_i ha
      split at h
      ·rename_i c
       refine⟨_,h,fun C G ρ w a hM hop=> ?_⟩
       have hv:=hop x (by simp[ho,Op.operands])
       rw[hx] at hv
       obtain⟨vs,ev,hl⟩:=hv
       have hsub:=(hl.drop fd.offset).take (bE X.P fd.type)
       rw[<- e] at hsub
       obtain⟨y,ey,hy⟩:=hsub.single
       have hy0:vs[fd.offset]? =some y:=by
        have:((vs.drop fd.offset).take (bE X.P fd.type))[0]? =some y:=by rw[ey];rfl
        rw[Xg] at this
        split at this
        ·simpa using this
        ·cases this
       refine⟨y, ?_,hy⟩
       simp[execOp,ho,ev,Instr.field,run_underlying ht,hf,asAgg,part,lT hd,ha,hy0]
      ·cases h
    ·cases h
   ·cases h
  ·cases h
 ·cases h
theorem yG {P:Program} {w:World} {ik:IntKind} {i:Int} {y:Nat} {c:BoundsCode} (h0:0<=i) (h1:i<=y):(Instr.sliceBound (.int ik i) y c).run P w= .ok i.toNat w:=by
 simp[Instr.sliceBound,asIntOf,h0,h1]
theorem BX {P:Program} {w:World} {isSl:Bool} {len cap:Nat} {lo hi:Option Value} {a b:Int} (hlo:(lo=none/\a=0)\/∃ ik,lo=some (.int ik a)) (hhi:(hi=none/\b=len)\/∃ ik,hi=some (.int ik b)) (h0:0<=a) (h1:a<=b) (h2:b<=cap):(Instr.sliceBounds isSl len cap lo hi none).run P w= .ok (a.toNat,b.toNat,cap) w:=by
 rcases hlo with ⟨rfl,rfl⟩ | ⟨ik,rfl⟩<;>rcases hhi with ⟨rfl,rfl⟩ | ⟨ik',rfl⟩
 ·simp[Instr.sliceBounds]
 ·cases isSl<;>simp[Instr.sliceBounds,yG (show 0<=b by omega) h2]
 ·have:a<=((len:Int).toNat:Nat):=by omega
  cases isSl<;>simp[Instr.sliceBounds,yG h0 h1]
 ·have:a<=(b.toNat:Int):=by omega
  cases isSl<;>simp[Instr.sliceBounds,yG (show 0<=b by omega) h2,yG h0 this]
theorem bN.cut {G:Gh} {t:Ty} {l:List t.den} {v:Value} (h:bN G t.size (ax G t) l v) {a b:Nat} (hab:a<=b) (hb:b<=l.length): ∃ p cap,v= .slice p l.length cap/\l.length<=cap/\bN G t.size (ax G t) ((l.take b).drop a) (.slice (if cap=a then p else p.map (·.add (a*t.size))) (b - a) (cap - a)):=by
 obtain⟨p,cap,hv,h1,h2,h3⟩:=h
 refine⟨p,cap,hv,h1, ?_⟩
 have hlen:((l.take b).drop a).length=b - a:=by simp;omega
 refine⟨_,_,by rw[hlen],by rw[hlen];omega,by omega, ?_⟩
 by_cases he:b=a
 ·left;exact WL (by rw[hlen];omega)
 ·right
  rcases h3 with rfl | ⟨bl,off,c,T,fz,rfl,hbl,hs,hl⟩
  ·simp at hb;omega
  ·have hne:¬ cap=a:=by omega
   refine⟨bl,off+a*t.size,c,T,fz, ?_,hbl, ?_, ?_⟩
   ·rw[YQ hne]
    simp only[Yy,Option.some.injEq]
    unfold Addr.add;split<;>simp_all
   ·rw[hlen]
    have e1:a*t.size+(b - a)*t.size=b*t.size:=by rw[<- X4];congr 1;omega
    have e2:b*t.size<=l.length*t.size:=Ym _ hb
    omega
   ·have hd:=(hl.take (fun x cs hr=>ax.len hr) b).drop (fun x cs hr=>ax.len hr) a
    rw[hlen]
    rw[X2,List.drop_take (i:=a*t.size),WE] at hd
    have e1:min (b*t.size) (l.length*t.size) - a*t.size=(b - a)*t.size:=by
     have e2:b*t.size<=l.length*t.size:=Ym _ hb
     rw[Yl e2,Nat.sub_mul]
    rw[e1] at hd
    exact hd
theorem zR {G:Gh} {ρ:Env} {a:Act} {S:St} {x:Option Operand} {d p:Int} (h:bnd d (x.map S.ev)=some p) (hx:∀ y,x=some y->aU G ρ (S.ev y) (a.eval y)): (x.map a.eval=none/\p=d)\/∃ ik,x.map a.eval=some (.int ik p):=by
 cases x with
 | none=>simp only[bnd,Option.map_none] at h;cases h;exact .inl ⟨rfl,rfl⟩
 | some y=>
  right
  have hy:=hx y rfl
  unfold bnd at h
  split at h
  ·rename_i e;cases e
  ·rename_i ik n e
   simp only[Yy,Option.some.injEq] at e
   rw[e] at hy
   cases h
   exact⟨ik,by rw[Yy,show a.eval y= .int ik p from hy]⟩
  ·cases h
theorem Qe (s:List UInt8) (a b:Nat):(bs s).extract a b=bs ((s.take b).drop a):=by
 apply ByteArray.ext
 apply Array.ext'
 rw[ByteArray.data_extract]
 simp[bs]
 rw[List.drop_take]
theorem Uy {t:TypeId} {x:Operand} {lo hi:Option Operand} (ho:o.op= .slice t x lo hi none) (h:cy X o S M k=some r):∃ s,k s=some r/\eH X.P o S M s:=by
 unfold cy at h
 rw[ho] at h
 simp only at h
 have opx:x∈o.op.operands:=by simp[ho,Op.operands]
 have opl:∀ y,lo=some y->y∈o.op.operands:=fun y hy=>by simp[ho,Op.operands,hy]
 have oph:∀ y,hi=some y->y∈o.op.operands:=fun y hy=>by simp[ho,Op.operands,hy]
 split at h
 ·rename_i s ht hx
  split at h
  ·rename_i a b ha hb
   obtain⟨hc,h⟩:=dJ h
   simp only[VZ,YK] at hc
   refine⟨_,h,fun C G ρ w act hM hop=> ?_⟩
   have hv:=aR (hop x opx) hx
   have hb':=BX (P:=X.P) (w:=w) (isSl:=false) (len:=s.length) (cap:=s.length) (zR ha fun y hy=>hop y (opl y hy)) (zR hb fun y hy=>hop y (oph y hy)) hc.1.1 hc.1.2 hc.2
   refine⟨.string ((bs s).extract a.toNat b.toNat), ?_, ?_⟩
   ·simp[execOp,ho,show act.eval x= .string (bs s) from hv,Instr.sliceAt,run_underlying ht,Instr.slice,zS,hb']
   ·show Value.string _=_
    rw[Qe]
  ·cases h
 ·rename_i e ty l ht hx
  split at h
  ·rename_i hok
   simp only[VZ] at hok
   have hsz:=X8 hok.2
   obtain⟨d,i,hd,hi'⟩:=fK hok.1
   split at h
   ·rename_i a b ha hb
    obtain⟨hc,h⟩:=dJ h
    simp only[VZ,YK] at hc
    refine⟨_,h,fun C G ρ w act hM hop=> ?_⟩
    have hv:=aR (hop x opx) hx
    obtain⟨p,cap,ev,hcap,hrep⟩:=bN.cut (a:=a.toNat) (b:=b.toNat) hv (by omega) (by omega)
    have hb':=BX (P:=X.P) (w:=w) (isSl:=true) (len:=l.length) (cap:=cap) (zR ha fun y hy=>hop y (opl y hy)) (zR hb fun y hy=>hop y (oph y hy)) hc.1.1 hc.1.2 (by omega)
    refine⟨_, ?_,hrep⟩
    simp only[execOp,ho,ev,Instr.sliceAt,Sem.run_bind,run_underlying ht,Result.andThen_ok,Instr.slice,Option.map_none,hb',run_sizeOf hi',hsz,Sem.run_pure]
   ·cases h
  ·cases h
 ·rename_i e j ht hx
  split at h
  ·rename_i q hq
   split at h
   ·rename_i hok
    simp only[VZ] at hok
    have hsz:=X8 hok.2
    obtain⟨d,i,hd,hi'⟩:=fK hok.1.2
    split at h
    ·rename_i a b ha hb
     obtain⟨hc,h⟩:=dJ h
     simp only[VZ,YK] at hc
     refine⟨_,h,fun C G ρ w act hM hop=> ?_⟩
     have hv0:=aR (hop x opx) hx
     have hv:=hM.frozen j q hq hok.1.1
     rw[<- hv0.1] at hv
     obtain⟨p,cap,ev,hcap,hrep⟩:=bN.cut (a:=a.toNat) (b:=b.toNat) hv (by omega) (by omega)
     have hb':=BX (P:=X.P) (w:=w) (isSl:=true) (len:=q.l.length) (cap:=cap) (zR ha fun y hy=>hop y (opl y hy)) (zR hb fun y hy=>hop y (oph y hy)) hc.1.1 hc.1.2 (by omega)
     refine⟨_, ?_,hrep⟩
     simp only[execOp,ho,ev,Instr.sliceAt,Sem.run_bind,run_underlying ht,Result.andThen_ok,Instr.slice,Option.map_none,hb',run_sizeOf hi',hsz,Sem.run_pure]
    ·cases h
   ·cases h
  ·cases h
 ·cases h
theorem G9 {G:Gh} {ρ:Env}:∀ {ss:List SV} {ks:List Nat} {vs:List Value},allRefs ss=some ks->aE (aU G ρ) ss vs->vs=ks.map fun k=>Value.pointer (some ⟨ρ.bx k,0,none⟩)
 | [],ks,vs,h,hv=>by
  cases hv
  simp only[allRefs,Option.some.injEq] at h
  subst h;rfl
 | s::r,ks,vs,h,⟨v,us,e,hs,hr⟩=>by
  unfold allRefs at h
  split at h
  ·rename_i he;cases he
  ·rename_i k o r' he
   cases he
   split at h
   ·rename_i h0
    have:=X8 h0
    subst this
    split at h
    ·rename_i l hl
     cases h
     subst e
     rw[G9 hl hr,show v=_ from hs]
     rfl
    ·cases h
   ·cases h
  ·cases h
theorem G5 {α γ δ:Type} {R:γ->δ->Prop} (f:α->γ) (g:α->δ):∀ (l:List α),(∀ x,x∈l->R (f x) (g x))->aE R (l.map f) (l.map g)
 | [],_=>rfl
 | x::l,h=>⟨_,_,rfl,h x (by simp),G5 f g l (fun y hy=>h y (by simp[hy]))⟩
theorem QU {fn:Fn} {first caps:Array Operand} (ho:o.op= .makeFunc fn first caps) (h:cy X o S M k=some r):∃ s,k s=some r/\eH X.P o S M s:=by
 unfold cy at h
 rw[ho] at h
 cases fn<;>simp only at h<;>try cases h
 case func g=>
  split at h
  ·rename_i ks hks
   split at h
   ·rename_i hf
    refine⟨_,h,fun C G ρ w a hM hop=> ?_⟩
    have hv:=G9 hks (G5 (R:=aU G ρ) S.ev a.eval caps.toList fun x hx=>hop x (by
     rw[ho];simp only[Op.operands,Array.mem_append];right;simpa using hx))
    have hf':first= #[]:=by simpa using hf
    refine⟨.func (.func g) #[] (ks.map fun k=>Value.pointer (some ⟨ρ.bx k,0,none⟩)).toArray, ?_,rfl⟩
    have e:caps.map a.eval=(ks.map fun k=>Value.pointer (some ⟨ρ.bx k,0,none⟩)).toArray:=by
     apply Array.ext'
     rw[<- hv];simp
    simp only[execOp,ho,Instr.makeFunc,hf',e,Array.map_empty]
    rfl
   ·cases h
  ·cases h
theorem Ja {P:Program} {t:TypeId} {ty:Ty} {z:ty.den} (h:AR P t ty=some z):∃ i v,P.info? t=some i/\i.zero=some v/\(∀ w:World,(zeroValue t).run P w= .ok v w)/\∀ G,bC G ty z v:=by
 unfold AR at h
 split at h
 ·rename_i v hv
  cases hi:P.info? t with
  | none=>rw[hi] at hv;cases hv
  | some i=>
   rw[hi] at hv
   have hz:i.zero=some v:=hv
   refine⟨i,v,rfl,hz,fun w=>by simp[zeroValue,typeInfo,hi,hz],fun G=> ?_⟩
   let ρ:Env:=⟨fun _=>0,fun _=> .nilFunc,fun _=>none,fun _=> .nilFunc,fun _ _=>0⟩
   exact iK (ρ:=ρ) (fun j r hj=>by simp[look] at hj) (iP.nil _ _ _) h (IX G ρ v)
 ·cases h
theorem wN {P:Program} {w:World} {r:Nat} {es:Array MapEntry} {clock:Nat} (hb:w.heap[r]? =some (.map es clock)):(getObj r).run P w= .ok (.map es clock) w:=by
 simp[getObj,Sem.run,hb]
theorem IQ {P:Program} {w:World} {r:Nat} {es:Array MapEntry} {clock:Nat} (o:Obj) (hb:w.heap[r]? =some (.map es clock)):(setObj r o).run P w= .ok () { w with heap:=w.heap.setIfInBounds r o }:=by
 simp[setObj,Sem.run,hb]
theorem TK {t:TypeId} {x ix:Operand} {cok:Bool} (ho:o.op= .lookup t x ix cok) (h:cy X o S M k=some r):∃ s,k s=some r/\eH X.P o S M s:=by
 unfold cy at h
 rw[ho] at h
 simp only at h
 split at h
 ·rename_i kt et j ht hx
  split at h
  ·rename_i kk vv l hl
   split at h
   ·rename_i key z hkey hz
    split at h
    ·rename_i hchk
     obtain⟨iz,zv,hiz,hzi,hzr,hzv⟩:=Ja hz
     have main:∀ (C:Fr X.P) (G:Gh) (ρ:Env) (w:World) (a:Act),Mem C G ρ M w->(∀ x,x∈o.op.operands->aU G ρ (S.ev x) (a.eval x))->
      ∃ v,(∀ (b:Bool),(Instr.lookup t (a.eval x) (a.eval ix) b).run X.P w= .ok (if b then .tuple #[v,.bool (iT l key).isSome] else v) w)/\bC G vv ((iT l key).getD z) v:=by
      intro C G ρ w a hM hop
      have h1:=aR (hop x (by simp[ho,Op.operands])) hx
      obtain⟨b,es,clock,h2,h3,h4,h5,_⟩:=hM.objs j _ hl
      have hk:bC G kk key (a.eval ix):=iK hM.frozen (iP.nil _ _ _) hkey (hop ix (by simp[ho,Op.operands]))
      obtain⟨fr,hf1,hf2⟩:=HY (w:=w) hchk hk h5
      have hg:=hf2.get
      have hobj:(getObj b).run X.P w= .ok (.map es clock) w:=wN h4
      cases fr with
      | none=>
       simp only at hg
       refine⟨zv,fun bb=> ?_,by rw[hg];exact hzv G⟩
       rw[show a.eval x= .map (some b) from h1.1.trans h2]
       simp only[Instr.lookup,Sem.run_bind,run_underlying ht,Result.andThen_ok,hobj,Sem.run_pure,uJ hchk hk,hf1,hzr w,hg]
       cases bb<;>rfl
      | some p=>
       obtain⟨i,u⟩:=p
       simp only at hg
       obtain⟨q,e,g1,g2,g3,g4⟩:=hg
       obtain⟨e',ge,gr⟩:=h5.get g1
       rw[g2] at ge
       cases ge
       refine⟨u,fun bb=> ?_,by rw[g4,g3];exact gr.2⟩
       rw[show a.eval x= .map (some b) from h1.1.trans h2]
       simp only[Instr.lookup,Sem.run_bind,run_underlying ht,Result.andThen_ok,hobj,Sem.run_pure,uJ hchk hk,hf1,g4]
       cases bb<;>rfl
     split at h
     ·rename_i hok
      refine⟨_,h,fun C G ρ w a hM hop=> ?_⟩
      obtain⟨v,hr,hv⟩:=main C G ρ w a hM hop
      refine⟨_, ?_,[v,.bool (iT l key).isSome],rfl,v,_,rfl,uE ρ hv,_,_,rfl,rfl,rfl⟩
      simp only[execOp,ho,Sem.run_bind,hr,Result.andThen_ok,Sem.run_pure,hok,YS]
     ·rename_i hok
      refine⟨_,h,fun C G ρ w a hM hop=> ?_⟩
      obtain⟨v,hr,hv⟩:=main C G ρ w a hM hop
      refine⟨v, ?_,AM ρ hv⟩
      simp only[execOp,ho,Sem.run_bind,hr,Result.andThen_ok,Sem.run_pure,hok]
      rfl
    ·cases h
   ·cases h
  ·cases h
 ·cases h
theorem Tw {G:Gh} {ρ:Env} {P0:Program} {C:Fr P0} {w:World} {P:Program} {d:TypeDesc} {x:CV} {n:Int} {v:Value} {t ty:TypeId} (h:QC M d x=some n) (ht:P.underlying t=some d) (hM:Mem C G ρ M w) (hv:aN G ρ x v): (Builtin.len_ #[t] ty #[v]).run P w= .ok (.int .i64 n) w:=by
 cases x<;>simp only[QC] at h
 case str s=>
  split at h
  ·cases h
   simp[Builtin.len_,run_underlying ht,show v= .string (bs s) from hv,goInt,zS]
  ·cases h
 case sl t' l=>
  split at h
  ·cases h
   obtain⟨a,cap,e,_⟩:=hv
   simp[Builtin.len_,run_underlying ht,e,goInt]
  ·cases h
 case nils=>
  split at h
  ·cases h
   simp[Builtin.len_,run_underlying ht,show v=_ from hv,goInt]
  ·cases h
 case row j=>
  split at h
  ·split at h
   ·rename_i q hq
    cases h
    have hrow:=hM.rows j q hq
    have key:∃ a cap,ρ.rw j= .slice a q.l.length cap:=by
     unfold bV at hrow
     split at hrow
     ·obtain⟨a,cap,e,_⟩:=hrow;exact⟨a,cap,e⟩
     ·obtain⟨xs,⟨_,⟨e,e'⟩ | ⟨g,cap,cur,e,_⟩⟩,_⟩:=hrow
      ·exact⟨none,0,by rw[e,e']⟩
      ·exact⟨_,_,e⟩
    obtain⟨a,cap,e⟩:=key
    simp[Builtin.len_,run_underlying ht,hv.1,e,goInt]
   ·cases h
  ·cases h
 case mp j=>
  split at h
  ·split at h
   ·rename_i kk vv l hl
    cases h
    obtain⟨b,es,clock,h2,h3,h4,h5,_⟩:=hM.objs j _ hl
    have hlen:=h5.len
    simp only[Array.length_toList] at hlen
    simp[Builtin.len_,run_underlying ht,hv.1.trans h2,wN h4,goInt,hlen]
   ·cases h
  ·cases h
 all_goals cases h
theorem U5 {c:Call} (ho:o.op= .call c) (h:cy X o S M k=some r):∃ s,k s=some r/\eH X.P o S M s:=by
 unfold cy at h
 rw[ho] at h
 simp only at h
 split at h
 ·rename_i b hcal
  obtain⟨callee,args,argTypes⟩:=c
  dsimp only at hcal
  subst hcal
  have opm:∀ x,x∈args->x∈o.op.operands:=fun x hx=>by simp[ho,Op.operands,Call.operands,hx]
  unfold Rz at h
  split at h
  ·split at h
   ·rename_i x t he ht
    split at h
    ·rename_i d hd
     split at h
     ·rename_i n hn
      refine⟨_,h,fun C G ρ w a hM hop=> ?_⟩
      match hargs:args.toList,he with
      | [y],he=>
       have hy:=aR (hop y (opm y (by rw[<- VV,hargs];simp))) (by simpa using he)
       have e1:args= #[y]:=by rw[<- VX (xs:=args),hargs]
       have e2:argTypes= #[t]:=by rw[<- VX (xs:=argTypes),ht]
       refine⟨.int .i64 n, ?_,rfl⟩
       have hl:=Tw (ty:=o.type) hn hd hM hy
       simp[execOp,ho,resolve,invoke,builtin,e1,e2,hl]
      | [],he=>simp at he
      | _::_::_,he=>simp at he
     ·cases h
    ·cases h
   ·cases h
  ·split at h
   ·rename_i ik n ik' m he
    refine⟨_,h,fun C G ρ w a hM hop=> ?_⟩
    match hargs:args.toList,he with
    | [x,y],he=>
     simp only[Xw,List.map_nil,List.cons.injEq,YA] at he
     have hx:=aR (hop x (opm x (by rw[<- VV,hargs];simp))) he.1
     have hy:=aR (hop y (opm y (by rw[<- VV,hargs];simp))) he.2
     have e1:args= #[x,y]:=by rw[<- VX (xs:=args),hargs]
     refine⟨.int ik (if m<n then m else n), ?_,rfl⟩
     simp[execOp,ho,resolve,invoke,builtin,e1,Builtin.min_,Builtin.min2,show a.eval x=_ from hx,show a.eval y=_ from hy]
    | [],he | [_],he | _::_::_::_,he=>simp at he
   ·cases h
  ·split at h
   ·rename_i ik n ik' m he
    refine⟨_,h,fun C G ρ w a hM hop=> ?_⟩
    match hargs:args.toList,he with
    | [x,y],he=>
     simp only[Xw,List.map_nil,List.cons.injEq,YA] at he
     have hx:=aR (hop x (opm x (by rw[<- VV,hargs];simp))) he.1
     have hy:=aR (hop y (opm y (by rw[<- VV,hargs];simp))) he.2
     have e1:args= #[x,y]:=by rw[<- VX (xs:=args),hargs]
     refine⟨.int ik (if m>n then m else n), ?_,rfl⟩
     simp[execOp,ho,resolve,invoke,builtin,e1,Builtin.max_,Builtin.max2,show a.eval x=_ from hx,show a.eval y=_ from hy]
    | [],he | [_],he | _::_::_::_,he=>simp at he
   ·cases h
  ·cases h
 ·cases h
theorem N0 (h:cy X o S M k=some r):∃ s,k s=some r/\eH X.P o S M s:=by
 cases ho:o.op with
 | move x=>exact Sx (.inl ho) h
 | assign x=>exact Sx (.inr ho) h
 | pick c x y=>exact U8 ho h
 | binOp op t x y u=>exact Uu ho h
 | unOp op t x=>exact U9 ho h
 | convert t u x=>exact Sv ho h
 | nilCheck x=>exact QV ho h
 | fieldAddr t x f=>exact O6 ho h
 | field t x f=>exact Uw ho h
 | load t x=>exact U7 ho h
 | indexAddr t x ix=>exact O7 ho h
 | index t x ix=>exact Ux ho h
 | extract x i=>exact Sw ho h
 | build t parts=>exact Uv ho h
 | slice t x lo hi mx=>
  cases mx with
  | none=>exact Uy ho h
  | some m=>unfold cy at h;rw[ho] at h;cases h
 | call c=>exact U5 ho h
 | makeFunc fn first caps=>exact QU ho h
 | lookup t x ix cok=>exact TK ho h
 | _=>unfold cy at h;rw[ho] at h;cases h
end
end Go.Dn
namespace Go.Dn
variable {β:Type}
def jD (G:Gh) (w:World) (e:TypeId) (t:Ty) (l:List t.den) (v:Value):Prop:=∃ xs,w.ownsRow 0 e t.size v l.length xs/\bA (ax G t) l xs
def oH (G:Gh) (w:World) (k v:Ty) (l:List (k.den×v.den)) (b:Nat):Prop:=∃ es clock,w.heap[b]? =some (.map es clock)/\aE (rU G k v) l es.toList/\
 (∀ (i:Nat) (e:MapEntry),es.toList[i]? =some e->e.born<clock)/\es.toList.Pairwise (fun a b=>a.born<b.born)
def VD (G:Gh) (w:World) (ow:Nat->Option Nat) (n:Nat):(o:OT)->o.den->List Value->Prop
 | .val t,x,vs=>ax G t x vs
 | .row e t,l,vs=>∃ v,vs=[v]/\jD G w e t l v/\∀ b,v.ownBlock=some b->ow b=some n
 | .map k v,l,vs=>∃ b,vs=[.map (some b)]/\ow b=some n/\oH G w k v l b
def uF (G:Gh) (w:World) (ow:Nat->Option Nat):Nat->(l:List OT)->iC l->List Value->Prop
 | _,[],_,vs=>vs=[]
 | n,o::r,x,vs=>∃ a b,vs=a++b/\VD G w ow n o x.1 a/\uF G w ow (n+1) r x.2 b
def rR (G:Gh) (w:World) (ow:Nat->Option Nat) (n:Nat) (l:List OT) (x:iC l) (v:Value):Prop:=
 ∃ b vs T,v= .pointer (some ⟨b,0,none⟩)/\ow b=some n/\w.heap[b]? =some (.cells (List.toArray vs) T (0,0))/\uF G w ow (n+1) l x vs
def wF (G:Gh) (w:World) (ow:Nat->Option Nat) (i:Nat):(p:PM)->p.den->Value->Prop
 | .val t,x,v=>bC G t x v
 | .row e t,l,v=>jD G w e t l v/\∀ b,v.ownBlock=some b->ow b=some (64*i)
 | .mrow e t,l,v=>jD G w e t l v/\∀ b,v.ownBlock=some b->ow b=some (64*i)
 | .map k e,l,v=>∃ b,v= .map (some b)/\ow b=some (64*i)/\oH G w k e l b
 | .box l,x,v=>rR G w ow (64*i) l x v
 | .ar t,l,_=>gV G w (fun b=>ow b=some (64*i)) false t l
 | .arR t,l,_=>gV G w (fun _=>True) true t l
def eG (G:Gh) (w:World) (ow:Nat->Option Nat):Nat->(ps:List PM)->dQ ps->List Value->Prop
 | _,[],_,vs=>vs=[]
 | i,p::r,x,vs=>∃ v us,(p.arg=true->vs=v::us)/\(p.arg=false->vs=us)/\wF G w ow i p x.1 v/\eG G w ow (i+1) r x.2 us
def kX (G:Gh) (w:World) (ow:Nat->Option Nat):Nat->(ps:List PM)->cS ps->List Value->Prop
 | _,[],_,_=>True
 | i,.mrow e t::r,x,vs=>(∃ v,vs.head? =some v/\jD G w e t x.1 v/\∀ b,v.ownBlock=some b->ow b=some (64*i))/\kX G w ow (i+1) r x.2 vs.tail
 | i,.map k e::r,x,vs=>(∃ b,vs.head? =some (.map (some b))/\ow b=some (64*i)/\oH G w k e x.1 b)/\kX G w ow (i+1) r x.2 vs.tail
 | i,.box l::r,x,vs=>(∃ v,vs.head? =some v/\rR G w ow (64*i) l x.1 v)/\kX G w ow (i+1) r x.2 vs.tail
 | i,.ar t::r,x,vs=>gV G w (fun b=>ow b=some (64*i)) false t x.1/\kX G w ow (i+1) r x.2 vs
 | i,.val _::r,x,vs=>kX G w ow (i+1) r x vs.tail
 | i,.row _ _::r,x,vs=>kX G w ow (i+1) r x vs.tail
 | i,.arR _::r,x,vs=>kX G w ow (i+1) r x vs
def P8 (G:Gh) (w:World) (ow:Nat->Option Nat) (c:Nat):(p:RM)->p.den->Value->Prop
 | .val t,x,v=>bC G t x v
 | .row e t,l,v=>jD G w e t l v/\∀ b,v.ownBlock=some b->ow b=some (64*(24+c))
 | .map k e,l,v=>∃ b,v= .map (some b)/\ow b=some (64*(24+c))/\oH G w k e l b
 | .box l,x,v=>rR G w ow (64*(24+c)) l x v
def iw (G:Gh) (w:World) (ow:Nat->Option Nat) (ps:List PM) (args:List Value):Nat->(rs:List RM)->cx ps rs->List Value->Prop
 | _,[],x,vs=>vs=[]/\kX G w ow 0 ps x args
 | c,p::r,x,vs=>∃ v us,vs=v::us/\P8 G w ow c p x.1 v/\iw G w ow ps args (c+1) r x.2 us
def fX:List PM->Bool
 | []=>false
 | .ar _::_=>true
 | _::r=>fX r
def oa:List Value->Value
 | [v]=>v
 | l=> .tuple l.toArray
structure Ev (G:Gh) (w:World) (ow:Nat->Option Nat) (sp:ak) (args:List Value) (y:cx sp.ps sp.rs) (e:Ending) (w':World) (G':Gh) (ow':Nat->Option Nat) (vs:List Value):Prop where
 ret:e= .returned (oa vs)
 le:G.le G'
 agr:Agr G' w'
 size:w.heap.size<=w'.heap.size
 os:w'.os=w.os
 output:w'.output=w.output
 old:∀ b,b<w.heap.size->ow b=none->w'.heap[b]? =w.heap[b]? /\G' b=G b
 own:∀ b i,ow' b=some i->G' b=none/\b<w'.heap.size/\(w.heap.size<=b\/ow b≠none)
 out:iw G' w' ow' sp.ps args 0 sp.rs y vs
 hnd:fX sp.ps=false->G'.hnd=G.hnd
def bQ (P:Program) (f:FuncId) (sp:ak):Prop:=
 ∀ (G:Gh) (w:World) (ow:Nat->Option Nat) (args:List Value) (x:dQ sp.ps) (y:cx sp.ps sp.rs),Agr G w->(∀ b i,ow b=some i->G b=none/\b<w.heap.size)->
  eG G w ow 0 sp.ps x args->sp.m x=some y->cq P G->Calls P f args.toArray w fun e w'=>∃ G' ow' vs,Ev G w ow sp args y e w' G' ow' vs
def cm (P:Program) (f:FuncId):Prop:=∃ fn,P.funcs[f]? =some fn/\fn.body.isSome=true/\fn.name≠ "runtime.NumGoroutine"
def Vk (P:Program) (f:FuncId):CI->Prop
 | .mk g=>∃ bt,∀ (mb:Option Nat) (w:World),Calls P f #[.map mb] w fun e w'=>e= .returned (.func (.func g) #[] #[.pointer (some ⟨w.heap.size,0,none⟩)])/\w'=w.alloc (.cells #[.map mb] bt)
 | .srt g kt e=>P.underlying kt=some (.int .i64)/\∀ (Bm b nn:Nat) (D0:DataW Unit) (w:World),Bm<w.heap.size->w.cell? ⟨Bm,0,none⟩=some (.map (some b))->w.ownsMap P kt (fun _=>some (.nil,[])) b nn D0->Maps.size D0<=maxLen->Maps.size D0*8<=140737488355328->
  Calls P f #[.func (.func g) #[] #[.pointer (some ⟨Bm,0,none⟩)]] w fun e' w'=>∃ (v:Value) (ss:List Int),e'= .returned v/\ss.Perm (intKeys D0)/\w'.ownsRow w.heap.size e 1 v ss.length ((ss.mergeSort fun x y=>decide (x<=y)).map encZ)/\RowKit.Below w.heap.size w w'
 | .elt lo nb tb te m=>∀ (G:Gh) (w:World) (B R i cap:Nat) (e T:TypeId) (vs:List Value) (l:List tb.den) (ql ql':List te.den) (xs:List Value),Agr G w->cq P G->B≠R->w.heap[B]? =some (.cells vs.toArray T (0,0))->vs.length=nb->
  (∃ u,vs[lo]? =some u/\bN G tb.size (ax G tb) l u)->R<w.heap.size->w.ownsRow 0 e te.size (.slice (some ⟨R,0,none⟩) ql.length cap) ql.length xs->bA (ax G te) ql xs->G B=none->G R=none->m l ql i=some ql'->
  Calls P f #[.pointer (some ⟨B,0,none⟩),.pointer (some ⟨R,i*te.size,none⟩)] w fun e' w'=>e'= .returned (oa [])/\∃ (G':Gh) (vs' xs':List Value) (T':TypeId),G.le G'/\G'.hnd=G.hnd/\Agr G' w'/\(∀ b,b<w.heap.size->G' b=G b)/\
   w'.os=w.os/\w'.output=w.output/\w.heap.size<=w'.heap.size/\(∀ b,b<w.heap.size->b≠B->b≠R->w'.heap[b]? =w.heap[b]?)/\w'.heap[B]? =some (.cells vs'.toArray T' (0,0))/\vs'.length=nb/\(∀ k,k≠lo->vs'[k]? =vs[k]?)/\
   (∃ u,vs'[lo]? =some u/\bN G' tb.size (ax G' tb) l u)/\w'.ownsRow 0 e te.size (.slice (some ⟨R,0,none⟩) ql.length cap) ql'.length xs'/\bA (ax G' te) ql' xs'
 | .nest p sp=>∀ (G:Gh) (w:World) (ow:Nat->Option Nat) (args:List Value) (x:dQ sp.ps) (y:cx sp.ps sp.rs) (bm:Nat) (v:Value) (T:TypeId),Agr G w->(∀ b i,ow b=some i->G b=none/\b<w.heap.size)->
  eG G w ow 0 sp.ps x args->sp.m x=some y->cq P G->args[p]? =some v->ow bm=none->G bm=none->w.heap[bm]? =some (.cells #[v] T (0,0))->
  Calls P f (args.set p (.pointer (some ⟨bm,0,none⟩))).toArray w fun e w'=>∃ w1 G' ow' vs T',w1.os=w'.os/\w1.output=w'.output/\w1.heap.size=w'.heap.size/\(∀ b,b≠bm->w1.heap[b]? =w'.heap[b]?)/\w'.heap[bm]? =some (.cells #[v] T' (0,0))/\Ev G w ow sp args y e w1 G' ow' vs
 | .srt2 g kt e cl cf=>∀ (G:Gh) (vt:Ty) (l:List ((List UInt8×List UInt8)×vt.den)) (Bm b clock:Nat) (es:Array MapEntry) (w:World),Agr G w->cq P G->Bm<w.heap.size->w.cell? ⟨Bm,0,none⟩=some (.map (some b))->w.heap[b]? =some (.map es clock)->
  aE (rU G (.st (.pair .str .str)) vt) l es.toList->(∀ x,x∈es.toList->x.born<clock)->es.toList.Pairwise (fun a b=>a.born<b.born)->PC cf l=true->
  Calls P f #[.func (.func g) #[] #[.pointer (some ⟨Bm,0,none⟩)],.func (.func cl) #[] #[]] w fun e' w'=>∃ (v:Value) (xs:List Value),e'= .returned v/\w'.ownsRow w.heap.size e 2 v l.length xs/\bA (ax G (.st (.pair .str .str))) (Bv cf l) xs/\
   w.heap.size<=w'.heap.size/\w'.os=w.os/\w'.output=w.output/\∀ b,b<w.heap.size->w'.heap[b]? =w.heap[b]?
 | .cop sz lo b e t=>∀ (G:Gh) (w:World) (vs:List Value) (u:Value) (l:List t.den),Agr G w->cq P G->vs.length=sz->(∀ v∈vs,v.oneCell'=true)->vs[lo]? =some u->bN G t.size (ax G t) l u->l.length*b<=140737488355328->l.length<=maxLen->
  Calls P f #[.agg vs.toArray] w fun e' w'=>∃ (G':Gh) (s:Value) (xs:List Value),e'= .returned (.agg (vs.set lo s).toArray)/\G.le G'/\G'.hnd=G.hnd/\Agr G' w'/\(∀ b,b<w.heap.size->G' b=G b)/\
   w'.ownsRow w.heap.size e t.size s l.length xs/\(∀ b,s.ownBlock=some b->G' b=none)/\bA (ax G' t) l xs/\
   w.heap.size<=w'.heap.size/\w'.os=w.os/\w'.output=w.output/\∀ b,b<w.heap.size->w'.heap[b]? =w.heap[b]?
 | .own=>True
structure bS (X:Cx):Prop where
 fn:∀ f sp,(f,sp)∈X.specs->bQ X.P f sp/\cm X.P f
 key:∀ f kf,(f,kf)∈X.keys->Vk X.P f kf/\(kf≠ .own->cm X.P f)
theorem D6 {P:Program} {f:FuncId} {args:Array Value} {w:World} (h:cm P f):(callFunc f args).run P w= .ok (.enter f args) w:=by
 obtain⟨fn,hf,hb,hn⟩:=h
 simp[callFunc,hf,hn]
 intro h0
 rw[h0] at hb
 cases hb
variable {P0:Program} {C:Fr P0} {G:Gh} {ρ:Env} {S:St} {w:World}
structure AS (o:Oper) (S M S1:St):Prop where
 ops:∀ x,x∈o.op.operands->S1.ev x=S.ev x
 boxes:∀ k cs,look M.boxes k=some cs->look S1.boxes k=some cs
 rows:∀ j q,look M.rows j=some q->look S1.rows j=some q
 objs:∀ j q,look M.objs j=some q->look S1.objs j=some q
theorem AS.refl (o:Oper) (S:St):AS o S S S:=⟨fun _ _=>rfl,fun _ _ h=>h,fun _ _ h=>h,fun _ _ h=>h⟩
theorem Mem.sub {M:St} (h:Mem C G ρ S w) (hb:∀ k cs,look M.boxes k=some cs->look S.boxes k=some cs) (hr:∀ j q,look M.rows j=some q->look S.rows j=some q) (ho:∀ j q,look M.objs j=some q->look S.objs j=some q):Mem C G ρ M w:=
 { h with boxes:=fun k cs hk=>h.boxes k cs (hb k cs hk),rows:=fun j q hj=>h.rows j q (hr j q hj),objs:=fun j q hj=>h.objs j q (ho j q hj),hndI:=fun hn=>⟨(h.hndI hn).1,fun t l hl=>(h.hndI hn).2 t l (ho bf _ hl)⟩ }
def cB (P:Program) (o:Oper) (S M:St) (x:Del):Prop:=
 ∀ (C:Fr P) (G:Gh) (ρ:Env) (S1:St) (w:World) (a:Act) (Q:Exit->Act->World->Prop),Mod C G ρ S1 w a->AS o S M S1->
  (∀ d,o.dst=some d->x.box.isSome=true->S1.bB d=false)->(∀ d,o.dst=some d->x.row.isSome=true->S1.aT d=false)->(∀ d,o.dst=some d->x.obj.isSome=true->S1.bn d=false/\S1.aX d=false)->
  o.wp P a w (fun a' w'=>∃ G' ρ',Mod C G' ρ' (S1.app o.dst x) w' a') Q
def jd (o:Oper) (S:St) (x:Del):Prop:=∀ d,o.dst=some d->(x.box.isSome=true->S.bB d=false)/\(x.row.isSome=true->S.aT d=false)/\(x.obj.isSome=true->S.bn d=false/\S.aX d=false)
theorem jd.val (o:Oper) (S:St) (s:SV):jd o S ⟨s,none,none,none⟩:=fun _ _=>⟨nofun,nofun,nofun⟩
theorem St.zQ (S:St) (d:Option Tmp) (s:SV):S.app d ⟨s,none,none,none⟩=S.put d s:=by
 cases d<;>rfl
theorem cB.NO {P:Program} {o:Oper} {S M:St} {s:SV} (h:eH P o S M s):cB P o S M ⟨s,none,none,none⟩:=by
 intro C G ρ S1 w a Q hM hN _ _ _
 obtain⟨v,hr,hv⟩:=h C G ρ w a (hM.toMem.sub hN.boxes hN.rows hN.objs) (fun x hx=>by rw[<- hN.ops x hx];exact hM.tmps.ev x)
 unfold Oper.wp
 rw[hr]
 refine⟨G,ρ, ?_⟩
 rw[St.zQ]
 exact hM.put o.dst (fun _ _=>hv)
theorem ax.of_flat {G G':Gh} (hh:∀ h b,G.hnd h=some b->G'.hnd h=some b):∀ {t:Ty} {x:t.den} {cs:List Value},t.flat=true->ax G t x cs->ax G' t x cs
 | .int _,_,_,_,h=>h
 | .bool,_,_,_,h=>h
 | .str,_,_,_,h=>h
 | .unit,_,_,_,h=>h
 | .pair a b,(x,y),_,hf,⟨c,r,e,hx,hy⟩=>by
  simp only[Ty.flat,VZ] at hf
  exact⟨c,r,e,ax.of_flat hh hf.1 hx,ax.of_flat hh hf.2 hy⟩
 | .st t,x,cs,hf,h=>ax.of_flat hh (t:=t) (x:=x) (by simpa [Ty.flat] using hf) h
 | .slice t,_,_,hf,_=>by simp[Ty.flat] at hf
 | .ptr t,x,_,hf,_=>by simp[Ty.flat] at hf
 | .clo _ t,x,_,hf,_=>by simp[Ty.flat] at hf
 | .hnd,none,_,_,h=>h
 | .hnd,some _,_,_,⟨b,hb,e⟩=>⟨b,hh _ _ hb,e⟩
theorem bC.of_flat {G G':Gh} (hh:∀ h b,G.hnd h=some b->G'.hnd h=some b) {t:Ty} {x:t.den} {v:Value} (hf:t.flat=true) (h:bC G t x v):bC G' t x v:=by
 cases t with
 | st t=>obtain⟨vs,e,hv⟩:=h;exact⟨vs,e,hv.of_flat hh (by simpa [Ty.flat] using hf)⟩
 | _=>exact ax.of_flat hh hf h
theorem Mod.after {G':Gh} {w':World} {a:Act} (h:Mod C G ρ S w a) (hle:G.le G') (hh:G'.hnd=G.hnd) (hagr:Agr G' w') (hs:w.heap.size<=w'.heap.size) (hos:w'.os=w.os) (hou:w'.output=w.output) (hold:∀ b,b<w.heap.size->w'.heap[b]? =w.heap[b]?) (hG:∀ b,b<w.heap.size->G' b=G b):Mod C G' ρ S w' a:=by
 have hX:=(h.toMem.toX none).grow (w':=w') (blk:=none) ⟨hos,hou,hs,fun b hb _=>hold b hb⟩ (by simp)
 have hX2:=hX.change (G':=G') (ρ':=ρ) hle hh hagr (fun b hb hB=>by rw[hG b (Ye hb h.size)];exact h.old b hb hB) (fun _ _=>rfl) (fun _ _=>⟨rfl,rfl⟩) (fun p _ c _=> .refl ρ c)
  (fun b o ho=>by
    have:=h.owned b o ho
    exact⟨by rw[hG b this.2.1];exact this.1,Ye this.2.1 hs,this.2.2⟩)
  (fun k cs _ _=>⟨rfl,id⟩) (fun j r _ _=>⟨rfl,fun _=>id⟩) (fun j r _ _=>⟨rfl,rfl,fun _=>id⟩)
 have hM:=hX2.toMem (fun k cs _ e=>by cases e) (fun j r _ e=>by cases e) (fun j r _ e=>by cases e)
 exact { hM with tmps:=h.tmps.congr hle ⟨fun s _=> .refl ρ s,fun p _ c _=> .refl ρ c⟩,defers:=h.defers }
theorem NI (rs:List (Nat×jn)) (j i:Nat):look (rF rs j) i=if i=j then (look rs j).map (fun q=>{ q with fz:=true }) else look rs i:=by
 unfold rF
 cases hj:look rs j with
 | none=>
  by_cases e:i=j
  ·subst e;simp[hj]
  ·simp[e]
 | some q=>
  simp only[aj]
  by_cases e:i=j
  ·subst e;simp
  ·have:¬ j=i:=fun h=>e h.symm
   simp[e,this]
theorem zl:∀ (js:List Nat) (rs:List (Nat×jn)) (i:Nat),look (js.foldl rF rs) i=if i∈js then (look rs i).map (fun q=>{ q with fz:=true }) else look rs i
 | [],rs,i=>by simp
 | j::js,rs,i=>by
  rw[WR,zl js,NI]
  by_cases e:i=j
  ·subst e
   by_cases e':i∈js
   ·simp[e',Yx,Function.comp_def]
   ·simp[e']
  ·simp[e]
theorem H6 {M S1:St} {js:List Nat} (h:∀ j q,look M.rows j=some q->look S1.rows j=some q):∀ j q,look (aC M js).rows j=some q->look (aC S1 js).rows j=some q:=by
 intro j q hq
 simp only[Ce,zl] at hq ⊢
 split at hq
 ·rename_i hm
  rw[YR hm]
  cases hl:look M.rows j with
  | none=>rw[hl] at hq;cases hq
  | some q'=>rw[hl] at hq;rw[h j q' hl];exact hq
 ·rename_i hm
  rw[YQ hm]
  exact h j q hq
theorem DK {M:St} {args:List SV} (h:Aj M args=true):eY M args=[]/\∀ j q,look (aC M (di M args)).rows j=some q->look M.rows j=some q:=by
 simp only[Aj,VZ,List.isEmpty_iff] at h
 refine⟨h.1,fun j q hq=> ?_⟩
 have e:di M args=zk args:=by simp[di,h.1,rE]
 rw[e] at hq
 simp only[Ce,zl] at hq
 split at hq
 ·rename_i hm
  have h2:=h.2
  simp only[Wv] at h2
  have:=h2 j hm
  cases hl:look M.rows j with
  | none=>rw[hl] at hq;cases hq
  | some q'=>
   rw[hl] at hq this
   simp only[Yy,Option.some.injEq] at hq
   obtain⟨fz,e,t,l⟩:=q'
   dsimp only at this hq
   subst this
   rw[<- hq]
 ·exact hq
theorem Mod.Tx {a:Act} (h:Mod C G ρ S w a) (js ks:List Nat) (ar:Bool):∃ G1 ρ1 G2,Fz G G1 ρ ρ1/\Mod C G1 ρ1 (aC S js) w a/\G1.le G2/\G2.hnd=G1.hnd/\Agr G2 w/\iP G2 ρ1 (aC S js) ks/\ (ar=true->∀ fz t l,look S.objs bf=some (.ar fz t l)->gV G2 w (fun _=>True) true t l)/\ (∀ b,G2 b≠G1 b->(∃ k,ρ1.own b=some (.inl k)/\inL ks k=true)\/(ar=true/\ρ1.own b=some (.ob bf))):=by
 obtain⟨G1,ρ1,hfz,hM1⟩:=h.freeze js
 let G2:Gh:=⟨fun b=>match ρ1.own b with
  | some (.inl k)=>if inL ks k=true then w.heap[b]? else G1 b
  | some (.ob j)=>if ar=true/\j=bf then w.heap[b]? else G1 b
  | some (.inr _)=>G1 b
  | none=>G1 b,G1.hnd⟩
 have hval:∀ b,G2 b=G1 b\/(G2 b=w.heap[b]? /\∃ o,ρ1.own b=some o):=fun b=>by
  simp only[G2]
  cases ho:ρ1.own b with
  | none=>exact .inl rfl
  | some o=>
   cases o with
   | inl k=>
    by_cases hk:inL ks k=true
    ·right;simp[hk]
    ·left;simp[hk]
   | inr j=>exact .inl rfl
   | ob j=>
    by_cases hk:ar=true/\j=bf
    ·right;simp[hk]
    ·left;simp only[YQ hk]
 have hle:G1.le G2:=⟨fun b o hb=>by
  rcases hval b with h1 | ⟨_,o',ho⟩
  ·rw[h1];exact hb
  ·have:=(hM1.owned b o' ho).1
   rw[hb] at this
   (cases this),fun _ _ h=>h⟩
 refine⟨G1,ρ1,G2,hfz,hM1,hle,rfl, ?_, ?_, ?_, ?_⟩
 ·intro b o hb
  rcases hval b with h1 | ⟨h1,_⟩
  ·exact hM1.agr b o (by rw[<- h1];exact hb)
  ·rw[<- h1];exact hb
 ·intro k cs hk hcs
  obtain⟨ho,vs,T,hw,hv⟩:=hM1.boxes k cs hcs
  refine⟨vs,T,(0,0), ?_,hv.mono fun c v hc=>aN.congr hle (.refl ρ1 c) hc⟩
  simp only[G2,ho,YR hk];exact hw
 ·intro har fz t l hl
  have hok:gV G1 w (fun b=>ρ1.own b=some (.ob bf)) fz t l:=(hM1.objs bf _ (show look (aC S js).objs bf=_ from hl)).2
  refine⟨hok.1,hok.2.1,fun i x hx=> ?_⟩
  obtain⟨b,vs,T,h1,h2,h3,h4,h5⟩:=hok.2.2 i x hx
  refine⟨b,vs,T,h1,fun _=> ?_,fun e=>(by cases e),h4,ax.mono hle t x _ h5⟩
  cases fz with
  | true=>exact hle _ _ (h2 rfl)
  | false=>simp only[G2,h3 rfl,har,and_self,YS];exact h4
 ·intro b hb
  simp only[G2] at hb
  cases ho:ρ1.own b with
  | none=>rw[ho] at hb;exact absurd rfl hb
  | some o=>
   rw[ho] at hb
   cases o with
   | inl k=>
    by_cases hk:inL ks k=true
    ·exact .inl ⟨k,rfl,hk⟩
    ·simp[hk] at hb
   | inr j=>exact absurd rfl hb
   | ob j=>
    by_cases hk:ar=true/\j=bf
    ·right;exact⟨hk.1,by rw[hk.2]⟩
    ·simp only[YQ hk] at hb;exact absurd rfl hb
theorem nY {V:St} {fz:Bool} {t:Ty} {l:List t.den} (h:qc V fz t=some l):∃ f,look V.objs bf=some (.ar f t l)/\(fz=false->f=false):=by
 unfold qc at h
 split at h
 ·rename_i f t' l' hl
  split at h
  ·cases h
  ·rename_i hf
   obtain⟨et,el⟩:=eU h
   subst et;subst el
   refine⟨f,hl,fun e=> ?_⟩
   subst e
   simpa using hf
 ·cases h
theorem oU {V:St} {fb:List Nat} (hF:fB G ρ V) (hL:iP G ρ V fb) (w:World) (ow:Nat->Option Nat):∀ {ps:List PM} {args:List SV} {x:dQ ps} {vs:List Value} (i:Nat), ((∃ p,p∈ps/\p.arg=false)->∀ fz t l,look V.objs bf=some (.ar fz t l)->gV G w (fun _=>True) true t l)-> ps.all PM.isVal=true->b9 V fb ps args=some x->aE (aU G ρ) args vs->eG G w ow i ps x vs
 | [],[],x,vs,i,_,_,h,hv=>by cases hv;rfl
 | [],_::_,x,vs,i,_,_,h,hv=>by simp[b9] at h
 | p::r,args,x,vs,i,hA,hp,h,hv=>by
  simp only[Wu,VZ] at hp
  simp only[b9] at h
  have hA':(∃ p,p∈r/\p.arg=false)->∀ fz t l,look V.objs bf=some (.ar fz t l)->gV G w (fun _=>True) true t l:=fun ⟨p',h1,h2⟩=>hA ⟨p',by simp[h1],h2⟩
  split at h
  ·rename_i s hs
   split at h
   ·rename_i y hy
    split at h
    ·rename_i z hz
     cases h
     cases p with
     | val t=>
      simp only[PM.arg,YG] at hs hz
      match args,hv,hs,hz with
      | s'::q,⟨v,us,e,hsv,hq⟩,hs,hz=>
       simp only[Xk,Option.some.injEq] at hs
       subst hs
       exact⟨v,us,fun _=>e,fun e=>(by cases e),iK hF hL hy hsv,oU hF hL w ow (i+1) hA' hp.2 hz hq⟩
     | arR t=>
      simp only[PM.arg,YF] at hz
      obtain⟨f,hl,_⟩:=nY (show qc V true t=some y from hy)
      exact⟨undef,vs,fun e=>(by cases e),fun _=>rfl,hA ⟨.arR t,by simp,rfl⟩ f t y hl,oU hF hL w ow (i+1) hA' hp.2 hz hv⟩
     | _=>simp[PM.isVal] at hp
    ·cases h
   ·cases h
  ·cases h
theorem PI {w:World} {ow:Nat->Option Nat} {ps:List PM} {args:List Value}:∀ {rs:List RM} {c:Nat} {y:cx ps rs} {vs:List Value},o9 rs=true->iw G w ow ps args c rs y vs-> ∀ (G2:Gh) (ρ:Env),(∀ h b,G.hnd h=some b->G2.hnd h=some b)->(Aq rs=true\/G.le G2)->aE (fun p=>iy G2 ρ p.1 p.2) (EP ps rs y) vs
 | [],c,y,vs,_,h,G2,ρ,_,_=>h.1
 | .val t::r,c,y,vs,hr,⟨v,us,e,hv,hu⟩,G2,ρ,hh,hG=>by
  refine⟨v,us,e, ?_,PI (by simpa [o9] using hr) hu G2 ρ hh ?_⟩
  ·rcases hG with hf | hle
   ·simp only[Aq,VZ] at hf
    exact uE ρ (bC.of_flat hh hf.1 hv)
   ·exact uE ρ (bC.mono hle hv)
  ·rcases hG with hf | hle
   ·simp only[Aq,VZ] at hf;exact .inl hf.2
   ·exact .inr hle
 | .row e t::r,c,y,vs,hr,_,_,_,_,_=>by simp[o9] at hr
 | .map e t::r,c,y,vs,hr,_,_,_,_,_=>by simp[o9] at hr
 | .box e::r,c,y,vs,hr,_,_,_,_,_=>by simp[o9] at hr
theorem IY {l:List (Bool×List CV)} {vs:List Value} (h:aE (fun p=>iy G ρ p.1 p.2) l vs):aU G ρ (uA l) (oa vs):=by
 match l,h with
 | [],h=>exact trivial
 | [p],h=>
  obtain⟨v,e,hv⟩:=h.single
  subst e
  exact hv
 | p::q::r,⟨v,us,e,hv,u,vs',e',hu,hr⟩=>
  subst e;subst e'
  exact⟨v::u::vs',rfl,v,u::vs',rfl,hv,u,vs',rfl,hu,hr⟩
end Go.Dn
namespace Go.Dn
variable {β:Type} {X:Cx} {o:Oper} {S M:St} {k:Del->Option β} {r:β}
theorem vq (w:World) (o:Obj) {b:Nat} (h:b<w.heap.size):(w.alloc o).heap[b]? =w.heap[b]? :=by
 simp only[World.alloc]
 rw[Array.getElem?_push_lt h,VO h]
theorem u7 {α γ δ:Type} {R:γ->δ->Prop} (f:α->γ) (g:α->δ):∀ (l:List α),(∀ x,x∈l->R (f x) (g x))->aE R (l.map f) (l.map g)
 | [],_=>rfl
 | x::l,h=>⟨_,_,rfl,h x (by simp),u7 f g l (fun y hy=>h y (by simp[hy]))⟩
theorem Ui {t:TypeId} (ho:o.op= .alloc t) (h:cT X o S M k=some r):∃ x,k x=some r/\cB X.P o S M x/\jd o S x:=by
 unfold cT at h
 rw[ho] at h
 simp only at h
 split at h
 ·rename_i z d hz hd
  split at h
  ·cases h
  ·rename_i hb
   simp only[Wf,YV,Wa,V8] at hb
   have hd2:d<2000:=by simpa using hb.2
   refine⟨_,h,fun C G ρ S1 w a Q hM hN hfb _ _=> ?_,fun d' hd'=>⟨fun _=>(by rw[hd] at hd';cases hd';exact hb.1.1),nofun,nofun⟩⟩
   obtain⟨i,v,hi,hv,hzc⟩:=lJ hz
   have hrun:(execOp a.eval o).run X.P w= .ok (.value (.pointer (some ⟨w.heap.size,0,none⟩))) (w.alloc (.cells v.cells t)):=by
    simp[execOp,ho,Instr.alloc,zeroValue,typeInfo,hi,hv,newVar,newRow]
   unfold Oper.wp
   rw[hrun]
   have hnb:=hM.gH (d:=d) (cs:=z) (vs:=v.cells.toList) (T:=t) hd2 (hfb d hd rfl) (fun c hc=>by
    have:=hb.1.2
    simp only[Ww] at this
    simpa using this c hc) (hzc G ρ)
   refine⟨G,ρ.gH d w.heap.size, ?_⟩
   rw[hd]
   simpa [St.app] using hnb
 ·cases h
theorem Vs {t:TypeId} {x:Operand} (ho:o.op= .box t x) (h:cT X o S M k=some r):∃ x,k x=some r/\cB X.P o S M x/\jd o S x:=by
 unfold cT at h
 rw[ho] at h
 simp only at h
 split at h
 ·rename_i ag cs d hx hd
  split at h
  ·cases h
  ·rename_i hb
   simp only[Wf,YV,Wa] at hb
   obtain⟨⟨⟨⟨⟨hb1,hb2⟩,hb0⟩,hb3⟩,hb4⟩,hb5⟩:=hb
   have hd2:d<2000:=by simpa using hb0
   refine⟨_,h,fun C G ρ S1 w a Q hM hN hfb _ _=> ?_,fun d' hd'=>⟨fun _=>(by rw[hd] at hd';cases hd';exact hb1),nofun,nofun⟩⟩
   have hv:=hM.tmps.ev x
   rw[hN.ops x (by simp[ho,Op.operands]),hx] at hv
   obtain⟨vs,ev,hvs,_⟩:=tO hv (by simpa using hb5)
   have hrun:(execOp a.eval o).run X.P w= .ok (.value (.pointer (some ⟨w.heap.size,0,none⟩))) (w.alloc (.cells vs.toArray t)):=by
    simp[execOp,ho,Instr.box,newVar,newRow,ev]
   unfold Oper.wp
   rw[hrun]
   have hnb:=hM.gH (d:=d) (cs:=cs) (vs:=vs) (T:=t) hd2 (hfb d hd rfl) (fun c hc=>by
    simp only[Ww] at hb2
    simpa using hb2 c hc) hvs
   refine⟨G,ρ.gH d w.heap.size, ?_⟩
   rw[hd]
   simpa [St.app] using hnb
 ·cases h
theorem jB:∀ (t:Ty) (x:t.den),(unpack t x).all CV.ok=true
 | .int _,_=>rfl
 | .bool,_=>rfl
 | .str,_=>rfl
 | .unit,_=>rfl
 | .pair a b,(x,y)=>by simp[unpack,Wt,jB a x,jB b y]
 | .st t,x=>jB t x
 | .slice _,_=>rfl
 | .ptr _,_=>rfl
 | .clo _ _,_=>rfl
 | .hnd,_=>rfl
theorem bC.cells {G:Gh} {t:Ty} {x:t.den} {v:Value} (h:bC G t x v):∃ cs:List Value,v.cells=cs.toArray/\ax G t x cs/\∀ u,u∈cs->u.oneCell'=true:=by
 have hx:=uE (ρ:=⟨fun _=>0,fun _=> .nilFunc,fun _=>none,fun _=> .nilFunc,fun _ _=>0⟩) h
 cases t with
 | st t=>
  obtain⟨vs,e,hv⟩:=h
  obtain⟨us,eu,_,h1⟩:=tO hx (jB t x)
  have:us=vs:=by
   rw[e] at eu
   simpa [Value.cells] using eu.symm
  subst this
  exact⟨us,eu,hv,h1⟩
 | _=>
  have hu:=dW (ρ:=⟨fun _=>0,fun _=> .nilFunc,fun _=>none,fun _=> .nilFunc,fun _ _=>0⟩) h
  have hok:=jB _ x
  match hq:unpack _ x,hu,hok with
  | [c],hu,hok=>
   obtain⟨y,e,hy⟩:=hu.single
   cases e
   simp only[Wu,List.all_nil,V2] at hok
   have h1:=zV hy hok
   exact⟨[v],h1.2,h,fun u hu=>by
    rcases XL.1 hu with rfl
    exact h1.1⟩
  | [],hu,_=>have:=hu.len;simp at this
  | _::_::_,hu,_=>have:=hu.len;simp at this
theorem BK {G:Gh} {ρ:Env} {M:St} (hF:fB G ρ M) {t:Ty}:∀ {ss:List SV} {l:List t.den} {vs:List Value},w5 M t ss=some l->aE (aU G ρ) ss vs-> l.length=vs.length/\(∀ v,v∈vs->v.cells.size=t.size)/\bA (ax G t) l (vs.flatMap fun v=>v.cells.toList)
 | [],l,vs,h,hv=>by
  cases hv
  simp only[w5] at h
  cases h
  exact⟨rfl,fun v hv=>by (cases hv),rfl⟩
 | s::ss,l,vs,h,⟨v,us,e,hs,hus⟩=>by
  simp only[w5] at h
  split at h
  ·rename_i x hx
   split at h
   ·rename_i l' hl'
    cases h
    subst e
    obtain⟨h1,h2,h3⟩:=BK hF hl' hus
    obtain⟨cs,ec,hc,_⟩:=(iK hF (iP.nil _ _ _) hx hs).cells
    refine⟨by simp[h1],fun u hu=> ?_, ?_⟩
    ·rcases XB.1 hu with rfl | hu
     ·rw[ec];simpa using hc.len
     ·exact h2 u hu
    ·exact⟨cs,_,by simp[ec],hc,h3⟩
   ·cases h
  ·cases h
theorem Grow.Rk {ρ:Env} {w:World} {o:Obj}:Grow ρ w (w.alloc o) none:=Grow.alloc ρ w o
theorem DE {t:TypeId} {len:Nat} {parts:Array (Nat×Operand)} (ho:o.op= .buildSlice t len parts) (h:IG X o t len parts S M k=some r):∃ x,k x=some r/\cB X.P o S M x/\jd o S x:=by
 unfold IG at h
 split at h
 ·rename_i e d ht hd
  split at h
  ·rename_i ty zc hty hzc
   split at h
   ·cases h
   ·rename_i hb
    simp only[Wf,YV,Wa] at hb
    obtain⟨⟨⟨⟨⟨⟨hb1,hb0⟩,hb2⟩,hb3⟩,hb4⟩,hb5⟩,hb6⟩:=hb
    have hd2:d<2000:=by simpa using hb0
    have hlen:parts.size=len:=X8 (by simpa using hb2)
    have hidx:parts.toList.map (·.1)=List.range len:=by simpa using hb3
    have hsz:bE X.P e=ty.size:=X8 (by simpa using hb4)
    have hpos:0<ty.size:=by
     rcases X9 ty.size with h0 | h0
     ·rw[h0] at hb5;cases hb5
     ·exact h0
    have hsmall:len*ty.size<=16777216:=Ya (by simpa using hb6)
    split at h
    ·rename_i l hl
     refine⟨_,h,fun C G ρ S1 w a Q hM hN _ hfr _=> ?_,fun d' hd'=>⟨nofun,fun _=>(by rw[hd] at hd';cases hd';exact hb1),nofun⟩⟩
     obtain⟨ie,z,hie,hz,_⟩:=lJ hzc
     have hies:ie.size=ty.size:=by rw[<- hsz,bE,hie];rfl
     have hF:fB G ρ M:=(hM.toMem.sub hN.boxes hN.rows hN.objs).frozen
     have hmem:∀ p,p∈parts.toList->p.2∈o.op.operands:=fun p hp=>by
      rw[ho];simp only[Op.operands,List.mem_toArray,XG];exact⟨p,hp,rfl⟩
     have hvs:aE (aU G ρ) (parts.toList.map fun p=>S.ev p.2) (parts.toList.map fun p=>a.eval p.2):=
      u7 _ _ _ fun p hp=>by rw[<- hN.ops p.2 (hmem p hp)];exact hM.tmps.ev p.2
     obtain⟨h1,h2,h3⟩:=BK hF hl hvs
     have hll:l.length=len:=by rw[h1];simp[hlen]
     have hparts:(parts.map fun (i,x)=>(i,a.eval x)).toList=((parts.toList.map fun p=>a.eval p.2).zipIdx 0).map fun x=>(x.2,x.1):=by
      simp only[Array.toList_map]
      apply WM
      intro n
      simp only[Xb,List.getElem?_zipIdx,Yr,Yx]
      cases hn:parts.toList[n]? with
      | none=>simp
      | some p=>
       have:(parts.toList.map (·.1))[n]? =some p.1:=by rw[Xb,hn];rfl
       rw[hidx] at this
       have hlt:n<len:=by
        have:=(Xa.1 this).1
        simpa using this
       rw[Xc hlt] at this
       have:n=p.1:=by simpa using this
       simp[this]
     have hrun:(execOp a.eval o).run X.P w= .ok (.value (.slice (some ⟨w.heap.size,0,none⟩) len len)) (w.alloc (.cells ((parts.toList.map fun p=>a.eval p.2).flatMap fun v=>v.cells.toList).toArray e)):=by
      have hb:(Instr.buildSlice t len (parts.map fun (i,x)=>(i,a.eval x))).run X.P w= .ok (.slice (some ⟨w.heap.size,0,none⟩) len len) (w.alloc (.cells ((parts.toList.map fun p=>a.eval p.2).flatMap fun v=>v.cells.toList).toArray e)):=by
       by_cases h0:len=0
       ·have hpe:parts= #[]:=by
         apply Array.eq_empty_of_size_eq_zero;omega
        subst hpe
        subst h0
        simp[Instr.buildSlice,run_underlying ht,sizeOf,typeInfo,hie,newRow,Instr.fill,Array.range_zero']
       ·refine run_buildSlice w t e len _ _ ie z ht hie hz (by rw[hies];omega) (by rw[hies];exact Nat.mul_ne_zero h0 (by omega)) ?_
        rw[hparts,hies]
        exact Great.fill_whole hpos _ _ h2 (by simp[hlen])
      simp only[execOp,ho,Sem.run_bind,hb,Result.andThen_ok,Sem.run_pure]
     unfold Oper.wp
     rw[hrun]
     show ∃ G' ρ',Mod C G' ρ' (S1.app o.dst _) _ (a.put o.dst _)
     have hcsz:((parts.toList.map fun p=>a.eval p.2).flatMap fun v=>v.cells.toList).length=len*ty.size:=by
      rw[h3.len (fun x cs hr=>ax.len hr),hll]
     have hnew:=hM.putRow (w':=w.alloc (.cells ((parts.toList.map fun p=>a.eval p.2).flatMap fun v=>v.cells.toList).toArray e)) (blk:=none) (jo:=none) (d:=d)
      (v:= .slice (some ⟨w.heap.size,0,none⟩) len len) (r:=⟨false,e,ty,l⟩) (R:=S1.rows) Grow.Rk (by simp) (fun i q hi=>⟨hi,by simp⟩) hd2 (hfr d hd rfl) rfl _
      (by rw[hll];exact World.ownsRow_lit (e:=e) (size:=ty.size) (base:=0) w _ len (Ys _) (by simp only[maxLen];have:len<=len*ty.size:=Nat.le_mul_of_pos_right _ hpos;omega) (by simpa using hcsz))
      (by simpa using h3) (fun b hb=>by
        left
        simp only[Value.ownBlock,Option.some.injEq] at hb
        subst hb
        exact⟨Yc _,by simp⟩)
     rw[hd]
     exact⟨G,_,hnew⟩
    ·cases h
  ·cases h
 ·cases h
theorem LZ {t:TypeId} {len:Nat} {parts:Array (Nat×Operand)} (ho:o.op= .buildSlice t len parts) (h:cT X o S M k=some r):∃ x,k x=some r/\cB X.P o S M x/\jd o S x:=by
 unfold cT at h
 rw[ho] at h
 simp only at h
 split at h
 ·exact DE ho h
 split at h
 ·rename_i e ht
  split at h
  ·rename_i ty zc hty hzc
   split at h
   ·cases h
   ·rename_i hb
    simp only[Wf,YV,Wa] at hb
    obtain⟨⟨⟨⟨hb2,hb3⟩,hb4⟩,hb5⟩,hb6⟩:=hb
    have hlen:parts.size=len:=X8 (by simpa using hb2)
    have hidx:parts.toList.map (·.1)=List.range len:=by simpa using hb3
    have hsz:bE X.P e=ty.size:=X8 (by simpa using hb4)
    have hpos:0<ty.size:=by
     rcases X9 ty.size with h0 | h0
     ·rw[h0] at hb5;cases hb5
     ·exact h0
    have hsmall:len*ty.size<=16777216:=Ya (by simpa using hb6)
    split at h
    ·rename_i l hl
     refine⟨_,h,fun C G ρ S1 w a Q hM hN _ _ _=> ?_,jd.val _ _ _⟩
     obtain⟨ie,z,hie,hz,_⟩:=lJ hzc
     have hies:ie.size=ty.size:=by rw[<- hsz,bE,hie];rfl
     have hF:fB G ρ M:=(hM.toMem.sub hN.boxes hN.rows hN.objs).frozen
     have hmem:∀ p,p∈parts.toList->p.2∈o.op.operands:=fun p hp=>by
      rw[ho];simp only[Op.operands,List.mem_toArray,XG];exact⟨p,hp,rfl⟩
     have hvs:aE (aU G ρ) (parts.toList.map fun p=>S.ev p.2) (parts.toList.map fun p=>a.eval p.2):=
      u7 _ _ _ fun p hp=>by rw[<- hN.ops p.2 (hmem p hp)];exact hM.tmps.ev p.2
     obtain⟨h1,h2,h3⟩:=BK hF hl hvs
     have hll:l.length=len:=by rw[h1];simp[hlen]
     have hparts:(parts.map fun (i,x)=>(i,a.eval x)).toList=((parts.toList.map fun p=>a.eval p.2).zipIdx 0).map fun x=>(x.2,x.1):=by
      simp only[Array.toList_map]
      apply WM
      intro n
      simp only[Xb,List.getElem?_zipIdx,Yr,Yx]
      cases hn:parts.toList[n]? with
      | none=>simp
      | some p=>
       have:(parts.toList.map (·.1))[n]? =some p.1:=by rw[Xb,hn];rfl
       rw[hidx] at this
       have hlt:n<len:=by
        have:=(Xa.1 this).1
        simpa using this
       rw[Xc hlt] at this
       have:n=p.1:=by simpa using this
       simp[this]
     have hrun:(execOp a.eval o).run X.P w= .ok (.value (.slice (some ⟨w.heap.size,0,none⟩) len len)) (w.alloc (.cells ((parts.toList.map fun p=>a.eval p.2).flatMap fun v=>v.cells.toList).toArray e)):=by
      have hb:(Instr.buildSlice t len (parts.map fun (i,x)=>(i,a.eval x))).run X.P w= .ok (.slice (some ⟨w.heap.size,0,none⟩) len len) (w.alloc (.cells ((parts.toList.map fun p=>a.eval p.2).flatMap fun v=>v.cells.toList).toArray e)):=by
       by_cases h0:len=0
       ·have hpe:parts= #[]:=by
         apply Array.eq_empty_of_size_eq_zero;omega
        subst hpe
        subst h0
        simp[Instr.buildSlice,run_underlying ht,sizeOf,typeInfo,hie,newRow,Instr.fill,Array.range_zero']
       ·refine run_buildSlice w t e len _ _ ie z ht hie hz (by rw[hies];omega) (by rw[hies];exact Nat.mul_ne_zero h0 (by omega)) ?_
        rw[hparts,hies]
        exact Great.fill_whole hpos _ _ h2 (by simp[hlen])
      simp only[execOp,ho,Sem.run_bind,hb,Result.andThen_ok,Sem.run_pure]
     unfold Oper.wp
     rw[hrun]
     show ∃ G' ρ',Mod C G' ρ' (S1.app o.dst _) _ (a.put o.dst _)
     have hcsz:((parts.toList.map fun p=>a.eval p.2).flatMap fun v=>v.cells.toList).length=len*ty.size:=by
      rw[h3.len (fun x cs hr=>ax.len hr),hll]
     generalize hcells:((parts.toList.map fun p=>a.eval p.2).flatMap fun v=>v.cells.toList)=cells at*
     let G':Gh:=⟨fun b=>if b=w.heap.size then some (.cells cells.toArray e (0,0)) else G b,G.hnd⟩
     have hgn:=Dv hM.toMem
     have hle:G.le G':=⟨fun b o hb=>by
      show (if b=w.heap.size then some (.cells cells.toArray e (0,0)) else G b)=some o
      by_cases e':b=w.heap.size
      ·subst e';rw[hgn] at hb;cases hb
      ·rw[YQ e'];exact hb,fun _ _ h=>h⟩
     have hM2:Mod C G' ρ S1 (w.alloc (.cells cells.toArray e)) a:=hM.after hle rfl (fun b o hb=>by
      have hb':(if b=w.heap.size then some (Obj.cells cells.toArray e (0,0)) else G b)=some o:=hb
      by_cases e':b=w.heap.size
      ·subst e'
       rw[YR rfl] at hb'
       cases hb'
       exact heap_alloc_new w _
      ·rw[YQ e'] at hb'
       rw[vq _ _ (aG (hM.agr b o hb'))];exact hM.agr b o hb') (by simp) rfl rfl (fun b hb=>vq _ _ hb) (fun b hb=>by
      show (if b=w.heap.size then _ else G b)=G b
      rw[YQ (by omega)])
     refine⟨G',ρ, ?_⟩
     rw[St.zQ]
     refine hM2.put o.dst (fun _ _=> ?_)
     show bN G' ty.size (ax G' ty) l _
     refine⟨some ⟨w.heap.size,0,none⟩,len,by rw[hll],by rw[hll];exact Yc _,by simp only[maxLen];have:len<=len*ty.size:=Nat.le_mul_of_pos_right _ hpos;omega,.inr ⟨w.heap.size,0,cells.toArray,e,(0,0),rfl, ?_, ?_, ?_⟩⟩
     ·show (if w.heap.size=w.heap.size then _ else _)=_
      rw[YR rfl]
     ·simp only[XW,Yr];rw[hcsz,hll];exact Yc _
     ·simp only[WJ]
      rw[X0 (by rw[hcsz,hll];exact Yc _)]
      exact h3.mono (ax.mono hle ty)
    ·cases h
  ·cases h
 ·cases h
theorem J7 (z:Value) {s:Nat} (hs:0<s) (hz:z.cells.size=s) (n:Nat):(madeCells z.cells (n*s)).toList=(List.replicate n z).flatMap fun v=>v.cells.toList:=by
 apply WM
 intro k
 rw[Great.flat_get hs _ (fun v hv=>by rw[List.eq_of_mem_replicate hv];exact hz) k]
 simp only[madeCells,Array.toList_map,Xb,Array.toList_range]
 by_cases hk:k<n*s
 ·have h1:k / s<n:=(Nat.div_lt_iff_lt_mul hs).2 hk
  have h2:k % s<z.cells.size:=by rw[hz];exact Nat.mod_lt _ hs
  rw[Xc hk]
  simp[h1,hz]
  rw[getElem!_pos z.cells (k % s) h2]
  simp[h2]
 ·have h1:¬ k / s<n:=fun h=>hk ((Nat.div_lt_iff_lt_mul hs).1 h)
  rw[W0 (by simp;omega)]
  simp[h1]
theorem Dt (z:Value) {s:Nat} (hz:z.cells.size=s) (n m:Nat) (h:n<=m):((List.replicate m z).flatMap fun v=>v.cells.toList).take (n*s)=(List.replicate n z).flatMap fun v=>v.cells.toList:=by
 obtain⟨d,rfl⟩:=Nat.exists_eq_add_of_le h
 rw[<- List.replicate_append_replicate,WO]
 have:((List.replicate n z).flatMap fun v=>v.cells.toList).length=n*s:=by
  clear h
  induction n with
  | zero=>simp
  | succ n ih=>simp[XR,ih,hz,X4];omega
 rw[<- this,XY]
theorem bA.replicate {α:Type} {R:α->List Value->Prop} {x:α} {c:List Value} (h:R x c):∀ n,bA R (List.replicate n x) ((List.replicate n c).flatten)
 | 0=>rfl
 | n+1=>⟨c,_,by simp[XR],h,bA.replicate h n⟩
theorem OU {t:TypeId} {xl xc:Operand} (ho:o.op= .makeSlice t xl xc) (h:cT X o S M k=some r):∃ x,k x=some r/\cB X.P o S M x/\jd o S x:=by
 unfold cT at h
 rw[ho] at h
 simp only at h
 split at h
 ·rename_i e d kl l kc c ht hd hl hc
  split at h
  ·rename_i ty hty
   split at h
   ·rename_i z hz
    split at h
    ·cases h
    ·rename_i hb
     simp only[Wf,YV,Wa] at hb
     obtain⟨⟨⟨hb1,hb0⟩,hb4⟩,hb5⟩:=hb
     have hd2:d<2000:=by simpa using hb0
     have hsz:bE X.P e=ty.size:=X8 (by simpa using hb4)
     have hpos:0<ty.size:=by
      rcases X9 ty.size with h0 | h0
      ·rw[h0] at hb5;cases hb5
      ·exact h0
     obtain⟨hchk,h⟩:=dJ h
     simp only[VZ,YK] at hchk
     obtain⟨⟨⟨hc1,hc2⟩,hc3⟩,hc4⟩:=hchk
     refine⟨_,h,fun C G ρ S1 w a Q hM hN _ hfr _=> ?_,fun d' hd'=>⟨nofun,fun _=>(by rw[hd] at hd';cases hd';exact hb1),nofun⟩⟩
     obtain⟨ie,zv,hie,hzv,_,hzR⟩:=Ja hz
     have hies:ie.size=ty.size:=by rw[<- hsz,bE,hie];rfl
     have hrep:ax G ty z zv.cells.toList:=by
      obtain⟨cs,ec,hc,_⟩:=(hzR G).cells
      rw[ec];simpa using hc
     have hzsz:zv.cells.size=ty.size:=by simpa using hrep.len
     have hvl:=aR (hM.tmps.ev xl) (by rw[hN.ops xl (by simp[ho,Op.operands])];exact hl)
     have hvc:=aR (hM.tmps.ev xc) (by rw[hN.ops xc (by simp[ho,Op.operands])];exact hc)
     rw[hie] at hc3
     have hrun:=run_make (P:=X.P) w t e ie zv ht hie hzv kl kc l c hc1 hc2 hc3 hc4
     unfold Oper.wp
     simp only[execOp,ho,show a.eval xl=_ from hvl,show a.eval xc=_ from hvc,Sem.run_bind,hrun,Result.andThen_ok,Sem.run_pure]
     have hcm:c.toNat<=maxLen:=by simp only[maxLen];omega
     have hnew:=hM.putRow (w':=w.alloc (.cells (madeCells zv.cells (c.toNat*ie.size)) e)) (blk:=none) (jo:=none) (d:=d)
      (v:= .slice (some ⟨w.heap.size,0,none⟩) l.toNat c.toNat) (r:=⟨false,e,ty,List.replicate l.toNat z⟩) (R:=S1.rows) Grow.Rk (by simp) (fun i q hi=>⟨hi,by simp⟩) hd2 (hfr d hd rfl) rfl
      ((List.replicate l.toNat zv).flatMap fun v=>v.cells.toList)
      (by
        refine⟨?_,.inr ⟨w.heap.size,c.toNat,_,by simp,Ys _,heap_alloc_new w _,by simp;omega,hcm,by rw[size_madeCells,hies], ?_⟩⟩
        ·rw[<- Dt zv hzsz l.toNat l.toNat (Yc _)]
         have:=Dt zv hzsz l.toNat l.toNat (Yc _)
         have hl2:((List.replicate l.toNat zv).flatMap fun v=>v.cells.toList).length=l.toNat*ty.size:=by
          generalize l.toNat=n
          induction n with
          | zero=>simp
          | succ n ih=>simp[XR,ih,hzsz,X4];omega
         simp[hl2]
        ·rw[hies,J7 zv hpos hzsz,Xr]
         exact Dt zv hzsz _ _ (by omega))
      (by
        have:=bA.replicate hrep l.toNat
        have e1:(List.replicate l.toNat zv.cells.toList).flatten=(List.replicate l.toNat zv).flatMap fun v=>v.cells.toList:=by
         rw[List.flatMap_def,List.map_replicate]
        rw[<- e1];exact this)
      (fun b hb=>by
        left
        simp only[Value.ownBlock,Option.some.injEq] at hb
        subst hb
        exact⟨Yc _,by simp⟩)
     show ∃ G' ρ',Mod C G' ρ' (S1.app o.dst _) _ (a.put o.dst _)
     rw[hd]
     exact⟨G,_,hnew⟩
   ·cases h
  ·cases h
 ·cases h
def Env.iU (ρ:Env) (d b:Nat):Env:=⟨ρ.bx,ρ.rw,fun i=>if i=b then some (.ob d) else ρ.own i,fun i=>if i=d then .map (some b) else ρ.ob i,ρ.st⟩
theorem Mod.iU {P0:Program} {C:Fr P0} {G:Gh} {ρ:Env} {S:St} {w:World} {a:Act} {d:Nat} {kk vv:Ty} (h:Mod C G ρ S w a) (hd2:d<2000) (hn:S.bn d=false): Mod C G (ρ.iU d w.heap.size) { tmps:=S.tmps.set d (.v false [.mp d]),boxes:=S.boxes,rows:=S.rows,objs:=(d,.map kk vv [])::S.objs } (w.alloc (.map #[] 0)) (a.put (some d) (.map (some w.heap.size))):=by
 have hown:=PJ h.toMem
 have hgh:=Dv h.toMem
 have hsame:S.dD ρ (ρ.iU d w.heap.size):=Mb _ hn
 have hX:=((h.toMem.toX (some (.ob d))).grow (Grow.alloc ρ w (.map #[] 0)) (by simp)).change (G':=G) (ρ':=ρ.iU d w.heap.size) (Gh.le_refl G) rfl
  (fun b o hb=>by rw[vq _ _ (aG (h.agr b o hb))];exact h.agr b o hb) h.old (fun k hk=>rfl) (fun k hk=>⟨rfl,by simp[Env.iU,show ¬ k=d by omega]⟩) hsame.boxes
  (fun b o ho=>by
    simp only[Env.iU] at ho
    by_cases e:b=w.heap.size
    ·subst e;exact⟨hgh,by simp,.inl h.size⟩
    ·rw[YQ e] at ho;exact⟨(h.owned b o ho).1,by have:=(h.owned b o ho).2.1;simp;omega,(h.owned b o ho).2.2⟩)
  (fun k cs' hk hne=>by
    refine⟨rfl,fun ho=> ?_⟩
    have:ρ.bx k≠w.heap.size:=fun e=>by rw[e,hown] at ho;cases ho
    simp[Env.iU,this,ho])
  (fun j r hj _=>⟨rfl,fun b ho=>by
    have:b≠w.heap.size:=fun e=>by rw[e,hown] at ho;cases ho
    simp[Env.iU,this,ho]⟩)
  (fun j r hj hne=>by
    have hjd:j≠d:=fun e=>hne (by rw[e])
    refine⟨by simp[Env.iU,hjd],rfl,fun b ho=> ?_⟩
    have:b≠w.heap.size:=fun e=>by rw[e,hown] at ho;cases ho
    simp[Env.iU,this,ho])
 have hX':=hX.state (S':={ tmps:=S.tmps.set d (.v false [.mp d]),boxes:=S.boxes,rows:=S.rows,objs:=(d,.map kk vv [])::S.objs })
  (fun k cs' hk hne=>hk) (fun j r hj _=>hj) (fun j r hj hne=>by
    have hjd:d≠j:=fun e=>hne (by rw[e])
    simpa [aj,hjd] using hj) (fun t l hl=>by
    have hne:¬ d=bf:=by simp only[bf];omega
    simp only[aj,hne,YP] at hl
    exact⟨t,l,hl⟩)
 have hM:=hX'.toMem (fun k cs' hk e=>by cases e) (fun j r hj e=>by cases e) (fun j r hj e=>by
  cases e
  simp only[aj,YS,Option.some.injEq] at hj
  subst hj
  exact⟨w.heap.size, #[],0,by simp[Env.iU],by simp[Env.iU],heap_alloc_new w _,rfl,fun i e hi=>by simp at hi,by simp⟩)
 exact { hM with
  tmps:=(h.tmps.congr (Gh.le_refl G) hsame).put (some d) (fun _ _=>⟨by simp[Env.iU],_,rfl⟩)
  defers:=h.defers }
theorem R2 {t:TypeId} {res:Option Operand} (ho:o.op= .makeMap t res) (h:cT X o S M k=some r):∃ x,k x=some r/\cB X.P o S M x/\jd o S x:=by
 unfold cT at h
 rw[ho] at h
 cases res with
 | some y=>simp only at h;unfold cy at h;rw[ho] at h;cases h
 | none=>
  simp only at h
  split at h
  ·rename_i kt et d ht hd
   split at h
   ·rename_i kk vv hk hv
    split at h
    ·cases h
    ·rename_i hb
     simp only[Wf,YV,Wa,V8] at hb
     refine⟨_,h,fun C G ρ S1 w a Q hM hN _ _ hfo=> ?_,fun d' hd'=>⟨nofun,nofun,fun _=>(by rw[hd] at hd';cases hd';exact hb.1.1)⟩⟩
     have hrun:(execOp a.eval o).run X.P w= .ok (.value (.map (some w.heap.size))) (w.alloc (.map #[] 0)):=by
      simp[execOp,ho,Instr.makeMap,newObj]
      rfl
     unfold Oper.wp
     rw[hrun]
     have hnb:=hM.iU (d:=d) (kk:=kk) (vv:=vv) (by simpa using hb.2) (hfo d hd rfl).1
     refine⟨G,ρ.iU d w.heap.size, ?_⟩
     rw[hd]
     simpa [St.app] using hnb
   ·cases h
  ·cases h
end Go.Dn
namespace Go.Dn
open Go.Maps Go.WideElems
theorem KK {G:Gh} {e:Ty}:∀ {l:List (Int×e.den)} {es:List MapEntry},aE (rU G (.int .i64) e) l es->es.map (·.key)=l.map fun p=>Value.int .i64 p.1
 | [],es,h=>by
  have:es=[]:=h
  rw[this];rfl
 | p::l,es,⟨x,s,e0,h,hr⟩=>by
  subst e0
  have h1:[x.key]=[Value.int .i64 p.1]:=h.1
  rw[Xw,Xw,KK hr,(List.cons.inj h1).1]
theorem O3 {P:Program} {kt:TypeId} {G:Gh} {w:World} {e:Ty} {l:List (Int×e.den)} {es:Array MapEntry} {clock b:Nat} (hk:P.underlying kt=some (.int .i64)) (hb:w.heap[b]? =some (.map es clock)) (h2:aE (rU G (.int .i64) e) l es.toList) (hborn:∀ x,x∈es.toList->x.born<clock) (hpw:es.toList.Pairwise (fun a b=>a.born<b.born)) (hlen:l.length<=maxLen) (hr:∀ p,p∈l->(Lit.int .i64 p.1).wf=true) (hnd:(l.map (·.1)).Nodup): ∃ D0:DataW Unit,w.ownsMap P kt (fun _=>some (.nil,[])) b l.length D0/\(l.map (·.1)).Perm (intKeys D0)/\Maps.size D0=l.length:=by
 have hkeys:=KK h2
 have hel:es.toList.length=l.length:=by
  have:=congrArg List.length hkeys
  simpa using this
 have hrd:∀ x,x∈es.toList->∃ n:Int,x.key= .int .i64 n/\(Lit.int .i64 n).wf=true:=by
  intro x hx
  have:x.key∈es.toList.map (·.key):=XG.2 ⟨x,hx,rfl⟩
  rw[hkeys] at this
  obtain⟨p,hp,e⟩:=XG.1 this
  exact⟨p.1,e.symm,hr p hp⟩
 have hrg:∀ x,x∈es.toList->∀ n:Int,x.key= .int .i64 n->(Lit.int .i64 n).wf=true->rd (H:=Unit) P kt (fun _=>some (.nil,[])) x=some (.int .i64 n,.nil):=by
  intro x _ n hn hw
  unfold rd
  have:keyOf P kt x.key=some (.int .i64 n):=by
   rw[hn]
   simp[keyOf,hk,mapKey,hw]
  rw[this];rfl
 refine⟨.map ((es.toList.map (rg P kt fun _=>some (.nil,[]))).foldr DataW.insert []),⟨es,clock,hb,⟨by rw[<- Array.length_toList,hel];exact hlen,⟨hborn, ?_, ?_⟩, ?_⟩,by rw[<- Array.length_toList,hel];exact Yc _,rfl⟩, ?_, ?_⟩
 ·refine List.Pairwise.map _ (fun a b h=> ?_) hpw
  exact Nat.ne_of_lt h
 ·rw[hkeys]
  have:(l.map fun p=>Value.int .i64 p.1)=(l.map (·.1)).map (Value.int .i64):=by rw[Xx];rfl
  rw[this]
  exact List.Pairwise.map _ (fun a b h e=>h (by cases e;rfl)) hnd
 ·intro x hx
  obtain⟨n,hn,hw⟩:=hrd x hx
  exact⟨_,hrg x hx n hn hw⟩
 ·have e1:(es.toList.map (rg (H:=Unit) P kt fun _=>some (.nil,[]))).map (fun p=>intOf p.1)=l.map (·.1):=by
   have:(es.toList.map (rg (H:=Unit) P kt fun _=>some (.nil,[]))).map (fun p=>intOf p.1)=es.toList.map fun x=>match x.key with | .int _ n=>n | _=>0:=by
    rw[Xx]
    apply Xv
    intro x hx
    obtain⟨n,hn,hw⟩:=hrd x hx
    show intOf (rg P kt _ x).1=_
    unfold rg
    rw[hrg x hx n hn hw,hn]
    rfl
   rw[this]
   have:(es.toList.map fun x=>match x.key with | .int _ n=>n | _=>0)=(es.toList.map (·.key)).map fun v=>match v with | .int _ n=>n | _=>0:=by rw[Xx];rfl
   rw[this,hkeys,Xx]
   rfl
  show (l.map (·.1)).Perm (List.map (fun p:Lit×DataW Unit=>intOf p.1) _)
  rw[<- e1]
  exact ((Go.WideShapes.sorted_perm _).map _).symm
 ·show List.length _=_
  rw[length_sorted,Xo,hel]
end Go.Dn
namespace Go.Dn
variable {β:Type} {X:Cx} {o:Oper} {S M:St} {r:β} {P0:Program} {C:Fr P0} {G:Gh} {ρ:Env} {w:World}
theorem CG {G:Gh} {ρ:Env}:∀ {cs:List CV} {vs:List Value},aE (aN G ρ) cs vs->aE (aU G ρ) (cs.map fun c=> .v false [c]) vs
 | [],_,h=>h
 | _::_,_,⟨v,us,e,hc,hr⟩=>⟨v,us,e,hc,CG hr⟩
theorem eJ {c:Call} {f:Nat} {args:List SV} {a:Act} (ho:o.op= .call c) (h:cG S c=some (f,args)) (hop:∀ x,x∈o.op.operands->aU G ρ (S.ev x) (a.eval x)) (hb:cm X.P f): ∃ vs:List Value,aE (aU G ρ) args vs/\(execOp a.eval o).run X.P w= .ok (.enter f vs.toArray) w:=by
 obtain⟨callee,cargs,argTypes⟩:=c
 unfold cG at h
 simp only at h
 have hargs:aE (aU G ρ) (cargs.toList.map S.ev) (cargs.toList.map a.eval):=u7 _ _ _ fun x hx=>hop x (by
  rw[ho];simp only[Op.operands,Call.operands,Array.mem_append];right;simpa using hx)
 split at h
 ·rename_i _ fop
  have hf:=hop fop (by rw[ho];simp[Op.operands,Call.operands])
  split at h
  ·rename_i g ks hg
   cases h
   rw[hg] at hf
   refine⟨cargs.toList.map a.eval++ks.map (fun k=>Value.pointer (some ⟨ρ.bx k,0,none⟩)),hargs.append (u7 _ _ _ fun k _=>rfl), ?_⟩
   have hv:a.eval fop= .func (.func f) #[] (ks.map fun k=>Value.pointer (some ⟨ρ.bx k,0,none⟩)).toArray:=hf
   have hcf:=D6 (w:=w) (args:=(cargs.toList.map a.eval++ks.map (fun k=>Value.pointer (some ⟨ρ.bx k,0,none⟩))).toArray) hb
   simp only[execOp,ho,resolve,hv,Deferred.ofValue,invoke,Sem.run_bind,Sem.run_pure,Result.andThen_ok]
   rw[<- hcf]
   congr 2
   apply Array.ext'
   simp
  ·rename_i g t x hg
   cases h
   rw[hg] at hf
   obtain⟨caps,ev,hc⟩:=hf
   refine⟨cargs.toList.map a.eval++caps,hargs.append (CG (dW ρ hc)), ?_⟩
   have hcf:=D6 (w:=w) (args:=(cargs.toList.map a.eval++caps).toArray) hb
   simp only[execOp,ho,resolve,ev,Deferred.ofValue,invoke,Sem.run_bind,Sem.run_pure,Result.andThen_ok]
   rw[<- hcf]
   congr 2
   apply Array.ext'
   simp
  ·cases h
 ·cases h
theorem jw {c:Call} {S1:St} (ho:o.op= .call c) (hN:∀ x,x∈o.op.operands->S1.ev x=S.ev x):cG S1 c=cG S c:=by
 obtain⟨callee,cargs,argTypes⟩:=c
 have h1:cargs.toList.map S1.ev=cargs.toList.map S.ev:=Xv fun x hx=>hN x (by
  rw[ho];simp only[Op.operands,Call.operands,Array.mem_append];right;simpa using hx)
 unfold cG
 simp only[h1]
 cases callee with
 | value fop=>
  have:=hN fop (by rw[ho];simp[Op.operands,Call.operands])
  simp only[this]
 | invoke r m=>rfl
 | builtin b=>rfl
theorem FG {ps:List PM} (h:ps.all PM.isVal=true):fX ps=false:=by
 induction ps with
 | nil=>rfl
 | cons p r ih=>
  simp only[Wu,VZ] at h
  cases p<;>first | exact ih h.2 | simp[PM.isVal] at h
def u9 (G' G3:Gh) (flat:Bool):Prop:=(∀ h b,G'.hnd h=some b->G3.hnd h=some b)/\(flat=true\/G'.le G3)
theorem u9.N5 {G' G3:Gh} {t:Ty} (h:u9 G' G3 t.flat) {l:List t.den} {cs:List Value} (hx:bA (ax G' t) l cs):bA (ax G3 t) l cs:=by
 rcases h.2 with hf | hle
 ·exact hx.mono (fun x cs hc=>ax.of_flat h.1 hf hc)
 ·exact hx.mono (ax.mono hle t)
theorem Mod.newRow {G':Gh} {a:Act} {w':World} {d:Nat} {v:Value} {r:jn} (h0:Mod C G ρ S w a) (hle:G.le G') (hh:G'.hnd=G.hnd) (hagr:Agr G' w') (hsz:w.heap.size<=w'.heap.size) (hos:w'.os=w.os) (hou:w'.output=w.output) (hold:∀ b,b<w.heap.size->w'.heap[b]? =w.heap[b]?) (hG:∀ b,b<w.heap.size->G' b=G b) (hd2:d<2000) (hd:S.aT d=false) (hf:r.fz=false) (xs:List Value) (hown:w'.ownsRow 0 r.e r.t.size v r.l.length xs) (hrep:bA (ax G' r.t) r.l xs) (hnew:∀ b,v.ownBlock=some b->w.heap.size<=b/\b<w'.heap.size/\G' b=none): Mod C G' (ρ.putRow d v) { tmps:=S.tmps.set d (.v false [.row d]),boxes:=S.boxes,rows:=(d,r)::S.rows,objs:=S.objs } w' (a.put (some d) v):=by
 have h:=h0.after hle hh hagr hsz hos hou hold hG
 have hsame:S.dD ρ (ρ.putRow d v):=Ck _ hd
 have hfree:∀ b,v.ownBlock=some b->ρ.own b=none:=fun b hb=>by
  have h1:=(hnew b hb).1
  cases ho:ρ.own b with
  | none=>rfl
  | some o=>have:=(h0.owned b o ho).2.1;omega
 have hghost:∀ b,v.ownBlock=some b->G' b=none/\b<w'.heap.size/\(C.n0<=b\/C.B b):=fun b hb=>
  ⟨(hnew b hb).2.2,(hnew b hb).2.1,.inl (Yd h0.size (hnew b hb).1)⟩
 have hX0:=h.toMem.toX none
 have hX1:=hX0.state (S':={ tmps:=S.tmps,boxes:=S.boxes,rows:=S.rows.filter fun p=> !Nat.beq p.1 d,objs:=S.objs }) (fun k cs hk _=>hk) (fun j q hj _=>by
  simp only[fk] at hj
  split at hj
  ·cases hj
  ·exact hj) (fun j q hj _=>hj) (fun t l h=>⟨t,l,h⟩)
 have hX2:=hX1.change (G':=G') (ρ':=ρ.putRow d v) (Gh.le_refl G') rfl hX0.agr hX0.old (fun _ _=>rfl) (fun k hk=>⟨by simp[Env.putRow,show ¬ k=d by omega],rfl⟩) hsame.boxes
  (fun b o ho=>by
    simp only[Env.putRow] at ho
    by_cases e:v.ownBlock=some b
    ·exact hghost b e
    ·rw[YQ e] at ho;exact hX0.owned b o ho)
  (fun k cs hk _=>⟨rfl,fun ho=>by
    have:v.ownBlock≠some (ρ.bx k):=fun e=>by
     have h1:=hfree _ e
     rw[ho] at h1;cases h1
    simp[Env.putRow,this,ho]⟩)
  (fun j q hj _=>by
    simp only[fk] at hj
    split at hj
    ·cases hj
    ·rename_i hjd
     refine⟨by simp[Env.putRow,hjd],fun b ho=> ?_⟩
     have:v.ownBlock≠some b:=fun e=>by
      have h1:=hfree _ e
      rw[ho] at h1;cases h1
     simp[Env.putRow,this,ho])
  (fun j q hj _=>⟨rfl,rfl,fun b ho=>by
    have:v.ownBlock≠some b:=fun e=>by
     have h1:=hfree _ e
     rw[ho] at h1;cases h1
    simp[Env.putRow,this,ho]⟩)
 refine { agr:=hX2.agr,le0:=hX2.le0,old:=hX2.old,frame:=hX2.frame,size:=hX2.size,os:=hX2.os,output:=hX2.output,pin:=hX2.pin,pinR:=hX2.pinR,owned:=hX2.owned,boxes:= ?_,rows:= ?_,objs:=fun j q hj=>hX2.objs j q hj (by simp),hndI:=hX2.hndI,tmps:= ?_,defers:=h.defers }
 ·intro k cs hk
  exact hX2.boxes k cs hk (by simp)
 ·intro j q hj
  simp only[aj] at hj
  split at hj
  ·rename_i e
   subst e
   cases hj
   unfold bV
   rw[YQ (by simp[hf])]
   refine⟨xs,by simpa [Env.putRow] using hown,hrep,fun b hb=> ?_⟩
   simp only[Env.putRow,YS] at hb ⊢
   rw[YR hb]
  ·rename_i e
   have hjd:¬ j=d:=fun h=>e h.symm
   exact hX2.rows j q (by simp only[fk,YQ hjd];exact hj) (by simp)
 ·exact (h.tmps.congr (Gh.le_refl G') hsame).put (some d) (fun _ _=>⟨by simp[Env.putRow],by
   rcases hown.2 with ⟨e,_⟩ | ⟨g,cap,cur,e,_⟩
   ·exact⟨_,_,_,e⟩
   ·exact⟨_,_,_,e⟩⟩)
theorem u9.GU {G' G3:Gh} {t:Ty} {f:Bool} (h:u9 G' G3 f) (hf:f=true->t.flat=true) {x:t.den} {v:Value} (hx:bC G' t x v):bC G3 t x v:=by
 rcases h.2 with he | hle
 ·exact hx.of_flat h.1 (hf he)
 ·exact hx.mono hle
def Env.mg (ρ:Env) (d b:Nat) (es:Array MapEntry):Env:=⟨ρ.bx,ρ.rw,fun i=>if i=b then some (.ob d) else ρ.own i,fun i=>if i=d then .map (some b) else ρ.ob i,fun i=>if i=d then (fun n=>match es.toList[n]? with | some e=>(e.born:Int) | none=>0) else ρ.st i⟩
theorem Ma {ρ:Env} {d b:Nat} {es:Array MapEntry} {S:St} (h:S.bn d=false) (h2:S.aX d=false):S.dD ρ (ρ.mg d b es):=by
 simp only[St.bn,We,Ww] at h
 simp only[St.aX,We,Ww] at h2
 have cv:∀ c:CV,c.bn d=false->c.aX d=false->c.dD ρ (ρ.mg d b es):=fun c hc hc2=>
  ⟨fun _ _=>rfl,fun _ _=>rfl,fun i hi=>by
    show (if i=d then _ else ρ.ob i)=ρ.ob i
    by_cases e:i=d
    ·subst e;rw[hc] at hi;cases hi
    ·simp[e],fun i hi=>by
    show (if i=d then _ else ρ.st i)=ρ.st i
    by_cases e:i=d
    ·subst e;rw[hc2] at hi;cases hi
    ·simp[e]⟩
 refine⟨fun s hs=> ?_,fun p hp c hc=>cv c ?_ ?_⟩
 ·have g1:=h.1 s hs
  have g2:=h2.1 s hs
  cases s with
  | v a cs=>exact fun c hc=>cv c (by simp only[SV.bn,Wx,YU,YT] at g1;simpa using g1 c hc) (by simp only[SV.aX,Wx,YU,YT] at g2;simpa using g2 c hc)
  | tup l=>exact fun p hp c hc=>cv c (by simp only[SV.bn,Wx,YU,YT] at g1;simpa using g1 p hp c hc) (by simp only[SV.aX,Wx,YU,YT] at g2;simpa using g2 p hp c hc)
 ·have:=h.2 p hp
  simp only[Wx,YU,YT] at this
  simpa using this c hc
 ·have:=h2.2 p hp
  simp only[Wx,YU,YT] at this
  simpa using this c hc
theorem Mod.TA {a:Act} {d b:Nat} {kk vv:Ty} {m:List (kk.den×vv.den)} (h:Mod C G ρ S w a) (hd2:d<2000) (hn:S.bn d=false) (hs:S.aX d=false) (hb0:ρ.own b=none) (hg:G b=none) (hlt:b<w.heap.size) (hC:C.n0<=b) (hm:oH G w kk vv m b) {sv:SV} {v:Value} (hv:∀ ρ':Env,ρ'.rw=ρ.rw->ρ'.ob d= .map (some b)->aU G ρ' sv v): ∃ ρ',Mod C G ρ' { tmps:=S.tmps.set d sv,boxes:=S.boxes,rows:=S.rows,objs:=(d,.map kk vv m)::S.objs } w (a.put (some d) v):=by
 obtain⟨es,clock,hheap,hes,hborn,hpw⟩:=hm
 have hsame:S.dD ρ (ρ.mg d b es):=Ma hn hs
 have hX:=(h.toMem.toX (some (.ob d))).change (G':=G) (ρ':=ρ.mg d b es) (Gh.le_refl G) rfl
  h.agr h.old (fun k hk=>rfl) (fun k hk=>⟨rfl,by simp[Env.mg,show ¬ k=d by omega]⟩) hsame.boxes
  (fun i o ho=>by
    simp only[Env.mg] at ho
    by_cases e:i=b
    ·subst e;exact⟨hg,hlt,.inl hC⟩
    ·rw[YQ e] at ho;exact h.owned i o ho)
  (fun k cs' hk hne=>by
    refine⟨rfl,fun ho=> ?_⟩
    have:ρ.bx k≠b:=fun e=>by rw[e,hb0] at ho;cases ho
    simp[Env.mg,this,ho])
  (fun j r hj _=>⟨rfl,fun i ho=>by
    have:i≠b:=fun e=>by rw[e,hb0] at ho;cases ho
    simp[Env.mg,this,ho]⟩)
  (fun j r hj hne=>by
    have hjd:j≠d:=fun e=>hne (by rw[e])
    refine⟨by simp[Env.mg,hjd],by simp[Env.mg,hjd],fun i ho=> ?_⟩
    have:i≠b:=fun e=>by rw[e,hb0] at ho;cases ho
    simp[Env.mg,this,ho])
 have hX':=hX.state (S':={ tmps:=S.tmps.set d sv,boxes:=S.boxes,rows:=S.rows,objs:=(d,.map kk vv m)::S.objs })
  (fun k cs' hk hne=>hk) (fun j r hj _=>hj) (fun j r hj hne=>by
    have hjd:d≠j:=fun e=>hne (by rw[e])
    simpa [aj,hjd] using hj) (fun t l hl=>by
    have hne:¬ d=bf:=by simp only[bf];omega
    simp only[aj,hne,YP] at hl
    exact⟨t,l,hl⟩)
 have hM:=hX'.toMem (fun k cs' hk e=>by cases e) (fun j r hj e=>by cases e) (fun j r hj e=>by
  cases e
  simp only[aj,YS,Option.some.injEq] at hj
  subst hj
  exact⟨b,es,clock,by simp[Env.mg],by simp[Env.mg],hheap,hes,fun i e hi=>⟨by show (e.born:Int)=(if d=d then _ else _:Nat->Int) i;rw[YR rfl];show _=(match es.toList[i]? with | some e=>(e.born:Int) | none=>0);rw[hi],hborn i e hi⟩,hpw⟩)
 exact⟨ρ.mg d b es,{ hM with
  tmps:=(h.tmps.congr (Gh.le_refl G) hsame).put (some d) (fun _ _=>hv _ rfl (by simp[Env.mg]))
  defers:=h.defers }⟩
theorem MF {p:SV->Bool} {l:List SV} {d:Nat} {x:SV} (h:l.any p=false) (hx:p x=false):(l.set d x).any p=false:=by
 rw[Ww] at h ⊢
 intro y hy
 rcases XJ hy with h1 | h1
 ·exact h y h1
 ·subst h1;simp[hx]
theorem SM {d:Nat} {ps:List PM} {k:Del->Option β}:∀ {rs:List RM} {y:cx ps rs},SL d ps rs y k=some r->(∃ (e:TypeId) (t:Ty) (l:List t.den),k ⟨.v false [.row d],none,some ⟨false,e,t,l⟩,none⟩=some r/\ lS rs=t.flat/\∀ {G:Gh} {w:World} {ow:Nat->Option Nat} {args vs:List Value},iw G w ow ps args 0 rs y vs->∃ v,vs=[v]/\jD G w e t l v/\∀ b,v.ownBlock=some b->ow b=some (64*24))\/ (∃ (e:TypeId) (t:Ty) (l:List t.den) (kk vv:Ty) (m:List (kk.den×vv.den)),k ⟨.tup [(false,[.row d]),(false,[.mp d])],none,some ⟨false,e,t,l⟩,some (.map kk vv m)⟩=some r/\ lS rs=(t.flat&&(kk.flat&&vv.flat))/\∀ {G:Gh} {w:World} {ow:Nat->Option Nat} {args vs:List Value},iw G w ow ps args 0 rs y vs->∃ v b,vs=[v,.map (some b)]/\jD G w e t l v/\(∀ b,v.ownBlock=some b->ow b=some (64*24))/\ow b=some (64*25)/\oH G w kk vv m b)\/ (∃ (e:TypeId) (t:Ty) (l:List t.den) (t2:Ty) (z:t2.den),k ⟨.tup [(false,[.row d]),Eu t2 z],none,some ⟨false,e,t,l⟩,none⟩=some r/\ lS rs=(t.flat&&t2.flat)/\∀ {G:Gh} {w:World} {ow:Nat->Option Nat} {args vs:List Value},iw G w ow ps args 0 rs y vs->∃ v v2,vs=[v,v2]/\jD G w e t l v/\(∀ b,v.ownBlock=some b->ow b=some (64*24))/\bC G t2 z v2)
 | [.row e t],y,h=> .inl ⟨e,t,y.1,h,rfl,fun ⟨v,us,e1,⟨h1,h2⟩,h3⟩=>⟨v,by rw[e1,h3.1],h1,h2⟩⟩
 | [.row e t,.map kk vv],y,h=> .inr <| .inl ⟨e,t,y.1,kk,vv,y.2.1,h,rfl,fun ⟨v,us,e1,⟨h1,h2⟩,⟨v2,us2,e2,⟨b,e3,h4,h5⟩,h3⟩⟩=>⟨v,b,by rw[e1,e2,e3,h3.1],h1,h2,h4,h5⟩⟩
 | [],_,h=>by cases h
 | .row _ _:: .row _ _::_,_,h=>by cases h
 | [.row e t,.val t2],y,h=> .inr <| .inr ⟨e,t,y.1,t2,y.2.1,h,rfl,fun ⟨v,us,e1,⟨h1,h2⟩,⟨v2,us2,e2,h4,h3⟩⟩=>⟨v,v2,by rw[e1,e2,h3.1],h1,h2,h4⟩⟩
 | .row _ _:: .val _::_::_,_,h=>by cases h
 | .row _ _:: .box _::_,_,h=>by cases h
 | .row _ _:: .map _ _::_::_,_,h=>by cases h
 | .val _::_,_,h=>by cases h
 | .map _ _::_,_,h=>by cases h
 | .box _::_,_,h=>by cases h
theorem xg {c:Call} {f:Nat} {args:List SV} {sp:ak} {S1:St} {a:Act} {C:Fr X.P} (hX:bS X) (ho:o.op= .call c) (hcal:cG S c=some (f,args)) (hsp:look X.specs f=some sp) (hc1:sp.ps.all PM.isVal=true) (hc3:lS sp.rs=true\/(Aj M args=true/\sp.ps.all PM.arg=true)) {x:dQ sp.ps} {y:cx sp.ps sp.rs} (hx:b9 (aC M (di M args)) (eY M args) sp.ps args=some x) (hy:sp.m x=some y) (hM:Mod C G ρ S1 w a) (hN:AS o S M S1) {post:Act->World->Prop} {Q:Exit->Act->World->Prop} (hpost:∀ (us vs:List Value) (w':World) (G' G3:Gh) (ow':Nat->Option Nat),iw G' w' ow' sp.ps vs 0 sp.rs y us->G.le G3->G3.hnd=G.hnd->Agr G3 w'->w.heap.size<=w'.heap.size->w'.os=w.os->w'.output=w.output-> (∀ b,b<w.heap.size->w'.heap[b]? =w.heap[b]?)->(∀ b,b<w.heap.size->G3 b=G b)->u9 G' G3 (lS sp.rs)->(∀ b i,ow' b=some i->w.heap.size<=b/\b<w'.heap.size/\G3 b=none)->post (a.put o.dst (oa us)) w'): o.wp X.P a w post Q:=by
 obtain⟨hfun,hbody⟩:=hX.fn f sp (kH hsp)
 have hcal1:cG S1 c=some (f,args):=by rw[jw ho hN.ops];exact hcal
 have key:∃ G1:Gh,∃ vs:List Value,G.le G1/\G1.hnd=G.hnd/\Agr G1 w/\eG G1 w (fun _=>none) 0 sp.ps x vs/\(execOp a.eval o).run X.P w= .ok (.enter f vs.toArray) w/\
  (lS sp.rs=true\/G1=G):=by
  rcases hc3 with hflat | hnl
  ·obtain⟨G1,ρ1,G2,hfz,hM1,hle2,hhn2,hagr2,hlent,harok,_⟩:=hM.Tx (di M args) (eY M args) true
   obtain⟨vs,hvs,hrun⟩:=eJ (S:=S1) (w:=w) (G:=G1) (ρ:=ρ1) (a:=a) ho hcal1 (fun z _=>by
    have:=hM1.tmps.ev z
    have e:(aC S1 (di M args)).ev z=S1.ev z:=by cases z<;>rfl
    rw[e] at this;exact this) hbody
   have hF:fB G2 ρ1 (aC M (di M args)):=fun j q hj hq=>bN.mono hle2 (hM1.toMem.frozen j q (H6 hN.rows j q hj) hq)
   have hL:iP G2 ρ1 (aC M (di M args)) (eY M args):=fun k cs hk hcs=>hlent k cs hk (hN.boxes k cs hcs)
   refine⟨G2,vs,Gh.le_trans hfz.le hle2,hhn2.trans hfz.hnd,hagr2,oU hF hL w _ 0 (fun _ fz t l hl=>harok rfl fz t l (hN.objs bf _ hl)) hc1 hx (hvs.mono fun s v hs=>aU.congr hle2 (.refl ρ1 s) hs),hrun,.inl hflat⟩
  ·obtain⟨hlb,hrows⟩:=DK hnl.1
   obtain⟨vs,hvs,hrun⟩:=eJ (S:=S1) (w:=w) (G:=G) (ρ:=ρ) (a:=a) ho hcal1 (fun z _=>hM.tmps.ev z) hbody
   have hF:fB G ρ (aC M (di M args)):=fun j q hj hq=>hM.toMem.frozen j q (hN.rows j q (hrows j q hj)) hq
   refine⟨G,vs,Gh.le_refl G,rfl,hM.agr,oU hF (by rw[hlb];exact iP.nil _ _ _) w _ 0 (fun ⟨p,h1,h2⟩=> ?_) hc1 hx hvs,hrun,.inr rfl⟩
   have:=hnl.2
   simp only[Wv] at this
   rw[this p h1] at h2;cases h2
 obtain⟨G1,vs,hle1,hhn1,hagr1,hargs,hrun,hor⟩:=key
 have hcall:=hfun G1 w (fun _=>none) vs x y hagr1 (fun b i hb=>by cases hb) hargs hy (C.tab.mono (Gh.le_trans hM.le0 hle1))
 unfold Oper.wp
 rw[hrun]
 refine hcall.mono ?_
 rintro e' w' ⟨G',ow',us,hg⟩
 rw[hg.ret]
 let G3:Gh:=⟨fun b=>if b<w.heap.size then G b else G' b,G.hnd⟩
 have hnoar:fX sp.ps=false:=FG hc1
 have hhn':G'.hnd=G.hnd:=(hg.hnd hnoar).trans hhn1
 have hlt:∀ b o',G b=some o'->b<w.heap.size:=fun b o' hb=>aG (hM.agr b o' hb)
 have hle3:G.le G3:=⟨fun b o' hb=>by simp only[G3,YR (hlt b o' hb)];exact hb,fun _ _ h=>h⟩
 have hagr3:Agr G3 w':=fun b o' hb=>by
  simp only[G3] at hb
  split at hb
  ·rename_i hb'
   rw[(hg.old b hb' rfl).1];exact hM.agr b o' hb
  ·exact hg.agr b o' hb
 have hT:u9 G' G3 (lS sp.rs):=⟨fun i b hb=>by rw[hhn'] at hb;exact hb,by
  rcases hor with h1 | h1
  ·exact .inl h1
  ·right
   subst h1
   refine⟨fun b o' hb=> ?_,fun i b hb=>by rw[hhn'] at hb;exact hb⟩
   show (if b<w.heap.size then G1 b else G' b)=some o'
   by_cases hb':b<w.heap.size
   ·rw[YR hb', <- (hg.old b hb' rfl).2];exact hb
   ·rw[YQ hb'];exact hb⟩
 exact hpost us vs w' G' G3 ow' hg.out hle3 rfl hagr3 hg.size hg.os hg.output (fun b hb=>(hg.old b hb rfl).1) (fun b hb=>by simp only[G3,YR hb]) hT (fun b i hb=>by
  obtain⟨h1,h2,h3⟩:=hg.own b i hb
  have h4:w.heap.size<=b:=by rcases h3 with h3 | h3;exact h3;exact absurd rfl h3
  exact⟨h4,h2,by simp only[G3,YQ (Nat.not_lt.2 h4)];exact h1⟩)
theorem R1 {c:Call} {f:Nat} {args:List SV} {sp:ak} {d:Nat} {k:Del->Option β} (hX:bS X) (ho:o.op= .call c) (hd:o.dst=some d) (hcal:cG S c=some (f,args)) (hsp:look X.specs f=some sp) (h:Jl sp S M args d k=some r):∃ x,k x=some r/\cB X.P o S M x/\jd o S x:=by
 unfold Jl at h
 split at h
 ·rename_i hc
  simp only[VZ,Wf,Wb] at hc
  obtain⟨⟨⟨⟨⟨hc1,hc3⟩,hrow⟩,hdl⟩,hobj⟩,hstp⟩:=hc
  have hd2:d<2000:=by simpa using hdl
  split at h
  ·rename_i x hx
   obtain⟨y,hy,h⟩:=bind_some h
   rcases SM h with ⟨e,t,l,hk,hfl,hout⟩ | ⟨e,t,l,kk,vv,m,hk,hfl,hout⟩ | ⟨e,t,l,t2,z,hk,hfl,hout⟩
   ·refine⟨_,hk,fun C G ρ S1 w a Q hM hN _ hfr _=> ?_,fun d' hd'=>⟨nofun,fun _=>(by rw[hd] at hd';cases hd';exact hrow),nofun⟩⟩
    refine xg hX ho hcal hsp hc1 hc3 hx hy hM hN ?_
    intro us vs w' G' G3 ow' ho1 hle3 hh3 hagr3 hsz hos hou hold hG3 hT hnw
    obtain⟨v,ev,⟨xs,hown,hrep⟩,how⟩:=hout ho1
    rw[hfl] at hT
    have hnew:=hM.newRow (d:=d) (v:=v) (r:=⟨false,e,t,l⟩) hle3 hh3 hagr3 hsz hos hou hold hG3 hd2 (hfr d hd rfl) rfl xs hown (hT.N5 hrep) (fun b hb=>hnw b _ (how b hb))
    rw[hd,ev]
    exact⟨G3,_,hnew⟩
   ·refine⟨_,hk,fun C G ρ S1 w a Q hM hN _ hfr hfo=> ?_,fun d' hd'=>⟨nofun,fun _=>(by rw[hd] at hd';cases hd';exact hrow),fun _=>(by rw[hd] at hd';cases hd';exact⟨hobj,hstp⟩)⟩⟩
    refine xg hX ho hcal hsp hc1 hc3 hx hy hM hN ?_
    intro us vs w' G' G3 ow' ho1 hle3 hh3 hagr3 hsz hos hou hold hG3 hT hnw
    obtain⟨v,b,ev,⟨xs,hown,hrep⟩,how,hob,hmap⟩:=hout ho1
    rw[hfl] at hT
    have hT1:u9 G' G3 t.flat:=⟨hT.1,hT.2.imp (fun e=>by simp only[VZ] at e;exact e.1) id⟩
    have hnew:=hM.newRow (d:=d) (v:=v) (r:=⟨false,e,t,l⟩) hle3 hh3 hagr3 hsz hos hou hold hG3 hd2 (hfr d hd rfl) rfl xs hown (hT1.N5 hrep) (fun b hb=>hnw b _ (how b hb))
    obtain⟨hb1,hb2,hb3⟩:=hnw b _ hob
    have hfo1:=hfo d hd rfl
    have hvb:v.ownBlock≠some b:=fun e=>by
     have:=how b e
     rw[hob] at this;simp at this
    have hm3:oH G3 w' kk vv m b:=by
     obtain⟨es,clock,g1,g2,g3,g4⟩:=hmap
     exact⟨es,clock,g1,g2.mono fun p q hpq=>⟨hT.GU (fun e=>by simp only[VZ] at e;exact e.2.1) hpq.1,hT.GU (fun e=>by simp only[VZ] at e;exact e.2.2) hpq.2⟩,g3,g4⟩
    have hsl:∃ a n c,v= .slice a n c:=by
     rcases hown.2 with ⟨e,_⟩ | ⟨g,cap,cur,e,_⟩
     ·exact⟨_,_,_,e⟩
     ·exact⟨_,_,_,e⟩
    obtain⟨ρ',hnew2⟩:=hnew.TA (d:=d) (b:=b) (kk:=kk) (vv:=vv) (m:=m) hd2
     (by
       have h1:=hfo1.1
       simp only[St.bn,We] at h1 ⊢
       exact⟨MF h1.1 rfl,h1.2⟩)
     (by
       have h1:=hfo1.2
       simp only[St.aX,We] at h1 ⊢
       exact⟨MF h1.1 rfl,h1.2⟩)
     (by
       simp only[Env.putRow,YQ hvb]
       cases hq:ρ.own b with
       | none=>rfl
       | some q=>have:=(hM.owned b q hq).2.1;omega)
     hb3 hb2 (Yd hM.size hb1) hm3 (sv:= .tup [(false,[.row d]),(false,[.mp d])]) (v:= .tuple #[v,.map (some b)]) (fun ρ' h1 h2=>by
      refine⟨[v,.map (some b)],rfl,v,_,rfl, ?_,_,_,rfl, ?_,rfl⟩
      ·exact⟨by rw[h1];simp[Env.putRow],hsl⟩
      ·exact⟨h2.symm,_,rfl⟩)
    rw[hd,ev]
    refine⟨G3,ρ', ?_⟩
    simpa [St.app,List.set_set,Act.put,oa] using hnew2
   ·refine⟨_,hk,fun C G ρ S1 w a Q hM hN _ hfr _=> ?_,fun d' hd'=>⟨nofun,fun _=>(by rw[hd] at hd';cases hd';exact hrow),nofun⟩⟩
    refine xg hX ho hcal hsp hc1 hc3 hx hy hM hN ?_
    intro us vs w' G' G3 ow' ho1 hle3 hh3 hagr3 hsz hos hou hold hG3 hT hnw
    obtain⟨v,v2,ev,⟨xs,hown,hrep⟩,how,hrep2⟩:=hout ho1
    rw[hfl] at hT
    have hT1:u9 G' G3 t.flat:=⟨hT.1,hT.2.imp (fun e=>by simp only[VZ] at e;exact e.1) id⟩
    have hnew:=hM.newRow (d:=d) (v:=v) (r:=⟨false,e,t,l⟩) hle3 hh3 hagr3 hsz hos hou hold hG3 hd2 (hfr d hd rfl) rfl xs hown (hT1.N5 hrep) (fun b hb=>hnw b _ (how b hb))
    have hsl:∃ a n c,v= .slice a n c:=by
     rcases hown.2 with ⟨e,_⟩ | ⟨g,cap,cur,e,_⟩
     ·exact⟨_,_,_,e⟩
     ·exact⟨_,_,_,e⟩
    have hnew2:=hnew.put (some d) (s:= .tup [(false,[.row d]),Eu t2 z]) (v:= .tuple #[v,v2]) (fun _ _=>by
     refine⟨[v,v2],rfl,v,_,rfl, ?_,_,_,rfl, ?_,rfl⟩
     ·exact⟨by simp[Env.putRow],hsl⟩
     ·exact uE _ (hT.GU (fun e=>by simp only[VZ] at e;exact e.2) hrep2))
    rw[hd,ev]
    refine⟨G3,ρ.putRow d v, ?_⟩
    simpa [St.app,St.put,List.set_set,Act.put,oa] using hnew2
  ·cases h
 ·cases h
theorem mW {w:World} {base:Nat} {e:TypeId} {size:Nat} {v:Value} {n:Nat} {xs:List Value} (h:w.ownsRow base e size v n xs):w.ownsRow 0 e size v n xs/\∀ b,v.ownBlock=some b->base<=b/\b<w.heap.size:=by
 refine⟨⟨h.1, ?_⟩,fun b hb=> ?_⟩
 ·rcases h.2 with hn | ⟨g,cap,cur,hv,hb,hg,rest⟩
  ·exact .inl hn
  ·exact .inr ⟨g,cap,cur,hv,Ys _,hg,rest⟩
 ·rcases h.2 with hn | ⟨g,cap,cur,hv,hb',hg,rest⟩
  ·rw[hn.1] at hb;cases hb
  ·rw[hv] at hb;cases hb
   exact⟨hb',aG hg⟩
theorem Lf {G:Gh}:∀ l:List Int,bA (ax G (.int .i64)) l (l.map encZ)
 | []=>rfl
 | a::r=>⟨[encZ a],r.map encZ,rfl,rfl,Lf r⟩
theorem MB {G:Gh} {ρ:Env}:∀ {cs:List CV} {vs:List Value},aE (aN G ρ) cs vs->cs.all CV.ok=true->∀ u,u∈vs->u.oneCell'=true
 | [],[],_,_,u,hu=>by cases hu
 | c::cs,vs,h,hok,u,hu=>by
  obtain⟨v,us,rfl,h1,h2⟩:=h
  rw[Wu,VZ] at hok
  rcases XB.1 hu with e | e
  ·rw[e];exact (zV h1 hok.1).1
  ·exact MB h2 hok.2 u e
theorem UX {c:Call} {f:Nat} {args:List SV} {k:Del->Option β} (hX:bS X) (ho:o.op= .call c) (hcal:cG S c=some (f,args)) (h:Nz X S M f args o.dst k=some r):∃ x,k x=some r/\cB X.P o S M x/\jd o S x:=by
 unfold Nz at h
 split at h
 ·rename_i g hk
  obtain⟨⟨bt,hfun⟩,hbody0⟩:=hX.key f _ (kH hk)
  have hbody:=hbody0 nofun
  split at h
  ·rename_i j
   refine⟨_,h,fun C G ρ S1 w a Q hM hN _ _ _=> ?_,jd.val _ _ _⟩
   have hcal1:cG S1 c=some (f,[.v false [.mp j]]):=by rw[jw ho hN.ops];exact hcal
   obtain⟨vs,hvs,hrun⟩:=eJ (S:=S1) (w:=w) (G:=G) (ρ:=ρ) (a:=a) ho hcal1 (fun z _=>hM.tmps.ev z) hbody
   obtain⟨v,rfl,hv⟩:=hvs.single
   obtain⟨hv1,b,hv2⟩:v=ρ.ob j/\∃ b,v= .map (some b):=hv
   subst hv2
   unfold Oper.wp
   rw[hrun]
   refine (hfun (some b) w).mono ?_
   rintro e w' ⟨rfl,rfl⟩
   let G3:Gh:=⟨fun b'=>if b'=w.heap.size then some (.cells #[.map (some b)] bt (0,0)) else G b',G.hnd⟩
   have hlt:∀ b o',G b=some o'->b<w.heap.size:=fun b o' hb=>aG (hM.agr b o' hb)
   have hle3:G.le G3:=⟨fun b' o' hb=>by
    have:=hlt b' o' hb
    simp only[G3,YQ (Nat.ne_of_lt this)];exact hb,fun _ _ h=>h⟩
   have hagr3:Agr G3 (w.alloc (.cells #[.map (some b)] bt)):=fun b' o' hb=>by
    simp only[G3] at hb
    split at hb
    ·rename_i e'
     subst e'
     cases hb
     show (w.heap.push _)[w.heap.size]? =_
     rw[VR]
    ·have:=hlt b' o' hb
     rw[vq w _ this]
     exact hM.agr b' o' hb
   have hM3:=hM.after hle3 rfl hagr3 (by simp) rfl rfl (fun b' hb'=>vq w _ hb') (fun b' hb'=>by simp only[G3,YQ (Nat.ne_of_lt hb')])
   refine⟨G3,ρ, ?_⟩
   rw[St.zQ]
   refine hM3.put o.dst (fun _ _=> ?_)
   exact⟨w.heap.size,bt,(0,0),rfl,by simp only[G3,YR];rw[hv1]⟩
  ·cases h
 ·rename_i g kt e hk
  obtain⟨⟨hkt,hfun⟩,hbody0⟩:=hX.key f _ (kH hk)
  have hbody:=hbody0 nofun
  split at h
  ·rename_i g' j d hd
   split at h
   ·rename_i v l hl
    split at h
    ·rename_i hc
     simp only[VZ,Wb] at hc
     obtain⟨⟨hg,hrow⟩,hdl⟩:=hc
     have hd2:d<2000:=by simpa using hdl
     have hgg:g=g':=X8 hg
     subst hgg
     obtain⟨hok,h⟩:=dJ h
     simp only[RZ,VZ,YK] at hok
     obtain⟨hlen,hwf,hnd⟩:=hok
     have hml:(1000000:Nat)<=maxLen:=by decide
     refine⟨_,h,fun C G ρ S1 w a Q hM hN _ hfr _=> ?_,fun d' hd'=>⟨nofun,fun _=>(by rw[hd] at hd';cases hd';exact hrow),nofun⟩⟩
     have hcal1:cG S1 c=some (f,[.v false [.kseq g j]]):=by rw[jw ho hN.ops];exact hcal
     obtain⟨vs,hvs,hrun⟩:=eJ (S:=S1) (w:=w) (G:=G) (ρ:=ρ) (a:=a) ho hcal1 (fun z _=>hM.tmps.ev z) hbody
     obtain⟨v0,rfl,hv⟩:=hvs.single
     obtain⟨Bm,T,fz,hv1,hBm⟩:∃ b T fz,v0= .func (.func g) #[] #[.pointer (some ⟨b,0,none⟩)]/\G b=some (.cells #[ρ.ob j] T fz):=hv
     subst hv1
     obtain⟨b,es,clock,hob,hown,hheap,hes,hborn,hpw⟩:=hM.objs j _ (hN.objs j _ hl)
     have hBh:=hM.agr _ _ hBm
     have hBl:Bm<w.heap.size:=aG hBh
     rw[hob] at hBh
     obtain⟨D0,hD,hperm,hsize⟩:=O3 (P:=X.P) (kt:=kt) hkt hheap hes (fun x hx=>by
      obtain⟨i,hi⟩:=List.getElem?_of_mem hx
      exact (hborn i x hi).2) hpw (Yd hlen hml) (fun p hp=>by
      have:=YW (Wv.1 hwf p hp)
      show (decide ((-9223372036854775808:Int)<=p.1)&&decide (p.1<=(9223372036854775807:Int)))=true
      rw[YJ this.1,YJ this.2];rfl) hnd
     have hcall:=hfun Bm b _ D0 w hBl (by simp[World.cell?,hBh]) hD (by rw[hsize];exact Yd hlen hml) (by rw[hsize];omega)
     unfold Oper.wp
     rw[hrun]
     refine hcall.mono ?_
     rintro e' w' ⟨v,ss,rfl,hss,hrowS,hb⟩
     have hsort:ss.mergeSort (fun x y=>decide (x<=y))=Mo l:=mergeSort_of_perm_i (hss.trans hperm.symm)
     have hslen:ss.length=(Mo l).length:=by rw[<- hsort,List.length_mergeSort]
     rw[hsort,hslen] at hrowS
     have hlt:∀ b o',G b=some o'->b<w.heap.size:=fun b o' hb=>aG (hM.agr b o' hb)
     have hold:∀ b',b'<w.heap.size->w'.heap[b']? =w.heap[b']? :=fun b' hb'=>hb.block b' hb'
     have hagr:Agr G w':=fun b' o' hb'=>by rw[hold b' (hlt b' o' hb')];exact hM.agr b' o' hb'
     have hnew:=hM.newRow (d:=d) (v:=v) (r:=⟨false,e,.int .i64,Mo l⟩) (Gh.le_refl G) rfl hagr hb.size hb.os hb.output hold (fun _ _=>rfl) hd2 (hfr d hd rfl) rfl _ (mW hrowS).1 (Lf _) (fun b' hb'=>by
      have h1:=(mW hrowS).2 b' hb'
      exact⟨h1.1,h1.2,by
       cases hG:G b' with
       | none=>rfl
       | some o'=>exact absurd (hlt b' o' hG) (Nat.not_lt.2 h1.1)⟩)
     rw[hd]
     exact⟨G,_,hnew⟩
    ·cases h
   ·cases h
  ·cases h
 ·rename_i g kt e cl cf hk
  obtain⟨hfun,hbody0⟩:=hX.key f _ (kH hk)
  have hbody:=hbody0 nofun
  split at h
  ·rename_i g' j cl' d hd
   split at h
   ·rename_i v l hl
    split at h
    ·rename_i hc
     simp only[VZ,Wb] at hc
     obtain⟨⟨⟨hg,hcl⟩,hrow⟩,hdl⟩:=hc
     have hd2:d<2000:=by simpa using hdl
     have hgg:g=g':=X8 hg
     subst hgg
     have hcc:cl=cl':=X8 hcl
     subst hcc
     obtain⟨hok,h⟩:=dJ h
     refine⟨_,h,fun C G ρ S1 w a Q hM hN _ hfr _=> ?_,fun d' hd'=>⟨nofun,fun _=>(by rw[hd] at hd';cases hd';exact hrow),nofun⟩⟩
     have hcal1:cG S1 c=some (f,[.v false [.kseq g j],.v false [.fn cl []]]):=by rw[jw ho hN.ops];exact hcal
     obtain⟨vs,hvs,hrun⟩:=eJ (S:=S1) (w:=w) (G:=G) (ρ:=ρ) (a:=a) ho hcal1 (fun z _=>hM.tmps.ev z) hbody
     obtain⟨v0,us,rfl,hv,hus⟩:=hvs
     obtain⟨v2,rfl,hv2⟩:=hus.single
     obtain⟨Bm,T,fz,hv1,hBm⟩:∃ b T fz,v0= .func (.func g) #[] #[.pointer (some ⟨b,0,none⟩)]/\G b=some (.cells #[ρ.ob j] T fz):=hv
     subst hv1
     have hv2':v2= .func (.func cl) #[] #[]:=hv2
     subst hv2'
     obtain⟨b,es,clock,hob,hown,hheap,hes,hborn,hpw⟩:=hM.objs j _ (hN.objs j _ hl)
     have hBh:=hM.agr _ _ hBm
     have hBl:Bm<w.heap.size:=aG hBh
     rw[hob] at hBh
     have hlen2:(Bv cf l).length=l.length:=RY cf l
     have hcall:=hfun G v l Bm b clock es w hM.agr (C.tab.mono hM.le0) hBl (by simp[World.cell?,hBh]) hheap hes (fun x hx=>by
      obtain⟨i,hi⟩:=List.getElem?_of_mem hx
      exact (hborn i x hi).2) hpw hok
     unfold Oper.wp
     rw[hrun]
     refine hcall.mono ?_
     rintro e' w' ⟨u,xs,rfl,hrowS,hrep,hsz,hos,hou,hold⟩
     have hlt:∀ b o',G b=some o'->b<w.heap.size:=fun b o' hb=>aG (hM.agr b o' hb)
     have hagr:Agr G w':=fun b' o' hb'=>by rw[hold b' (hlt b' o' hb')];exact hM.agr b' o' hb'
     have hrowS:w'.ownsRow w.heap.size e 2 u (Bv cf l).length xs:=by rw[hlen2];exact hrowS
     have hnew:=hM.newRow (d:=d) (v:=u) (r:=⟨false,e,.st (.pair .str .str),Bv cf l⟩) (Gh.le_refl G) rfl hagr hsz hos hou hold (fun _ _=>rfl) hd2 (hfr d hd rfl) rfl _ (mW hrowS).1 hrep (fun b' hb'=>by
      have h1:=(mW hrowS).2 b' hb'
      exact⟨h1.1,h1.2,by
       cases hG:G b' with
       | none=>rfl
       | some o'=>exact absurd (hlt b' o' hG) (Nat.not_lt.2 h1.1)⟩)
     rw[hd]
     exact⟨G,_,hnew⟩
    ·cases h
   ·cases h
  ·cases h
 ·rename_i sz lo bb e t hk
  obtain⟨hfun,hbody0⟩:=hX.key f _ (kH hk)
  have hbody:=hbody0 nofun
  split at h
  ·rename_i cs d hd
   split at h
   ·rename_i t' l0 hlo
    split at h
    ·rename_i l hl
     split at h
     ·cases h
     ·rename_i hc
      simp only[Wf,YV,Wa,V8] at hc
      obtain⟨hsz,hrow,hcs,hdl,hone⟩:=hc
      have hd2:d<2000:=by simpa using hdl
      have hcl:cs.length=sz:=X8 hsz
      obtain⟨hok,h⟩:=dJ h
      simp only[VZ,YK] at hok
      refine⟨_,h,fun C G ρ S1 w a Q hM hN _ hfr _=> ?_,fun d' hd'=>⟨nofun,fun _=>(by rw[hd] at hd';cases hd';exact hrow),nofun⟩⟩
      have hcal1:cG S1 c=some (f,[.v true cs]):=by rw[jw ho hN.ops];exact hcal
      obtain⟨vs,hvs,hrun⟩:=eJ (S:=S1) (w:=w) (G:=G) (ρ:=ρ) (a:=a) ho hcal1 (fun z _=>hM.tmps.ev z) hbody
      obtain⟨v0,rfl,hv⟩:=hvs.single
      obtain⟨us,rfl,hus⟩:∃ us:List Value,v0= .agg us.toArray/\aE (aN G ρ) cs us:=hv
      obtain⟨u,hu,hsl⟩:=hus.get hlo
      have hsl2:bN G t.size (ax G t) l u:=by
       obtain⟨e1,e2⟩:=eU hl
       subst e1
       have e3:l0=l:=e2
       rw[<- e3]
       exact hsl
      have hcall:=hfun G w us u l hM.agr (C.tab.mono hM.le0) (hus.len.trans hcl) (MB hus hone) hu hsl2 hok.1 hok.2
      unfold Oper.wp
      rw[hrun]
      refine hcall.mono ?_
      rintro e' w' ⟨G',s,xs,rfl,hle,hh,hagr,hGG,hrowS,hnone,hrep,hsz',hos,hou,hold⟩
      have hnew:=hM.newRow (d:=d) (v:=s) (r:=⟨false,e,t,l⟩) hle hh hagr hsz' hos hou hold hGG hd2 (hfr d hd rfl) rfl _ (mW hrowS).1 hrep (fun b' hb'=>by
       have h1:=(mW hrowS).2 b' hb'
       exact⟨h1.1,h1.2,hnone b' hb'⟩)
      have hsm:∀ c,c∈cs->c.dD ρ (ρ.putRow d s):=fun c hc=>⟨fun _ _=>rfl,fun k hk=>by
       have:¬ k=d:=fun e=>by
        subst e
        have:=Ww.1 hcs c hc
        rw[hk] at this
        exact this rfl
       simp[Env.putRow,this],fun _ _=>rfl,fun _ _=>rfl⟩
      have hsr:∃ a n c,s= .slice a n c:=by
       rcases hrowS.2 with ⟨e,_⟩ | ⟨b0,c0,cu,e,_⟩
       ·exact⟨_,_,_,e⟩
       ·exact⟨_,_,_,e⟩
      have hSV:aU G' (ρ.putRow d s) (.v true (cs.set lo (.row d))) (.agg (us.set lo s).toArray):=
       ⟨_,rfl,(aE.qX (fun c hc v h=>aN.congr hle (hsm c hc) h) hus).set (show aN G' (ρ.putRow d s) (.row d) s from ⟨by simp[Env.putRow],hsr⟩) lo⟩
      have h2:=hnew.put (some d) (fun _ _=>hSV)
      rw[hd]
      refine⟨G',ρ.putRow d s, ?_⟩
      have es:(St.put { tmps:=S1.tmps.set d (.v false [.row d]),boxes:=S1.boxes,rows:=(d,⟨false,e,t,l⟩)::S1.rows,objs:=S1.objs } (some d) (.v true (cs.set lo (.row d))))=S1.app (some d) ⟨.v true (cs.set lo (.row d)),none,some ⟨false,e,t,l⟩,none⟩:=by
       simp[St.put,St.app,List.set_set]
      have ea:(a.put (some d) s).put (some d) (.agg (us.set lo s).toArray)=a.put (some d) (.agg (us.set lo s).toArray):=by
       simp[Act.put]
      rw[es,ea] at h2
      exact h2
    ·cases h
   ·cases h
  ·cases h
 ·cases h
theorem UW {c:Call} {k:Del->Option β} (hX:bS X) (ho:o.op= .call c) (h:cT X o S M k=some r):∃ x,k x=some r/\cB X.P o S M x/\jd o S x:=by
 unfold cT at h
 rw[ho] at h
 simp only at h
 split at h
 ·rename_i f args hcal
  split at h
  ·rename_i sp hsp
   split at h
   ·split at h
    ·rename_i d hd
     exact R1 hX ho hd hcal hsp h
    ·cases h
   obtain⟨hfun,hbody⟩:=hX.fn f sp (kH hsp)
   unfold Pq at h
   split at h
   ·rename_i hc
    simp only[VZ,Wf] at hc
    obtain⟨⟨hc1,hc2⟩,hc3⟩:=hc
    split at h
    ·rename_i x hx
     obtain⟨y,hy,h⟩:=bind_some h
     refine⟨_,h,fun C G ρ S1 w a Q hM hN _ _ _=> ?_,jd.val _ _ _⟩
     have hcal1:cG S1 c=some (f,args):=by rw[jw ho hN.ops];exact hcal
     have key:∃ G1:Gh,∃ vs:List Value,G.le G1/\G1.hnd=G.hnd/\Agr G1 w/\eG G1 w (fun _=>none) 0 sp.ps x vs/\(execOp a.eval o).run X.P w= .ok (.enter f vs.toArray) w/\
      (Aq sp.rs=true\/G1=G):=by
      rcases hc3 with hflat | hnl
      ·obtain⟨G1,ρ1,G2,hfz,hM1,hle2,hhn2,hagr2,hlent,harok,_⟩:=hM.Tx (di M args) (eY M args) true
       obtain⟨vs,hvs,hrun⟩:=eJ (S:=S1) (w:=w) (G:=G1) (ρ:=ρ1) (a:=a) ho hcal1 (fun z _=>by
        have:=hM1.tmps.ev z
        have e:(aC S1 (di M args)).ev z=S1.ev z:=by cases z<;>rfl
        rw[e] at this;exact this) hbody
       have hF:fB G2 ρ1 (aC M (di M args)):=fun j q hj hq=>bN.mono hle2 (hM1.toMem.frozen j q (H6 hN.rows j q hj) hq)
       have hL:iP G2 ρ1 (aC M (di M args)) (eY M args):=fun k cs hk hcs=>hlent k cs hk (hN.boxes k cs hcs)
       refine⟨G2,vs,Gh.le_trans hfz.le hle2,hhn2.trans hfz.hnd,hagr2,oU hF hL w _ 0 (fun _ fz t l hl=>harok rfl fz t l (hN.objs bf _ hl)) hc1 hx (hvs.mono fun s v hs=>aU.congr hle2 (.refl ρ1 s) hs),hrun,.inl hflat⟩
      ·obtain⟨hlb,hrows⟩:=DK hnl.1
       obtain⟨vs,hvs,hrun⟩:=eJ (S:=S1) (w:=w) (G:=G) (ρ:=ρ) (a:=a) ho hcal1 (fun z _=>hM.tmps.ev z) hbody
       have hF:fB G ρ (aC M (di M args)):=fun j q hj hq=>hM.toMem.frozen j q (hN.rows j q (hrows j q hj)) hq
       refine⟨G,vs,Gh.le_refl G,rfl,hM.agr,oU hF (by rw[hlb];exact iP.nil _ _ _) w _ 0 (fun ⟨p,h1,h2⟩=> ?_) hc1 hx hvs,hrun,.inr rfl⟩
       have:=hnl.2
       simp only[Wv] at this
       rw[this p h1] at h2;cases h2
     obtain⟨G1,vs,hle1,hhn1,hagr1,hargs,hrun,hor⟩:=key
     have hcall:=hfun G1 w (fun _=>none) vs x y hagr1 (fun b i hb=>by cases hb) hargs hy (C.tab.mono (Gh.le_trans hM.le0 hle1))
     unfold Oper.wp
     rw[hrun]
     refine hcall.mono ?_
     rintro e w' ⟨G',ow',us,hg⟩
     rw[hg.ret]
     let G3:Gh:=⟨fun b=>if b<w.heap.size then G b else G' b,G.hnd⟩
     have hnoar:fX sp.ps=false:=FG hc1
     have hhn':G'.hnd=G.hnd:=(hg.hnd hnoar).trans hhn1
     have hlt:∀ b o',G b=some o'->b<w.heap.size:=fun b o' hb=>aG (hM.agr b o' hb)
     have hle3:G.le G3:=⟨fun b o' hb=>by simp only[G3,YR (hlt b o' hb)];exact hb,fun _ _ h=>h⟩
     have hagr3:Agr G3 w':=fun b o' hb=>by
      simp only[G3] at hb
      split at hb
      ·rename_i hb'
       rw[(hg.old b hb' rfl).1];exact hM.agr b o' hb
      ·exact hg.agr b o' hb
     have hM3:=hM.after hle3 rfl hagr3 hg.size hg.os hg.output (fun b hb=>(hg.old b hb rfl).1) (fun b hb=>by simp only[G3,YR hb])
     have hres:=PI hc2 hg.out G3 ρ (fun i b hb=>by rw[hhn'] at hb;exact hb) (by
      rcases hor with h1 | h1
      ·exact .inl h1
      ·right
       subst h1
       refine⟨fun b o' hb=> ?_,fun i b hb=>by rw[hhn'] at hb;exact hb⟩
       show (if b<w.heap.size then G1 b else G' b)=some o'
       by_cases hb':b<w.heap.size
       ·rw[YR hb', <- (hg.old b hb' rfl).2];exact hb
       ·rw[YQ hb'];exact hb)
     refine⟨G3,ρ, ?_⟩
     rw[St.zQ]
     exact hM3.put o.dst (fun _ _=>IY hres)
    ·cases h
   ·cases h
  ·exact UX hX ho hcal h
 ·rename_i hcal
  obtain⟨s,hs,hq⟩:=N0 h
  exact⟨_,hs,.NO hq,jd.val _ _ _⟩
theorem nV {k:Del->Option β} (hX:bS X) (h:cT X o S M k=some r):∃ x,k x=some r/\cB X.P o S M x/\jd o S x:=by
 cases ho:o.op with
 | alloc t=>exact Ui ho h
 | box t x=>exact Vs ho h
 | buildSlice t len parts=>exact LZ ho h
 | makeSlice t l c=>exact OU ho h
 | makeMap t res=>exact R2 ho h
 | call c=>exact UW hX ho h
 | _=>
  unfold cT at h
  rw[ho] at h
  obtain⟨s,hs,hq⟩:=N0 h
  exact⟨_,hs,.NO hq,jd.val _ _ _⟩
end Go.Dn
namespace Go.Dn
variable {β:Type} {X:Cx} {o:Oper} {S:St} {r:β} {P0:Program} {C:Fr P0} {G:Gh} {ρ:Env} {w:World}
def dB (P:Program) (o:Oper) (S S':St):Prop:=
 ∀ (C:Fr P) (G:Gh) (ρ:Env) (w:World) (a:Act) (Q:Exit->Act->World->Prop),Mod C G ρ S w a->o.wp P a w (fun a' w'=>∃ G' ρ',Mod C G' ρ' S' w' a') Q
theorem dB.QH {P:Program} {x:Del} (h:cB P o S S x) (hf:jd o S x):dB P o S (S.app o.dst x):=
 fun C G ρ w a Q hM=>h C G ρ S w a Q hM (.refl o S) (fun d hd hb=>(hf d hd).1 hb) (fun d hd hb=>(hf d hd).2.1 hb) (fun d hd hb=>(hf d hd).2.2 hb)
theorem rG (S:St) (js:List Nat) (x:Operand):(aC S js).ev x=S.ev x:=by cases x<;>rfl
theorem dB.freeze {P:Program} {S':St} (js:List Nat) (h:dB P o (aC S js) S'):dB P o S S':=fun C G ρ w a Q hM=>by
 obtain⟨G1,ρ1,_,hM1⟩:=hM.freeze js
 exact h C G1 ρ1 w a Q hM1
theorem Grow.setRow {w:World} {g:Nat} {c:Array Value}:Grow ρ w (w.setRow g c) (some g):=
 ⟨rfl,rfl,by simp,fun b _ hb=>setRow_other w g b c (fun e=>hb (by rw[e]))⟩
theorem xT {P:Program} {t:TypeId} (hok:okT P t=true) {g off:Nat} {cur:Array Value} {T:TypeId} {v:Value} {us:List Value} (hg:w.heap[g]? =some (.cells cur T (0,0))) (hv:v.cells=us.toArray) (hl:us.length=bE P t) (hle:off+us.length<=cur.size) (h1:∀ u,u∈us->u.oneCell'=true): (Instr.storeAt t (.pointer (some ⟨g,off,none⟩)) v).run P w= .ok () (w.setRow g (cur.toList.take off++us++cur.toList.drop (off+us.length)).toArray):=by
 obtain⟨d,i,hd,hi⟩:=fK hok
 have hst:=run_storeCells_at (P:=P) g off T us 0 cur w hg (by simpa using hle) h1
 simp only[X5] at hst
 simp[Instr.storeAt,Instr.sureAddr,storeVar,run_sizeOf hi,hv,hl,hst]
theorem Q6 {t:TypeId} {x y:Operand} {b off:Nat} {ag:Bool} {cs:List CV} {k:St->Option β} (ho:o.op= .store t x y) (hd:o.dst=none) (hx:S.ev x= .v false [.ref b off]) (hy:S.ev y= .v ag cs) (h:oz X.P t S b off cs k=some r): ∃ S',k S'=some r/\dB X.P o S S':=by
 unfold oz at h
 split at h
 ·rename_i l hl
  split at h
  ·rename_i hc
   simp only[VZ] at hc
   split at h
   ·rename_i l' hset
    obtain⟨hle,hl'⟩:=wS hset
    refine⟨_,h,fun C G ρ w a Q hM=> ?_⟩
    have hvx:=aR (hM.tmps.ev x) hx
    have hvy:=hM.tmps.ev y
    rw[hy] at hvy
    obtain⟨us,eu,hus,h1⟩:=tO hvy hc.2
    obtain⟨_,vs,T,hw,hvs⟩:=hM.boxes b l hl
    have hlen:=hus.len
    have hlv:=hvs.len
    have hsz:=X8 hc.1.2
    have hrun:=xT (P:=X.P) hc.1.1 (off:=off) (v:=a.eval y) hw eu (by omega) (by simp;omega) h1
    unfold Oper.wp
    simp only[execOp,ho,show a.eval x=_ from hvx,Sem.run_bind,hrun,Result.andThen_ok,Sem.run_pure]
    simp only[Oper.upon,hd,Act.put]
    refine⟨G,ρ,hM.N8 (vs:=vs.take off++us++vs.drop (off+us.length)) (T:=T) ⟨l,hl⟩ Grow.setRow ?_ ?_⟩
    ·exact setRow_heap w _ _ _ T _ hw
    ·rw[hl'];exact hvs.splice hus
   ·cases h
  ·cases h
 ·cases h
theorem Pn {α:Type} (cur us:List α) (N p sz off:Nat) (h1:p+sz<=N) (h2:N<=cur.length) (h3:off+us.length<=sz): (cur.take (p+off)++us++cur.drop (p+off+us.length)).take N= (cur.take N).take p++((((cur.take N).drop p).take sz).take off++us++(((cur.take N).drop p).take sz).drop (off+us.length))++(cur.take N).drop (p+sz):=by
 apply WM
 intro k
 have l1:(cur.take (p+off)).length=p+off:=by simp;omega
 have l2:((cur.take N).take p).length=p:=by simp;omega
 have l3:((((cur.take N).drop p).take sz).take off).length=off:=by simp;omega
 have l4:((((cur.take N).drop p).take sz).drop (off+us.length)).length=sz - (off+us.length):=by simp;omega
 have l5:(((((cur.take N).drop p).take sz).take off++us++(((cur.take N).drop p).take sz).drop (off+us.length))).length=sz:=by rw[Xl,Xl,l3,l4];omega
 by_cases c0:k<N
 ·rw[Xh c0]
  by_cases c1:k<p
  ·rw[Wy,WU (by omega),Wy,WU (by omega)]
   simp[c0,c1,show k<p+off by omega]
  ·by_cases c2:k<p+off
   ·rw[Wy,WU (by omega),Wy ((cur.take N).take p),WV (by omega),WU (by omega),Wy,WU (by omega)]
    simp only[Xg,WY,l2]
    rw[YR c2,YR (by omega),YR (by omega),YR (by omega)]
    congr 1;omega
   ·by_cases c3:k<p+off+us.length
    ·rw[Wy,WV (by omega),WU (by omega),Wy ((cur.take N).take p),WV (by omega),WU (by omega),Wy,WV (by omega),WU (by omega)]
     congr 1;omega
    ·rw[WV (by rw[Xl];omega)]
     by_cases c4:k<p+sz
     ·rw[Wy ((cur.take N).take p),WV (by omega),WU (by omega),WV (by rw[Xl];omega)]
      simp only[Xg,WY,Xl,l1,l2,l3]
      rw[YR (by omega),YR (by omega)]
      congr 1;omega
     ·rw[WV (by rw[Xl];omega)]
      simp only[Xg,WY,Xl,l1,l2,l3,l4]
      rw[YR (by omega)]
      congr 1;omega
 ·rw[W0 (by simp;omega)]
  symm
  apply W0
  rw[Xl,Xl,l2,l5,Xn,Xt]
  omega
theorem Q7 {t:TypeId} {x y:Operand} {j sz i off:Nat} {ag:Bool} {cs:List CV} {k:St->Option β} (ho:o.op= .store t x y) (hd:o.dst=none) (hx:S.ev x= .v false [.rp j sz i off]) (hy:S.ev y= .v ag cs) (h:uz X.P t S j sz i off cs k=some r): ∃ S',k S'=some r/\dB X.P o S S':=by
 unfold uz at h
 split at h
 ·rename_i q hq
  split at h
  ·cases h
  ·rename_i hc
   simp only[Wf,YV,Wa,V8] at hc
   obtain⟨⟨⟨⟨hfz,hsz⟩,hok⟩,hlen⟩,hcv⟩:=hc
   have hsz':sz=q.t.size:=X8 hsz
   have hlen':=X8 hlen
   obtain⟨y0,hy0,h⟩:=bind_some h
   split at h
   ·rename_i cs' hset
    obtain⟨hle,hcs'⟩:=wS hset
    split at h
    ·rename_i y' hp
     refine⟨_,h,fun C G ρ w a Q hM=> ?_⟩
     have hvx:=aR (hM.tmps.ev x) hx
     have hvy:=hM.tmps.ev y
     rw[hy] at hvy
     obtain⟨us,eu,hus,h1⟩:=tO hvy hcv
     have hrow:=hM.rows j q hq
     unfold bV at hrow
     rw[YQ (by simp[hfz])] at hrow
     obtain⟨xs,⟨hlen2,hn | ⟨g,cap',cur,hv,_,hg,hnc,hcm,hcz,htake⟩⟩,hl,hown⟩:=hrow
     ·have:q.l=[]:=WL hn.2
      rw[this] at hy0;simp at hy0
     ·obtain⟨b,len,cap,e1,e2⟩:=hvx
      rw[e1] at hv
      cases hv
      have hi:=(Xa.1 hy0).1
      have hye:=hl.get (fun x cs hr=>ax.len hr) hy0
      have hae:=dW ρ hye
      have hlu:=hus.len
      have hla:=hae.len
      have hmul:i*q.t.size+q.t.size<=q.l.length*q.t.size:=by rw[<- Nat.succ_mul];exact Ym _ hi
      have hmul2:q.l.length*q.t.size<=cur.size:=by rw[hcz];exact Ym _ hnc
      have hel:((xs.drop (i*q.t.size)).take q.t.size).length=q.t.size:=hye.len
      have hoff:off+us.length<=q.t.size:=by omega
      have hnew:aE (aN G ρ) cs' (((xs.drop (i*q.t.size)).take q.t.size).take off++us++((xs.drop (i*q.t.size)).take q.t.size).drop (off+us.length)):=by
       rw[hcs'];exact hae.splice hus
      have hrep:=GN hM.toMem.frozen hp hnew
      have hset':=bA.set (R:=ax G q.t) (n:=q.t.size) (fun x cs hr=>ax.len hr) hrep hl hi
      have hrun:=xT (P:=X.P) hok (off:=i*sz+off) (v:=a.eval y) hg eu (by omega) (by rw[hsz'];omega) h1
      unfold Oper.wp
      simp only[execOp,ho,e2,Sem.run_bind,hrun,Result.andThen_ok,Sem.run_pure]
      simp only[Oper.upon,hd,Act.put]
      refine⟨G,ρ,hM.setRow (q:=q) (r:={ q with l:=q.l.set i y' }) hq hfz hfz (b:=g) (by rw[e1];rfl) Grow.setRow _ ?_ hset'⟩
      refine⟨?_,.inr ⟨g,cap',_, ?_,Ys _,setRow_heap w g cur _ q.e _ hg, ?_,hcm, ?_, ?_⟩⟩
      ·have:=hset'.len (fun x cs hr=>ax.len hr)
       simpa using this
      ·rw[e1];simp
      ·simpa using hnc
      ·rw[<- hcz]
       simp
       rw[hsz']
       omega
      ·simp only[Xs]
       rw[hsz']
       have:=Pn cur.toList us (q.l.length*q.t.size) (i*q.t.size) q.t.size off hmul (by simpa using hmul2) hoff
       rw[this,htake]
    ·cases h
   ·cases h
 ·cases h
end Go.Dn
namespace Go.Dn
variable {β:Type} {X:Cx} {o:Oper} {S:St} {r:β} {P0:Program} {C:Fr P0} {G:Gh} {ρ:Env} {w:World}
theorem ax.one {t:Ty} {x:t.den} {cs:List Value} (h:ax G t x cs):∀ u,u∈cs->u.oneCell'=true:=by
 have hu:=dW (ρ:=⟨fun _=>0,fun _=> .nilFunc,fun _=>none,fun _=> .nilFunc,fun _ _=>0⟩) h
 have hok:=jB t x
 generalize unpack t x=l at hu hok
 clear h
 induction l generalizing cs with
 | nil=>intro u h;cases hu;cases h
 | cons c l ih=>
  obtain⟨y,s,e,hy,hs⟩:=hu
  simp only[Wu,VZ] at hok
  subst e
  intro u hu
  rcases XB.1 hu with rfl | hu
  ·exact (zV hy hok.1).1
  ·exact ih hs hok.2 u hu
theorem bA.one {t:Ty}:∀ {l:List t.den} {cs:List Value},bA (ax G t) l cs->∀ u,u∈cs->u.oneCell'=true
 | [],_,h=>by cases h;intro u hu;cases hu
 | x::l,_,⟨c,r,e,hx,hl⟩=>by
  subst e
  intro u hu
  rcases Xy.1 hu with hu | hu
  ·exact hx.one u hu
  ·exact bA.one hl u hu
theorem IJ {P:Program} {t ty e:TypeId} {i:TypeInfo} (ht:P.underlying t=some (.slice e)) (hi:P.info? e=some i) {b sa:Option Addr} {n cap c:Nat} (h:n<=cap): (Builtin.append_ #[t,t] ty #[.slice b n cap,.slice sa 0 c]).run P w= .ok (.slice b n cap) w:=by
 cases b with
 | none=>cases sa<;>simp[Builtin.append_,run_underlying ht,sizeOf,typeInfo,hi,Builtin.lenOf,h,Builtin.firstCells,loadCells,loadCellsFrom]
 | some b=>cases sa<;>simp[Builtin.append_,run_underlying ht,sizeOf,typeInfo,hi,Builtin.lenOf,h,Builtin.firstCells,loadCells,loadCellsFrom,storeCells]
theorem II {P:Program} {t ty e:TypeId} {i:TypeInfo} {z:Value} {size:Nat} (ht:P.underlying t=some (.slice e)) (hi:P.info? e=some i) (hz:i.zero=some z) (hsize:i.size=size) (hzs:z.cells.size=size) (hsz:0<size) {v:Value} {n:Nat} {xs:List Value} (hown:w.ownsRow 0 e size v n xs) {sa:Option Addr} {m c:Nat} {news:List Value} (hl:news.length=m*size) (hnews:m=0\/∃ ad,sa=some ad/\∀ j u,news[j]? =some u->w.cell? (ad.add j)=some u) (h1:∀ u,u∈news->u.oneCell'=true) (h63:n+m<=maxLen) (hbytes:(n+m)*i.bytes<=140737488355328): ∃ v' w',(Builtin.append_ #[t,t] ty #[v,.slice sa m c]).run P w= .ok v' w'/\w'.ownsRow 0 e size v' (n+m) (xs++news)/\w.grownBy w' v.ownBlock/\ ∀ b,v'.ownBlock=some b->(w.heap.size<=b/\b<w'.heap.size)\/v.ownBlock=some b:=by
 by_cases hm:m=0
 ·subst hm
  have hn0:news=[]:=WL (by simpa using hl)
  subst hn0
  have key:∃ b cap,v= .slice b n cap/\n<=cap:=by
   rcases hown.2 with ⟨rfl,rfl⟩ | ⟨g,cap,cur,rfl,_,_,hnc,_⟩
   ·exact⟨none,0,rfl,Yc _⟩
   ·exact⟨_,cap,rfl,hnc⟩
  obtain⟨b,cap,rfl,hnc⟩:=key
  refine⟨_,w,IJ ht hi hnc,by simpa using hown,⟨rfl,rfl,rfl,Yc _,fun _ _ _=>rfl⟩,fun b' hb'=> .inr hb'⟩
 ·rcases hnews with h0 | ⟨ad,rfl,hnews⟩
  ·exact absurd h0 hm
  ·obtain⟨v',w',hr,ho',hg',_⟩:=run_append_own (P:=P) w 0 t ty e i z size i.bytes ht hi hz hsize rfl hzs hsz v n xs hown ad m c news hl hnews h1 h63 hbytes (Ys _)
   refine⟨v',w',hr,ho',hg', ?_⟩
   have hsmall:n+m<=9223372036854775807:=by simp only[maxLen] at h63;omega
   subst hsize
   rcases hown.2 with ⟨rfl,rfl⟩ | ⟨g,cap,cur,rfl,hbg,hg,hnc,hcm,hcs,htake⟩
   ·have hr2:=run_append_nil (P:=P) w t ty e i z ht hi hz ad m c news hl hnews (by omega) (by omega) (by simp only[Yr] at hbytes;omega)
    rw[hr2] at hr
    cases hr
    intro b hb
    left
    simp only[Value.ownBlock,Option.some.injEq] at hb
    subst hb
    exact⟨Yc _,by simp[heap_drew]⟩
   ·by_cases hroom:n+m<=cap
    ·have hfit:n*i.size+news.length<=cur.size:=by rw[hl,hcs, <- X4];exact Ym _ hroom
     have hr2:=run_append_room (P:=P) w t ty e i ht hi g n cap cur hg ad m c news hl hnews h1 hroom hfit
     rw[hr2] at hr
     cases hr
     intro b hb
     right
     exact hb
    ·have holds:∀ j u,xs[j]? =some u->w.cell? ((⟨g,0,none⟩:Addr).add j)=some u:=hown.cells (g:=g) rfl
     have hr2:=run_append_grow (P:=P) w t ty e i z ht hi hz ⟨g,0,none⟩ n cap xs hown.1 holds ad m c news hl hnews (by omega) (by omega) (growslice_fits (by omega) hbytes)
     rw[hr2] at hr
     cases hr
     intro b hb
     left
     simp only[Value.ownBlock,Option.some.injEq] at hb
     subst hb
     exact⟨Yc _,by simp[heap_drew]⟩
theorem Rn {ty:Ty} {x:CV} {l:List ty.den} {v:Value} (h:CT S ty x=some l) (hM:Mem C G ρ S w) (hv:aN G ρ x v): ∃ sa c news,v= .slice sa l.length c/\news.length=l.length*ty.size/\bA (ax G ty) l news/\(l.length=0\/∃ ad,sa=some ad/\∀ j u,news[j]? =some u->w.cell? (ad.add j)=some u):=by
 have sl:∀ {l:List ty.den} {v:Value},bN G ty.size (ax G ty) l v->∃ sa c news,v= .slice sa l.length c/\news.length=l.length*ty.size/\bA (ax G ty) l news/\(l.length=0\/∃ ad,sa=some ad/\∀ j u,news[j]? =some u->w.cell? (ad.add j)=some u):=by
  intro l v ⟨a,cap,e,_,_,h3⟩
  rcases h3 with rfl | ⟨b,off,c,T,fz,rfl,hb,hs,hl⟩
  ·exact⟨a,cap,[],e,by simp,rfl,.inl rfl⟩
  ·exact⟨_,cap,_,e,hl.len (fun x cs hr=>ax.len hr),hl,.inr ⟨_,rfl,xj (hM.agr b _ hb) _⟩⟩
 cases x<;>simp only[CT] at h
 case nils=>cases h;exact⟨none,0,[],hv,by simp,rfl,.inl rfl⟩
 case sl t' l'=>
  obtain⟨et,el⟩:=eU h
  subst et;subst el
  exact sl hv
 case row j=>
  split at h
  ·rename_i q hq
   obtain⟨et,el⟩:=eU h
   have hrow:=hM.rows j q hq
   obtain⟨qf,qe,qt,ql⟩:=q
   dsimp only at et el
   subst et;subst el
   unfold bV at hrow
   dsimp only at hrow
   split at hrow
   ·rw[hv.1];exact sl hrow
   ·obtain⟨xs,hown,hl,_⟩:=hrow
    have hown':=hown
    obtain⟨hlen,hn | ⟨g,cap,cur,e,_⟩⟩:=hown'
    ·exact⟨none,0,xs,by rw[hv.1,hn.1,hn.2],hlen,hl,.inl hn.2⟩
    ·exact⟨_,cap,xs,by rw[hv.1,e],hlen,hl,.inr ⟨_,rfl,fun j u hu=>hown.cells (g:=g) (by rw[e];rfl) j u hu⟩⟩
  ·cases h
 all_goals cases h
theorem TO {args:Array Operand} {argTypes:Array TypeId} {k:St->Option β} (ho:o.op= .call { callee:= .builtin .append,args,argTypes }) (h:bR X o S k=some r):∃ S',k S'=some r/\dB X.P o S S':=by
 unfold bR at h
 rw[ho] at h
 simp only at h
 split at h
 ·rename_i s x t t' d he hty hd
  split at h
  ·rename_i e ht
   split at h
   ·rename_i ty zc htyo hzc
    split at h
    ·cases h
    ·rename_i hc
     simp only[Wf,YV,Wa,V8] at hc
     obtain⟨⟨⟨⟨⟨hc1,hc0⟩,hc2⟩,hc3⟩,hc4⟩,hc5⟩:=hc
     have hd2:d<2000:=by simpa using hc0
     have htt:t=t':=X8 hc2
     have hsz:bE X.P e=ty.size:=X8 hc3
     have hzl:zc.length=ty.size:=X8 hc5
     have hpos:0<ty.size:=by
      rcases X9 ty.size with h0 | h0
      ·rw[h0] at hc4;cases hc4
      ·exact h0
     split at h
     ·rename_i l j l' hsrc hnew
      obtain⟨hchk,h⟩:=dJ h
      simp only[VZ,YK] at hchk
      refine⟨_,h,fun C G ρ w a Q hM=> ?_⟩
      obtain⟨ie,z,hie,hz,hzc'⟩:=lJ hzc
      have hies:ie.size=ty.size:=by rw[<- hsz,bE,hie];rfl
      have hzs:z.cells.size=ty.size:=by rw[<- hzl, <- (hzc' G ρ).len];simp
      rw[hie] at hchk
      simp only[Yy,Yu] at hchk
      match hargs:args.toList,he with
      | [xs,xx],he=>
       simp only[Xw,List.map_nil,List.cons.injEq,YA] at he
       have e1:args= #[xs,xx]:=by rw[<- VX (xs:=args),hargs]
       have e2:argTypes= #[t,t]:=by rw[<- VX (xs:=argTypes),hty, <- htt]
       have hvs:=aR (hM.tmps.ev xs) he.1
       have hvx:=aR (hM.tmps.ev xx) he.2
       obtain⟨sa,c,news,ex,hnl,hnr,hnc⟩:=Rn hnew hM.toMem hvx
       have src:∃ us,w.ownsRow 0 e ty.size (a.eval xs) l.length us/\bA (ax G ty) l us/\(∀ b,(a.eval xs).ownBlock=some b->∃ i,j=some i/\ρ.own b=some (.inr i)):=by
        cases s<;>simp only[Hj] at hsrc
        case nils=>
         cases hsrc
         refine⟨[], ?_,rfl,fun b hb=> ?_⟩
         ·rw[show a.eval xs=_ from hvs];exact World.ownsRow_nil w 0 e ty.size
         ·rw[show a.eval xs=_ from hvs] at hb;cases hb
        case row i _he=>
         split at hsrc
         ·rename_i q hq
          split at hsrc
          ·cases hsrc
          ·rename_i hqc
           simp only[Wf,YV,Wa,V8] at hqc
           split at hsrc
           ·rename_i l0 hl0
            cases hsrc
            obtain⟨et,el⟩:=eU hl0
            have hrow:=hM.rows i q hq
            obtain⟨qf,qe,qt,ql⟩:=q
            dsimp only at et el hqc
            subst et;subst el
            have hee:qe=e:=X8 hqc.2
            subst hee
            unfold bV at hrow
            rw[YQ (by simp[hqc.1])] at hrow
            obtain⟨us,hown,hl,ho'⟩:=hrow
            rw[hvs.1]
            exact⟨us,hown,hl,fun b hb=>⟨i,rfl,ho' b hb⟩⟩
           ·cases hsrc
         ·cases hsrc
        all_goals cases hsrc
       obtain⟨us,hown,hrep,hblk⟩:=src
       obtain⟨v',w',hr,ho',hg',hb'⟩:=II (P:=X.P) (ty:=o.type) ht hie hz hies hzs hpos hown (sa:=sa) (c:=c) hnl hnc hnr.one hchk.2 hchk.1
       have hrun:(execOp a.eval o).run X.P w= .ok (.value v') w':=by
        simp[execOp,ho,resolve,invoke,builtin,e1,e2,ex,hr]
       unfold Oper.wp
       rw[hrun]
       show ∃ G' ρ',Mod C G' ρ' _ _ (a.put o.dst _)
       rw[hd]
       refine⟨G,_,hM.putRow (w':=w') (blk:=(a.eval xs).ownBlock) (jo:=j) (d:=d) (v:=v') (r:=⟨false,e,ty,l++l'⟩) ⟨hg'.os,hg'.output,hg'.size,hg'.block⟩ hblk ?_ hd2 hc1 rfl (us++news) ?_ (hrep.append hnr) hb'⟩
       ·intro i q hi
        cases j with
        | none=>exact⟨hi,by simp⟩
        | some j=>
         simp only[fk] at hi
         split at hi
         ·cases hi
         ·rename_i hij;exact⟨hi,fun e=>hij (by cases e;rfl)⟩
       ·simpa using ho'
      | [],he | [_],he | _::_::_::_,he=>simp at he
     ·cases h
   ·cases h
  ·cases h
 ·cases h
end Go.Dn
namespace Go.Dn
variable {β:Type} {X:Cx} {o:Oper} {S:St} {r:β} {P0:Program} {C:Fr P0} {G:Gh} {ρ:Env} {w:World}
theorem Mod.setObj {a:Act} {w':World} {j b:Nat} {q:lZ} {st:Nat->Int} (h:Mod C G ρ S w a) (hst:S.aX j=false\/st=ρ.st j) (ho:ρ.own b=some (.ob j)) (hna:∀ t l,j=bf->q= .ar false t l->∃ t l,look S.objs bf=some (.ar false t l)) (hg:Grow ρ w w' (some b)) (hq:jC G ⟨ρ.bx,ρ.rw,ρ.own,ρ.ob,fun i=>if i=j then st else ρ.st i⟩ w' j q):Mod C G ⟨ρ.bx,ρ.rw,ρ.own,ρ.ob,fun i=>if i=j then st else ρ.st i⟩ { S with objs:=(j,q)::S.objs } w' a:=by
 have hc:∀ c:CV,(c.aX j=true->S.aX j=true)->c.dD ρ ⟨ρ.bx,ρ.rw,ρ.own,ρ.ob,fun i=>if i=j then st else ρ.st i⟩:=fun c hc=>
  ⟨fun _ _=>rfl,fun _ _=>rfl,fun _ _=>rfl,fun k hk=>by
    show (if k=j then st else ρ.st k)=ρ.st k
    by_cases e:k=j
    ·subst e
     rcases hst with h1 | h1
     ·rw[hc hk] at h1;cases h1
     ·simp[h1]
    ·simp[e]⟩
 have hsame:S.dD ρ ⟨ρ.bx,ρ.rw,ρ.own,ρ.ob,fun i=>if i=j then st else ρ.st i⟩:=by
  refine⟨fun s hs=> ?_,fun p hp c hc'=>hc c fun hj=> ?_⟩
  ·have key:∀ c,(c.aX j=true->s.aX j=true)->CV.dD ρ _ c:=fun c hc'=>hc c fun hj=>by
    simp only[St.aX,Wf,Wx];exact .inl ⟨s,hs,hc' hj⟩
   cases s with
   | v ag cs=>exact fun c hc'=>key c fun hj=>by simp only[SV.aX,Wx];exact⟨c,hc',hj⟩
   | tup l=>exact fun p hp c hc'=>key c fun hj=>by simp only[SV.aX,Wx];exact⟨p,hp,c,hc',hj⟩
  ·simp only[St.aX,Wf,Wx];exact .inr ⟨p,hp,c,hc',hj⟩
 have hX:=((h.toMem.toX (some (.ob j))).grow hg (fun b' hb'=>by cases hb';exact⟨.ob j,rfl,ho⟩))
 have hX2:=hX.change (G':=G) (ρ':=⟨ρ.bx,ρ.rw,ρ.own,ρ.ob,fun i=>if i=j then st else ρ.st i⟩) (Gh.le_refl G) rfl hX.agr hX.old (fun _ _=>rfl) (fun _ _=>⟨rfl,rfl⟩) hsame.boxes hX.owned
  (fun _ _ _ _=>⟨rfl,id⟩) (fun _ _ _ _=>⟨rfl,fun _=>id⟩) (fun i r hi hne=>⟨rfl,by
    have:¬ i=j:=fun e=>hne (by rw[e])
    simp[this],fun _=>id⟩)
 have hX3:=hX2.state (S':={ S with objs:=(j,q)::S.objs }) (fun k cs hk _=>hk) (fun i r hi _=>hi) (fun i c hi hne=>by
  have:¬ j=i:=fun e=>hne (by rw[e])
  simpa [aj,this] using hi) (fun t l hl=>by
  simp only[aj] at hl
  split at hl
  ·rename_i e;cases hl;exact hna t l e rfl
  ·exact⟨t,l,hl⟩)
 have hM:=hX3.toMem (fun k cs hk e=>by cases e) (fun k cs hk e=>by cases e) (fun i c hi e=>by
  cases e
  simp only[aj,YS,Option.some.injEq] at hi
  subst hi
  exact hq)
 have hT:dZ G _ S a:=h.tmps.congr (Gh.le_refl G) hsame
 exact { hM with tmps:=hT,defers:=h.defers }
theorem Grow.setObj {w:World} {b:Nat} {q:Obj}:Grow ρ w { w with heap:=w.heap.setIfInBounds b q } (some b):=
 ⟨rfl,rfl,by simp,fun i _ hi=>by
   have:b≠i:=fun e=>hi (by rw[e])
   simp[VT this]⟩
theorem aE.setAt {α γ:Type} {R:α->γ->Prop} {l:List α} {r:List γ} (h:aE R l r) {x:α} {y:γ} (hxy:R x y) (n:Nat):aE R (l.set n x) (r.set n y):=h.set hxy n
theorem L8 {P:Program} {t kt et:TypeId} {kk vv:Ty} {key:kk.den} {y:vv.den} {l:List (kk.den×vv.den)} {kv xv:Value} {b:Nat} {es:Array MapEntry} {clock:Nat} (ht:P.underlying t=some (.map kt et)) (hchk:ef P kt kk=true) (hk:bC G kk key kv) (hx:bC G vv y xv) (hb:w.heap[b]? =some (.map es clock)) (hl:aE (rU G kk vv) l es.toList) (h1:∀ (i:Nat) (e:MapEntry),es.toList[i]? =some e->e.born<clock) (h2:es.toList.Pairwise (fun a b=>a.born<b.born)): ∃ es' clock',(Instr.mapUpdate t (.map (some b)) kv xv).run P w= .ok () { w with heap:=w.heap.setIfInBounds b (.map es' clock') }/\aE (rU G kk vv) (ua l key y) es'.toList/\ (∀ (i:Nat) (e:MapEntry),es'.toList[i]? =some e->e.born<clock')/\es'.toList.Pairwise (fun a b=>a.born<b.born):=by
 obtain⟨fr,hf1,hf2⟩:=HY (w:=w) hchk hk hl
 have hs:=hf2.set y
 cases hf2 with
 | no hn=>
  simp only at hs
  refine⟨es.push { key:=kv,val:=xv,born:=clock },clock+1, ?_, ?_, ?_, ?_⟩
  ·simp[Instr.mapUpdate,run_underlying ht,wN hb,uJ hchk hk,hf1,IQ _ hb]
  ·rw[hs,Array.toList_push]
   exact hl.append ⟨_,_,rfl,⟨hk,hx⟩,rfl⟩
  ·intro i e hi
   rw[Array.toList_push,WT] at hi
   split at hi
   ·have:=h1 i e hi;omega
   ·simp only[List.getElem?_singleton] at hi
    split at hi
    ·cases hi;simp
    ·cases hi
  ·rw[Array.toList_push,XQ]
   refine⟨h2,by simp,fun a ha b' hb'=> ?_⟩
   rcases XL.1 hb' with rfl
   obtain⟨i,hi⟩:=XF.1 ha
   exact h1 i a hi
 | yes i p e hp he hbq hne=>
  simp only at hs
  obtain⟨e',he',hr⟩:=hl.get hp
  rw[he] at he'
  cases he'
  have hkey:e.key=kv:=by
   have:=RX hchk hbq
   subst this
   exact Ph hchk hr.1 hk
  have hilt:i<es.size:=by
   have:=(Xa.1 he).1
   simpa using this
  have hgi:es[i]? =some e:=by simpa using he
  have hmod:(es.modify i fun e=>{ e with key:=kv,val:=xv }).toList=es.toList.set i { e with key:=kv,val:=xv }:=by
   apply WM
   intro n
   rw[Array.getElem?_toList,Array.getElem?_modify,Xd]
   simp only[Array.getElem?_toList]
   by_cases en:i=n
   ·subst en
    have:es[i]=e:=by simpa [hilt] using hgi
    simp[hilt,this]
   ·simp[en]
  refine⟨es.modify i fun e=>{ e with key:=kv,val:=xv },clock, ?_, ?_, ?_, ?_⟩
  ·have hkt:(Instr.keyThatStays (((es[i]?).map (·.key)).getD kv) kv).run P w= .ok kv w:=by
    simp[Instr.keyThatStays,hgi,hkey,sameBits_self hchk hk]
   simp only[Instr.mapUpdate,Sem.run_bind,run_underlying ht,Result.andThen_ok,wN hb,uJ hchk hk,hf1,hkt,IQ _ hb]
  ·rw[hs,hmod]
   exact hl.setAt ⟨hk,hx⟩ i
  ·intro n e' hn
   rw[hmod,Xd] at hn
   split at hn
   ·split at hn
    ·cases hn;exact h1 i e he
    ·cases hn
   ·exact h1 n e' hn
  ·rw[hmod]
   clear hs hmod hgi hkey
   rw[List.pairwise_iff_getElem] at h2 ⊢
   intro m n hm hn hmn
   simp only[Xs] at hm hn
   have hei:es.toList[i]'(by simpa using hilt)=e:=(Xa.1 he).2
   have:=h2 m n hm hn hmn
   rw[List.getElem_set,List.getElem_set]
   by_cases e1:i=m
   ·subst e1
    rw[YR rfl,YQ (by omega)]
    rw[hei] at this;exact this
   ·rw[YQ e1]
    by_cases e2:i=n
    ·subst e2
     rw[YR rfl]
     rw[hei] at this;exact this
    ·rw[YQ e2];exact this
theorem Pk {t kt et:TypeId} {m kx x:Operand} {j:Nat} {kk vv:Ty} {l:List (kk.den×vv.den)} {key:kk.den} {y:vv.den} (ho:o.op= .mapUpdate t m kx x) (hd:o.dst=none) (ht:X.P.underlying t=some (.map kt et)) (hm:S.ev m= .v false [.mp j]) (hj:look S.objs j=some (.map kk vv l)) (hk:fM S [] kk (S.ev kx)=some key) (hx:fM S [] vv (S.ev x)=some y) (hchk:ef X.P kt kk=true) (hst:S.aX j=false):dB X.P o S { S with objs:=(j,.map kk vv (ua l key y))::S.objs }:=by
 intro C G ρ w a Q hM
 have h1:=aR (hM.tmps.ev m) hm
 obtain⟨b,es,clock,h2,h3,h4,h5,h6,h7⟩:=hM.objs j _ hj
 have hkv:=iK hM.frozen (iP.nil _ _ _) hk (hM.tmps.ev kx)
 have hxv:=iK hM.frozen (iP.nil _ _ _) hx (hM.tmps.ev x)
 obtain⟨es',clock',hrun,g1,g2,g3⟩:=L8 (w:=w) ht hchk hkv hxv h4 h5 (fun i e hi=>(h6 i e hi).2) h7
 unfold Oper.wp
 simp only[execOp,ho,show a.eval m= .map (some b) from h1.1.trans h2,Sem.run_bind,hrun,Result.andThen_ok,Sem.run_pure]
 simp only[Oper.upon,hd,Act.put]
 refine⟨G,_,hM.setObj (j:=j) (b:=b) (st:=fun i=>((es'.toList[i]?).map fun e=>(e.born:Int)).getD 0) (.inl hst) h3 (fun t l _ e=>by cases e) Grow.setObj ?_⟩
 refine⟨b,es',clock',h2,h3, ?_,g1,fun i e hi=>⟨?_,g2 i e hi⟩,g3⟩
 ·rw[VU (aG h4)]
 ·simp only[YS,hi,Yy,Yu]
theorem SQ {t:TypeId} {x y:Operand} {h0 off:Nat} {ag:Bool} {cs:List CV} {k:St->Option β} (ho:o.op= .store t x y) (hd:o.dst=none) (hx:S.ev x= .v false [.hnd (some h0) off]) (hy:S.ev y= .v ag cs) (h:w8 X.P t S h0 off cs k=some r): ∃ S',k S'=some r/\dB X.P o S S':=by
 unfold w8 at h
 split at h
 ·rename_i ty l hl
  split at h
  ·cases h
  ·rename_i hc
   simp only[Wf,YV,Wa,V8] at hc
   obtain⟨⟨hok,hlen⟩,hcv⟩:=hc
   have hlen':=X8 hlen
   obtain⟨y0,hy0,h⟩:=bind_some h
   split at h
   ·rename_i cs' hset
    obtain⟨hle,hcs'⟩:=wS hset
    split at h
    ·rename_i y' hp
     refine⟨_,h,fun C G ρ w a Q hM=> ?_⟩
     have hvx:=aR (hM.tmps.ev x) hx
     have hvy:=hM.tmps.ev y
     rw[hy] at hvy
     obtain⟨us,eu,hus,h1⟩:=tO hvy hcv
     obtain⟨hj,hA⟩:=hM.objs bf _ hl
     obtain⟨b,vs,T,g1,g2,g3,g4,g5⟩:=hA.2.2 h0 y0 hy0
     obtain⟨b',hb',e2⟩:=hvx
     rw[g1] at hb'
     cases hb'
     have hae:=dW ρ g5
     have hlu:=hus.len
     have hla:=hae.len
     have hnew:aE (aN G ρ) cs' (vs.take off++us++vs.drop (off+us.length)):=by
      rw[hcs'];exact hae.splice hus
     have hrep:=GN hM.toMem.frozen hp hnew
     have hrun:=xT (P:=X.P) hok (off:=off) (v:=a.eval y) g4 eu (by omega) (by simp;omega) h1
     unfold Oper.wp
     simp only[execOp,ho,e2,Sem.run_bind,hrun,Result.andThen_ok,Sem.run_pure]
     simp only[Oper.upon,hd,Act.put]
     have hlt:=(Xa.1 hy0).1
     refine⟨G,_,hM.setObj (j:=bf) (b:=b) (st:=ρ.st bf) (.inr rfl) (g3 rfl) (fun t l _ _=>⟨_,_,hl⟩) Grow.setRow ⟨rfl,fun i b' hb'=>by simpa using hA.1 i b' hb',hA.2.1,fun i z hz=> ?_⟩⟩
     rw[Xd] at hz
     split at hz
     ·rename_i ei
      subst ei
      simp only[Option.some.injEq] at hz
      subst hz
      exact⟨b,_,T,g1,nofun,fun _=>g3 rfl,setRow_heap w b _ _ T _ g4,hrep⟩
     ·rename_i ei
      obtain⟨b2,vs2,T2,f1,f2,f3,f4,f5⟩:=hA.2.2 i z hz
      have hbne:b2≠b:=fun e=>ei (hA.2.1 h0 i b g1 (by rw[<- e];exact f1))
      exact⟨b2,vs2,T2,f1,nofun,fun _=>f3 rfl,(setRow_other w b b2 _ hbne).trans f4,f5⟩
    ·cases h
   ·cases h
 ·cases h
theorem GX {G G':Gh} {ρ ρ':Env} {k h:Nat} (hG:G.le G') (hh:G'.hnd h=some (ρ.bx k)) (h1:ρ'.bx=ρ.bx) (h2:ρ'.rw=ρ.rw) (h3:ρ'.ob=ρ.ob) (h4:ρ'.st=ρ.st) {c:CV} {v:Value} (hv:aN G ρ c v):aN G' ρ' (c.qN k h) v:=by
 have same:aN G' ρ' c v:=aN.congr hG (zW h1 h2 h3 h4 c) hv
 cases c with
 | ref j o=>
  simp only[CV.qN]
  cases hb:Nat.beq j k with
  | true=>
   have:=X8 hb
   subst this
   exact⟨ρ.bx j,hh,hv⟩
  | false=>exact same
 | _=>exact same
theorem aE.BD {α γ δ:Type} {R:α->γ->Prop} {R':δ->γ->Prop} (f:α->δ) (h:∀ x y,R x y->R' (f x) y):∀ {l:List α} {r:List γ},aE R l r->aE R' (l.map f) r
 | [],_,hh=>hh
 | _::_,_,⟨y,s,e,hx,hl⟩=>⟨y,s,e,h _ _ hx,hl.BD f h⟩
theorem Ol {G G':Gh} {ρ ρ':Env} {k h:Nat} (hG:G.le G') (hh:G'.hnd h=some (ρ.bx k)) (h1:ρ'.bx=ρ.bx) (h2:ρ'.rw=ρ.rw) (h3:ρ'.ob=ρ.ob) (h4:ρ'.st=ρ.st) {s:SV} {v:Value} (hv:aU G ρ s v):aU G' ρ' (s.qN k h) v:=by
 have xv:∀ (a:Bool) (cs:List CV) (v:Value),iy G ρ a cs v->iy G' ρ' a (cs.map (CV.qN k h)) v:=by
  intro a cs v hx
  cases a with
  | true=>obtain⟨vs,e,hl⟩:=hx;exact⟨vs,e,hl.BD (CV.qN k h) fun c y hc=>GX hG hh h1 h2 h3 h4 hc⟩
  | false=>
   match cs,hx with
   | [c],hx=>exact GX hG hh h1 h2 h3 h4 hx
 cases s with
 | v a cs=>exact xv a cs v hv
 | tup l=>
  obtain⟨vs,e,hl⟩:=hv
  exact⟨vs,e,hl.BD (fun p:Bool×List CV=>(p.1,p.2.map (CV.qN k h))) fun p y hp=>xv p.1 p.2 y hp⟩
theorem K4 {α γ:Type} (f:α->γ):∀ (l:List (Nat×α)) (k:Nat),look (l.map fun p=>(p.1,f p.2)) k=(look l k).map f
 | [],k=>rfl
 | (j,x)::l,k=>by
  rw[Xw,aj,aj,K4 f l k]
  split<;>rfl
theorem Mod.wY {a:Act} (h:Mod C G ρ S w a) (k:Nat):∃ G' ρ',Mod C G' ρ' (wY S k) w a:=by
 unfold Dn.wY
 split
 ·rename_i t l cs har hbx
  simp only
  split
  ·exact⟨G,ρ,h⟩
  ·rename_i hcond
   simp only[Wf,YV,Wa,V8] at hcond
   split
   ·rename_i x hp
    obtain⟨G1,ρ1,hfz,hM⟩:=h.freeze (eM cs)
    generalize hS1:aC S (eM cs)=S1 at hM hp hcond
    have har1:look S1.objs bf=some (.ar false t l):=by rw[<- hS1];exact har
    have hbx1:look S1.boxes k=some cs:=by rw[<- hS1];exact hbx
    obtain⟨hown,vs,T,hw,hvs⟩:=hM.boxes k cs hbx1
    obtain⟨_,hA⟩:=hM.objs bf _ har1
    let G2:Gh:=⟨G1.blk,fun i=>if i=l.length then some (ρ1.bx k) else G1.hnd i⟩
    let ρ2:Env:=⟨ρ1.bx,ρ1.rw,fun b=>if b=ρ1.bx k then some (.ob bf) else ρ1.own b,ρ1.ob,ρ1.st⟩
    have hle:G1.le G2:=⟨fun _ _ hb=>hb,fun i b hb=>by
     have:=hA.1 i b hb
     show (if i=l.length then _ else _)=_
     rw[YQ (by omega)];exact hb⟩
    have hh2:G2.hnd l.length=some (ρ1.bx k):=by simp[G2]
    have hkeep:∀ b o,ρ1.own b=some o->o≠ .inl k->ρ2.own b=some o:=fun b o hb hne=>by
     have:b≠ρ1.bx k:=fun e=>by rw[e,hown] at hb;cases hb;exact hne rfl
     simp only[ρ2,YQ this];exact hb
    refine⟨G2,ρ2,{ agr:=hM.agr,le0:=Gh.le_trans hM.le0 hle,old:=hM.old,frame:=hM.frame,size:=hM.size,os:=hM.os,output:=hM.output,pin:=hM.pin,pinR:=hM.pinR,owned:= ?_,boxes:= ?_,rows:= ?_,objs:= ?_,hndI:=fun hn=>absurd har1 ((hM.hndI hn).2 t l),tmps:= ?_,defers:=hM.defers }⟩
    ·intro b o ho
     by_cases e:b=ρ1.bx k
     ·rw[e];exact hM.owned _ _ hown
     ·simp only[ρ2,YQ e] at ho;exact hM.owned b o ho
    ·intro k' cs' hk'
     rw[K4,fk] at hk'
     split at hk'
     ·cases hk'
     ·rename_i hne
      cases hl':look S1.boxes k' with
      | none=>rw[hl'] at hk';cases hk'
      | some c0=>
       rw[hl'] at hk'
       simp only[Yy,Option.some.injEq] at hk'
       subst hk'
       obtain⟨o1,vs1,T1,w1,v1⟩:=hM.boxes k' c0 hl'
       exact⟨hkeep _ _ o1 (by simp;exact hne),vs1,T1,w1,v1.BD (CV.qN k l.length) fun c y hc=>GX (ρ:=ρ1) (ρ':=ρ2) hle hh2 rfl rfl rfl rfl hc⟩
    ·intro j q hj
     exact bV.congr (ρ:=ρ1) (ρ':=ρ2) hle rfl (fun b hb=>hkeep b _ hb (by simp)) (hM.rows j q hj)
    ·intro j q hj
     simp only[aj] at hj
     split at hj
     ·rename_i ej
      subst ej
      cases hj
      refine⟨rfl,fun i b hb=> ?_,fun i i' b hb hb'=> ?_,fun i z hz=> ?_⟩
      ·simp only[G2] at hb
       split at hb
       ·rename_i ei;subst ei;simp
       ·have:=hA.1 i b hb;simp;omega
      ·have old:∀ i b,G1.hnd i=some b->b≠ρ1.bx k:=fun i b hb e=>by
        have hlt:=hA.1 i b hb
        obtain⟨b',vs',T',f1,f2,f3,_⟩:=hA.2.2 i l[i] (WZ hlt)
        rw[hb] at f1
        cases f1
        have:=f3 rfl
        rw[e,hown] at this;cases this
       simp only[G2] at hb hb'
       split at hb
       ·rename_i e1
        split at hb'
        ·rename_i e2;omega
        ·cases hb;exact absurd rfl (old i' _ hb')
       ·split at hb'
        ·cases hb';exact absurd rfl (old i _ hb)
        ·exact hA.2.1 i i' b hb hb'
      ·rw[WT] at hz
       split at hz
       ·rename_i hlt
        obtain⟨b,vs',T',f1,f2,f3,f4,f5⟩:=hA.2.2 i z hz
        exact⟨b,vs',T',hle.hnd i b f1,nofun,fun _=>hkeep b _ (f3 rfl) (by simp),f4,ax.mono hle t z _ f5⟩
       ·rename_i hge
        simp only[List.getElem?_singleton] at hz
        split at hz
        ·rename_i ei
         cases hz
         have:i=l.length:=by omega
         subst this
         exact⟨ρ1.bx k,vs,T,hh2,nofun,fun _=>by simp[ρ2],hw,ax.mono hle t x _ (GN hM.toMem.frozen hp hvs)⟩
        ·cases hz
     ·rename_i hne
      have hq:=hM.objs j q hj
      cases q with
      | map kk vv ll=>
       obtain⟨b,es,clock,h1,h2,h3,h4,h5,h6⟩:=hq
       exact⟨b,es,clock,h1,hkeep b _ h2 (by simp),h3,h4.mono fun x y hxy=>hxy.mono hle,h5,h6⟩
      | ar fz t' l'=>exact absurd hq.1.symm hne
    ·refine⟨by simpa using hM.tmps.1,fun i s hi=> ?_⟩
     simp only[Xb] at hi
     cases hs:S1.tmps[i]? with
     | none=>rw[hs] at hi;cases hi
     | some s0=>
      rw[hs] at hi
      simp only[Yy,Option.some.injEq] at hi
      subst hi
      exact Ol (ρ:=ρ1) (ρ':=ρ2) hle hh2 rfl rfl rfl rfl (hM.tmps.2 i s0 hs)
   ·exact⟨G,ρ,h⟩
 ·exact⟨G,ρ,h⟩
theorem Mod.Pz {a:Act}:∀ (ks:List Nat) {G:Gh} {ρ:Env} {S:St},Mod C G ρ S w a->∃ G' ρ',Mod C G' ρ' (ks.foldl Dn.wY S) w a
 | [],G,ρ,S,h=>⟨G,ρ,h⟩
 | k::ks,G,ρ,S,h=>by
  obtain⟨G1,ρ1,h1⟩:=h.wY k
  exact Mod.Pz ks h1
theorem Mod.fU {a:Act}:∀ (l:List SV) {G:Gh} {ρ:Env} {S:St},Mod C G ρ S w a->∃ G' ρ',Mod C G' ρ' (Dn.fU S l) w a
 | [],G,ρ,S,h=>⟨G,ρ,h⟩
 | .v _ cs::r,G,ρ,S,h=>by
  obtain⟨G1,ρ1,h1⟩:=Mod.Pz (SG cs) h
  exact Mod.fU r h1
 | .tup _::r,G,ρ,S,h=>Mod.fU r h
theorem dB.intern {P:Program} {S':St} (l:List SV) (h:dB P o (fU S l) S'):dB P o S S':=fun C G ρ w a Q hM=>by
 obtain⟨G1,ρ1,hM1⟩:=Mod.fU l hM
 exact h C G1 ρ1 w a Q hM1
end Go.Dn
