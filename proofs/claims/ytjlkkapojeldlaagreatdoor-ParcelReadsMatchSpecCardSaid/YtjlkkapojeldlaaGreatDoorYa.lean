/-
  An executor of Go code on plain data, proved sound against the model: values, states, operations. No condition.
-/
import Derived.Laws.AppendOwn
import Derived.Orders
import Derived.Below
import Derived.KernelRfl
import Derived.StillTail
import Derived.Laws.Cells
import Derived.Laws.Strings
import Derived.Laws.BytesString
import Derived.Great.BuildSlice
import Derived.Laws.StructEq
set_option linter.all false
namespace Go.Dn
abbrev T0:= @List.any_eq_false
abbrev T3:= @List.any_eq_true
abbrev T4:= @List.append_assoc
abbrev T6:= @List.append_nil
abbrev T7:= @List.cons_append
abbrev T8:= @List.cons_ne_nil
abbrev T9:= @List.countP_eq_zero
abbrev TA:= @Bool.false_eq_true
abbrev TB:= @Bool.false_ne_true
abbrev TC:= @Bool.false_or
abbrev TD:= @Bool.not_eq_false'
abbrev TE:= @Bool.not_eq_true
abbrev TF:= @Bool.not_eq_true'
abbrev TG:= @Bool.not_false
abbrev TH:= @Bool.not_true
abbrev TI:= @Bool.or_eq_false_iff
abbrev TJ:= @Bool.or_eq_true
abbrev TK:= @Bool.true_and
abbrev TL:= @Int.fdiv_eq_ediv_of_nonneg
abbrev TM:= @Int.mul_add
abbrev TN:= @Int.mul_assoc
abbrev TO:= @Int.mul_le_mul_of_nonneg_left
abbrev TP:= @Int.mul_nonneg
abbrev TQ:= @Int.mul_one
abbrev TR:= @Int.natAbs_natCast
abbrev TS:= @Int.pow_add
abbrev TT:= @Int.pow_succ
abbrev TU:= @Int.tdiv_eq_ediv_of_nonneg
abbrev TV:= @Int.tmod_eq_emod_of_nonneg
abbrev TW:= @Int.toNat_natCast
abbrev TX:= @List.all_cons
abbrev TY:= @List.all_eq_false
abbrev TZ:= @List.all_eq_true
abbrev Ti:= @Array.getD_eq_getD_getElem?
abbrev Tj:= @Array.getElem?_eq_getElem
abbrev Tk:= @Array.getElem?_eq_none
abbrev Tl:= @Array.getElem?_eq_some_iff
abbrev Tm:= @Array.getElem?_push_size
abbrev Tn:= @Array.getElem?_replicate
abbrev To:= @Array.getElem?_setIfInBounds_ne
abbrev Tp:= @Array.getElem?_setIfInBounds_self_of_lt
abbrev Tq:= @Array.mem_toList_iff
abbrev Tr:= @Array.size_push
abbrev Tt:= @Array.toArray_toList
abbrev Tu:= @Bool.and_eq_true
abbrev Tv:= @Bool.and_false
abbrev Tw:= @Bool.and_self
abbrev Tx:= @Bool.and_true
abbrev Tz:= @Bool.false_and
abbrev U0:= @List.mem_filterMap
abbrev U1:= @List.mem_iff_getElem?
abbrev U2:= @List.mem_map
abbrev U3:= @List.mem_of_getElem?
abbrev U4:= @List.mem_or_eq_of_mem_set
abbrev U5:= @List.mem_range
abbrev U6:= @List.mem_singleton
abbrev U7:= @List.nodup_append
abbrev U8:= @List.nodup_cons
abbrev U9:= @List.pairwise_append
abbrev UA:= @List.getElem?_range
abbrev UB:= @List.getElem?_set
abbrev UC:= @List.getElem?_set_ne
abbrev UD:= @List.getElem?_set_self
abbrev UE:= @List.getElem?_take
abbrev UF:= @List.getElem?_take_of_lt
abbrev UG:= @List.getElem?_toArray
abbrev UH:= @List.getElem_mem
abbrev UI:= @List.head?_cons
abbrev UJ:= @List.length_append
abbrev UK:= @List.length_cons
abbrev UL:= @List.length_eq_zero_iff
abbrev UM:= @List.length_map
abbrev UN:= @List.length_nil
abbrev UO:= @List.length_replicate
abbrev UP:= @List.length_set
abbrev UQ:= @List.length_singleton
abbrev UR:= @List.length_take
abbrev US:= @List.map_append
abbrev UT:= @List.map_congr_left
abbrev UU:= @List.map_cons
abbrev UW:= @List.mem_append
abbrev UX:= @List.mem_cons
abbrev UY:= @List.mem_cons_of_mem
abbrev UZ:= @List.mem_filter
abbrev Ua:= @List.countP_pos_iff
abbrev Ub:= @List.drop_drop
abbrev Uc:= @List.drop_eq_getElem_cons
abbrev Ud:= @List.drop_left
abbrev Ue:= @List.drop_of_length_le
abbrev Uf:= @List.drop_zero
abbrev Ug:= @List.eq_nil_iff_forall_not_mem
abbrev Uh:= @List.eq_nil_of_length_eq_zero
abbrev Ui:= @List.ext_getElem?
abbrev Uj:= @List.filterMap_append
abbrev Uk:= @List.flatMap_append
abbrev Ul:= @List.flatMap_cons
abbrev Um:= @List.foldl_cons
abbrev Un:= @List.getD_cons_succ
abbrev Uo:= @List.getD_cons_zero
abbrev Up:= @List.getD_eq_getElem?_getD
abbrev Uq:= @List.getElem?_append
abbrev Ur:= @List.getElem?_append_left
abbrev Us:= @List.getElem?_append_right
abbrev Ut:= @List.getElem?_cons_succ
abbrev Uu:= @List.getElem?_cons_zero
abbrev Uv:= @List.getElem?_drop
abbrev Uw:= @List.getElem?_eq_getElem
abbrev Ux:= @List.getElem?_eq_none
abbrev Uy:= @List.getElem?_eq_some_iff
abbrev Uz:= @List.getElem?_map
abbrev V0:= @decide_eq_true_eq
abbrev V1:= @decide_false
abbrev V2:= @decide_true
abbrev V3:= @false_and
abbrev V4:= @false_or
abbrev V5:= @if_false
abbrev V6:= @if_neg
abbrev V7:= @if_pos
abbrev V8:= @if_true
abbrev V9:= @not_and
abbrev VA:= @Nat.lt_succ_self
abbrev VB:= @Nat.lt_trichotomy
abbrev VC:= @Nat.min_eq_left
abbrev VD:= @Nat.mul_le_mul_right
abbrev VE:= @Nat.mul_one
abbrev VF:= @Nat.not_lt_zero
abbrev VG:= @Nat.pow_le_pow_right
abbrev VH:= @Nat.zero_add
abbrev VI:= @Nat.zero_le
abbrev VJ:= @Option.bind_some
abbrev VK:= @Option.getD_some
abbrev VL:= @Option.isNone_iff_eq_none
abbrev VM:= @Option.isSome_iff_exists
abbrev VN:= @Option.map_map
abbrev VO:= @Option.map_some
abbrev VP:= @UInt8.not_lt
abbrev VQ:= @UInt8.toNat_inj
abbrev VR:= @beq_eq_false_iff_ne
abbrev VS:= @beq_false_of_ne
abbrev VT:= @beq_self_eq_true
abbrev VU:= @bne_self_eq_false
abbrev VV:= @cond_false
abbrev VW:= @cond_true
abbrev VX:= @decide_eq_decide
abbrev VY:= @decide_eq_false
abbrev VZ:= @decide_eq_true
abbrev Va:= @List.replicate_succ
abbrev Vb:= @List.setIfInBounds_toArray
abbrev Vc:= @List.set_cons_succ
abbrev Vd:= @List.set_cons_zero
abbrev Ve:= @List.size_toArray
abbrev Vf:= @List.take_append_drop
abbrev Vg:= @List.take_left
abbrev Vh:= @List.take_of_length_le
abbrev Vi:= @List.take_succ_cons
abbrev Vj:= @List.take_take
abbrev Vk:= @List.take_zero
abbrev Vl:= @Nat.add_assoc
abbrev Vm:= @Nat.add_mul
abbrev Vn:= @Nat.add_zero
abbrev Vo:= @Nat.beq_refl
abbrev Vp:= @Nat.div_lt_self
abbrev Vq:= @Nat.eq_of_beq_eq_true
abbrev Vr:= @Nat.eq_zero_or_pos
abbrev Vs:= @Nat.le_of_ble_eq_true
abbrev Vt:= @Nat.le_of_lt
abbrev Vu:= @Nat.le_refl
abbrev Vv:= @Nat.le_trans
abbrev Vw:= @Nat.lt_of_lt_of_le
abbrev Vx:= @Nat.lt_or_ge
abbrev Vy:= @Nat.lt_or_gt_of_ne
abbrev Vz:= @Nat.lt_succ_iff_lt_or_eq
abbrev Wa:= @not_exists
abbrev Wb:= @not_or
abbrev Wc:= @of_decide_eq_true
inductive Ty where
 | int (k:IntKind)
 | bool
 | str
 | unit
 | pair (a b:Ty)
 | st (t:Ty)
 | slice (t:Ty)
 | ptr (t:Ty)
 | clo (g:Nat) (t:Ty)
 | hnd
 deriving DecidableEq
def Ty.den:Ty->Type
 | .int _=>Int
 | .bool=>Bool
 | .str=>List UInt8
 | .unit=>Unit
 | .pair a b=>a.den×b.den
 | .st t=>t.den
 | .slice t=>List t.den
 | .ptr t=>t.den
 | .clo _ t=>t.den
 | .hnd=>Option Nat
def Ty.size:Ty->Nat
 | .unit=>0
 | .pair a b=>a.size+b.size
 | .st t=>t.size
 | _=>1
def Ty.flat:Ty->Bool
 | .pair a b=>a.flat&&b.flat
 | .st t=>t.flat
 | .slice _ | .ptr _ | .clo _ _=>false
 | _=>true
def Ty.aN:Ty->Bool
 | .pair a b=>a.aN&&b.aN
 | .st t=>t.aN
 | .slice t=>t.aN
 | .ptr t=>t.aN
 | .clo _ t=>t.aN
 | .hnd=>false
 | _=>true
structure Gh where
 blk:Nat->Option Obj
 hnd:Nat->Option Nat
instance:CoeFun Gh fun _=>Nat->Option Obj:=⟨Gh.blk⟩
structure Gh.le (G G':Gh):Prop where
 blk:∀ b o,G b=some o->G' b=some o
 hnd:∀ h b,G.hnd h=some b->G'.hnd h=some b
instance {G G':Gh}:CoeFun (G.le G') fun _=>∀ b o,G b=some o->G' b=some o:=⟨Gh.le.blk⟩
theorem Gh.le_refl (G:Gh):G.le G:=⟨fun _ _ h=>h,fun _ _ h=>h⟩
theorem Gh.le_trans {A B C:Gh} (h:A.le B) (k:B.le C):A.le C:=⟨fun b o x=>k b o (h b o x),fun b o x=>k.hnd b o (h.hnd b o x)⟩
def bs (l:List UInt8):ByteArray:=⟨l.toArray⟩
def Agr (G:Gh) (w:World):Prop:=∀ b o,G b=some o->w.heap[b]? =some o
def bE {α:Type} (R:α->List Value->Prop):List α->List Value->Prop
 | [],cs=>cs=[]
 | x::l,cs=>∃ c r,cs=c++r/\R x c/\bE R l r
def bZ {α:Type} (G:Gh) (sz:Nat) (R:α->List Value->Prop) (l:List α) (v:Value):Prop:=
 ∃ a cap,v= .slice a l.length cap/\l.length<=cap/\cap<=maxLen/\
  (l=[]\/∃ b off c T fz,a=some ⟨b,off,none⟩/\G b=some (.cells c T fz)/\off+l.length*sz<=c.size/\
    bE R l ((c.toList.drop off).take (l.length*sz)))
def ay (G:Gh):(t:Ty)->t.den->List Value->Prop
 | .int k,n,cs=>cs=[.int k n]
 | .bool,b,cs=>cs=[.bool b]
 | .str,s,cs=>cs=[.string (bs s)]
 | .unit,_,cs=>cs=[]
 | .pair a b,(x,y),cs=>∃ c r,cs=c++r/\ay G a x c/\ay G b y r
 | .st t,x,cs=>ay G t x cs
 | .slice t,l,cs=>∃ v,cs=[v]/\bZ G t.size (ay G t) l v
 | .ptr t,x,cs=>∃ b off c T fz,cs=[.pointer (some ⟨b,off,none⟩)]/\G b=some (.cells c T fz)/\off+t.size<=c.size/\
  ay G t x ((c.toList.drop off).take t.size)
 | .clo g t,x,cs=>∃ caps:List Value,cs=[.func (.func g) #[] caps.toArray]/\ay G t x caps
 | .hnd,none,cs=>cs=[.pointer none]
 | .hnd,some h,cs=>∃ b,G.hnd h=some b/\cs=[.pointer (some ⟨b,0,none⟩)]
theorem bE.mono {α:Type} {R R':α->List Value->Prop} (h:∀ x cs,R x cs->R' x cs):∀ {l:List α} {cs:List Value},bE R l cs->bE R' l cs
 | [],_,hh=>hh
 | _::_,_,⟨c,r,e,hx,hl⟩=>⟨c,r,e,h _ _ hx,bE.mono h hl⟩
theorem ay.mono {G G':Gh} (hG:G.le G'):∀ (t:Ty) (x:t.den) (cs:List Value),ay G t x cs->ay G' t x cs
 | .int _,_,_,h=>h
 | .bool,_,_,h=>h
 | .str,_,_,h=>h
 | .unit,_,_,h=>h
 | .pair a b,(x,y),_,⟨c,r,e,hx,hy⟩=>⟨c,r,e,ay.mono hG a x c hx,ay.mono hG b y r hy⟩
 | .st t,x,cs,h=>ay.mono hG t x cs h
 | .slice t,_,_,⟨v,e,a,cap,hv,h1,h2,h3⟩=>⟨v,e,a,cap,hv,h1,h2,h3.imp id fun ⟨b,off,c,T,fz,ha,hb,hs,hl⟩=>
  ⟨b,off,c,T,fz,ha,hG _ _ hb,hs,hl.mono (ay.mono hG t)⟩⟩
 | .ptr t,x,_,⟨b,off,c,T,fz,e,hb,hs,hl⟩=>⟨b,off,c,T,fz,e,hG _ _ hb,hs,ay.mono hG t x _ hl⟩
 | .clo _ t,x,_,⟨caps,e,h⟩=>⟨caps,e,ay.mono hG t x _ h⟩
 | .hnd,none,_,h=>h
 | .hnd,some _,_,⟨b,hb,e⟩=>⟨b,hG.hnd _ _ hb,e⟩
theorem bZ.mono {G G':Gh} (hG:G.le G') {t:Ty} {l:List t.den} {v:Value} (h:bZ G t.size (ay G t) l v):bZ G' t.size (ay G' t) l v:=by
 obtain⟨a,cap,hv,h1,h2,h3⟩:=h
 exact⟨a,cap,hv,h1,h2,h3.imp id fun ⟨b,off,c,T,fz,ha,hb,hs,hl⟩=>⟨b,off,c,T,fz,ha,hG _ _ hb,hs,hl.mono (ay.mono hG t)⟩⟩
theorem ay.len {G:Gh}:∀ {t:Ty} {x:t.den} {cs:List Value},ay G t x cs->cs.length=t.size
 | .int _,_,_,h=>by cases h;rfl
 | .bool,_,_,h=>by cases h;rfl
 | .str,_,_,h=>by cases h;rfl
 | .unit,_,_,h=>by cases h;rfl
 | .pair a b,(x,y),_,⟨c,r,e,hx,hy⟩=>by
  subst e;rw[UJ,hx.len,hy.len];rfl
 | .st t,x,cs,h=>ay.len (t:=t) (x:=x) h
 | .slice t,_,_,⟨v,e,_⟩=>by subst e;rfl
 | .ptr t,x,_,⟨b,off,c,T,fz,e,_⟩=>by subst e;rfl
 | .clo _ t,x,_,⟨caps,e,h⟩=>by subst e;rfl
 | .hnd,none,_,h=>by cases h;rfl
 | .hnd,some _,_,⟨b,hb,e⟩=>by subst e;rfl
theorem bE.len {α:Type} {R:α->List Value->Prop} {n:Nat} (h:∀ x cs,R x cs->cs.length=n):∀ {l:List α} {cs:List Value},bE R l cs->cs.length=l.length*n
 | [],_,hh=>by cases hh;simp
 | _::l,_,⟨c,r,e,hx,hl⟩=>by
  subst e
  rw[UJ,h _ _ hx,hl.len h,UK,Vm]
  omega
theorem bE.append {α:Type} {R:α->List Value->Prop}:∀ {l l':List α} {cs cs':List Value},bE R l cs->bE R l' cs'->bE R (l++l') (cs++cs')
 | [],_,_,_,hh,h'=>by cases hh;simpa using h'
 | x::l,_,_,_,⟨c,r,e,hx,hl⟩,h'=>by
  subst e
  exact⟨c,r++_,by simp,hx,hl.append h'⟩
theorem wE {α:Type} (c r:List α) (k:Nat):(c++r).drop (c.length+k)=r.drop k:=by
 rw[List.drop_append,Ue (by omega)];simp
theorem Di {α:Type} (c r:List α) (k:Nat):(c++r).take (c.length+k)=c++r.take k:=by
 rw[List.take_append,Vh (by omega)];simp
theorem bE.get {α:Type} {R:α->List Value->Prop} {n:Nat} (h:∀ x cs,R x cs->cs.length=n):∀ {l:List α} {cs:List Value},bE R l cs->∀ {i:Nat} {x:α},l[i]? =some x->R x ((cs.drop (i*n)).take n)
 | [],_,_,_,_,hi=>by simp at hi
 | y::l,_,⟨c,r,e,hx,hl⟩,0,x,hi=>by
  subst e
  have hc:=h _ _ hx
  have hy:y=x:=by simpa using hi
  subst hy
  simp only[Nat.zero_mul,Uf]
  rw[<- hc,Vg]
  exact hx
 | y::l,_,⟨c,r,e,hx,hl⟩,i+1,x,hi=>by
  subst e
  have hc:=h _ _ hx
  have:=hl.get h (i:=i) (x:=x) (by simpa using hi)
  rw[show (i+1)*n=c.length+i*n by rw[Vm];omega,wE]
  exact this
theorem bE.take {α:Type} {R:α->List Value->Prop} {n:Nat} (h:∀ x cs,R x cs->cs.length=n):∀ {l:List α} {cs:List Value},bE R l cs->∀ (i:Nat),bE R (l.take i) (cs.take (i*n))
 | l,cs,hl,0=>by simp[bE]
 | [],_,hh,i+1=>by cases hh;simp[bE]
 | y::l,_,⟨c,r,e,hx,hl⟩,i+1=>by
  subst e
  have hc:=h _ _ hx
  refine⟨c,r.take (i*n), ?_,hx,hl.take h i⟩
  rw[show (i+1)*n=c.length+i*n by rw[Vm];omega,Di]
theorem bE.drop {α:Type} {R:α->List Value->Prop} {n:Nat} (h:∀ x cs,R x cs->cs.length=n):∀ {l:List α} {cs:List Value},bE R l cs->∀ (i:Nat),bE R (l.drop i) (cs.drop (i*n))
 | l,cs,hl,0=>by simpa using hl
 | [],_,hh,i+1=>by cases hh;simp[bE]
 | y::l,_,⟨c,r,e,hx,hl⟩,i+1=>by
  subst e
  have hc:=h _ _ hx
  rw[show (i+1)*n=c.length+i*n by rw[Vm];omega,wE]
  exact hl.drop h i
theorem bE.set {α:Type} {R:α->List Value->Prop} {n:Nat} (h:∀ x cs,R x cs->cs.length=n) {y:α} {d:List Value} (hy:R y d):∀ {l:List α} {cs:List Value},bE R l cs->∀ {i:Nat},i<l.length-> bE R (l.set i y) (cs.take (i*n)++d++cs.drop (i*n+n))
 | [],_,_,_,hi=>by simp at hi
 | x::l,_,⟨c,r,e,hx,hl⟩,0,_=>by
  subst e
  have hc:=h _ _ hx
  exact⟨d,r,by simp[<- hc],hy,hl⟩
 | x::l,_,⟨c,r,e,hx,hl⟩,i+1,hi=>by
  subst e
  have hc:=h _ _ hx
  refine⟨c,r.take (i*n)++d++r.drop (i*n+n), ?_,hx,hl.set h hy (by simpa using hi)⟩
  rw[show (i+1)*n=c.length+i*n by rw[Vm];omega,Vl,Di,wE]
  simp
theorem ay.aN {G G':Gh} (hG:∀ b o,G b=some o->G' b=some o):∀ (t:Ty) (x:t.den) (cs:List Value),t.aN=true->ay G t x cs->ay G' t x cs
 | .int _,_,_,_,h=>h
 | .bool,_,_,_,h=>h
 | .str,_,_,_,h=>h
 | .unit,_,_,_,h=>h
 | .pair a b,(x,y),_,hn,⟨c,r,e,hx,hy⟩=>by
  simp only[Ty.aN,Tu] at hn
  exact⟨c,r,e,ay.aN hG a x c hn.1 hx,ay.aN hG b y r hn.2 hy⟩
 | .st t,x,cs,hn,h=>ay.aN hG t x cs hn h
 | .slice t,_,_,hn,⟨v,e,a,cap,hv,h1,h2,h3⟩=>⟨v,e,a,cap,hv,h1,h2,h3.imp id fun ⟨b,off,c,T,fz,ha,hb,hs,hl⟩=>
  ⟨b,off,c,T,fz,ha,hG _ _ hb,hs,hl.mono fun x cs=>ay.aN hG t x cs hn⟩⟩
 | .ptr t,x,_,hn,⟨b,off,c,T,fz,e,hb,hs,hl⟩=>⟨b,off,c,T,fz,e,hG _ _ hb,hs,ay.aN hG t x _ hn hl⟩
 | .clo _ t,x,_,hn,⟨caps,e,h⟩=>⟨caps,e,ay.aN hG t x _ hn h⟩
 | .hnd,_,_,hn,_=>by cases hn
def bB (G:Gh) (t:Ty) (x:t.den) (v:Value):Prop:=
 match t,x with
 | .st t,x=>∃ vs:List Value,v= .agg vs.toArray/\ay G t x vs
 | t,x=>ay G t x [v]
theorem bB.mono {G G':Gh} (hG:G.le G') {t:Ty} {x:t.den} {v:Value} (h:bB G t x v):bB G' t x v:=by
 cases t with
 | st t=>obtain⟨vs,e,hv⟩:=h;exact⟨vs,e,ay.mono hG _ _ _ hv⟩
 | _=>exact ay.mono hG _ _ _ h
end Go.Dn
namespace Go.Dn
inductive CV where
 | int (k:IntKind) (n:Int)
 | bool (b:Bool)
 | str (s:List UInt8)
 | sl (t:Ty) (l:List t.den)
 | cp (t:Ty) (x:t.den) (off:Nat)
 | clo (g:Nat) (t:Ty) (x:t.den)
 | ref (k off:Nat)
 | row (j:Nat)
 | rp (j sz i off:Nat)
 | fn (g:Nat) (ks:List Nat)
 | nilp
 | nils
 | any
 | mp (j:Nat)
 | hnd (o:Option Nat) (off:Nat)
 | stp (j i:Nat)
 | kseq (g j:Nat)
 | nb (b:Bool)
 | opq (v:Value)
inductive SV where
 | v (agg:Bool) (cs:List CV)
 | tup (l:List (Bool×List CV))
structure jc where
 fz:Bool
 e:TypeId
 t:Ty
 l:List t.den
inductive lM where
 | map (k v:Ty) (l:List (k.den×v.den))
 | ar (fz:Bool) (t:Ty) (l:List t.den)
structure St where
 tmps:List SV
 boxes:List (Nat×List CV)
 rows:List (Nat×jc)
 objs:List (Nat×lM)
def look {α:Type}:List (Nat×α)->Nat->Option α
 | [],_=>none
 | (j,x)::r,k=>bif Nat.beq j k then some x else look r k
inductive aP where
 | inl (k:Nat)
 | inr (j:Nat)
 | ob (j:Nat)
 deriving DecidableEq
structure Env where
 bx:Nat->Nat
 rw:Nat->Value
 own:Nat->Option aP
 ob:Nat->Value
 st:Nat->Nat->Int
def aD {α β:Type} (R:α->β->Prop):List α->List β->Prop
 | [],l=>l=[]
 | x::r,l=>∃ y s,l=y::s/\R x y/\aD R r s
def aM (G:Gh) (ρ:Env):CV->Value->Prop
 | .int k n,v=>v= .int k n
 | .bool b,v=>v= .bool b
 | .str s,v=>v= .string (bs s)
 | .sl t l,v=>bZ G t.size (ay G t) l v
 | .cp t x o,v=>∃ b off c T fz,v= .pointer (some ⟨b,off+o,none⟩)/\G b=some (.cells c T fz)/\off+t.size<=c.size/\
  ay G t x ((c.toList.drop off).take t.size)
 | .clo g t x,v=>∃ caps:List Value,v= .func (.func g) #[] caps.toArray/\ay G t x caps
 | .ref k o,v=>v= .pointer (some ⟨ρ.bx k,o,none⟩)
 | .row j,v=>v=ρ.rw j/\∃ a n c,v= .slice a n c
 | .rp j sz i o,v=>∃ b len cap,ρ.rw j= .slice (some ⟨b,0,none⟩) len cap/\v= .pointer (some ⟨b,i*sz+o,none⟩)
 | .fn g ks,v=>v= .func (.func g) #[] (ks.map fun k=>Value.pointer (some ⟨ρ.bx k,0,none⟩)).toArray
 | .nilp,v=>v= .pointer none
 | .nils,v=>v= .slice none 0 0
 | .any,_=>True
 | .mp j,v=>v=ρ.ob j/\∃ b,v= .map (some b)
 | .hnd none o,v=>v= .pointer none/\o=0
 | .hnd (some h) o,v=>∃ b,G.hnd h=some b/\v= .pointer (some ⟨b,o,none⟩)
 | .stp j i,v=>v= .int .i64 (ρ.st j i)
 | .kseq g j,v=>∃ b T fz,v= .func (.func g) #[] #[.pointer (some ⟨b,0,none⟩)]/\G b=some (.cells #[ρ.ob j] T fz)
 | .nb b,v=>∃ c,v= .bool c/\(b=false->c=false)
 | .opq u,v=>v=u
def gY (G:Gh) (ρ:Env):Bool->List CV->Value->Prop
 | true,cs,v=>∃ vs:List Value,v= .agg vs.toArray/\aD (aM G ρ) cs vs
 | false,[c],v=>aM G ρ c v
 | false,_,_=>False
def aU (G:Gh) (ρ:Env):SV->Value->Prop
 | .v a cs,v=>gY G ρ a cs v
 | .tup l,v=>∃ vs:List Value,v= .tuple vs.toArray/\aD (fun p=>gY G ρ p.1 p.2) l vs
def wP:List Int:=(List.range 20).map fun i=>((10 ^ i:Nat):Int)
structure bJ (P:Program) (G:Gh):Prop where
 pow:∀ g,P.globalNamed "internal/strconv.uint64pow10" =some g->∃ T fz,G g=some (.cells (wP.map fun z=>Value.int .u64 z).toArray T fz)
 maxLen:∀ g,P.globalNamed "internal/bytealg.MaxLen" =some g->∃ n T fz,G g=some (.cells #[Value.int .i64 n] T fz)
theorem bJ.mono {P:Program} {G G':Gh} (h:bJ P G) (hG:G.le G'):bJ P G':=
 ⟨fun g hg=>let ⟨T,fz,e⟩:=h.pow g hg;⟨T,fz,hG.blk _ _ e⟩,fun g hg=>let ⟨n,T,fz,e⟩:=h.maxLen g hg;⟨n,T,fz,hG.blk _ _ e⟩⟩
structure Fr (P:Program) where
 n0:Nat
 pin:Nat->Nat
 pinR:Nat->Value
 B:Nat->Prop
 w0:World
 G0:Gh
 noAr:Prop
 tab:bJ P G0
def bU (G:Gh) (ρ:Env) (w:World) (j:Nat) (r:jc):Prop:=
 if r.fz then bZ G r.t.size (ay G r.t) r.l (ρ.rw j)
 else ∃ xs,w.ownsRow 0 r.e r.t.size (ρ.rw j) r.l.length xs/\bE (ay G r.t) r.l xs/\∀ b,(ρ.rw j).ownBlock=some b->ρ.own b=some (.inr j)
def q9 (G:Gh) (k v:Ty) (p:k.den×v.den) (e:MapEntry):Prop:=bB G k p.1 e.key/\bB G v p.2 e.val
def gP (G:Gh) (w:World) (own:Nat->Prop) (fz:Bool) (t:Ty) (l:List t.den):Prop:=
 (∀ h b,G.hnd h=some b->h<l.length)/\(∀ h h' b,G.hnd h=some b->G.hnd h'=some b->h=h')/\
   ∀ h x,l[h]? =some x->∃ b vs T,G.hnd h=some b/\(fz=true->G b=some (.cells (List.toArray vs) T (0,0)))/\(fz=false->own b)/\w.heap[b]? =some (.cells (List.toArray vs) T (0,0))/\ay G t x vs
def bg:Nat:=9999
def jn (G:Gh) (ρ:Env) (w:World) (j:Nat):lM->Prop
 | .map k v l=>∃ b es clock,ρ.ob j= .map (some b)/\ρ.own b=some (.ob j)/\w.heap[b]? =some (.map es clock)/\aD (q9 G k v) l es.toList/\
  (∀ (i:Nat) (e:MapEntry),es.toList[i]? =some e->(e.born:Int)=ρ.st j i/\e.born<clock)/\es.toList.Pairwise (fun a b=>a.born<b.born)
 | .ar fz t l=>j=bg/\gP G w (fun b=>ρ.own b=some (.ob j)) fz t l
structure Mem {P0:Program} (C:Fr P0) (G:Gh) (ρ:Env) (S:St) (w:World):Prop where
 agr:Agr G w
 le0:C.G0.le G
 old:∀ b,b<C.n0->¬ C.B b->G b=C.G0 b
 frame:∀ b,b<C.n0->¬ C.B b->w.heap[b]? =C.w0.heap[b]?
 size:C.n0<=w.heap.size
 os:w.os=C.w0.os
 output:w.output=C.w0.output
 pin:∀ k,2000<=k->ρ.bx k=C.pin k
 pinR:∀ k,10000000<=k->ρ.rw k=C.pinR k/\ρ.ob k=C.pinR k
 owned:∀ b o,ρ.own b=some o->G b=none/\b<w.heap.size/\(C.n0<=b\/C.B b)
 boxes:∀ k cs,look S.boxes k=some cs->ρ.own (ρ.bx k)=some (.inl k)/\
  ∃ vs T,w.heap[ρ.bx k]? =some (.cells (List.toArray vs) T (0,0))/\aD (aM G ρ) cs vs
 rows:∀ j r,look S.rows j=some r->bU G ρ w j r
 objs:∀ j r,look S.objs j=some r->jn G ρ w j r
 hndI:C.noAr->G.hnd=C.G0.hnd/\∀ t l,look S.objs bg≠some (.ar false t l)
def dW (G:Gh) (ρ:Env) (S:St) (a:Act):Prop:=
 a.tmps.size=S.tmps.length/\∀ (i:Nat) (s:SV),S.tmps[i]? =some s->aU G ρ s (a.tmps.getD i undef)
structure Mod {P0:Program} (C:Fr P0) (G:Gh) (ρ:Env) (S:St) (w:World) (a:Act):Prop extends Mem C G ρ S w where
 tmps:dW G ρ S a
 defers:a.defers=[]
theorem aD.mono {α β:Type} {R R':α->β->Prop} (h:∀ x y,R x y->R' x y):∀ {l:List α} {r:List β},aD R l r->aD R' l r
 | [],_,hh=>hh
 | _::_,_,⟨y,s,e,hx,hl⟩=>⟨y,s,e,h _ _ hx,hl.mono h⟩
theorem aD.qy {α β:Type} {R R':α->β->Prop}:∀ {l:List α} {r:List β},(∀ x,x∈l->∀ y,R x y->R' x y)->aD R l r->aD R' l r
 | [],_,_,hh=>hh
 | x::l,_,h,⟨y,s,e,hx,hl⟩=>⟨y,s,e,h x (by simp) _ hx,aD.qy (fun z hz=>h z (by simp[hz])) hl⟩
theorem aD.len {α β:Type} {R:α->β->Prop}:∀ {l:List α} {r:List β},aD R l r->r.length=l.length
 | [],_,hh=>by cases hh;rfl
 | _::_,_,⟨y,s,e,_,hl⟩=>by subst e;simp[hl.len]
theorem aD.get {α β:Type} {R:α->β->Prop}:∀ {l:List α} {r:List β},aD R l r->∀ {i:Nat} {x:α},l[i]? =some x->∃ y,r[i]? =some y/\R x y
 | [],_,_,_,_,hi=>by simp at hi
 | _::_,_,⟨y,s,e,hx,_⟩,0,x,hi=>by subst e;simp at hi;subst hi;exact⟨y,by simp,hx⟩
 | _::_,_,⟨y,s,e,_,hl⟩,i+1,x,hi=>by
  subst e
  obtain⟨z,hz,hr⟩:=hl.get (i:=i) (x:=x) (by simpa using hi)
  exact⟨z,by simpa using hz,hr⟩
theorem aD.append {α β:Type} {R:α->β->Prop}:∀ {l l':List α} {r r':List β},aD R l r->aD R l' r'->aD R (l++l') (r++r')
 | [],_,_,_,hh,h'=>by cases hh;simpa using h'
 | _::_,_,_,_,⟨y,s,e,hx,hl⟩,h'=>by subst e;exact⟨y,s++_,by simp,hx,hl.append h'⟩
theorem aD.drop {α β:Type} {R:α->β->Prop}:∀ {l:List α} {r:List β},aD R l r->∀ n,aD R (l.drop n) (r.drop n)
 | _,_,h,0=>by simpa using h
 | [],_,hh,n+1=>by cases hh;simp[aD]
 | _::_,_,⟨y,s,e,_,hl⟩,n+1=>by subst e;simpa using hl.drop n
theorem aD.take {α β:Type} {R:α->β->Prop}:∀ {l:List α} {r:List β},aD R l r->∀ n,aD R (l.take n) (r.take n)
 | _,_,_,0=>by simp[aD]
 | [],_,hh,n+1=>by cases hh;simp[aD]
 | _::_,_,⟨y,s,e,hx,hl⟩,n+1=>by subst e;exact⟨y,s.take n,by simp,hx,hl.take n⟩
theorem aD.set {α β:Type} {R:α->β->Prop} {x:α} {y:β} (hxy:R x y):∀ {l:List α} {r:List β},aD R l r->∀ n,aD R (l.set n x) (r.set n y)
 | [],_,hh,n=>by cases hh;simp[aD]
 | _::_,_,⟨z,s,e,_,hl⟩,0=>by subst e;exact⟨y,s,by simp,hxy,hl⟩
 | _::_,_,⟨z,s,e,hx,hl⟩,n+1=>by subst e;exact⟨z,s.set n y,by simp,hx,hl.set hxy n⟩
theorem aD.single {α β:Type} {R:α->β->Prop} {x:α} {r:List β} (h:aD R [x] r):∃ y,r=[y]/\R x y:=by
 obtain⟨y,s,e,hx,hl⟩:=h;cases hl;exact⟨y,e,hx⟩
def CV.bz (k:Nat):CV->Bool
 | .ref j _=>Nat.beq j k
 | .fn _ ks=>ks.any (Nat.beq · k)
 | _=>false
def CV.aS (k:Nat):CV->Bool
 | .row j=>Nat.beq j k
 | .rp j _ _ _=>Nat.beq j k
 | _=>false
def CV.bh (k:Nat):CV->Bool
 | .mp j=>Nat.beq j k
 | .kseq _ j=>Nat.beq j k
 | _=>false
def CV.aX (k:Nat):CV->Bool
 | .stp j _=>Nat.beq j k
 | _=>false
def SV.bz (k:Nat):SV->Bool
 | .v _ cs=>cs.any (CV.bz k)
 | .tup l=>l.any fun p=>p.2.any (CV.bz k)
def SV.aS (k:Nat):SV->Bool
 | .v _ cs=>cs.any (CV.aS k)
 | .tup l=>l.any fun p=>p.2.any (CV.aS k)
def SV.bh (k:Nat):SV->Bool
 | .v _ cs=>cs.any (CV.bh k)
 | .tup l=>l.any fun p=>p.2.any (CV.bh k)
def St.bh (k:Nat) (S:St):Bool:=S.tmps.any (SV.bh k)||S.boxes.any fun p=>p.2.any (CV.bh k)
def SV.aX (k:Nat):SV->Bool
 | .v _ cs=>cs.any (CV.aX k)
 | .tup l=>l.any fun p=>p.2.any (CV.aX k)
def St.aX (k:Nat) (S:St):Bool:=S.tmps.any (SV.aX k)||S.boxes.any fun p=>p.2.any (CV.aX k)
def St.bz (k:Nat) (S:St):Bool:=S.tmps.any (SV.bz k)||S.boxes.any fun p=>p.2.any (CV.bz k)
def St.aS (k:Nat) (S:St):Bool:=S.tmps.any (SV.aS k)||S.boxes.any fun p=>p.2.any (CV.aS k)
structure CV.dA (ρ ρ':Env) (c:CV):Prop where
 bx:∀ k,c.bz k=true->ρ'.bx k=ρ.bx k
 rw:∀ k,c.aS k=true->ρ'.rw k=ρ.rw k
 ob:∀ k,c.bh k=true->ρ'.ob k=ρ.ob k
 st:∀ k,c.aX k=true->ρ'.st k=ρ.st k
theorem aM.congr {G G':Gh} (hG:G.le G') {ρ ρ':Env}:∀ {c:CV} {v:Value},c.dA ρ ρ'->aM G ρ c v->aM G' ρ' c v
 | .int _ _,_,_,h=>h
 | .bool _,_,_,h=>h
 | .str _,_,_,h=>h
 | .sl _ _,_,_,h=>bZ.mono hG h
 | .cp t x _,_,_,⟨b,off,c,T,fz,e,hb,hs,hl⟩=>⟨b,off,c,T,fz,e,hG _ _ hb,hs,ay.mono hG t x _ hl⟩
 | .clo _ t x,_,_,⟨caps,e,h⟩=>⟨caps,e,ay.mono hG t x _ h⟩
 | .ref k _,_,s,h=>by
  have:=s.bx k (by simp[CV.bz]);simp only[aM] at h ⊢;rw[this];exact h
 | .row j,_,s,h=>by
  have:=s.rw j (by simp[CV.aS]);simp only[aM] at h ⊢;rw[this];exact h
 | .rp j _ _ _,_,s,h=>by
  have:=s.rw j (by simp[CV.aS]);simp only[aM] at h ⊢;rw[this];exact h
 | .fn g ks,_,s,h=>by
  simp only[aM] at h ⊢
  rw[h]
  congr 2
  refine UT fun k hk=> ?_
  rw[s.bx k (by simp[CV.bz,hk])]
 | .nilp,_,_,h=>h
 | .nils,_,_,h=>h
 | .any,_,_,_=>trivial
 | .nb _,_,_,h=>h
 | .opq _,_,_,h=>h
 | .mp j,_,s,h=>by
  have:=s.ob j (by simp[CV.bh]);simp only[aM] at h ⊢;rw[this];exact h
 | .hnd none _,_,_,h=>h
 | .hnd (some _) _,_,_,⟨b,hb,e⟩=>⟨b,hG.hnd _ _ hb,e⟩
 | .stp j i,_,s,h=>by
  have:=s.st j (by simp[CV.aX]);simp only[aM] at h ⊢;rw[this];exact h
 | .kseq g j,_,s,h=>by
  have:=s.ob j (by simp[CV.bh]);simp only[aM] at h ⊢;rw[this]
  obtain⟨b,T,fz,e,hb⟩:=h
  exact⟨b,T,fz,e,hG _ _ hb⟩
theorem gY.congr {G G':Gh} (hG:G.le G') {ρ ρ':Env} {a:Bool} {cs:List CV} {v:Value} (hs:∀ c,c∈cs->c.dA ρ ρ') (h:gY G ρ a cs v):gY G' ρ' a cs v:=by
 cases a with
 | true=>obtain⟨vs,e,hl⟩:=h;exact⟨vs,e,aD.qy (fun c hc y=>aM.congr hG (hs c hc)) hl⟩
 | false=>
  match cs,hs,h with
  | [c],hs,h=>exact aM.congr hG (hs c (by simp)) h
def SV.dA (ρ ρ':Env):SV->Prop
 | .v _ cs=>∀ c,c∈cs->c.dA ρ ρ'
 | .tup l=>∀ p,p∈l->∀ c,c∈p.2->c.dA ρ ρ'
theorem aU.congr {G G':Gh} (hG:G.le G') {ρ ρ':Env} {s:SV} {v:Value} (hs:s.dA ρ ρ') (h:aU G ρ s v):aU G' ρ' s v:=by
 cases s with
 | v a cs=>exact gY.congr hG hs h
 | tup l=>
  obtain⟨vs,e,hl⟩:=h
  exact⟨vs,e,aD.qy (fun p hp y=>gY.congr hG (hs p hp)) hl⟩
theorem CV.dA.refl (ρ:Env) (c:CV):c.dA ρ ρ:=⟨fun _ _=>rfl,fun _ _=>rfl,fun _ _=>rfl,fun _ _=>rfl⟩
theorem SV.dA.refl (ρ:Env) (s:SV):s.dA ρ ρ:=by
 cases s with
 | v a cs=>exact fun c _=> .refl ρ c
 | tup l=>exact fun p _ c _=> .refl ρ c
theorem jX {α:Type} {l:List (Nat×α)} {k:Nat} {x:α} (h:look l k=some x):(k,x)∈l:=by
 induction l with
 | nil=>simp[look] at h
 | cons p r ih=>
  obtain⟨j,y⟩:=p
  simp only[look] at h
  cases hb:Nat.beq j k with
  | true=>rw[hb] at h;simp only[VW,Option.some.injEq] at h;subst h;have:=Vq hb;subst this;simp
  | false=>rw[hb] at h;simp only[VV] at h;exact UY _ (ih h)
theorem ak {α:Type} (l:List (Nat×α)) (j k:Nat) (x:α):look ((j,x)::l) k=if j=k then some x else look l k:=by
 simp only[look]
 by_cases h:j=k
 ·subst h;simp
 ·have:Nat.beq j k=false:=by
   cases hb:Nat.beq j k with
   | false=>rfl
   | true=>exact absurd (Vq hb) h
  simp[this,h]
structure St.dA (ρ ρ':Env) (S:St):Prop where
 tmps:∀ s,s∈S.tmps->s.dA ρ ρ'
 boxes:∀ p,p∈S.boxes->∀ c,c∈p.2->c.dA ρ ρ'
theorem Kt {ρ:Env} {k b:Nat} {S:St} (own:Nat->Option aP) (h:S.bz k=false):S.dA ρ ⟨fun i=>if i=k then b else ρ.bx i,ρ.rw,own,ρ.ob,ρ.st⟩:=by
 simp only[St.bz,TI,T0] at h
 have cv:∀ c:CV,c.bz k=false->c.dA ρ ⟨fun i=>if i=k then b else ρ.bx i,ρ.rw,own,ρ.ob,ρ.st⟩:=fun c hc=>
  ⟨fun i hi=>by
    show (if i=k then b else ρ.bx i)=ρ.bx i
    by_cases e:i=k
    ·subst e;rw[hc] at hi;cases hi
    ·simp[e],fun _ _=>rfl,fun _ _=>rfl,fun _ _=>rfl⟩
 refine⟨fun s hs=> ?_,fun p hp c hc=>cv c ?_⟩
 ·have:=h.1 s hs
  cases s with
  | v a cs=>exact fun c hc=>cv c (by simp only[SV.bz,T3,Wa,V9] at this;simpa using this c hc)
  | tup l=>exact fun p hp c hc=>cv c (by simp only[SV.bz,T3,Wa,V9] at this;simpa using this p hp c hc)
 ·have:=h.2 p hp
  simp only[T3,Wa,V9] at this
  simpa using this c hc
theorem Bn {ρ:Env} {k:Nat} {u:Value} {S:St} (own:Nat->Option aP) (h:S.aS k=false):S.dA ρ ⟨ρ.bx,fun i=>if i=k then u else ρ.rw i,own,ρ.ob,ρ.st⟩:=by
 simp only[St.aS,TI,T0] at h
 have cv:∀ c:CV,c.aS k=false->c.dA ρ ⟨ρ.bx,fun i=>if i=k then u else ρ.rw i,own,ρ.ob,ρ.st⟩:=fun c hc=>
  ⟨fun _ _=>rfl,fun i hi=>by
    show (if i=k then u else ρ.rw i)=ρ.rw i
    by_cases e:i=k
    ·subst e;rw[hc] at hi;cases hi
    ·simp[e],fun _ _=>rfl,fun _ _=>rfl⟩
 refine⟨fun s hs=> ?_,fun p hp c hc=>cv c ?_⟩
 ·have:=h.1 s hs
  cases s with
  | v a cs=>exact fun c hc=>cv c (by simp only[SV.aS,T3,Wa,V9] at this;simpa using this c hc)
  | tup l=>exact fun p hp c hc=>cv c (by simp only[SV.aS,T3,Wa,V9] at this;simpa using this p hp c hc)
 ·have:=h.2 p hp
  simp only[T3,Wa,V9] at this
  simpa using this c hc
theorem Kv {ρ:Env} {k:Nat} {u:Value} {S:St} (own:Nat->Option aP) (h:S.bh k=false):S.dA ρ ⟨ρ.bx,ρ.rw,own,fun i=>if i=k then u else ρ.ob i,ρ.st⟩:=by
 simp only[St.bh,TI,T0] at h
 have cv:∀ c:CV,c.bh k=false->c.dA ρ ⟨ρ.bx,ρ.rw,own,fun i=>if i=k then u else ρ.ob i,ρ.st⟩:=fun c hc=>
  ⟨fun _ _=>rfl,fun _ _=>rfl,fun i hi=>by
    show (if i=k then u else ρ.ob i)=ρ.ob i
    by_cases e:i=k
    ·subst e;rw[hc] at hi;cases hi
    ·simp[e],fun _ _=>rfl⟩
 refine⟨fun s hs=> ?_,fun p hp c hc=>cv c ?_⟩
 ·have:=h.1 s hs
  cases s with
  | v a cs=>exact fun c hc=>cv c (by simp only[SV.bh,T3,Wa,V9] at this;simpa using this c hc)
  | tup l=>exact fun p hp c hc=>cv c (by simp only[SV.bh,T3,Wa,V9] at this;simpa using this p hp c hc)
 ·have:=h.2 p hp
  simp only[T3,Wa,V9] at this
  simpa using this c hc
theorem dW.congr {G G':Gh} (hG:G.le G') {ρ ρ':Env} {S:St} {a:Act} (hs:S.dA ρ ρ') (h:dW G ρ S a):dW G' ρ' S a:=
 ⟨h.1,fun i s hi=>aU.congr hG (hs.tmps s (U3 hi)) (h.2 i s hi)⟩
def St.put (S:St) (d:Option Tmp) (s:SV):St:=
 match d with
 | some d=>{ S with tmps:=S.tmps.set d s }
 | none=>S
@[simp] theorem St.S8 (S:St) (d:Option Tmp) (s:SV):(S.put d s).boxes=S.boxes:=by cases d<;>rfl
@[simp] theorem St.Td (S:St) (d:Option Tmp) (s:SV):(S.put d s).rows=S.rows:=by cases d<;>rfl
@[simp] theorem St.Tc (S:St) (d:Option Tmp) (s:SV):(S.put d s).objs=S.objs:=by cases d<;>rfl
theorem dW.put {G:Gh} {ρ:Env} {S:St} {a:Act} (h:dW G ρ S a) (d:Option Tmp) {s:SV} {v:Value} (hv:∀ t,d=some t->aU G ρ s v):dW G ρ (S.put d s) (a.put d v):=by
 cases d with
 | none=>exact h
 | some d=>
  refine⟨by simp[Act.put,St.put,h.1],fun i s' hi=> ?_⟩
  simp only[St.put,UB] at hi
  by_cases e:d=i
  ·subst e
   by_cases hlt:d<S.tmps.length
   ·simp only[V7,hlt,Option.some.injEq] at hi
    subst hi
    simp only[Act.put]
    rw[Ti,Tp (by rw[h.1];exact hlt)]
    exact hv _ rfl
   ·simp[hlt] at hi
  ·simp only[e,V5] at hi
   have:=h.2 i s' hi
   simp only[Act.put]
   rw[Ti,To (by omega), <- Ti]
   exact this
theorem Mem.DI {P0:Program} {C:Fr P0} {G:Gh} {ρ:Env} {S S':St} {w:World} (h:Mem C G ρ S w) (hb:S'.boxes=S.boxes) (hr:S'.rows=S.rows) (ho:S'.objs=S.objs):Mem C G ρ S' w:=
 { h with boxes:=by rw[hb];exact h.boxes,rows:=by rw[hr];exact h.rows,objs:=by rw[ho];exact h.objs,hndI:=by rw[ho];exact h.hndI }
theorem Mod.put {P0:Program} {C:Fr P0} {G:Gh} {ρ:Env} {S:St} {w:World} {a:Act} (h:Mod C G ρ S w a) (d:Option Tmp) {s:SV} {v:Value} (hv:∀ t,d=some t->aU G ρ s v):Mod C G ρ (S.put d s) w (a.put d v):=
 { h.toMem.DI (S':=S.put d s) (by simp) (by simp) (by simp) with tmps:=h.tmps.put d hv,defers:=by cases d<;>exact h.defers }
theorem bU.of_heap {G:Gh} {ρ:Env} {w w':World} {j:Nat} {r:jc} (hh:w'.heap=w.heap) (h:bU G ρ w j r):bU G ρ w' j r:=by
 unfold bU at*
 split
 ·rename_i hf;rw[V7 hf] at h;exact h
 ·rename_i hf;rw[V6 hf] at h
  obtain⟨xs,ho,hl,hb⟩:=h
  exact⟨xs,by simpa [World.ownsRow,hh] using ho,hl,hb⟩
theorem gP.of_heap {G:Gh} {w w':World} {own:Nat->Prop} {fz:Bool} {t:Ty} {l:List t.den} (hh:∀ h b,G.hnd h=some b->w'.heap[b]? =w.heap[b]?) (h:gP G w own fz t l):gP G w' own fz t l:=
 ⟨h.1,h.2.1,fun i x hx=>by
   obtain⟨b,vs,T,h1,h2,h3,h4,h5⟩:=h.2.2 i x hx
   exact⟨b,vs,T,h1,h2,h3,by rw[hh i b h1];exact h4,h5⟩⟩
theorem jn.of_heap {G:Gh} {ρ:Env} {w w':World} {j:Nat} {r:lM} (hh:w'.heap=w.heap) (h:jn G ρ w j r):jn G ρ w' j r:=by
 cases r with
 | map k v l=>obtain⟨b,es,clock,h1,h2,h3,h4,h5⟩:=h;exact⟨b,es,clock,h1,h2,by rw[hh];exact h3,h4,h5⟩
 | ar fz t l=>exact⟨h.1,gP.of_heap (fun _ _ _=>by rw[hh]) h.2⟩
theorem Mem.of_heap {P0:Program} {C:Fr P0} {G:Gh} {ρ:Env} {S:St} {w w':World} (h:Mem C G ρ S w) (hh:w'.heap=w.heap) (ho:w'.os=w.os) (hu:w'.output=w.output):Mem C G ρ S w' where
 agr:=fun b o hb=>by rw[hh];exact h.agr b o hb
 le0:=h.le0
 old:=h.old
 frame:=by rw[hh];exact h.frame
 size:=by rw[hh];exact h.size
 os:=ho.trans h.os
 output:=hu.trans h.output
 pin:=h.pin
 pinR:=h.pinR
 owned:=by rw[hh];exact h.owned
 boxes:=by rw[hh];exact h.boxes
 rows:=fun j r hr=>(h.rows j r hr).of_heap hh
 objs:=fun j r hr=>(h.objs j r hr).of_heap hh
 hndI:=h.hndI
theorem Mod.of_heap {P0:Program} {C:Fr P0} {G:Gh} {ρ:Env} {S:St} {w w':World} {a:Act} (h:Mod C G ρ S w a) (hh:w'.heap=w.heap) (ho:w'.os=w.os) (hu:w'.output=w.output):Mod C G ρ S w' a:=
 { h.toMem.of_heap hh ho hu with tmps:=h.tmps,defers:=h.defers }
structure Grow (ρ:Env) (w w':World) (blk:Option Nat):Prop where
 os:w'.os=w.os
 output:w'.output=w.output
 size:w.heap.size<=w'.heap.size
 block:∀ b,b<w.heap.size->some b≠blk->w'.heap[b]? =w.heap[b]?
theorem aj {w:World} {b:Nat} {o:Obj} (h:w.heap[b]? =some o):b<w.heap.size:=(Tl.1 h).1
theorem bU.kept {G:Gh} {ρ:Env} {w w':World} {j:Nat} {r:jc} {blk:Option Nat} (hg:Grow ρ w w' blk) (hne:∀ b,blk=some b->ρ.own b≠some (.inr j)) (h:bU G ρ w j r):bU G ρ w' j r:=by
 unfold bU at*
 split
 ·rename_i hf;rw[V7 hf] at h;exact h
 ·rename_i hf;rw[V6 hf] at h
  obtain⟨xs,⟨hlen,ho⟩,hl,hb⟩:=h
  refine⟨xs,⟨hlen, ?_⟩,hl,hb⟩
  rcases ho with hn | ⟨g,cap,cur,hv,h0,hgg,rest⟩
  ·exact .inl hn
  ·refine .inr ⟨g,cap,cur,hv,h0, ?_,rest⟩
   rw[hg.block g (aj hgg) ?_]
   ·exact hgg
   ·intro e
    exact hne g e.symm (hb g (by rw[hv];rfl))
theorem jn.kept {G:Gh} {ρ:Env} {w w':World} {j:Nat} {r:lM} {blk:Option Nat} (hg:Grow ρ w w' blk) (hgn:∀ b,blk=some b->G b=none) (hne:∀ b,blk=some b->ρ.own b≠some (.ob j)) (h:jn G ρ w j r):jn G ρ w' j r:=by
 cases r with
 | map k v l=>
  obtain⟨b,es,clock,h1,h2,h3,h4,h5⟩:=h
  refine⟨b,es,clock,h1,h2, ?_,h4,h5⟩
  rw[hg.block b (aj h3) (fun e=>hne b e.symm h2)];exact h3
 | ar fz t l=>
  obtain⟨hj,h⟩:=h
  refine⟨hj,h.1,h.2.1,fun i x hx=> ?_⟩
  obtain⟨b,vs,T,h1,h2,h3,h4,h5⟩:=h.2.2 i x hx
  refine⟨b,vs,T,h1,h2,h3, ?_,h5⟩
  rw[hg.block b (aj h4) (fun e=> ?_)]
  ·exact h4
  ·cases fz with
   | true=>have:=hgn b e.symm;rw[h2 rfl] at this;cases this
   | false=>exact hne b e.symm (h3 rfl)
theorem q9.mono {G G':Gh} (hG:G.le G') {k v:Ty} {p:k.den×v.den} {e:MapEntry} (h:q9 G k v p e):q9 G' k v p e:=⟨h.1.mono hG,h.2.mono hG⟩
theorem jn.congr {G G':Gh} (hG:G.le G') (hh:G'.hnd=G.hnd) {ρ ρ':Env} {w:World} {j:Nat} {r:lM} (hr:ρ'.ob j=ρ.ob j) (hst:ρ'.st j=ρ.st j) (ho:∀ b,ρ.own b=some (.ob j)->ρ'.own b=some (.ob j)) (h:jn G ρ w j r):jn G' ρ' w j r:=by
 cases r with
 | map k v l=>
  obtain⟨b,es,clock,h1,h2,h3,h4,h5,h6⟩:=h
  exact⟨b,es,clock,by rw[hr];exact h1,ho b h2,h3,h4.mono fun x y hxy=>hxy.mono hG,by rw[hst];exact h5,h6⟩
 | ar fz t l=>
  obtain⟨hj,h⟩:=h
  refine⟨hj,fun i b hb=>h.1 i b (by rw[<- hh];exact hb),fun i i' b hb hb'=>h.2.1 i i' b (by rw[<- hh];exact hb) (by rw[<- hh];exact hb'),fun i x hx=> ?_⟩
  obtain⟨b,vs,T,h1,h2,h3,h4,h5⟩:=h.2.2 i x hx
  exact⟨b,vs,T,by rw[hh];exact h1,fun e=>hG _ _ (h2 e),fun e=>ho b (h3 e),h4,ay.mono hG t x _ h5⟩
theorem bU.congr {G G':Gh} (hG:G.le G') {ρ ρ':Env} {w:World} {j:Nat} {r:jc} (hr:ρ'.rw j=ρ.rw j) (ho:∀ b,ρ.own b=some (.inr j)->ρ'.own b=some (.inr j)) (h:bU G ρ w j r):bU G' ρ' w j r:=by
 unfold bU at*
 rw[hr]
 split
 ·rename_i hf;rw[V7 hf] at h;exact bZ.mono hG h
 ·rename_i hf;rw[V6 hf] at h
  obtain⟨xs,hown,hl,hb⟩:=h
  exact⟨xs,hown,hl.mono (ay.mono hG r.t),fun b e=>ho b (hb b e)⟩
end Go.Dn
namespace Go.Dn
def unpack:(t:Ty)->t.den->List CV
 | .int k,n=>[.int k n]
 | .bool,b=>[.bool b]
 | .str,s=>[.str s]
 | .unit,_=>[]
 | .pair a b,p=>unpack a p.1++unpack b p.2
 | .st t,x=>unpack t x
 | .slice t,l=>[.sl t l]
 | .ptr t,x=>[.cp t x 0]
 | .clo g t,x=>[.clo g t x]
 | .hnd,o=>[.hnd o 0]
def k8 (t:Ty) (x:t.den):SV:=
 match t,x with
 | .st t,x=> .v true (unpack t x)
 | t,x=> .v false (unpack t x)
def Dt (t:Ty) (x:t.den):Bool×List CV:=
 match t,x with
 | .st t,x=>(true,unpack t x)
 | t,x=>(false,unpack t x)
def kC {a b:Ty} (l:List a.den):Option (List b.den):=if h:a=b then some (h ▸ l) else none
def KB {a b:Ty} (x:a.den):Option b.den:=if h:a=b then some (h ▸ x) else none
def Oi {k v k' v':Ty} (l:List (k.den×v.den)):Option (List (k'.den×v'.den)):=if h:k=k'/\v=v' then some (h.1 ▸ h.2 ▸ l) else none
def NT (k:IntKind):CV->Option Int
 | .int k' n=>if k=k' then some n else none
 | _=>none
def L7:CV->Option Bool
 | .bool b=>some b
 | _=>none
def NU:CV->Option (List UInt8)
 | .str s=>some s
 | _=>none
def GU (S:St) (t:Ty):CV->Option (List t.den)
 | .sl _ l=>kC (b:=t) l
 | .nils=>some []
 | .row j=>match look S.rows j with
  | some q=>if q.fz then kC (b:=t) q.l else none
  | none=>none
 | _=>none
def NS:CV->Option (Option Nat)
 | .hnd o k=>if Nat.beq k 0 then some o else none
 | .nilp=>some none
 | _=>none
def nJ {α:Type} (f:CV->Option α):List CV->Option (α×List CV)
 | c::r=>match f c with | some x=>some (x,r) | none=>none
 | []=>none
def fq {α:Type}:Option (α×List CV)->Option α
 | some (x,[])=>some x
 | _=>none
def inL (l:List Nat) (j:Nat):Bool:=l.any (Nat.beq j)
def IQ (S:St) (fb:List Nat) {t:Ty} (g:List CV->Option (t.den×List CV)):CV->Option t.den
 | .cp _ x o=>if Nat.beq o 0 then KB (b:=t) x else none
 | .ref k o=>if Nat.beq o 0&&inL fb k then (match look S.boxes k with
  | some cs=>fq (g cs)
  | none=>none) else none
 | _=>none
def NR {t:Ty} (g:Nat) (p:List CV->Option (t.den×List CV)):CV->Option t.den
 | .clo g' _ x=>if Nat.beq g g' then KB (b:=t) x else none
 | .fn g' ks=>if Nat.beq g g' then fq (p (ks.map fun k=> .ref k 0)) else none
 | _=>none
def dN (S:St) (fb:List Nat):(t:Ty)->List CV->Option (t.den×List CV)
 | .int k,r=>nJ (NT k) r
 | .bool,r=>nJ L7 r
 | .str,r=>nJ NU r
 | .unit,r=>some ((),r)
 | .pair a b,r=>match dN S fb a r with
  | some (x,r)=>match dN S fb b r with
   | some (y,r)=>some ((x,y),r)
   | none=>none
  | none=>none
 | .st t,r=>dN S fb t r
 | .slice t,r=>nJ (GU S t) r
 | .ptr t,r=>nJ (IQ S fb (t:=t) (dN S fb t)) r
 | .clo g t,r=>nJ (NR (t:=t) g (dN S fb t)) r
 | .hnd,r=>nJ NS r
abbrev pack (S:St) (t:Ty) (cs:List CV):Option (t.den×List CV):=dN S [] t cs
def fM (S:St) (fb:List Nat) (t:Ty) (s:SV):Option t.den:=
 match t,s with
 | .st t,.v true cs=>fq (dN S fb t cs)
 | .st _,_=>none
 | t,.v false cs=>fq (dN S fb t cs)
 | _,_=>none
inductive OT where
 | val (t:Ty)
 | row (e:TypeId) (t:Ty)
 | map (k v:Ty)
def OT.den:OT->Type
 | .val t=>t.den
 | .row _ t=>List t.den
 | .map k v=>List (k.den×v.den)
def gZ:List OT->Type
 | []=>Unit
 | o::r=>o.den×gZ r
inductive PM where
 | val (t:Ty)
 | row (e:TypeId) (t:Ty)
 | mrow (e:TypeId) (t:Ty)
 | map (k v:Ty)
 | box (l:List OT)
 | ar (t:Ty)
 | arR (t:Ty)
inductive RM where
 | val (t:Ty)
 | row (e:TypeId) (t:Ty)
 | map (k v:Ty)
 | box (l:List OT)
def PM.den:PM->Type
 | .val t=>t.den
 | .row _ t=>List t.den
 | .mrow _ t=>List t.den
 | .map k v=>List (k.den×v.den)
 | .box l=>gZ l
 | .ar t=>List t.den
 | .arR t=>List t.den
def RM.den:RM->Type
 | .val t=>t.den
 | .row _ t=>List t.den
 | .map k v=>List (k.den×v.den)
 | .box l=>gZ l
def PM.arg:PM->Bool
 | .ar _=>false
 | .arR _=>false
 | _=>true
def dM:List PM->Type
 | []=>Unit
 | p::r=>p.den×dM r
def dc:List PM->Type
 | []=>Unit
 | .mrow _ t::r=>List t.den×dc r
 | .map k v::r=>List (k.den×v.den)×dc r
 | .box l::r=>gZ l×dc r
 | .ar t::r=>List t.den×dc r
 | .val _::r=>dc r
 | .row _ _::r=>dc r
 | .arR _::r=>dc r
def cq (ps:List PM):List RM->Type
 | []=>dc ps
 | q::r=>q.den×cq ps r
structure ax where
 ps:List PM
 rs:List RM
 m:dM ps->Option (cq ps rs)
inductive BJ where
 | mk (g:Nat)
 | srt (g:Nat) (kt e:TypeId)
 | elt (lo nb:Nat) (tb te:Ty) (m:List tb.den->List te.den->Nat->Option (List te.den))
 | nest (p:Nat) (sp:ax)
 | srt2 (g:Nat) (kt e:TypeId) (cl:Nat) (cf:List UInt8×List UInt8->List UInt8×List UInt8->Int)
 | cop (sz lo b:Nat) (e:TypeId) (t:Ty)
 | own
structure Cx where
 P:Program
 specs:List (Nat×ax)
 keys:List (Nat×BJ):=[]
def KG {α:Type} (l:List (Int×α)):List Int:=(l.map (·.1)).mergeSort fun x y=>decide (x<=y)
def PV {α:Type} (l:List (Int×α)):Bool:=decide (l.length<=1000000)&&((l.all fun p=>decide (-9223372036854775808<=p.1/\p.1<=9223372036854775807))&&decide (l.map (·.1)).Nodup)
def Az {α:Type} (cf:List UInt8×List UInt8->List UInt8×List UInt8->Int) (l:List ((List UInt8×List UInt8)×α)):List (List UInt8×List UInt8):=(l.map (·.1)).mergeSort fun x y=> !decide (cf y x<0)
theorem PU {α:Type} (cf:List UInt8×List UInt8->List UInt8×List UInt8->Int) (l:List ((List UInt8×List UInt8)×α)):(Az cf l).length=l.length:=by
 unfold Az
 rw[List.length_mergeSort,UM]
def NH {α:Type} (cf:List UInt8×List UInt8->List UInt8×List UInt8->Int) (l:List ((List UInt8×List UInt8)×α)):Bool:=decide (l.length<=1000000)&&((l.all fun p=>decide (p.1.1.length<=9223372036854775807)&&decide (p.1.2.length<=9223372036854775807))&&(decide (l.map (·.1)).Nodup&&((l.map (·.1)).all fun x=>(l.map (·.1)).all fun y=>decide (cf x y<0)||(decide (cf y x<0)||decide (x=y)))))
inductive CK where
 | val (t:Ty)
 | own (e:TypeId) (t:Ty)
 | map (k v:Ty)
 | ref (k off:Nat)
 | fn (g:Nat) (ks:List Nat)
 | ar (t:Ty)
 | arF (t:Ty)
 | rowR (j:Nat)
 | rpR (j sz:Nat)
 | rowC (j:Nat) (e:TypeId) (t:Ty)
 | mapR (j:Nat)
 | mapC (j:Nat) (k v:Ty)
def cg:List CK->Type
 | []=>Unit
 | .val t::r=>t.den×cg r
 | .own _ t::r=>List t.den×cg r
 | .map k v::r=>List (k.den×v.den)×cg r
 | .ref _ _::r=>cg r
 | .fn _ _::r=>cg r
 | .ar t::r=>List t.den×cg r
 | .arF t::r=>List t.den×cg r
 | .rowR _::r=>cg r
 | .rpR _ _::r=>Nat×cg r
 | .rowC _ _ t::r=>List t.den×cg r
 | .mapR _::r=>cg r
 | .mapC _ k v::r=>List (k.den×v.den)×cg r
def CK.size:CK->Nat
 | .val t=>t.size
 | .ar _=>0
 | .arF _=>0
 | .rowC _ _ _=>0
 | .mapC _ _ _=>0
 | _=>1
def jr:List CK->Nat
 | []=>0
 | c::r=>c.size+jr r
def Pg (tmps:List (Nat×CK)) (boxes:List (Nat×List CK)) (cts:List CK):List CK:=
 tmps.map (·.2)++(boxes.flatMap (·.2)++cts)
structure Ann where
 tmps:List (Nat×CK)
 boxes:List (Nat×List CK)
 cts:List CK
 fuel:cg (Pg tmps boxes cts)->Nat
def Ann.cks (A:Ann):List CK:=Pg A.tmps A.boxes A.cts
def iter {X β:Type}:Nat->X->(X->(X->Option β)->Option β)->Option β
 | 0,_,_=>none
 | n+1,x,f=>f x fun y=>iter n y f
def mo (P:Program) (t:TypeId):Bool:=
 match P.underlying t with
 | some (.struct _) | some (.array _ _)=>true
 | _=>false
def bC (P:Program) (t:TypeId):Nat:=((P.info? t).map (·.size)).getD 0
def okT (P:Program) (t:TypeId):Bool:=(P.underlying t).isSome
def B3:Value->CV
 | .int k n=> .int k n
 | .bool b=> .bool b
 | .string s=> .str s.data.toList
 | .slice none 0 0=> .nils
 | .pointer none=> .nilp
 | .func (.func g) f c=>if f.isEmpty&&c.isEmpty then .fn g [] else .any
 | _=> .any
def DP:Value->SV
 | .agg cs=> .v true (cs.toList.map B3)
 | v=> .v false [B3 v]
def St.ev (S:St):Operand->SV
 | .tmp t=>S.tmps.getD t (.v false [.any])
 | .const v=>DP v
 | .global _=> .v false [.any]
 | .func f=> .v false [.fn f []]
variable {β:Type}
def chk (b:Bool) (x:Option β):Option β:=bif b then x else none
def idx {α:Type} (l:List α) (i:Int):Option α:=if 0<=i then l[i.toNat]? else none
def dI (s:List UInt8) (i:Int):Option UInt8:=if 0<=i then s[i.toNat]? else none
def F3 (op:BinOp) (ka:IntKind) (a:Int) (kb:IntKind) (b:Int) (k:CV->Option β):Option β:=
 match op with
 | .shl=>chk (decide (0<=b)) (k (.int ka (ka.wrap (a*2 ^ (min b.toNat ka.bits)))))
 | .shr=>chk (decide (0<=b)) (k (.int ka (a.fdiv (2 ^ (min b.toNat ka.bits)))))
 | _=>if ka≠kb then none else
  match op with
  | .add=>k (.int ka (ka.wrap (a+b)))
  | .sub=>k (.int ka (ka.wrap (a - b)))
  | .mul=>k (.int ka (ka.wrap (a*b)))
  | .quo=>chk (b != 0) (k (.int ka (ka.wrap (a.tdiv b))))
  | .rem=>chk (b != 0) (k (.int ka (a.tmod b)))
  | .and=>k (.int ka (ka.wrap (BitVec.ofInt ka.bits a &&& BitVec.ofInt ka.bits b).toNat))
  | .or=>k (.int ka (ka.wrap (BitVec.ofInt ka.bits a ||| BitVec.ofInt ka.bits b).toNat))
  | .eql=>k (.bool (a==b))
  | .neq=>k (.bool (a != b))
  | .lss=>k (.bool (decide (a<b)))
  | .leq=>k (.bool (decide (a<=b)))
  | .gtr=>k (.bool (decide (a>b)))
  | .geq=>k (.bool (decide (a>=b)))
  | _=>none
def KX (op:BinOp) (a b:List UInt8) (k:CV->Option β):Option β:=
 match op with
 | .eql=>k (.bool (a==b))
 | .neq=>k (.bool !(a==b))
 | .lss=>k (.bool (Op.bytesLess a b))
 | .leq=>k (.bool (Op.bytesLess a b||a==b))
 | .gtr=>k (.bool !(Op.bytesLess a b||a==b))
 | .geq=>k (.bool !(Op.bytesLess a b))
 | .add=>chk (decide (a.length+b.length<=maxLen)) (k (.str (a++b)))
 | _=>none
def Dw (l:List CV) (off n:Nat):Option (List CV):=
 let c:=(l.drop off).take n
 if Nat.beq c.length n then some c else none
def iI (P:Program) (T:TypeId) (l:List CV) (off:Nat) (k:SV->Option β):Option β:=
 if okT P T then
 match Dw l off (bC P T) with
 | some cs=>if mo P T then k (.v true cs) else (match cs with | [c]=>k (.v false [c]) | _=>none)
 | none=>none
 else none
def Cg (P:Program) (g:TypeId->SV->SV->Option Bool) (xs ys:List CV):List Field->Option Bool
 | []=>some true
 | f::fs=>if f.name= "_" then none else
  match iI P f.type xs f.offset some,iI P f.type ys f.offset some with
  | some a,some b=>match g f.type a b with
   | some r=>match Cg P g xs ys fs with
    | some q=>some (r&&q)
    | none=>none
   | none=>none
  | _,_=>none
def CV.KF:CV->Bool
 | .ref _ _ | .cp _ _ _ | .rp _ _ _ _=>true
 | _=>false
def oP (P:Program):Nat->TypeId->SV->SV->Option Bool
 | 0,_,_,_=>none
 | d+1,t,x,y=>match P.underlying t with
  | some (.int _)=>match x,y with
   | .v false [.int k a],.v false [.int k' b]=>if k=k' then some (a==b) else none
   | _,_=>none
  | some .bool=>match x,y with
   | .v false [.bool a],.v false [.bool b]=>some (a==b)
   | _,_=>none
  | some .string=>match x,y with
   | .v false [.str a],.v false [.str b]=>some (a==b)
   | _,_=>none
  | some (.pointer _)=>match x,y with
   | .v false [.nilp],.v false [.nilp]=>some true
   | .v false [.nilp],.v false [.hnd o _]=>some o.isNone
   | .v false [.hnd o _],.v false [.nilp]=>some o.isNone
   | .v false [.nilp],.v false [c]=>if c.KF then some false else none
   | .v false [c],.v false [.nilp]=>if c.KF then some false else none
   | _,_=>none
  | some (.struct fs)=>match x,y with
   | .v true xs,.v true ys=>if P.stoodInHeld t then none else Cg P (oP P d) xs ys fs.toList
   | _,_=>none
  | _=>none
def Rt:SV->SV->Option Bool
 | .v false [.sl _ l],.v false [.nils]=>some l.isEmpty
 | _,_=>none
def QW (P:Program) (op:BinOp) (t:TypeId) (x y:SV) (k:SV->Option β):Option β:=
 if P.eqGuardType P.depth t then none else match op with
 | .eql=>match oP P 9 t x y with
  | some r=>k (.v false [.bool r])
  | none=>match P.underlying t,Rt x y with
   | some (.slice _),some b=>k (.v false [.nb b])
   | _,_=>none
 | .neq=>match oP P 9 t x y with
  | some r=>k (.v false [.bool !r])
  | none=>none
 | _=>none
def Og (P:Program) (op:BinOp) (t:TypeId) (x y:SV) (k:SV->Option β):Option β:=
 match x,y with
 | .v false [.int ka a],.v false [.int kb b]=>F3 op ka a kb b fun c=>k (.v false [c])
 | .v false [.str a],.v false [.str b]=>KX op a b fun c=>k (.v false [c])
 | x,y=>QW P op t x y k
def FR (n:Nat):CV->Option CV
 | .ref k o=>some (.ref k (o+n))
 | .cp t x o=>some (.cp t x (o+n))
 | .rp j sz i o=>some (.rp j sz i (o+n))
 | .hnd (some h) o=>some (.hnd (some h) (o+n))
 | _=>none
def CV.ok:CV->Bool
 | .any=>false
 | .opq _=>false
 | _=>true
def setAt (l:List CV) (off:Nat) (new:List CV):Option (List CV):=
 if Nat.ble (off+new.length) l.length then some (l.take off++new++l.drop (off+new.length)) else none
def As (place:Nat->Option (Nat×Nat)):List CV->List (Nat×SV)->Option (List CV)
 | cells,[]=>some cells
 | cells,(i,.v _ cs)::rest=>
  match place i with
  | none=>none
  | some (off,size)=>if Nat.beq cs.length size&&cs.all CV.ok then (match setAt cells off cs with | some c=>As place c rest | none=>none) else none
 | _,_=>none
def yq (P:Program) (fs:Array Field) (i:Nat):Option (Nat×Nat):=match fs[i]? with | some f=>some (f.offset,bC P f.type) | none=>none
def zeroCells (P:Program) (t:TypeId):Option (List CV):=
 match (P.info? t).bind (·.zero) with
 | some (.agg cs)=>some (cs.toList.map B3)
 | some v=>some [B3 v]
 | none=>none
def I4:List Ty->Ty
 | []=> .unit
 | [a]=>a
 | a::b::r=> .pair a (I4 (b::r))
def A3 (P:Program):Nat->TypeId->Option Ty
 | 0,_=>none
 | n+1,t=>match P.underlying t with
  | some (.int k)=>some (.int k)
  | some .bool=>some .bool
  | some .string=>some .str
  | some (.slice e)=>(A3 P n e).map .slice
  | some (.pointer _)=>some .hnd
  | some (.array m e)=>(A3 P n e).map fun t=> .st (I4 (List.replicate m t))
  | some (.struct fs)=>(fs.toList.mapM fun f=>A3 P n f.type).map fun l=> .st (I4 l)
  | _=>none
def zW (P:Program) (t:TypeId) (ty:Ty):Option ty.den:=
 match (P.info? t).bind (·.zero) with
 | some v=>fM ⟨[],[],[],[]⟩ [] ty (DP v)
 | none=>none
def Ow (a b:Int):Bool:=a==b
def Of (a b:Bool):Bool:=a==b
def SF (a b:List UInt8):Bool:=a==b
def Ty.beq:(t:Ty)->t.den->t.den->Bool
 | .int _,a,b=>Ow a b
 | .bool,a,b=>Of a b
 | .str,a,b=>SF a b
 | .unit,_,_=>true
 | .pair s t,a,b=>s.beq a.1 b.1&&t.beq a.2 b.2
 | .st t,a,b=>t.beq a b
 | _,_,_=>false
def bu (P:Program) (t:TypeId):Ty->Bool
 | .int _=>match P.underlying t with | some (.int _)=>true | _=>false
 | .bool=>match P.underlying t with | some .bool=>true | _=>false
 | .str=>match P.underlying t with | some .string=>true | _=>false
 | _=>false
def bK (P:Program):List Field->Nat->Ty->Bool
 | [f],n,t=>f.name≠ "_" &&Nat.beq f.offset n&&Nat.beq (bC P f.type) 1&&bu P f.type t
 | f::g::r,n,.pair a b=>f.name≠ "_" &&Nat.beq f.offset n&&Nat.beq (bC P f.type) 1&&bu P f.type a&&bK P (g::r) (n+1) b
 | _,_,_=>false
def dX (P:Program) (t:TypeId):Ty->Bool
 | .st s=>match P.underlying t with | some (.struct fs)=> !P.stoodInHeld t&&bK P fs.toList 0 s | _=>false
 | ty=>bu P t ty
def iJ {k v:Ty} (l:List (k.den×v.den)) (x:k.den):Option v.den:=match l.find? (fun p=>k.beq x p.1) with | some p=>some p.2 | none=>none
def s7 {k v:Ty} (l:List (k.den×v.den)) (x:k.den) (y:v.den):List (k.den×v.den):=
 match l with
 | []=>[(x,y)]
 | p::r=>bif k.beq x p.1 then (x,y)::r else p::s7 r x y
def allRefs:List SV->Option (List Nat)
 | []=>some []
 | .v false [.ref k o]::r=>if Nat.beq o 0 then (match allRefs r with | some l=>some (k::l) | none=>none) else none
 | _=>none
def bnd (d:Int):Option SV->Option Int
 | none=>some d
 | some (.v false [.int _ a])=>some a
 | _=>none
def OD (M:St) (d:TypeDesc):CV->Option Int
 | .str s=>match d with | .string=>some s.length | _=>none
 | .sl _ l=>match d with | .slice _=>some l.length | _=>none
 | .nils=>match d with | .slice _=>some 0 | _=>none
 | .row j=>match d with
  | .slice _=>match look M.rows j with
   | some q=>some q.l.length
   | none=>none
  | _=>none
 | .mp j=>match d with
  | .map _ _=>match look M.objs j with
   | some (.map _ _ l)=>some l.length
   | _=>none
  | _=>none
 | _=>none
def Pv (P:Program) (b:Builtin) (c:Call) (S M:St) (k:SV->Option β):Option β:=
 match b with
 | .len=>match c.args.toList.map S.ev,c.argTypes.toList with
  | [.v false [x]],[t]=>match P.underlying t with
   | some d=>match OD M d x with
    | some n=>k (.v false [.int .i64 n])
    | none=>none
   | none=>none
  | _,_=>none
 | .min=>match c.args.toList.map S.ev with
  | [.v false [.int ik a],.v false [.int _ b]]=>k (.v false [.int ik (if b<a then b else a)])
  | _=>none
 | .max=>match c.args.toList.map S.ev with
  | [.v false [.int ik a],.v false [.int _ b]]=>k (.v false [.int ik (if b>a then b else a)])
  | _=>none
 | _=>none
def GV:Nat->Nat->Int->(Nat->Option β)->Option β
 | 0,_,_,_=>none
 | n+1,j,i,k=>bif i==(j:Int) then k j else GV n (j+1) i k
theorem GW {r:β}:∀ {n j:Nat} {i:Int} {k:Nat->Option β},GV n j i k=some r->∃ m:Nat,i=(m:Int)/\m<j+n/\k m=some r
 | 0,_,_,_,h=>by cases h
 | n+1,j,i,k,h=>by
  unfold GV at h
  cases hb:i==(j:Int) with
  | true=>rw[hb] at h;exact⟨j,by simpa using hb,by omega,h⟩
  | false=>
   rw[hb] at h
   obtain⟨m,h1,h2,h3⟩:=GW (h:GV n (j+1) i k=some r)
   exact⟨m,h1,by omega,h3⟩
def Cu (ik:IntKind):List CV->Option (List Int)
 | []=>some []
 | .int k n::r=>if k=ik then (match Cu ik r with | some l=>some (n::l) | none=>none) else none
 | _=>none
def cr (X:Cx) (o:Oper) (S M:St) (k:SV->Option β):Option β:=
 match o.op with
 | .move x | .assign x=>k (S.ev x)
 | .pick c a b=>match S.ev c with
  | .v false [.bool t]=>bif t then k (S.ev a) else k (S.ev b)
  | _=>none
 | .binOp op t x y _=>Og X.P op t (S.ev x) (S.ev y) k
 | .unOp op _ x=>match op,S.ev x with
  | .not,.v false [.bool b]=>k (.v false [.bool !b])
  | .neg,.v false [.int ik n]=>k (.v false [.int ik (ik.wrap (0 - n))])
  | _,_=>none
 | .convert src dst x=>match X.P.underlying src,X.P.underlying dst,S.ev x with
  | some _,some (.int ik),.v false [.int _ n]=>k (.v false [.int ik (ik.wrap n)])
  | some _,some .string,.v false [.str s]=>k (.v false [.str s])
  | some _,some .string,.v false [.int _ n]=>chk (decide (0<=n)&&decide (n<128)) (k (.v false [.str [UInt8.ofNat n.toNat]]))
  | some (.slice e),some .string,.v false [.row j]=>match X.P.underlying e,look M.rows j with
   | some (.int .u8),some q=>if q.fz then none else match kC (b:= .int .u8) q.l with
    | some l=>k (.v false [.str (l.map fun n=>UInt8.ofNat n.toNat)])
    | none=>none
   | _,_=>none
  | _,_,_=>none
 | .nilCheck x=>match S.ev x with
  | .v false [.ref i j]=>k (.v false [.ref i j])
  | .v false [.cp t y j]=>k (.v false [.cp t y j])
  | .v false [.rp i sz j l]=>k (.v false [.rp i sz j l])
  | .v false [.clo g t y]=>k (.v false [.clo g t y])
  | .v false [.fn g ks]=>k (.v false [.fn g ks])
  | .v false [.hnd o j]=>o.bind fun h=>k (.v false [.hnd (some h) j])
  | _=>none
 | .fieldAddr s x f=>match X.P.underlying s,S.ev x with
  | some (.struct fs),.v false [c]=>match fs[f]? with
   | some fd=>if okT X.P fd.type&& !Nat.beq (bC X.P fd.type) 0 then (match FR fd.offset c with
    | some c=>k (.v false [c])
    | none=>none) else none
   | none=>none
  | _,_=>none
 | .field s x f=>match X.P.underlying s,S.ev x with
  | some (.struct fs),.v true cs=>match fs[f]? with
   | some fd=>iI X.P fd.type cs fd.offset k
   | none=>none
  | _,_=>none
 | .load t x=>match S.ev x with
  | .v false [.ref b off]=>match look M.boxes b with
   | some l=>iI X.P t l off k
   | none=>none
  | .v false [.cp ty y off]=>iI X.P t (unpack ty y) off k
  | .v false [.rp j sz i off]=>match look M.rows j with
   | some q=>(q.l[i]?).bind fun y=>if !q.fz&&Nat.beq sz q.t.size then iI X.P t (unpack q.t y) off k else none
   | none=>none
  | .v false [.hnd (some h) off]=>match look M.objs bg with
   | some (.ar _ ty l)=>(l[h]?).bind fun y=>iI X.P t (unpack ty y) off k
   | _=>none
  | _=>none
 | .indexAddr t x ix=>match X.P.underlying t,S.ev x,S.ev ix with
  | some (.slice e),.v false [.sl ty l],.v false [.int _ i]=>
   if okT X.P e&&Nat.beq (bC X.P e) ty.size then (idx l i).bind fun y=>k (.v false [.cp ty y 0]) else none
  | some (.slice e),.v false [.row j],.v false [.int _ i]=>match look M.rows j with
   | some q=>if okT X.P e&&Nat.beq (bC X.P e) q.t.size then
    (if q.fz then (idx q.l i).bind fun y=>k (.v false [.cp q.t y 0])
     else chk (decide (0<=i)&&decide (i<q.l.length)) (k (.v false [.rp j q.t.size i.toNat 0]))) else none
   | none=>none
  | some (.array n e),.v false [c],.v false [.int _ i]=>
   if okT X.P e then GV n 0 i fun j=>(match FR (j*bC X.P e) c with
    | some c=>k (.v false [c])
    | none=>none) else none
  | _,_,_=>none
 | .index t x ix=>match X.P.underlying t,S.ev x,S.ev ix with
  | some .string,.v false [.str s],.v false [.int _ i]=>(dI s i).bind fun b=>k (.v false [.int .u8 b.toNat])
  | some (.array n e),.v true cs,.v false [.int _ i]=>match X.P.underlying e with
   | some (.int ik)=>match Cu ik cs with
    | some l=>if okT X.P e&&Nat.beq (bC X.P e) 1&& !mo X.P e&&Nat.beq l.length n then (idx l i).bind fun m=>k (.v false [.int ik m]) else none
    | none=>none
   | _=>none
  | _,_,_=>none
 | .extract x i=>match S.ev x with
  | .tup l=>match l[i]? with
   | some p=>k (.v p.1 p.2)
   | none=>none
  | _=>none
 | .build t parts=>match X.P.underlying t,zeroCells X.P t with
  | some (.struct fs),some z=>if !fs.all (fun f=>okT X.P f.type) then none else match As (yq X.P fs) z (parts.toList.map fun p=>(p.1,S.ev p.2)) with
   | some cs=>k (.v true cs)
   | none=>none
  | some (.array _ e),some z=>if !okT X.P e then none else match As (fun i=>some (i*bC X.P e,bC X.P e)) z (parts.toList.map fun p=>(p.1,S.ev p.2)) with
   | some cs=>k (.v true cs)
   | none=>none
  | _,_=>none
 | .slice t x lo hi none=>match X.P.underlying t,S.ev x with
  | some .string,.v false [.str s]=>match bnd 0 (lo.map S.ev),bnd s.length (hi.map S.ev) with
   | some a,some b=>chk (decide (0<=a)&&decide (a<=b)&&decide (b<=s.length)) (k (.v false [.str ((s.take b.toNat).drop a.toNat)]))
   | _,_=>none
  | some (.slice e),.v false [.sl ty l]=>
   if okT X.P e&&Nat.beq (bC X.P e) ty.size then
   (match bnd 0 (lo.map S.ev),bnd l.length (hi.map S.ev) with
   | some a,some b=>chk (decide (0<=a)&&decide (a<=b)&&decide (b<=l.length)) (k (.v false [.sl ty ((l.take b.toNat).drop a.toNat)]))
   | _,_=>none)
   else none
  | some (.slice e),.v false [.row j]=>match look M.rows j with
   | some q=>if q.fz&&okT X.P e&&Nat.beq (bC X.P e) q.t.size then
    (match bnd 0 (lo.map S.ev),bnd q.l.length (hi.map S.ev) with
    | some a,some b=>chk (decide (0<=a)&&decide (a<=b)&&decide (b<=q.l.length)) (k (.v false [.sl q.t ((q.l.take b.toNat).drop a.toNat)]))
    | _,_=>none)
    else none
   | none=>none
  | _,_=>none
 | .makeFunc (.func g) first caps=>match allRefs (caps.toList.map S.ev) with
  | some ks=>if first.isEmpty then k (.v false [.fn g ks]) else none
  | none=>none
 | .lookup t x ix ok=>match X.P.underlying t,S.ev x with
  | some (.map kt et),.v false [.mp j]=>match look M.objs j with
   | some (.map kk vv l)=>match fM M [] kk (S.ev ix),zW X.P et vv with
    | some key,some z=>if dX X.P kt kk then
     (if ok then k (.tup [Dt vv ((iJ l key).getD z),(false,[.bool (iJ l key).isSome])]) else k (k8 vv ((iJ l key).getD z))) else none
    | _,_=>none
   | _=>none
  | _,_=>none
 | .call c=>match c.callee with
  | .builtin b=>Pv X.P b c S M k
  | _=>none
 | _=>none
end Go.Dn
namespace Go.Dn
variable {β:Type}
structure Del where
 sv:SV
 box:Option (List CV)
 row:Option jc
 obj:Option lM
def St.app (S:St) (d:Option Tmp) (x:Del):St:=
 match d with
 | none=>S
 | some d=>
  { tmps:=S.tmps.set d x.sv,
    boxes:=match x.box with | some c=>(d,c)::S.boxes | none=>S.boxes,
    rows:=match x.row with | some r=>(d,r)::S.rows | none=>S.rows,
    objs:=match x.obj with | some r=>(d,r)::S.objs | none=>S.objs }
def CN:SV->Option (Option Nat)
 | .v false [.row j]=>some (some j)
 | .v false [.nils]=>some none
 | _=>none
def fm:SV->Option Nat
 | .v false [.ref k o]=>if Nat.beq o 0 then some k else none
 | _=>none
def CL:SV->Option Nat
 | .v false [.mp j]=>some j
 | _=>none
def fL (S:St) (e:TypeId) (t:Ty):CV->Option (List t.den)
 | .row j=>match look S.rows j with
  | some q=>if q.fz|| !Nat.beq q.e e then none else kC (b:=t) q.l
  | none=>none
 | .nils=>some []
 | _=>none
def jZ (S:St) (k v:Ty):CV->Option (List (k.den×v.den))
 | .mp j=>match look S.objs j with
  | some (.map _ _ l)=>Oi l
  | _=>none
 | _=>none
def mX:SV->Option CV
 | .v false [c]=>some c
 | _=>none
def gG (S:St):(l:List OT)->List CV->Option (gZ l)
 | [],[]=>some ()
 | [],_::_=>none
 | .val t::r,cs=>match pack S t cs with
  | some (x,cs')=>match gG S r cs' with
   | some y=>some (x,y)
   | none=>none
  | none=>none
 | .row e t::r,c::cs=>match fL S e t c with
  | some x=>match gG S r cs with
   | some y=>some (x,y)
   | none=>none
  | none=>none
 | .row _ _::_,[]=>none
 | .map k v::r,c::cs=>match jZ S k v c with
  | some x=>match gG S r cs with
   | some y=>some (x,y)
   | none=>none
  | none=>none
 | .map _ _::_,[]=>none
def pI (S:St) (fz:Bool) (t:Ty):Option (List t.den):=
 match look S.objs bg with
 | some (.ar f _ l)=>if f&& !fz then none else kC (b:=t) l
 | _=>none
def jk (S:St) (fb:List Nat) (p:PM) (s:SV):Option p.den:=
 match p with
 | .val t=>fM S fb t s
 | .row e t=>match mX s with | some c=>fL S e t c | none=>none
 | .mrow e t=>match mX s with | some c=>fL S e t c | none=>none
 | .map k v=>match mX s with | some c=>jZ S k v c | none=>none
 | .box l=>match fm s with
  | some k=>match look S.boxes k with
   | some cs=>gG S l cs
   | none=>none
  | none=>none
 | .ar t=>pI S false t
 | .arR t=>pI S true t
def cc (S:St) (fb:List Nat):(ps:List PM)->List SV->Option (dM ps)
 | [],[]=>some ()
 | [],_::_=>none
 | p::r,l=>match (bif p.arg then l.head? else some (.v false [.any])) with
  | some s=>match jk S fb p s with
   | some x=>match cc S fb r (bif p.arg then l.tail else l) with
    | some y=>some (x,y)
    | none=>none
   | none=>none
  | none=>none
def PM.isVal:PM->Bool
 | .val _=>true
 | .arR _=>true
 | _=>false
def oK:List RM->Bool
 | []=>true
 | .val _::r=>oK r
 | _=>false
def DJ (ps:List PM):(rs:List RM)->cq ps rs->List (Bool×List CV)
 | [],_=>[]
 | .val t::r,x=>Dt t x.1::DJ ps r x.2
 | .row _ _::r,x=>(false,[.any])::DJ ps r x.2
 | .map _ _::r,x=>(false,[.any])::DJ ps r x.2
 | .box _::r,x=>(false,[.any])::DJ ps r x.2
def tK:List (Bool×List CV)->SV
 | [p]=> .v p.1 p.2
 | []=> .v false [.any]
 | l=> .tup l
def cE (S:St) (c:Call):Option (Nat×List SV):=
 match c.callee with
 | .value f=>match S.ev f with
  | .v false [.fn g ks]=>some (g,c.args.toList.map S.ev++ks.map fun k=> .v false [.ref k 0])
  | .v false [.clo g t x]=>some (g,c.args.toList.map S.ev++(unpack t x).map fun c=> .v false [c])
  | _=>none
 | _=>none
def p4:List SV->List Nat
 | []=>[]
 | .v _ cs::r=>(cs.flatMap fun | .ref k _=>[k] | .fn _ ks=>ks | _=>[])++p4 r
 | .tup _::r=>p4 r
def eF (cs:List CV):List Nat:=cs.filterMap fun | .row j=>some j | _=>none
def yu:List SV->List Nat
 | []=>[]
 | .v _ cs::r=>eF cs++yu r
 | .tup _::r=>yu r
def qQ (S:St):List Nat->List Nat
 | []=>[]
 | k::r=>(match look S.boxes k with | some cs=>eF cs | none=>[])++qQ S r
def Gf (S:St):List Nat->List Nat
 | []=>[]
 | k::r=>(match look S.boxes k with | some cs=>p4 [.v false cs] | none=>[])++Gf S r
def eU (S:St) (args:List SV):List Nat:=p4 args++Gf S (p4 args)
def cY (S:St) (args:List SV):List Nat:=yu args++qQ S (eU S args)
def aB (S:St) (js:List Nat):St:=
 { S with rows:=js.foldl (fun rs j=>match look rs j with | some q=>(j,{ q with fz:=true })::rs | none=>rs) S.rows }
def zo (S:St) (args:List SV):Bool:=(eU S args).isEmpty&&((yu args).all fun j=>match look S.rows j with | some q=>q.fz | none=>true)
def zE:List RM->Bool
 | []=>true
 | .val t::r=>t.flat&&zE r
 | _=>false
def Nw (sp:ax) (M:St) (args:List SV) (k:SV->Option β):Option β:=
 if sp.ps.all PM.isVal&&oK sp.rs&&(zE sp.rs||(zo M args&&sp.ps.all PM.arg)) then
  match cc (aB M (cY M args)) (eU M args) sp.ps args with
  | some x=>(sp.m x).bind fun y=>k (tK (DJ sp.ps sp.rs y))
  | none=>none
 else none
def wj (S:St) (t:Ty):List SV->Option (List t.den)
 | []=>some []
 | s::r=>match fM S [] t s with
  | some x=>match wj S t r with
   | some l=>some (x::l)
   | none=>none
  | none=>none
def Qs (d:Nat) (ps:List PM):(rs:List RM)->cq ps rs->(Del->Option β)->Option β
 | [.row e t],x,k=>k ⟨.v false [.row d],none,some ⟨false,e,t,x.1⟩,none⟩
 | [.row e t,.map kk vv],x,k=>k ⟨.tup [(false,[.row d]),(false,[.mp d])],none,some ⟨false,e,t,x.1⟩,some (.map kk vv x.2.1)⟩
 | [.row e t,.val t2],x,k=>k ⟨.tup [(false,[.row d]),Dt t2 x.2.1],none,some ⟨false,e,t,x.1⟩,none⟩
 | _,_,_=>none
def S4:List RM->Bool
 | [.row _ _]=>true
 | [.row _ _,.map _ _]=>true
 | [.row _ _,.val _]=>true
 | _=>false
def lF:List RM->Bool
 | [.row _ t]=>t.flat
 | [.row _ t,.map kk vv]=>t.flat&&(kk.flat&&vv.flat)
 | [.row _ t,.val t2]=>t.flat&&t2.flat
 | _=>false
def HQ (sp:ax) (S M:St) (args:List SV) (d:Nat) (k:Del->Option β):Option β:=
 if sp.ps.all PM.isVal&&(lF sp.rs||(zo M args&&sp.ps.all PM.arg))&& !S.aS d&&Nat.blt d 2000&& !S.bh d&& !S.aX d then
  match cc (aB M (cY M args)) (eU M args) sp.ps args with
  | some x=>(sp.m x).bind fun y=>Qs d sp.ps sp.rs y k
  | none=>none
 else none
def GZ (X:Cx) (o:Oper) (t:TypeId) (len:Nat) (parts:Array (Nat×Operand)) (S M:St) (k:Del->Option β):Option β:=
 match X.P.underlying t,o.dst with
 | some (.slice e),some d=>match A3 X.P 9 e,zeroCells X.P e with
  | some ty,some _=>
   if S.aS d|| !Nat.blt d 2000|| !Nat.beq parts.size len|| !((parts.toList.map (·.1))==List.range len)|| !Nat.beq (bC X.P e) ty.size||Nat.beq ty.size 0|| !Nat.ble (len*ty.size) 16777216 then none else
   match wj M ty (parts.toList.map fun p=>S.ev p.2) with
   | some l=>k ⟨.v false [.row d],none,some ⟨false,e,ty,l⟩,none⟩
   | none=>none
  | _,_=>none
 | _,_=>none
def P1 (X:Cx) (o:Oper):Bool:=match o.dst with
 | some d=>(match look X.keys (100000+d) with | some .own=>true | _=>false)
 | none=>false
def LJ (X:Cx) (S M:St) (f:Nat) (args:List SV) (d:Option Tmp) (k:Del->Option β):Option β:=
 match look X.keys f with
 | some (.mk g)=>match args with
  | [.v false [.mp j]]=>k ⟨.v false [.kseq g j],none,none,none⟩
  | _=>none
 | some (.srt g _ e)=>match args,d with
  | [.v false [.kseq g' j]],some d=>match look M.objs j with
   | some (.map (.int .i64) _ l)=>if Nat.beq g g'&& !S.aS d&&Nat.blt d 2000 then chk (PV l) (k ⟨.v false [.row d],none,some ⟨false,e,.int .i64,KG l⟩,none⟩) else none
   | _=>none
  | _,_=>none
 | some (.srt2 g _ e cl cf)=>match args,d with
  | [.v false [.kseq g' j],.v false [.fn cl' []]],some d=>match look M.objs j with
   | some (.map (.st (.pair .str .str)) _ l)=>if Nat.beq g g'&&Nat.beq cl cl'&& !S.aS d&&Nat.blt d 2000 then chk (NH cf l) (k ⟨.v false [.row d],none,some ⟨false,e,.st (.pair .str .str),Az cf l⟩,none⟩) else none
   | _=>none
  | _,_=>none
 | some (.cop sz lo b e t)=>match args,d with
  | [.v true cs],some d=>match cs[lo]? with
   | some (.sl t' l)=>match kC (b:=t) (show List t'.den from l) with
    | some l=>if !Nat.beq cs.length sz||(S.aS d||(cs.any (CV.aS d)||(!Nat.blt d 2000|| !cs.all CV.ok))) then none else
     chk (decide (l.length*b<=140737488355328)&&decide (l.length<=maxLen)) (k ⟨.v true (cs.set lo (.row d)),none,some ⟨false,e,t,l⟩,none⟩)
    | none=>none
   | _=>none
  | _,_=>none
 | _=>none
def cO (X:Cx) (o:Oper) (S M:St) (k:Del->Option β):Option β:=
 match o.op with
 | .alloc t=>match zeroCells X.P t,o.dst with
  | some z,some d=>if S.bz d||z.any (CV.bz d)|| !Nat.blt d 2000 then none else k ⟨.v false [.ref d 0],some z,none,none⟩
  | _,_=>none
 | .box t x=>match S.ev x,o.dst with
  | .v a cs,some d=>if S.bz d||cs.any (CV.bz d)|| !Nat.blt d 2000|| !Nat.beq cs.length (bC X.P t)||(a != mo X.P t)|| !cs.all CV.ok then none else k ⟨.v false [.ref d 0],some cs,none,none⟩
  | _,_=>none
 | .buildSlice t len parts=>if P1 X o then GZ X o t len parts S M k else match X.P.underlying t with
  | some (.slice e)=>match A3 X.P 9 e,zeroCells X.P e with
   | some ty,some _=>
    if !Nat.beq parts.size len|| !((parts.toList.map (·.1))==List.range len)|| !Nat.beq (bC X.P e) ty.size||Nat.beq ty.size 0|| !Nat.ble (len*ty.size) 16777216 then none else
    match wj M ty (parts.toList.map fun p=>S.ev p.2) with
    | some l=>k ⟨.v false [.sl ty l],none,none,none⟩
    | none=>none
   | _,_=>none
  | _=>none
 | .makeSlice t l c=>match X.P.underlying t,o.dst,S.ev l,S.ev c with
  | some (.slice e),some d,.v false [.int _ l],.v false [.int _ c]=>match A3 X.P 9 e with
   | some ty=>match zW X.P e ty with
    | some z=>
     if S.aS d|| !Nat.blt d 2000|| !Nat.beq (bC X.P e) ty.size||Nat.beq ty.size 0 then none else
     chk (decide (0<=l)&&decide (l<=c)&&decide (((((X.P.info? e).map (·.bytes)).getD 0:Nat):Int)*c<=281474976710656)&&decide (c<=9223372036854775807)) (k ⟨.v false [.row d],none,some ⟨false,e,ty,List.replicate l.toNat z⟩,none⟩)
    | _=>none
   | _=>none
  | _,_,_,_=>none
 | .makeMap t none=>match X.P.underlying t,o.dst with
  | some (.map kt et),some d=>match A3 X.P 9 kt,A3 X.P 9 et with
   | some kk,some vv=>if S.bh d||S.aX d|| !dX X.P kt kk|| !Nat.blt d 2000 then none else k ⟨.v false [.mp d],none,none,some (.map kk vv [])⟩
   | _,_=>none
  | _,_=>none
 | .call c=>match cE S c with
  | some (f,args)=>match look X.specs f with
   | some sp=>if S4 sp.rs then (match o.dst with | some d=>HQ sp S M args d k | none=>none) else Nw sp M args fun s=>k ⟨s,none,none,none⟩
   | none=>LJ X S M f args o.dst k
  | none=>cr X o S M fun s=>k ⟨s,none,none,none⟩
 | _=>cr X o S M fun s=>k ⟨s,none,none,none⟩
def aP.beq:aP->aP->Bool
 | .inl a,.inl b=>Nat.beq a b
 | .inr a,.inr b=>Nat.beq a b
 | .ob a,.ob b=>Nat.beq a b
 | _,_=>false
def bq:List (aP×Nat)->aP->Option Nat
 | [],_=>none
 | (o,n)::r,x=>bif aP.beq o x then some n else bq r x
def rz:List (aP×Nat)->Bool
 | []=>false
 | (o,_)::r=>(bq r o).isSome||rz r
def jC (n:Nat):CV->List (aP×Nat)
 | .row j=>[(.inr j,n)]
 | .mp j=>[(.ob j,n)]
 | _=>[]
def gT (n:Nat):List OT->List CV->List (aP×Nat)
 | .val t::r,cs=>gT (n+1) r (cs.drop t.size)
 | .row _ _::r,c::cs=>jC n c++gT (n+1) r cs
 | .map _ _::r,c::cs=>jC n c++gT (n+1) r cs
 | _,_=>[]
def fo (S:St) (i:Nat) (p:PM) (s:SV):List (aP×Nat):=
 match p with
 | .row _ _=>match mX s with | some c=>jC (64*i) c | none=>[]
 | .mrow _ _=>match mX s with | some c=>jC (64*i) c | none=>[]
 | .map _ _=>match mX s with | some c=>jC (64*i) c | none=>[]
 | .box l=>match fm s with
  | some k=>(.inl k,64*i)::(match look S.boxes k with | some cs=>gT (64*i+1) l cs | none=>[])
  | none=>[]
 | .ar _=>[(.ob bg,64*i)]
 | _=>[]
def cV (S:St):Nat->List PM->List SV->List (aP×Nat)
 | _,[],_=>[]
 | i,p::r,l=>(match (bif p.arg then l.head? else some (.v false [.any])) with
  | some s=>fo S i p s
  | none=>[])++cV S (i+1) r (bif p.arg then l.tail else l)
def cN:List PM->List SV->List SV
 | .val _::r,s::q=>s::cN r q
 | .ar _::r,q=>cN r q
 | .arR _::r,q=>cN r q
 | _::r,_::q=>cN r q
 | _,_=>[]
def jy:List OT->Bool
 | []=>true
 | .val t::r=>t.flat&&jy r
 | .row _ t::r=>t.flat&&jy r
 | .map k v::r=>k.flat&&v.flat&&jy r
def dJ:List PM->Bool
 | []=>true
 | .mrow _ t::r=>t.flat&&dJ r
 | .map k v::r=>k.flat&&v.flat&&dJ r
 | .box l::r=>jy l&&dJ r
 | .ar t::r=>t.flat&&dJ r
 | _::r=>dJ r
def dF:List RM->Bool
 | []=>true
 | .val t::r=>t.flat&&dF r
 | .row _ t::r=>t.flat&&dF r
 | .map k v::r=>k.flat&&v.flat&&dF r
 | .box l::r=>jy l&&dF r
def dup:List Nat->Bool
 | []=>false
 | x::r=>r.any (Nat.beq x)||dup r
def nid (d i c:Nat):Nat:=10000+2048*d+64*i+c
def AJ (d i:Nat):Nat->(l:List OT)->gZ l->List CV
 | _,[],_=>[]
 | c,.val t::r,x=>unpack t x.1++AJ d i (c+1) r x.2
 | c,.row _ _::r,x=> .row (nid d i c)::AJ d i (c+1) r x.2
 | c,.map _ _::r,x=> .mp (nid d i c)::AJ d i (c+1) r x.2
def jz (d i:Nat):Nat->(l:List OT)->gZ l->List (Nat×jc)
 | _,[],_=>[]
 | c,.val _::r,x=>jz d i (c+1) r x.2
 | c,.row e t::r,x=>(nid d i c,⟨false,e,t,x.1⟩)::jz d i (c+1) r x.2
 | c,.map _ _::r,x=>jz d i (c+1) r x.2
def gF (d i:Nat):Nat->(l:List OT)->gZ l->List (Nat×lM)
 | _,[],_=>[]
 | c,.val _::r,x=>gF d i (c+1) r x.2
 | c,.row _ _::r,x=>gF d i (c+1) r x.2
 | c,.map k v::r,x=>(nid d i c,.map k v x.1)::gF d i (c+1) r x.2
def pH (ps:List PM) (d:Nat):(rs:List RM)->Nat->cq ps rs->List (Bool×List CV)
 | [],_,_=>[]
 | .val t::r,c,x=>Dt t x.1::pH ps d r (c+1) x.2
 | .row _ _::r,c,x=>(false,[.row (nid d (24+c) 0)])::pH ps d r (c+1) x.2
 | .map _ _::r,c,x=>(false,[.mp (nid d (24+c) 0)])::pH ps d r (c+1) x.2
 | .box _::r,c,x=>(false,[.ref d 0])::pH ps d r (c+1) x.2
def jB (ps:List PM) (d:Nat):(rs:List RM)->Nat->cq ps rs->List (Nat×jc)
 | [],_,_=>[]
 | .val _::r,c,x=>jB ps d r (c+1) x.2
 | .row e t::r,c,x=>(nid d (24+c) 0,⟨false,e,t,x.1⟩)::jB ps d r (c+1) x.2
 | .map _ _::r,c,x=>jB ps d r (c+1) x.2
 | .box l::r,c,x=>jz d (24+c) 1 l x.1++jB ps d r (c+1) x.2
def gf (ps:List PM) (d:Nat):(rs:List RM)->Nat->cq ps rs->List (Nat×lM)
 | [],_,_=>[]
 | .val _::r,c,x=>gf ps d r (c+1) x.2
 | .row _ _::r,c,x=>gf ps d r (c+1) x.2
 | .map k v::r,c,x=>(nid d (24+c) 0,.map k v x.1)::gf ps d r (c+1) x.2
 | .box l::r,c,x=>gF d (24+c) 1 l x.1++gf ps d r (c+1) x.2
def jA (ps:List PM) (d:Nat):(rs:List RM)->Nat->cq ps rs->List (Nat×List CV)
 | [],_,_=>[]
 | .val _::r,c,x=>jA ps d r (c+1) x.2
 | .row _ _::r,c,x=>jA ps d r (c+1) x.2
 | .map _ _::r,c,x=>jA ps d r (c+1) x.2
 | .box l::r,c,x=>(d,AJ d (24+c) 1 l x.1)::jA ps d r (c+1) x.2
def rN (ps:List PM):(rs:List RM)->cq ps rs->dc ps
 | [],x=>x
 | _::r,x=>rN ps r x.2
def s8:List RM->Nat
 | []=>0
 | .box _::r=>s8 r+1
 | _::r=>s8 r
def bV (d:Nat):Nat->(ps:List PM)->List SV->dc ps->List (Nat×List CV)
 | _,[],_,_=>[]
 | i,.box l::r,s::q,x=>(match fm s with | some k=>[(k,AJ d i 1 l x.1)] | none=>[])++bV d (i+1) r q x.2
 | i,.mrow _ _::r,_::q,x=>bV d (i+1) r q x.2
 | i,.map _ _::r,_::q,x=>bV d (i+1) r q x.2
 | i,.ar _::r,q,x=>bV d (i+1) r q x.2
 | i,.val _::r,_::q,x=>bV d (i+1) r q x
 | i,.row _ _::r,_::q,x=>bV d (i+1) r q x
 | i,.arR _::r,q,x=>bV d (i+1) r q x
 | _,_::_,[],_=>[]
def dB (d:Nat):Nat->(ps:List PM)->List SV->dc ps->List (Nat×jc)
 | _,[],_,_=>[]
 | i,.box l::r,s::q,x=>(match fm s with | some _=>jz d i 1 l x.1 | none=>[])++dB d (i+1) r q x.2
 | i,.mrow e t::r,s::q,x=>(match CN s with | some (some j)=>[(j,⟨false,e,t,x.1⟩)] | _=>[])++dB d (i+1) r q x.2
 | i,.map _ _::r,_::q,x=>dB d (i+1) r q x.2
 | i,.ar _::r,q,x=>dB d (i+1) r q x.2
 | i,.val _::r,_::q,x=>dB d (i+1) r q x
 | i,.row _ _::r,_::q,x=>dB d (i+1) r q x
 | i,.arR _::r,q,x=>dB d (i+1) r q x
 | _,_::_,[],_=>[]
def ck (d:Nat):Nat->(ps:List PM)->List SV->dc ps->List (Nat×lM)
 | _,[],_,_=>[]
 | i,.box l::r,s::q,x=>(match fm s with | some _=>gF d i 1 l x.1 | none=>[])++ck d (i+1) r q x.2
 | i,.mrow _ _::r,_::q,x=>ck d (i+1) r q x.2
 | i,.map k v::r,s::q,x=>(match CL s with | some j=>[(j,.map k v x.1)] | _=>[])++ck d (i+1) r q x.2
 | i,.ar t::r,q,x=>(bg,.ar false t x.1)::ck d (i+1) r q x.2
 | i,.val _::r,_::q,x=>ck d (i+1) r q x
 | i,.row _ _::r,_::q,x=>ck d (i+1) r q x
 | i,.arR _::r,q,x=>ck d (i+1) r q x
 | _,_::_,[],_=>[]
def CV.dK (a b:Nat):CV->Bool
 | .row j=>Nat.ble a j&&Nat.blt j b
 | .rp j _ _ _=>Nat.ble a j&&Nat.blt j b
 | .mp j=>Nat.ble a j&&Nat.blt j b
 | .stp j _=>Nat.ble a j&&Nat.blt j b
 | .kseq _ j=>Nat.ble a j&&Nat.blt j b
 | _=>false
def SV.dK (a b:Nat):SV->Bool
 | .v _ cs=>cs.any (CV.dK a b)
 | .tup l=>l.any fun p=>p.2.any (CV.dK a b)
def St.dK (a b:Nat) (S:St):Bool:=S.tmps.any (SV.dK a b)||S.boxes.any fun p=>p.2.any (CV.dK a b)
def nx (d:Nat) (S:St):Bool:= !S.dK (nid d 0 0) (nid (d+1) 0 0)
def cU (d i:Nat):Nat->List OT->List (aP×Nat)
 | _,[]=>[]
 | c,.val _::r=>cU d i (c+1) r
 | c,.row _ _::r=>(.inr (nid d i c),64*i+c)::cU d i (c+1) r
 | c,.map _ _::r=>(.ob (nid d i c),64*i+c)::cU d i (c+1) r
def bD (d:Nat):Nat->List PM->List SV->List (aP×Nat)
 | _,[],_=>[]
 | i,.box l::r,s::q=>(match fm s with | some k=>(.inl k,64*i)::cU d i 1 l | none=>[])++bD d (i+1) r q
 | i,.mrow _ _::r,s::q=>(match CN s with | some (some j)=>[(.inr j,64*i)] | _=>[])++bD d (i+1) r q
 | i,.map _ _::r,s::q=>(match CL s with | some j=>[(.ob j,64*i)] | _=>[])++bD d (i+1) r q
 | i,.ar _::r,q=>(.ob bg,64*i)::bD d (i+1) r q
 | i,.val _::r,_::q=>bD d (i+1) r q
 | i,.row _ _::r,_::q=>bD d (i+1) r q
 | i,.arR _::r,q=>bD d (i+1) r q
 | _,_::_,[]=>[]
def cK (d:Nat):Nat->List RM->List (aP×Nat)
 | _,[]=>[]
 | c,.val _::r=>cK d (c+1) r
 | c,.row _ _::r=>(.inr (nid d (24+c) 0),64*(24+c))::cK d (c+1) r
 | c,.map _ _::r=>(.ob (nid d (24+c) 0),64*(24+c))::cK d (c+1) r
 | c,.box l::r=>((.inl d,64*(24+c))::cU d (24+c) 1 l)++cK d (c+1) r
def rE:List PM->Bool
 | []=>false
 | .arR _::_=>true
 | _::r=>rE r
def Fq (S:St) (l:List (aP×Nat)):Bool:=l.all fun p=>match p.1 with | .ob j=> !S.aX j | _=>true
def OJ (d:Nat) (l:List (aP×Nat)):Bool:=l.all fun p=>match p.1 with
 | .inr j=> !(Nat.ble (nid d 0 0) j&&Nat.blt j (nid (d+1) 0 0))
 | .ob j=> !(Nat.ble (nid d 0 0) j&&Nat.blt j (nid (d+1) 0 0))
 | .inl _=>true
def fR (sp:ax) (S:St) (args:List SV) (d:Option Tmp) (k:St->Option β):Option β:=
 let va:=cN sp.ps args
 let js:=cY S va
 let V:=aB S js
 let ow:=cV S 0 sp.ps args
 let fb:=eU S va
 let dd:=d.getD 0
 let fl:=dF sp.rs&&dJ sp.ps
 let its:=bD dd 0 sp.ps args++cK dd 0 sp.rs
 if rz ow||rz its||dup (its.map (·.2))|| !(its.all fun p=>Nat.blt p.2 2048)||(fb.any fun k=>(bq ow (.inl k)).isSome)||(js.any fun j=>(bq ow (.inr j)).isSome)||(rE sp.ps&&(bq ow (.ob bg)).isSome)|| !nx dd S|| !OJ dd ow|| !Fq S its||
  !(fl||(fb.isEmpty&& !rE sp.ps))||(Nat.blt 0 (s8 sp.rs)&&(S.bz dd||d.isNone))|| !Nat.blt dd 2000 then none else
 match cc V fb sp.ps args with
 | some x=>(sp.m x).bind fun y=>
  let R:=if fl then S else V
  let b:=rN sp.ps sp.rs y
  k { tmps:=match d with | some d=>S.tmps.set d (tK (pH sp.ps dd sp.rs 0 y)) | none=>S.tmps,
      boxes:=jA sp.ps dd sp.rs 0 y++(bV dd 0 sp.ps args b++S.boxes.filter fun p=>(bq ow (.inl p.1)).isNone),
      rows:=jB sp.ps dd sp.rs 0 y++(dB dd 0 sp.ps args b++R.rows.filter fun p=>(bq ow (.inr p.1)).isNone),
      objs:=gf sp.ps dd sp.rs 0 y++(ck dd 0 sp.ps args b++S.objs.filter fun p=>(bq ow (.ob p.1)).isNone) }
 | none=>none
def S3 {α:Type} (a:Option α) (k:α->Option β) (e:Option β):Option β:=
 match a with
 | some y=>k y
 | none=>e
def E5 (sp:ax) (S:St) (args:List SV) (d:Option Tmp) (k:St->Option β) (e:Option β):Option β:=
 let va:=cN sp.ps args
 let js:=cY S va
 let V:=aB S js
 let ow:=cV S 0 sp.ps args
 let fb:=eU S va
 let dd:=d.getD 0
 let fl:=dF sp.rs&&dJ sp.ps
 let its:=bD dd 0 sp.ps args++cK dd 0 sp.rs
 if rz ow||rz its||dup (its.map (·.2))|| !(its.all fun p=>Nat.blt p.2 2048)||(fb.any fun k=>(bq ow (.inl k)).isSome)||(js.any fun j=>(bq ow (.inr j)).isSome)||(rE sp.ps&&(bq ow (.ob bg)).isSome)|| !nx dd S|| !OJ dd ow|| !Fq S its||
  !(fl||(fb.isEmpty&& !rE sp.ps))||(Nat.blt 0 (s8 sp.rs)&&(S.bz dd||d.isNone))|| !Nat.blt dd 2000 then none else
 match cc V fb sp.ps args with
 | some x=>S3 (sp.m x) (fun y=>
  let R:=if fl then S else V
  let b:=rN sp.ps sp.rs y
  k { tmps:=match d with | some d=>S.tmps.set d (tK (pH sp.ps dd sp.rs 0 y)) | none=>S.tmps,
      boxes:=jA sp.ps dd sp.rs 0 y++(bV dd 0 sp.ps args b++S.boxes.filter fun p=>(bq ow (.inl p.1)).isNone),
      rows:=jB sp.ps dd sp.rs 0 y++(dB dd 0 sp.ps args b++R.rows.filter fun p=>(bq ow (.inr p.1)).isNone),
      objs:=gf sp.ps dd sp.rs 0 y++(ck dd 0 sp.ps args b++S.objs.filter fun p=>(bq ow (.ob p.1)).isNone) }) e
 | none=>none
def kP {α:Type}:List (Nat×α)->Nat->List α
 | [],_=>[]
 | (j,x)::r,k=>bif Nat.beq j k then x::kP r k else kP r k
def nt (S:St) (args:List SV) (d:Option Tmp) (k:St->Option β):List ax->Option β
 | []=>none
 | [sp]=>fR sp S args d k
 | sp::sp'::r=>E5 sp S args d k (nt S args d k (sp'::r))
def F0 (S:St) (e:TypeId) (ty:Ty):CV->Option (List ty.den×Option Nat)
 | .nils=>some ([],none)
 | .row j=>match look S.rows j with
  | some q=>if q.fz|| !Nat.beq q.e e then none else (match kC (b:=ty) q.l with | some l=>some (l,some j) | none=>none)
  | none=>none
 | _=>none
def BS (S:St) (ty:Ty):CV->Option (List ty.den)
 | .nils=>some []
 | .sl _ l=>kC (b:=ty) l
 | .row j=>match look S.rows j with
  | some q=>kC (b:=ty) q.l
  | none=>none
 | _=>none
def nX (P:Program) (t:TypeId) (S:St) (b off:Nat) (cs:List CV) (k:St->Option β):Option β:=
 match look S.boxes b with
 | some l=>if okT P t&&Nat.beq cs.length (bC P t)&&cs.all CV.ok then (match setAt l off cs with
  | some l=>k { S with boxes:=(b,l)::S.boxes }
  | none=>none) else none
 | none=>none
def tH (P:Program) (t:TypeId) (S:St) (j sz i off:Nat) (cs:List CV) (k:St->Option β):Option β:=
 match look S.rows j with
 | some q=>if q.fz|| !Nat.beq sz q.t.size|| !okT P t|| !Nat.beq cs.length (bC P t)|| !cs.all CV.ok then none else
  (q.l[i]?).bind fun y=>match setAt (unpack q.t y) off cs with
  | some cs=>match fq (pack S q.t cs) with
   | some y=>k { S with rows:=(j,{ q with l:=q.l.set i y })::S.rows }
   | none=>none
  | none=>none
 | none=>none
def wo (P:Program) (t:TypeId) (S:St) (h off:Nat) (cs:List CV) (k:St->Option β):Option β:=
 match look S.objs bg with
 | some (.ar false ty l)=>if !okT P t|| !Nat.beq cs.length (bC P t)|| !cs.all CV.ok then none else
  (l[h]?).bind fun y=>match setAt (unpack ty y) off cs with
  | some cs=>match fq (pack S ty cs) with
   | some y=>k { S with objs:=(bg,.ar false ty (l.set h y))::S.objs }
   | none=>none
  | none=>none
 | _=>none
def CV.qm (k h:Nat):CV->CV
 | .ref j o=>bif Nat.beq j k then .hnd (some h) o else .ref j o
 | c=>c
def SV.qm (k h:Nat):SV->SV
 | .v a cs=> .v a (cs.map (CV.qm k h))
 | .tup l=> .tup (l.map fun p=>(p.1,p.2.map (CV.qm k h)))
def CV.At (k:Nat):CV->Bool
 | .fn _ ks=>ks.any (Nat.beq · k)
 | _=>false
def SV.At (k:Nat):SV->Bool
 | .v _ cs=>cs.any (CV.At k)
 | .tup l=>l.any fun p=>p.2.any (CV.At k)
def St.At (k:Nat) (S:St):Bool:=S.tmps.any (SV.At k)||S.boxes.any fun p=>p.2.any (CV.At k)
def wg (S0:St) (k:Nat):St:=
 match look S0.objs bg,look S0.boxes k with
 | some (.ar false t l),some cs=>
  let S:=aB S0 (eF cs)
  if S.At k|| !Nat.blt k 2000 then S0 else
  match fq (pack S t cs) with
  | some x=>
   { tmps:=S.tmps.map (SV.qm k l.length),boxes:=(S.boxes.filter fun p=> !Nat.beq p.1 k).map (fun p=>(p.1,p.2.map (CV.qm k l.length))),rows:=S.rows,objs:=(bg,.ar false t (l++[x]))::S.objs }
  | none=>S0
 | _,_=>S0
def Qp (cs:List CV):List Nat:=cs.filterMap fun | .ref k o=>(if Nat.beq o 0 then some k else none) | _=>none
def fS (S:St):List SV->St
 | []=>S
 | .v _ cs::r=>fS ((Qp cs).foldl wg S) r
 | .tup _::r=>fS S r
def sX (S:St) (d:Option Tmp):St:=
 match d with
 | some d=>(match S.tmps.getD d (.v false [.any]) with
  | .v false [.ref k _]=>bif Nat.beq k d then { S with tmps:=S.tmps.set d (.v false [.any]) } else S
  | _=>S)
 | none=>S
def DA (E:BJ) (S:St) (args:List SV) (d:Option Tmp) (k:St->Option β):Option β:=
 match E with
 | .elt lo nb tb te m=>match args with
  | [.v false [.ref kb o],.v false [.rp j sz i off]]=>
   if !Nat.beq o 0|| !Nat.beq off 0 then none else
   match look S.boxes kb,look S.rows j with
   | some cs,some q=>
    if q.fz|| !Nat.beq sz te.size|| !Nat.beq cs.length nb then none else
    match cs[lo]? with
    | some (.sl _ l)=>match kC (b:=tb) l,kC (b:=te) q.l with
     | some l,some ql=>(m l ql i).bind fun ql'=>k ((⟨S.tmps,(kb,cs)::S.boxes,(j,⟨false,q.e,te,ql'⟩)::S.rows,S.objs⟩:St).put d (.v false [.any]))
     | _,_=>none
    | _=>none
   | _,_=>none
  | _=>none
 | .nest p sp=>match args[p]? with
  | some (.v false [.ref km o])=>
   if !Nat.beq o 0|| !S.bz km then none else
   match look S.boxes km with
   | some [.ref kk o2]=>
    if !Nat.beq o2 0||inL (eU S (cN sp.ps (args.set p (.v false [.ref kk 0])))) km||(bq (cV S 0 sp.ps (args.set p (.v false [.ref kk 0]))) (.inl km)).isSome then none else
    fR sp S (args.set p (.v false [.ref kk 0])) d fun S'=>match look S'.boxes km with
     | some [.ref k' o']=>if Nat.beq k' kk&&Nat.beq o' 0&&S.bz kk then k S' else none
     | _=>none
   | _=>none
  | _=>none
 | _=>none
def BJ.Rv:BJ->Bool
 | .elt _ _ _ _ _=>true
 | .nest _ _=>true
 | _=>false
def bQ (X:Cx) (o:Oper) (S:St) (k:St->Option β):Option β:=
 match o.op with
 | .store t a x=>if o.dst.isSome then none else match S.ev a,S.ev x with
  | .v false [.ref b off],.v _ cs=>nX X.P t S b off cs k
  | .v false [.rp j sz i off],.v _ cs=>tH X.P t (aB S (eF cs)) j sz i off cs k
  | .v false [.hnd (some h) off],.v _ cs=>wo X.P t (aB S (eF cs)) h off cs k
  | _,_=>none
 | .mapUpdate t m kx x=>if o.dst.isSome then none else
  let S:=fS (aB S (yu [S.ev x])) [S.ev x]
  match X.P.underlying t,S.ev m with
  | some (.map kt _),.v false [.mp j]=>match look S.objs j with
   | some (.map kk vv l)=>match fM S [] kk (S.ev kx),fM S [] vv (S.ev x) with
    | some key,some y=>if dX X.P kt kk&& !S.aX j then k { S with objs:=(j,.map kk vv (s7 l key y))::S.objs } else none
    | _,_=>none
   | _=>none
  | _,_=>none
 | .slice _ x _ _ _=>
  let S:=aB S (yu [S.ev x])
  cO X o S S fun x=>k (S.app o.dst x)
 | .alloc _=>cO X o (sX S o.dst) (sX S o.dst) fun x=>k ((sX S o.dst).app o.dst x)
 | .call { callee:= .builtin .append,args,argTypes }=>match args.toList.map S.ev,argTypes.toList,o.dst with
  | [.v false [s],.v false [x]],[t,t'],some d=>match X.P.underlying t with
   | some (.slice e)=>match A3 X.P 9 e,zeroCells X.P e with
    | some ty,some zc=>
     if S.aS d|| !Nat.blt d 2000|| !Nat.beq t t'|| !Nat.beq (bC X.P e) ty.size||Nat.beq ty.size 0|| !Nat.beq zc.length ty.size then none else
     match F0 S e ty s,BS S ty x with
     | some (l,j),some l'=>
      chk (decide ((l.length+l'.length)*(((X.P.info? e).map (·.bytes)).getD 0)<=140737488355328)&&decide (l.length+l'.length<=maxLen))
       (k { tmps:=S.tmps.set d (.v false [.row d]),boxes:=S.boxes,rows:=(d,⟨false,e,ty,l++l'⟩)::(match j with | some j=>S.rows.filter (fun p=> !Nat.beq p.1 j) | none=>S.rows),objs:=S.objs })
     | _,_=>none
    | _,_=>none
   | _=>none
  | _,_,_=>none
 | .buildSlice t len parts=>
  let S:=fS (aB S (yu (parts.toList.map fun p=>S.ev p.2))) (parts.toList.map fun p=>S.ev p.2)
  GZ X o t len parts S S fun x=>k (S.app o.dst x)
 | .call c=>match cE S c with
  | some (f,args)=>match look X.keys f with
   | some kf=>if kf.Rv then DA kf S args o.dst k else cO X o S S fun x=>k (S.app o.dst x)
   | none=>nt S args o.dst k (kP X.specs f)
  | none=>cO X o S S fun x=>k (S.app o.dst x)
 | _=>cO X o S S fun x=>k (S.app o.dst x)
def guardOf (ops:List Oper) (o:Oper) (S:St):Option (Option (Nat×Bool×Bool)):=
 match o.guard with
 | none=>some none
 | some (j,want)=>match ops[j]? with
  | some g=>match g.dst with
   | some d=>match S.ev (.tmp d) with
    | .v false [.bool b]=>some (some (d,b,want))
    | _=>none
   | none=>none
  | none=>none
def ja (ops:List Oper) (o:Oper) (S:St):Bool:=
 match o.guard with
 | none=>false
 | some (j,_)=>match ops[j]? with
  | some g=>match g.dst with
   | some d=>match S.ev (.tmp d) with
    | .tup []=>true
    | _=>false
   | none=>false
  | none=>false
def kG:SV:= .tup []
def fork (S:St) (d:Nat) (b want:Bool) (yes no:St->Option β):Option β:=
 bif want then (bif b then yes (S.put (some d) (.v false [.bool true])) else no (S.put (some d) (.v false [.bool false])))
 else (bif b then no (S.put (some d) (.v false [.bool true])) else yes (S.put (some d) (.v false [.bool false])))
def iN (X:Cx) (ops:List Oper):List Oper->St->(St->Option β)->Option β
 | [],S,k=>k S
 | o::rest,S,k=>match guardOf ops o S with
  | none=>bif ja ops o S then iN X ops rest (S.put o.dst kG) k else none
  | some none=>bQ X o S fun S=>iN X ops rest S k
  | some (some (d,b,want))=>fork S d b want (fun S=>bQ X o S fun S=>iN X ops rest S k)
   fun S=>iN X ops rest (S.put o.dst kG) k
def IP (S:St) (t:Ty):Option (List t.den):=
 match look S.objs bg with
 | some (.ar true _ l)=>kC (b:=t) l
 | _=>none
def aV (S:St):(cs:List CK)->List CV->Option (cg cs)
 | [],[]=>some ()
 | [],_::_=>none
 | .val t::r,cvs=>match pack S t cvs with
  | some (x,q)=>match aV S r q with
   | some y=>some (x,y)
   | none=>none
  | none=>none
 | .own e t::r,c::q=>match fL S e t c,aV S r q with
  | some l,some y=>some (l,y)
  | _,_=>none
 | .own _ _::_,[]=>none
 | .map kk vv::r,c::q=>match jZ S kk vv c,aV S r q with
  | some l,some y=>some (l,y)
  | _,_=>none
 | .map _ _::_,[]=>none
 | .ref k off::r,c::q=>match c with
  | .ref k' off'=>if Nat.beq k k'&&Nat.beq off off' then aV S r q else none
  | _=>none
 | .ref _ _::_,[]=>none
 | .fn g ks::r,c::q=>match c with
  | .fn g' ks'=>if Nat.beq g g'&&ks==ks' then aV S r q else none
  | _=>none
 | .fn _ _::_,[]=>none
 | .ar t::r,q=>match pI S false t,aV S r q with
  | some l,some y=>some (l,y)
  | _,_=>none
 | .arF t::r,q=>match IP S t,aV S r q with
  | some l,some y=>some (l,y)
  | _,_=>none
 | .rowR j::r,c::q=>match c with
  | .row j'=>if Nat.beq j j' then aV S r q else none
  | _=>none
 | .rowR _::_,[]=>none
 | .rpR j sz::r,c::q=>match c with
  | .rp j' sz' i off=>if Nat.beq j j'&&(Nat.beq sz sz'&&Nat.beq off 0) then (match aV S r q with
   | some y=>some (i,y)
   | none=>none) else none
  | _=>none
 | .rpR _ _::_,[]=>none
 | .mapR j::r,c::q=>match c with
  | .mp j'=>if Nat.beq j j' then aV S r q else none
  | _=>none
 | .mapR _::_,[]=>none
 | .rowC j e t::r,q=>match fL S e t (.row j),aV S r q with
  | some l,some y=>some (l,y)
  | _,_=>none
 | .mapC j k v::r,q=>match jZ S k v (.mp j),aV S r q with
  | some l,some y=>some (l,y)
  | _,_=>none
def CK.agg:CK->Bool
 | .val (.st _)=>true
 | _=>false
def Dj (S:St):List (Nat×CK)->Option (List CV)
 | []=>some []
 | p::r=>match S.tmps.getD p.1 (.v false [.any]) with
  | .v a cs=>match Dj S r with
   | some l=>if (a==p.2.agg)&&(Nat.beq cs.length p.2.size&&(a||Nat.beq p.2.size 1)) then some (cs++l) else none
   | none=>none
  | _=>none
def BX (S:St):List (Nat×List CK)->Option (List CV)
 | []=>some []
 | p::r=>match look S.boxes p.1 with
  | some cs=>if Nat.beq cs.length (jr p.2) then (match BX S r with
   | some l=>some (cs++l)
   | none=>none) else none
  | none=>none
def St.places (S:St) (A:Ann):Option (List CV):=
 match Dj S A.tmps,BX S A.boxes with
 | some a,some b=>some (a++b)
 | _,_=>none
def carried (base:Nat):List CK->List CV->List (aP×Nat)
 | .val t::r,cvs=>carried base r (cvs.drop t.size)
 | .own _ _::r,c::q=>jC base c++carried (base+1) r q
 | .map _ _::r,c::q=>jC base c++carried (base+1) r q
 | .ref _ _::r,_::q=>carried base r q
 | .fn _ _::r,_::q=>carried base r q
 | .ar _::r,q=>(.ob bg,bg)::carried base r q
 | .arF _::r,q=>carried base r q
 | .rowR _::r,_::q=>carried base r q
 | .rpR _ _::r,_::q=>carried base r q
 | .mapR _::r,_::q=>carried base r q
 | .rowC j _ _::r,q=>(.inr j,j)::carried base r q
 | .mapC j _ _::r,q=>(.ob j,j)::carried base r q
 | _,_=>[]
def cM:Nat:=4000
def je:List CK->Nat
 | []=>0
 | .own _ _::r=>je r+1
 | .map _ _::r=>je r+1
 | _::r=>je r
def CK.mU (n:Nat):CK->Bool
 | .rowR j=>Nat.blt j cM||Nat.ble (cM+n) j
 | .rpR j _=>Nat.blt j cM||Nat.ble (cM+n) j
 | .rowC j _ _=>Nat.blt j cM||Nat.ble (cM+n) j
 | .mapR j=>Nat.blt j cM||Nat.ble (cM+n) j
 | .mapC j _ _=>Nat.blt j cM||Nat.ble (cM+n) j
 | _=>true
def K0 (A:Ann) (S:St):Option (cg A.cks):=
 match S.places A with
 | some cvs=>if !A.cks.all (CK.mU (je A.cks))|| !Nat.blt A.cks.length 1000||rz (carried cM A.cks cvs)||dup ((carried cM A.cks cvs).map (·.2)) then none else aV S A.cks cvs
 | none=>none
def Co:List CK->List CV->List Nat
 | .val t::r,cvs=>eF (cvs.take t.size)++Co r (cvs.drop t.size)
 | .ar _::r,q=>Co r q
 | .arF _::r,q=>Co r q
 | .rowC _ _ _::r,q=>Co r q
 | .mapC _ _ _::r,q=>Co r q
 | _::r,_::q=>Co r q
 | _,_=>[]
def carry (A:Ann) (S:St):Option (cg A.cks):=
 match S.places A with
 | some cvs=>K0 A (aB S (Co A.cks cvs))
 | none=>none
def iG (base:Nat):(cs:List CK)->cg cs->List CV
 | [],_=>[]
 | .val t::r,x=>unpack t x.1++iG base r x.2
 | .own _ _::r,x=> .row base::iG (base+1) r x.2
 | .map _ _::r,x=> .mp base::iG (base+1) r x.2
 | .ref k off::r,x=> .ref k off::iG base r x
 | .fn g ks::r,x=> .fn g ks::iG base r x
 | .ar _::r,x=>iG base r x.2
 | .arF _::r,x=>iG base r x.2
 | .rowR j::r,x=> .row j::iG base r x
 | .rpR j sz::r,x=> .rp j sz x.1 0::iG base r x.2
 | .mapR j::r,x=> .mp j::iG base r x
 | .rowC _ _ _::r,x=>iG base r x.2
 | .mapC _ _ _::r,x=>iG base r x.2
def dP (base:Nat):(cs:List CK)->cg cs->List (Nat×jc)
 | [],_=>[]
 | .val _::r,x=>dP base r x.2
 | .own e t::r,x=>(base,⟨false,e,t,x.1⟩)::dP (base+1) r x.2
 | .map _ _::r,x=>dP (base+1) r x.2
 | .ref _ _::r,x=>dP base r x
 | .fn _ _::r,x=>dP base r x
 | .ar _::r,x=>dP base r x.2
 | .arF _::r,x=>dP base r x.2
 | .rowR _::r,x=>dP base r x
 | .rpR _ _::r,x=>dP base r x.2
 | .mapR _::r,x=>dP base r x
 | .rowC j e t::r,x=>(j,⟨false,e,t,x.1⟩)::dP base r x.2
 | .mapC _ _ _::r,x=>dP base r x.2
def cA (base:Nat):(cs:List CK)->cg cs->List (Nat×lM)
 | [],_=>[]
 | .val _::r,x=>cA base r x.2
 | .own _ _::r,x=>cA (base+1) r x.2
 | .map k v::r,x=>(base,.map k v x.1)::cA (base+1) r x.2
 | .ref _ _::r,x=>cA base r x
 | .fn _ _::r,x=>cA base r x
 | .ar t::r,x=>(bg,.ar false t x.1)::cA base r x.2
 | .arF t::r,x=>(bg,.ar true t x.1)::cA base r x.2
 | .rowR _::r,x=>cA base r x
 | .rpR _ _::r,x=>cA base r x.2
 | .mapR _::r,x=>cA base r x
 | .rowC _ _ _::r,x=>cA base r x.2
 | .mapC j k v::r,x=>(j,.map k v x.1)::cA base r x.2
def uR:List (Nat×CK)->List CV->List SV->List SV
 | p::r,q,tmps=>uR r (q.drop p.2.size) (tmps.set p.1 (.v p.2.agg (q.take p.2.size)))
 | [],_,tmps=>tmps
def BW:List (Nat×List CK)->List CV->List (Nat×List CV)
 | p::r,cs=>(p.1,cs.take (jr p.2))::BW r (cs.drop (jr p.2))
 | [],_=>[]
def head (A:Ann) (n:Nat) (x:cg A.cks):St:=
 let cvs:=iG cM A.cks x
 { tmps:=uR A.tmps cvs (List.replicate n (.v false [.any])),
   boxes:=BW A.boxes (cvs.drop (jr (A.tmps.map (·.2)))),
   rows:=dP cM A.cks x,
   objs:=cA cM A.cks x }
inductive Ex where
 | normal
 | exit (id:Nat)
 | ret
def gv:Code->Nat
 | .region id _ _=>id
 | .seq a _=>gv a
 | .block _ c=>gv c
 | .loop c=>gv c
 | .scope c=>gv c
 | .cond _ a _=>gv a
 | _=>0
structure Msk where
 m:Nat
def inM (s:Msk) (j:Nat):Bool:=Nat.beq (Nat.land (Nat.shiftRight s.m j) 1) 1
def m0:Msk:=⟨0⟩
instance:Membership Nat Msk:=⟨fun s j=>inM s j=true⟩
def jt (acc:List Msk) (es:List Edge):Msk:=
 match es with
 | []=>m0
 | e::r=>bif Region.binds .any e then ⟨Nat.lor (Nat.lor (Nat.shiftLeft 1 e.on) (acc.getD e.on m0).m) (jt acc r).m⟩ else jt acc r
def mm:List Oper->List Msk->List Msk
 | [],acc=>acc
 | o::r,acc=>mm r (acc++[jt acc o.after.toList])
def deps (ops:List Oper):List Msk:=mm ops []
def kj (ds:List Msk) (k:Nat):Bool:=(List.range k).all fun j=>inM (ds.getD k m0) j
def tG (ds:List Msk):Nat->Nat
 | 0=>0
 | k+1=>if kj ds k then tG ds k else k+1
def mask (n N:Nat):Array Bool:=(List.replicate n true++List.replicate (N - n) false).toArray
def bw (ops:List Oper) (j:Nat):Option Nat:=match ops[j]? with | some p=>p.dst | none=>none
def Gn (t:Nat) (m:Msk):List (Option Nat)->Nat->Bool
 | [],_=>true
 | d::r,j=>((match d with | some d=> !Nat.beq d t | none=>true)||inM m j)&&Gn t m r (j+1)
def zb (t i:Nat) (m:Msk) (ds:List Msk):List (Option Nat)->Nat->Bool
 | [],_=>true
 | d::r,j=>((match d with | some d=> !Nat.beq d t | none=>true)||(inM m j||inM (ds.getD j m0) i))&&zb t i m ds r (j+1)
def zj (ops:List Oper) (ds:List Msk) (n:Nat):Bool:=
 let dl:=(ops.take n).map (·.dst)
 !dup ((ops.take n).filterMap (·.dst))&&(List.range n).all fun i=>match ops[i]? with
  | some o=>o.dst.isSome&&((o.looksAt ops.toArray).all fun t=>Gn t (ds.getD i m0) dl 0)
  | none=>false
def dh (ops:List Oper):Bool:=(List.range ops.length).all fun i=>match ops[i]? with
 | some o=>o.after.toList.all fun e=> !Region.binds .any e||Nat.blt e.on i
 | none=>true
def vZ (ops:List Oper) (n:Nat):Bool:=
 let ds:=deps ops
 Nat.ble n ops.length&&zj ops ds n&&((List.range ops.length).all fun k=>Nat.blt k n||kj ds k)&&dh ops&&Region.seqB .any ops.toArray (ops.length - n) n (mask n ops.length)
def CV.cy (d:Nat) (c:CV):Bool:=c.bz d||(c.aS d||(c.bh d||c.aX d))
def SV.cy (d:Nat):SV->Bool
 | .v _ cs=>cs.any (CV.cy d)
 | .tup l=>l.any fun p=>p.2.any (CV.cy d)
def St.cy (d:Nat) (S:St):Bool:=S.tmps.any (SV.cy d)||S.boxes.any fun p=>p.2.any (CV.cy d)
def I0 (Sn:St) (d dj:Nat):Bool:=
 (Sn.tmps.getD dj (.v false [.any])).cy d||(match look Sn.boxes dj with | some cs=>cs.any (CV.cy d) | none=>false)
def Oy:CV->List Nat
 | .ref j _=>[j]
 | .fn _ ks=>ks
 | .row j=>[j]
 | .rp j _ _ _=>[j]
 | .mp j=>[j]
 | .stp j _=>[j]
 | .kseq _ j=>[j]
 | _=>[]
def wJ:List CV->List Nat
 | []=>[]
 | c::r=>Oy c++wJ r
def KE:List (Bool×List CV)->List Nat
 | []=>[]
 | c::r=>wJ c.2++KE r
def Oz:SV->List Nat
 | .v _ cs=>wJ cs
 | .tup l=>KE l
def GA:List SV->List Nat
 | []=>[]
 | c::r=>Oz c++GA r
def KD:List (Nat×List CV)->List Nat
 | []=>[]
 | c::r=>c.1::(wJ c.2++KD r)
def GH {α:Type}:List (Nat×α)->List Nat
 | []=>[]
 | c::r=>c.1::GH r
def St.ids (S:St):List Nat:=GA S.tmps++(KD S.boxes++(GH S.rows++GH S.objs))
def KC (Sn:St) (dj:Nat):List Nat:=Oz (Sn.tmps.getD dj (.v false [.any]))++(match look Sn.boxes dj with | some cs=>wJ cs | none=>[])
def uK (ops:List Oper) (n:Nat) (S Sn:St):Bool:=
 let ds:=deps ops
 let hs:=S.ids
 ((ops.take n).all fun o=>match o.dst with | some d=> !inL hs d | none=>false)&&
 (List.range n).all fun j=>match bw ops j with
   | some dj=>(KC Sn dj).all fun a=>(List.range n).all fun i=>Nat.beq i j||(inM (ds.getD j m0) i||(match bw ops i with | some d=> !Nat.beq d a | none=>true))
   | none=>true
def mM (X:Cx) (ops:List Oper) (M:St):List Oper->St->(St->Option β)->Option β
 | [],S,k=>k S
 | o::rest,S,k=>match guardOf ops o S with
  | none=>bif ja ops o S then mM X ops M rest (S.put o.dst kG) k else none
  | some none=>cO X o S M fun x=>mM X ops M rest (S.app o.dst x) k
  | some (some (d,b,want))=>fork S d b want (fun S=>cO X o S M fun x=>mM X ops M rest (S.app o.dst x) k)
   fun S=>mM X ops M rest (S.put o.dst kG) k
def DE:Op->Bool
 | .store _ _ _=>true
 | _=>false
def qP:Op->Bool
 | .move _=>true
 | .assign _=>true
 | .binOp _ _ _ _ _=>true
 | _=>false
def nB:Op->Bool
 | .makeSlice _ _ _=>true
 | _=>false
def nF:St:=⟨[],[],[],[]⟩
def PY (ops:List Oper) (ds:List Msk) (m:Nat):Bool:=match ops[m]? with
 | some o=>DE o.op&&o.guard.isNone&&o.dst.isNone&&((List.range m).all fun i=>inM (ds.getD m m0) i||(match ops[i]? with | some p=>qP p.op&&p.guard.isNone | none=>false))&&
  ((o.looksAt ops.toArray).all fun t=>(List.range m).all fun j=>if bw ops j==some t then inM (ds.getD m m0) j else true)
 | none=>false
def Ff (ops:List Oper) (m:Nat):Bool:=
 let ds:=deps ops
 Nat.ble (m+1) ops.length&&zj ops ds m&&((List.range ops.length).all fun k=>Nat.blt k (m+1)||kj ds k)&&dh ops&&Region.seqB .any ops.toArray (ops.length - (m+1)) (m+1) (mask (m+1) ops.length)&&PY ops ds m
def NI (ops:List Oper) (ds:List Msk) (m:Nat):Bool:=match ops[m]? with
 | some o=>DE o.op&&o.guard.isNone&&o.dst.isNone&&((List.range m).all fun i=>inM (ds.getD m m0) i||(match ops[i]? with | some p=>(qP p.op||nB p.op)&&p.guard.isNone | none=>false))&&
  ((o.looksAt ops.toArray).all fun t=>(List.range m).all fun j=>if bw ops j==some t then inM (ds.getD m m0) j else true)
 | none=>false
def Fg (ops:List Oper) (m:Nat):Bool:=
 let ds:=deps ops
 Nat.ble (m+1) ops.length&&zj ops ds m&&((List.range ops.length).all fun k=>Nat.blt k (m+1)||kj ds k)&&dh ops&&Region.seqB .any ops.toArray (ops.length - (m+1)) (m+1) (mask (m+1) ops.length)&&NI ops ds m
def CC (ops:List Oper) (m:Nat):List Nat:=(List.range m).filterMap fun i=>match ops[i]? with
 | some p=>if nB p.op&& !inM ((deps ops).getD m m0) i then p.dst else none
 | none=>none
def qx:Op->Bool
 | .call { callee:= .builtin .append, .. }=>true
 | _=>false
def gx:List PM->Bool
 | []=>true
 | .val _::r=>gx r
 | .row _ _::r=>gx r
 | _=>false
def OF:List RM->Bool
 | [.row _ _]=>true
 | _=>false
def zl (X:Cx):Op->Bool
 | .call c=>match c.callee with
  | .value (.func g)=>(match look X.keys g with
   | none=>(match kP X.specs g with
    | [sp]=>gx sp.ps&&(!sp.ps.all PM.isVal&&OF sp.rs)
    | _=>false)
   | some _=>false)
  | _=>false
 | _=>false
def KL:Ty->Bool
 | .int _=>true
 | .bool=>true
 | .str=>true
 | _=>false
def mw:List OT->Bool
 | []=>true
 | .val t::r=>KL t&&mw r
 | _=>false
def jO:List PM->Bool
 | []=>true
 | .val t::r=>KL t&&jO r
 | _=>false
def vH:List PM->Bool
 | .box l::r=>mw l&&jO r
 | _=>false
def wK (X:Cx):Op->Bool
 | .call c=>match c.callee with
  | .value (.func g)=>(match look X.keys g with
   | none=>(match kP X.specs g with
    | [sp]=>vH sp.ps&&(oK sp.rs&&dF sp.rs)
    | _=>false)
   | some _=>false)
  | _=>false
 | _=>false
def Sk (X:Cx) (op:Op):Option Operand:=bif wK X op then (match op with
 | .call c=>c.args.toList.head?
 | _=>none) else none
def isApp (X:Cx) (op:Op):Bool:=qx op||(zl X op||wK X op)
def we (hs:List Nat) (d:Nat):Bool:=hs.all fun j=> !(Nat.ble (nid d 0 0) j&&Nat.blt j (nid (d+1) 0 0))
def lR (A:Op->Bool):List Oper->Nat
 | []=>0
 | o::r=>bif DE o.op||A o.op then 0 else Nat.succ (lR A r)
def SU:Op->Bool
 | .assign _=>true
 | _=>false
def sZ:List Oper->Nat
 | []=>0
 | o::r=>bif SU o.op then 0 else Nat.succ (sZ r)
def opAt (ops:List Oper) (t:Nat):Option Oper:=ops.find? (fun o=>match o.dst with | some d=>Nat.beq d t | none=>false)
def FQ (ops:List Oper):Nat->Operand->Bool
 | 0,_=>false
 | f+1,.tmp t=>match opAt ops t with
  | some o=>(match o.op with | .indexAddr _ _ _=>true | .fieldAddr _ x _=>FQ ops f x | .nilCheck x=>FQ ops f x | .move x=>FQ ops f x | _=>false)
  | none=>false
 | _+1,_=>false
def yK (ops:List Oper) (S:St):Nat->Operand->Option Nat
 | 0,_=>none
 | f+1,.tmp t=>match opAt ops t with
  | some o=>(match o.op with | .fieldAddr _ x _=>yK ops S f x | .nilCheck x=>yK ops S f x | .move x=>yK ops S f x | .alloc _=>some t | _=>none)
  | none=>(match S.ev (.tmp t) with | .v false [.ref b _]=>some b | _=>none)
 | _+1,_=>none
def QJ:Op->Option Operand
 | .store _ a _=>some a
 | _=>none
def adX (X:Cx) (op:Op):Option Operand:=match QJ op with
 | some a=>some a
 | none=>Sk X op
structure Touch where
 rt:Bool
 bs:Option (List Nat)
def bX (X:Cx) (ops:List Oper) (S:St):List Oper->Touch
 | []=>⟨false,some []⟩
 | o::r=>match adX X o.op with
  | some a=>bif FQ ops 9 a then ⟨true,(bX X ops S r).bs⟩ else (match yK ops S 9 a with
   | some b=>⟨(bX X ops S r).rt,(match (bX X ops S r).bs with | some l=>some (b::l) | none=>none)⟩
   | none=>⟨true,none⟩)
  | none=>bif isApp X o.op then ⟨true,(bX X ops S r).bs⟩ else bX X ops S r
def fT (t:Touch) (k:Nat):Bool:=match t.bs with
 | some l=> !inL l k
 | none=>false
def DD:Op->Bool
 | .binOp _ _ _ _ _=>true
 | _=>false
def ze (ops:List Oper) (ds:List Msk) (m j:Nat):Bool:=match ops[j]? with
 | some o=>DD o.op&&(Nat.blt m j&&(o.guard.isNone&&((o.after.toList.all fun e=> !Region.binds .any e||(Nat.beq (e.on+1) j||inM (ds.getD (j - 1) m0) e.on))&&
  (Region.noSelect ops.toArray&&Region.free .any ops.toArray ((List.range ops.length).map fun k=>inM (ds.getD j m0) k).toArray j))))
 | none=>false
def KN (ds:List Msk) (m n:Nat):Bool:=(List.range n).all fun i=>Nat.blt i m||(List.range i).all fun j=>Nat.blt j m||inM (ds.getD i m0) j
def N5 (ops:List Oper) (ds:List Msk) (m n:Nat):Bool:=
 let dl:=(ops.take n).map (·.dst)
 !dup ((ops.take n).filterMap (·.dst))&&((List.range n).all fun i=>match ops[i]? with
  | some o=>((o.looksAt ops.toArray).all fun t=>zb t i (ds.getD i m0) ds dl 0)&&((Nat.blt i m||o.guard.isNone)&&(Nat.blt i m||(List.range i).all fun j=>Nat.blt j m||(inM (ds.getD i m0) j||ze ops ds m j)))
  | none=>false)
def sW (ops:List Oper) (m n:Nat):Bool:=
 let ds:=deps ops
 Nat.blt m n&&(Nat.ble n ops.length&&(zj ops ds m&&(((List.range ops.length).all fun k=>Nat.blt k n||kj ds k)&&(dh ops&&(Region.seqB .any ops.toArray (ops.length - n) n (mask n ops.length)&&N5 ops ds m n)))))
def cC (t:Touch) (S:St):St:=⟨[],S.boxes.filter (fun p=>fT t p.1),bif t.rt then [] else S.rows,bif t.rt then [] else S.objs⟩
def uc (x:Del):Bool:=x.box.isNone&&(x.row.isNone&&x.obj.isNone)
def Av:Op->Bool
 | .alloc _=>true
 | _=>false
def rH (lb:Bool) (op:Op) (x:Del):Bool:=bif lb&&Av op then x.row.isNone&&x.obj.isNone else uc x
def GI (ops:List Oper) (m:Nat):List (Nat×List Nat):=(List.range m).filterMap fun i=>match ops[i]? with
 | some o=>bif Av o.op&& !inM ((deps ops).getD m m0) i then (match o.dst with
  | some d=>some (d,(List.range m).filterMap fun j=>bif Nat.beq j i||inM ((deps ops).getD j m0) i then bw ops j else none)
  | none=>none) else none
 | none=>none
def inU (sd:List (Nat×List Nat)) (k:Nat):Bool:=sd.any fun p=>Nat.beq p.1 k
def noB (sd:List (Nat×List Nat)) (S:St):St:={ S with boxes:=S.boxes.filter fun p=> !inU sd p.1 }
def x4 (sd:List (Nat×List Nat)) (S:St):Bool:=sd.all fun q=>(S.boxes.all fun p=> !p.2.any (CV.bz q.1))&&
 (List.range S.tmps.length).all fun t=>inL q.2 t|| !(S.tmps.getD t (.v false [.any])).bz q.1
def Ov (t:Touch) (sd:List (Nat×List Nat)):Bool:=sd.all fun q=>fT t q.1
def LN (ops:List Oper) (m n i:Nat):List Oper:=(List.range n).filterMap fun j=>if Nat.ble m j&& !inM ((deps ops).getD j m0) i then ops[j]? else none
def ff (X:Cx) (ops:List Oper) (M:St) (Mr:Nat->St) (dm:Msk) (lb:Bool):Nat->List Oper->St->(St->Option β)->Option β
 | _,[],S,k=>k S
 | i,o::rest,S,k=>match guardOf ops o S with
  | none=>bif ja ops o S then ff X ops M Mr dm lb (i+1) rest (S.put o.dst kG) k else none
  | some none=>bif inM dm i then cO X o S M fun x=>ff X ops M Mr dm lb (i+1) rest (S.app o.dst x) k
   else cO X o S (Mr i) fun x=>bif rH lb o.op x then ff X ops M Mr dm lb (i+1) rest (S.app o.dst x) k else none
  | some (some (d,b,want))=>fork S d b want (fun S=>bif inM dm i then cO X o S M fun x=>ff X ops M Mr dm lb (i+1) rest (S.app o.dst x) k
   else cO X o S (Mr i) fun x=>bif rH lb o.op x then ff X ops M Mr dm lb (i+1) rest (S.app o.dst x) k else none)
   fun S=>ff X ops M Mr dm lb (i+1) rest (S.put o.dst kG) k
def HF (t:Touch):SV->Bool
 | .v false [.ref b _]=> !fT t b
 | _=>t.rt
def Ct (S:St):Op->Bool
 | .binOp .add _ x y _=>match S.ev x,S.ev y with
  | .v false [.int _ _],.v false [.int _ _]=>true
  | _,_=>false
 | _=>false
def Ri (S:St) (hs:List Nat) (d:Option Nat) (x:Del):Bool:=x.box.isNone&&(x.obj.isNone&&(match d with
 | some d=> !inL hs d&&(look S.rows d).isNone
 | none=>false))
def GK (sd:List (Nat×List Nat)) (hs:List Nat) (t:Touch) (o:Oper) (S:St):Bool:=match o.op with
 | .call c=>match c.args.toList.map S.ev with
  | .v false [.ref b _]::q=> !fT t b&&(!inU sd b&&((p4 q).isEmpty&&we hs (o.dst.getD 0)))
  | _=>false
 | _=>false
def iO (X:Cx) (ops:List Oper) (S0:St) (hs:List Nat) (sd:List (Nat×List Nat)) (e:Bool):List Oper->St->(St->Option β)->Option β
 | [],S,k=>bif x4 sd S then k S else none
 | o::rest,S,k=>bif x4 sd S then (match QJ o.op with
  | some a=>bif sd.isEmpty&&HF (bX X ops S0 [o]) (S.ev a) then bQ X o S fun S=>iO X ops S0 hs sd e rest S k else none
  | none=>bif qx o.op
   then (bif sd.isEmpty&&((bX X ops S0 [o]).rt&&(match o.dst with | some d=> !inL hs d | none=>false)) then bQ X o S fun S=>iO X ops S0 hs sd e rest S k else none)
   else bif zl X o.op
   then (bif sd.isEmpty&&((bX X ops S0 [o]).rt&&(match o.dst with | some d=>we hs d | none=>false)) then bQ X o S fun S=>iO X ops S0 hs sd e rest S k else none)
   else bif wK X o.op
   then (bif GK sd hs (bX X ops S0 [o]) o S then bQ X o S fun S=>iO X ops S0 hs sd e rest S k else none)
   else bif e&&(DD o.op&& !Ct S o.op) then none
   else cO X o S (noB sd S) fun x=>bif uc x||Ri S hs o.dst x then iO X ops S0 hs sd e rest (S.app o.dst x) k else none) else none
def AX (X:Cx) (ops:List Oper) (S:St) (k:St->Option β) (m n:Nat):Option β:=
 let sd:=GI ops m
 bif Ov (bX X ops S ((ops.take n).drop m)) sd then
 ff X ops S (fun i=>cC (bX X ops S (LN ops m n i)) S) ((deps ops).getD m m0) true 0 (ops.take m) S fun Sn=>if uK ops m S Sn then iO X ops S S.ids sd (!KN (deps ops) m n) ((ops.take n).drop m) Sn fun S=>iN X ops (ops.drop n) S k else none
 else none
def runM (X:Cx) (ops:List Oper) (m:Nat) (S:St) (k:St->Option β):Option β:=match ops[m]? with
 | some o=>match o.op with
  | .store _ a _=>match S.ev a with
   | .v false [.ref _ _]=>bQ X o S fun S'=>bif (CC ops m).all fun d=> !S'.boxes.any fun p=>p.2.any (CV.aS d) then k S' else none
   | _=>none
  | _=>none
 | none=>none
def qC (X:Cx) (ops:List Oper) (S:St) (k:St->Option β) (els:Option β):Option β:=
 let n:=tG (deps ops) ops.length
 if vZ ops n&& !(ops.take n).any (fun o=>isApp X o.op) then mM X ops S (ops.take n) S fun Sn=>if uK ops n S Sn then iN X ops (ops.drop n) Sn k else none
 else if Ff ops (n - 1)&& !(ops.take (n - 1)).any (fun o=>isApp X o.op) then mM X ops S (ops.take (n - 1)) S fun Sn=>if uK ops (n - 1) S Sn then iN X ops (ops.drop (n - 1)) Sn k else none
 else if Fg ops (n - 1)&& !(ops.take (n - 1)).any (fun o=>isApp X o.op) then mM X ops S (ops.take (n - 1)) S fun Sn=>if uK ops (n - 1) S Sn then runM X ops (n - 1) Sn fun S'=>iN X ops (ops.drop (n - 1+1)) S' k else none
 else if sW ops (lR (isApp X) ops) n then AX X ops S k (lR (isApp X) ops) n
 else if sW ops (sZ ops) n&& !(ops.take (sZ ops)).any (fun o=>isApp X o.op) then AX X ops S k (sZ ops) n
 else els
def Sm (X:Cx) (ops:List Oper):Bool:=
 let n:=tG (deps ops) ops.length
 (vZ ops n&& !(ops.take n).any (fun o=>isApp X o.op))||((Ff ops (n - 1)&& !(ops.take (n - 1)).any (fun o=>isApp X o.op))||((Fg ops (n - 1)&& !(ops.take (n - 1)).any (fun o=>isApp X o.op))||
   (sW ops (lR (isApp X) ops) n||(sW ops (sZ ops) n&& !(ops.take (sZ ops)).any (fun o=>isApp X o.op)))))
def DO (σ:Nat->Nat) (o:Oper):Oper:={ o with after:=o.after.map fun e=>{ e with on:=σ e.on } }
def Ir (A:Op->Bool) (ds:List Msk):Nat->List Oper->List Nat->List Nat->List Nat
 | _,[],sp,fl=>fl++sp
 | i,o::r,sp,fl=>bif DE o.op||(A o.op||sp.any fun j=>inM (ds.getD i m0) j) then Ir A ds (i+1) r (sp++[i]) fl else Ir A ds (i+1) r sp (fl++[i])
def lS (A:Op->Bool) (ops:List Oper):List Nat:=List.range (lR A ops)++Ir A (deps ops) (lR A ops) (ops.drop (lR A ops)) [] []
def posOf:List Nat->Nat->Nat
 | [],_=>0
 | x::r,i=>bif Nat.beq x i then 0 else Nat.succ (posOf r i)
def qW (ops:List Oper) (p:List Nat):List Oper:=match ops with
 | []=>[]
 | o0::_=>p.map fun i=>DO (posOf p) (ops.getD i o0)
def wm (ops:List Oper) (p:List Nat):Bool:=
 Nat.beq p.length ops.length&&(((List.range ops.length).all fun i=>Nat.blt (posOf p i) ops.length&&Nat.beq (p.getD (posOf p i) ops.length) i)&&
  (((List.range ops.length).all fun j=>Nat.blt (p.getD j ops.length) ops.length&&Nat.beq (posOf p (p.getD j ops.length)) j)&&
    ops.all fun o=>o.guard.isNone&&o.after.toList.all fun e=>Nat.blt e.on ops.length))
def P4 (e:Edge):Bool:=match e.ground with
 | .phase=>true
 | .chain=>true
 | _=>false
def rJ (o:Oper):Oper:=match o.op with
 | .fieldAddr _ _ _=>{ o with after:=(o.after.toList.filter fun e=> !P4 e).toArray }
 | _=>o
def gR (ops:List Oper):List Oper:=ops.map rJ
def sN (o:Oper):Oper:={ o with after:=o.after.push ⟨0,.phase⟩ }
def DH:List Oper->List Oper
 | []=>[]
 | o::r=>o::r.map sN
def OG (ops:List Oper):Bool:=match ops with
 | []=>false
 | o::_=>(match o.op with | .move _=>true | _=>false)&&(ops.all (fun p=>p.guard.isNone)&&(o.after.isEmpty&&(o.dst.isSome&&(Region.noSelect ops.toArray&&Region.free .any ops.toArray (Array.replicate ops.length false) 0))))
def tZ (ops:List Oper) (mask:Array Bool) (may:List Nat):Bool:=
 !(Region.ready .any ops.toArray mask).isEmpty&&(Region.ready .any ops.toArray mask).all (inL may)
def So (ops:List Oper):Bool:=
 let A:=ops.toArray
 (Region.noSelect A&&ops.all fun o=>o.guard.isNone)&&
 ((Region.free .any A #[false,false,false,false,false,false,false,false] 0&&(Region.ready .any A #[false,false,false,false,false,false,false,false]).contains 0)&&
 ((Region.free .any A #[true,false,false,false,false,false,false,false] 3&&(Region.ready .any A #[true,false,false,false,false,false,false,false]).contains 3)&&
 (tZ ops #[true,false,false,true,false,false,false,false] [1]&&
 (tZ ops #[true,true,false,true,false,false,false,false] [2,5]&&
 (tZ ops #[true,true,true,true,false,false,false,false] [4,5]&&
 (tZ ops #[true,true,true,true,true,false,false,false] [5]&&
 (tZ ops #[true,true,false,true,false,true,false,false] [2,6]&&
 (tZ ops #[true,true,true,true,false,true,false,false] [4,6]&&
 (tZ ops #[true,true,true,true,true,true,false,false] [6]&&
 (tZ ops #[true,true,false,true,false,true,true,false] [2]&&
 (tZ ops #[true,true,true,true,false,true,true,false] [4]&&
 tZ ops #[true,true,true,true,true,true,true,false] [7])))))))))))
def IZ (X:Cx) (ops:List Oper) (S:St) (k:St->Option β):Option β:=
 if ops.any (P1 X)&&OG ops then qC X (DH ops) S k none
 else qC X ops S k (if wm ops (lS (isApp X) ops) then (
  if Sm X (qW ops (lS (isApp X) ops)) then qC X (qW ops (lS (isApp X) ops)) S k none
  else if dh ops&&wm (gR ops) (lS (isApp X) (gR ops)) then qC X (qW (gR ops) (lS (isApp X) (gR ops))) S k none else none) else none)
def aT {β γ:Type}:Option (β ⊕ γ)->(γ->Option β)->Option β
 | none,_=>none
 | some (.inl r),_=>some r
 | some (.inr v),f=>f v
def Cs {β γ:Type}:Option β->Option (β ⊕ γ)
 | some r=>some (.inl r)
 | none=>none
def meet {β:Type} (A:Ann) (n:Nat) (S:St):Option (β ⊕ cg A.cks):=
 match carry A S with
 | some v=>bif Nat.beq S.tmps.length n then some (.inr v) else none
 | none=>none
def RL (x y:Code):Nat:=100000+max (gv x) (gv y)
def QM (c:Code):Nat:=200000+gv c
noncomputable def both {β:Type} (a b:Option β):Option β:=open Classical in if a=b then a else none
def mH:Touch:=⟨false,some []⟩
def O5 (X:Cx) (ops:List Oper) (S:St) (k:St->Option β):Option β:=ff X ops S (fun _=>cC mH S) m0 false 0 ops S k
def OY (X:Cx) (ops:List Oper) (dr:Bool) (S:St) (k:St->Option β):Option β:=
 bif dr then (bif vZ ops ops.length&& !(ops.any fun o=>qx o.op) then O5 X ops S fun Sn=>bif uK ops ops.length S Sn then k Sn else none else none)
 else O5 X ops S k
def jL (A:Ann):List (Nat×Ty):=A.tmps.filterMap fun | (i,.val t)=>some (i,t) | _=>none
def Iz:List (Nat×Ty)->Type
 | []=>Unit
 | p::r=>p.2.den×Iz r
def GF (S:St):(l:List (Nat×Ty))->Option (Iz l)
 | []=>some ()
 | p::r=>match fM S [] p.2 (S.tmps.getD p.1 (.v false [.any])) with
  | some x=>match GF S r with
   | some y=>some (x,y)
   | none=>none
  | none=>none
def Ay:(l:List (Nat×Ty))->Iz l->List SV->List SV
 | [],_,T=>T
 | p::r,v,T=>(Ay r v.2 T).set p.1 (k8 p.2 v.1)
def ou:List Oper->List SV->List SV
 | [],T=>T
 | o::r,T=>ou r (match o.dst with | some d=>T.set d (.v false [.any]) | none=>T)
noncomputable def den (X:Cx) (anns:List (Nat×Ann)):Code->(β:Type)->St->(Ex->St->Option β)->Option β
 | .skip,_,S,K=>K .normal S
 | .region id ops dr,_,S,K=>match look anns (300000+id) with
  | some A=>(OY X ops.toList dr S fun S'=>GF S' (jL A)).bind fun v=>K .normal { S with tmps:=Ay (jL A) v (ou ops.toList S.tmps) }
  | none=>bif dr then IZ X ops.toList S (K .normal) else iN X ops.toList ops.toList S (K .normal)
 | .seq a b,β,S,K=>den X anns a β S fun e S=>match e with
  | .normal=>den X anns b β S K
  | .exit j=>K (.exit j) S
  | .ret=>K .ret S
 | .cond c x y,β,S,K=>match S.ev c with
  | .v false [.bool b]=>match look anns (RL x y) with
   | some A=>aT (bif b
    then den X anns x (β ⊕ cg A.cks) S (fun e S'=>match e with
     | .normal=>meet A S.tmps.length S'
     | .exit j=>Cs (K (.exit j) S')
     | .ret=>Cs (K .ret S'))
    else den X anns y (β ⊕ cg A.cks) S (fun e S'=>match e with
     | .normal=>meet A S.tmps.length S'
     | .exit j=>Cs (K (.exit j) S')
     | .ret=>Cs (K .ret S'))) fun v=>K .normal (head A S.tmps.length v)
   | none=>bif b then den X anns x β S K else den X anns y β S K
  | .v false [.nb b]=>bif b then both (den X anns x β S K) (den X anns y β S K) else den X anns y β S K
  | _=>none
 | .block id c,β,S,K=>match look anns (QM c) with
  | some A=>aT (den X anns c (β ⊕ cg A.cks) S fun e S'=>match e with
   | .normal=>meet A S.tmps.length S'
   | .exit j=>if Nat.beq j id then meet A S.tmps.length S' else Cs (K (.exit j) S')
   | .ret=>Cs (K .ret S')) fun v=>K .normal (head A S.tmps.length v)
  | none=>den X anns c β S fun e S'=>match e with
   | .normal=>K .normal S'
   | .exit j=>if Nat.beq j id then K .normal S' else K (.exit j) S'
   | .ret=>K .ret S'
 | .loop c,β,S,K=>match look anns (gv c) with
  | some A=>match carry A S with
   | some x=>iter (A.fuel x) x fun x again=>den X anns c β (head A S.tmps.length x) fun e S'=>match e with
    | .normal=>match carry A S' with
     | some y=>bif Nat.beq S'.tmps.length S.tmps.length then again y else none
     | none=>none
    | .exit j=>K (.exit j) S'
    | .ret=>K .ret S'
   | none=>none
  | none=>none
 | .exit id,_,S,K=>K (.exit id) S
 | .ret,_,S,K=>K .ret S
 | _,_,_,_=>none
def pD:Nat:=5000
def pid (i c:Nat):Nat:=nid pD i c
def gH (i:Nat):(ps:List PM)->dM ps->List SV
 | [],_=>[]
 | .val t::r,x=>k8 t x.1::gH (i+1) r x.2
 | .row _ _::r,x=> .v false [.row (pid i 0)]::gH (i+1) r x.2
 | .mrow _ _::r,x=> .v false [.row (pid i 0)]::gH (i+1) r x.2
 | .map _ _::r,x=> .v false [.mp (pid i 0)]::gH (i+1) r x.2
 | .box _::r,x=> .v false [.ref (2000+i) 0]::gH (i+1) r x.2
 | .ar _::r,x=>gH (i+1) r x.2
 | .arR _::r,x=>gH (i+1) r x.2
def lU (i:Nat):(ps:List PM)->dM ps->List (Nat×List CV)
 | [],_=>[]
 | .box l::r,x=>(2000+i,AJ pD i 1 l x.1)::lU (i+1) r x.2
 | .val _::r,x=>lU (i+1) r x.2
 | .row _ _::r,x=>lU (i+1) r x.2
 | .mrow _ _::r,x=>lU (i+1) r x.2
 | .map _ _::r,x=>lU (i+1) r x.2
 | .ar _::r,x=>lU (i+1) r x.2
 | .arR _::r,x=>lU (i+1) r x.2
def kS (i:Nat):(ps:List PM)->dM ps->List (Nat×jc)
 | [],_=>[]
 | .row e t::r,x=>(pid i 0,⟨false,e,t,x.1⟩)::kS (i+1) r x.2
 | .mrow e t::r,x=>(pid i 0,⟨false,e,t,x.1⟩)::kS (i+1) r x.2
 | .box l::r,x=>jz pD i 1 l x.1++kS (i+1) r x.2
 | .val _::r,x=>kS (i+1) r x.2
 | .map _ _::r,x=>kS (i+1) r x.2
 | .ar _::r,x=>kS (i+1) r x.2
 | .arR _::r,x=>kS (i+1) r x.2
def ez (i:Nat):(ps:List PM)->dM ps->List (Nat×lM)
 | [],_=>[]
 | .map k v::r,x=>(pid i 0,.map k v x.1)::ez (i+1) r x.2
 | .box l::r,x=>gF pD i 1 l x.1++ez (i+1) r x.2
 | .ar t::r,x=>(bg,.ar false t x.1)::ez (i+1) r x.2
 | .arR t::r,x=>(bg,.ar true t x.1)::ez (i+1) r x.2
 | .val _::r,x=>ez (i+1) r x.2
 | .row _ _::r,x=>ez (i+1) r x.2
 | .mrow _ _::r,x=>ez (i+1) r x.2
def cG:Nat->List PM->List (aP×Nat)
 | _,[]=>[]
 | i,.row _ _::r=>(.inr (pid i 0),64*i)::cG (i+1) r
 | i,.mrow _ _::r=>(.inr (pid i 0),64*i)::cG (i+1) r
 | i,.map _ _::r=>(.ob (pid i 0),64*i)::cG (i+1) r
 | i,.box l::r=>(.inl (2000+i),64*i)::(cU pD i 1 l++cG (i+1) r)
 | i,.ar _::r=>(.ob bg,64*i)::cG (i+1) r
 | i,.val _::r=>cG (i+1) r
 | i,.arR _::r=>cG (i+1) r
def rK:List PM->Nat
 | []=>0
 | p::r=>(bif p.arg then 1 else 0)+rK r
def Cr (n:Nat) (ar:Option Ty) (ps:List PM) (x:dM ps):St:=
 { tmps:=gH 0 ps x++List.replicate (n - rK ps) (.v false [.any]),boxes:=lU 0 ps x,rows:=kS 0 ps x,
   objs:=match ar with | some t=>(bg,.ar false t [])::ez 0 ps x | none=>ez 0 ps x }
def KK (X:Cx) (S:St):ResultVar->Option SV
 | .tmp t=>some (S.tmps.getD t (.v false [.any]))
 | .cell a T=>match S.tmps.getD a (.v false [.any]) with
  | .v false [.ref b off]=>match look S.boxes b with
   | some l=>iI X.P T l off some
   | none=>none
  | _=>none
def zD (X:Cx) (S:St):List ResultVar->Option (List SV)
 | []=>some []
 | v::r=>match KK X S v with
  | some s=>match zD X S r with
   | some l=>some (s::l)
   | none=>none
  | none=>none
def DQ:List RM->List SV->List SV
 | .val _::r,s::q=>s::DQ r q
 | _::r,_::q=>DQ r q
 | _,_=>[]
def L6:List OT->List CV->List Nat
 | .val t::r,cs=>eF (cs.take t.size)++L6 r (cs.drop t.size)
 | .row _ _::r,_::cs=>L6 r cs
 | .map _ _::r,_::cs=>L6 r cs
 | _,_=>[]
def KI (S:St) (i:Nat):List PM->List Nat
 | []=>[]
 | .box l::r=>(match look S.boxes (2000+i) with | some cs=>L6 l cs | none=>[])++KI S (i+1) r
 | _::r=>KI S (i+1) r
def KJ (S:St):List RM->List SV->List Nat
 | .box l::r,s::q=>(match fm s with | some k=>(match look S.boxes k with | some cs=>L6 l cs | none=>[]) | none=>[])++KJ S r q
 | _::r,_::q=>KJ S r q
 | _,_=>[]
def wk (S:St) (p:RM) (s:SV):Option p.den:=
 match p with
 | .val t=>fM S [] t s
 | .row e t=>match mX s with | some c=>fL S e t c | none=>none
 | .map k v=>match mX s with | some c=>jZ S k v c | none=>none
 | .box l=>match fm s with
  | some k=>match look S.boxes k with
   | some cs=>gG S l cs
   | none=>none
  | none=>none
def th (S:St) (ps:List PM) (bx:Option (dc ps)):(rs:List RM)->List SV->Option (cq ps rs)
 | [],[]=>bx
 | [],_::_=>none
 | p::r,s::q=>match wk S p s with
  | some x=>match th S ps bx r q with
   | some y=>some (x,y)
   | none=>none
  | none=>none
 | _::_,[]=>none
def kR (S:St):Nat->(ps:List PM)->Option (dc ps)
 | _,[]=>some ()
 | i,.mrow e t::r=>match fL S e t (.row (pid i 0)),kR S (i+1) r with
  | some x,some y=>some (x,y)
  | _,_=>none
 | i,.map k v::r=>match jZ S k v (.mp (pid i 0)),kR S (i+1) r with
  | some x,some y=>some (x,y)
  | _,_=>none
 | i,.box l::r=>match look S.boxes (2000+i) with
  | some cs=>match gG S l cs,kR S (i+1) r with
   | some x,some y=>some (x,y)
   | _,_=>none
  | none=>none
 | i,.ar t::r=>match pI S false t,kR S (i+1) r with
  | some x,some y=>some (x,y)
  | _,_=>none
 | i,.val _::r=>kR S (i+1) r
 | i,.row _ _::r=>kR S (i+1) r
 | i,.arR _::r=>kR S (i+1) r
def jj (S:St) (c:Nat):List RM->List SV->List (aP×Nat)
 | .row _ _::r,s::q=>(match mX s with | some v=>jC (64*(24+c)) v | none=>[])++jj S (c+1) r q
 | .map _ _::r,s::q=>(match mX s with | some v=>jC (64*(24+c)) v | none=>[])++jj S (c+1) r q
 | .box l::r,s::q=>(match fm s with
  | some k=>(.inl k,64*(24+c))::(match look S.boxes k with | some cs=>gT (64*(24+c)+1) l cs | none=>[])
  | none=>[])++jj S (c+1) r q
 | .val _::r,_::q=>jj S (c+1) r q
 | _,_=>[]
def gS (S:St):Nat->List PM->List (aP×Nat)
 | _,[]=>[]
 | i,.mrow _ _::r=>(.inr (pid i 0),64*i)::gS S (i+1) r
 | i,.map _ _::r=>(.ob (pid i 0),64*i)::gS S (i+1) r
 | i,.box l::r=>(.inl (2000+i),64*i)::(match look S.boxes (2000+i) with | some cs=>gT (64*i+1) l cs | none=>[])++gS S (i+1) r
 | i,.ar _::r=>(.ob bg,64*i)::gS S (i+1) r
 | i,_::r=>gS S (i+1) r
def Ix:List RM->List SV->List SV
 | .val .hnd::r,s::q=>s::Ix r q
 | _::r,_::q=>Ix r q
 | _,_=>[]
def xN (X:Cx) (fn:Func) (rs:List RM) (S:St):St:=
 match zD X S fn.results.toList with
 | some l=>fS S (Ix rs l)
 | none=>S
def Rs (X:Cx) (fn:Func) (sp:ax) (S:St):Option (cq sp.ps sp.rs):=
 match zD X S fn.results.toList with
 | some l=>
  let js:=yu (DQ sp.rs l)++(KJ S sp.rs l++KI S 0 sp.ps)
  let V:=aB S js
  let ow:=jj V 0 sp.rs l++gS V 0 sp.ps
  if rz ow then none else th V sp.ps (kR V 0 sp.ps) sp.rs l
 | none=>none
def ends (X:Cx) (fn:Func) (sp:ax) (S:St):Option (cq sp.ps sp.rs):=Rs X fn sp (xN X fn sp.rs S)
def cH:List PM->Bool
 | []=>true
 | .val t::r=>t.aN&&cH r
 | .row _ t::r=>t.aN&&cH r
 | .mrow _ t::r=>t.aN&&cH r
 | .map k v::r=>k.aN&&v.aN&&cH r
 | .box l::r=>(l.all fun | .val t=>t.aN | .row _ t=>t.aN | .map k v=>k.aN&&v.aN)&&cH r
 | _=>false
def mL:List RM->Bool
 | []=>true
 | .val t::r=>t.aN&&mL r
 | .row _ t::r=>t.aN&&mL r
 | .map k v::r=>k.aN&&v.aN&&mL r
 | .box l::r=>(l.all fun | .val t=>t.aN | .row _ t=>t.aN | .map k v=>k.aN&&v.aN)&&mL r
noncomputable def Cf (X:Cx) (anns:List (Nat×Ann)) (ar:Option Ty) (fn:Func) (sp:ax) (x:dM sp.ps):Option (cq sp.ps sp.rs):=
 if rz (cG 0 sp.ps)||dup ((cG 0 sp.ps).map (·.2))||(ar.isSome&& !(cH sp.ps&&mL sp.rs)) then none else
 match fn.body with
 | some c=>den X anns c (cq sp.ps sp.rs) (Cr fn.ntmps ar sp.ps x) fun e S=>match e with
  | .ret=>ends X fn sp S
  | .normal=>ends X fn sp S
  | .exit _=>none
 | none=>none
end Go.Dn
namespace Go.Dn
theorem Rz (s:ByteArray):bs s.data.toList=s:=by
 cases s;simp[bs]
theorem Pt (l:List UInt8):(bs l).data.toList=l:=by simp[bs]
theorem Dy (G:Gh) (ρ:Env) (v:Value):aM G ρ (B3 v) v:=by
 unfold B3
 split
 case h_3 s=>show _=_;rw[Rz]
 all_goals first | rfl | trivial | skip
 split
 ·rename_i g f c h
  simp only[Tu,Array.isEmpty_iff] at h
  obtain⟨rfl,rfl⟩:=h
  rfl
 ·trivial
theorem u6 {α β:Type} {R:β->α->Prop} (f:α->β) (h:∀ x,R (f x) x):∀ l:List α,aD R (l.map f) l
 | []=>rfl
 | x::l=>⟨x,l,rfl,h x,u6 f h l⟩
theorem Ht (G:Gh) (ρ:Env) (v:Value):aU G ρ (DP v) v:=by
 unfold DP
 split
 ·rename_i cs
  exact⟨cs.toList,by simp,u6 B3 (Dy G ρ) cs.toList⟩
 ·exact Dy G ρ v
theorem dW.ev {G:Gh} {ρ:Env} {S:St} {a:Act} (h:dW G ρ S a) (x:Operand):aU G ρ (S.ev x) (a.eval x):=by
 cases x with
 | tmp t=>
  simp only[St.ev,Act.eval]
  rw[Up]
  cases hs:S.tmps[t]? with
  | none=>exact trivial
  | some s=>exact h.2 t s hs
 | const v=>exact Ht G ρ v
 | global g=>exact trivial
 | func f=>rfl
theorem dS {G:Gh} (ρ:Env):∀ {t:Ty} {x:t.den} {cs:List Value},ay G t x cs->aD (aM G ρ) (unpack t x) cs
 | .int _,_,_,h=>by cases h;exact⟨_,_,rfl,rfl,rfl⟩
 | .bool,_,_,h=>by cases h;exact⟨_,_,rfl,rfl,rfl⟩
 | .str,_,_,h=>by cases h;exact⟨_,_,rfl,rfl,rfl⟩
 | .unit,_,_,h=>h
 | .pair a b,(x,y),_,⟨c,r,e,hx,hy⟩=>by subst e;exact (dS ρ hx).append (dS ρ hy)
 | .st t,x,cs,h=>dS (t:=t) (x:=x) ρ h
 | .slice t,_,_,⟨v,e,h⟩=>by subst e;exact⟨_,_,rfl,h,rfl⟩
 | .ptr t,x,_,⟨b,off,c,T,fz,e,hb,hs,hl⟩=>by subst e;exact⟨_,_,rfl,⟨b,off,c,T,fz,rfl,hb,hs,hl⟩,rfl⟩
 | .clo _ t,x,_,⟨caps,e,h⟩=>by subst e;exact⟨_,_,rfl,⟨caps,rfl,h⟩,rfl⟩
 | .hnd,none,_,h=>by cases h;exact⟨_,_,rfl,⟨rfl,rfl⟩,rfl⟩
 | .hnd,some _,_,⟨b,hb,e⟩=>by subst e;exact⟨_,_,rfl,⟨b,hb,rfl⟩,rfl⟩
theorem tQ {G:Gh} (ρ:Env) {t:Ty} {x:t.den} {v:Value} (h:bB G t x v):gY G ρ (Dt t x).1 (Dt t x).2 v:=by
 cases t with
 | st t=>obtain⟨vs,e,hv⟩:=h;exact⟨vs,e,dS ρ hv⟩
 | int _=>cases h;rfl
 | bool=>cases h;rfl
 | str=>cases h;rfl
 | unit=>cases h
 | slice t=>obtain⟨v',e,h⟩:=h;cases e;exact h
 | ptr t=>obtain⟨b,off,c,T,fz,e,hb,hs,hl⟩:=h;cases e;exact⟨b,off,c,T,fz,rfl,hb,hs,hl⟩
 | clo g t=>obtain⟨caps,e,h⟩:=h;cases e;exact⟨caps,rfl,h⟩
 | hnd=>
  cases x with
  | none=>cases h;exact⟨rfl,rfl⟩
  | some i=>obtain⟨b,hb,e⟩:=h;cases e;exact⟨b,hb,rfl⟩
 | pair a b=>
  have hl:=h.len
  have hu:=dS ρ h
  obtain⟨c,hc⟩:∃ c,unpack (.pair a b) x=[c]:=by
   have:=hu.len
   match hq:unpack (.pair a b) x with
   | [c]=>exact⟨c,rfl⟩
   | []=>rw[hq] at this;simp at this
   | _::_::_=>rw[hq] at this;simp at this
  show gY G ρ false (unpack (.pair a b) x) v
  rw[hc] at hu ⊢
  obtain⟨y,e,hy⟩:=hu.single
  cases e
  exact hy
theorem zU {G:Gh} (ρ:Env) {t:Ty} {x:t.den} {v:Value} (h:bB G t x v):aU G ρ (k8 t x) v:=by
 have:=tQ ρ h
 cases t<;>exact this
theorem eN {a b:Ty} {l:List a.den} {l':List b.den} (h:kC l=some l'):∃ e:a=b,e ▸ l=l':=by
 unfold kC at h
 split at h
 ·rename_i e;exact⟨e,by simpa using h⟩
 ·cases h
theorem F4 {a b:Ty} {x:a.den} {x':b.den} (h:KB x=some x'):∃ e:a=b,e ▸ x=x':=by
 unfold KB at h
 split at h
 ·rename_i e;exact⟨e,by simpa using h⟩
 ·cases h
def fy (G:Gh) (ρ:Env) (S:St):Prop:=∀ j r,look S.rows j=some r->r.fz=true->bZ G r.t.size (ay G r.t) r.l (ρ.rw j)
theorem Mem.frozen {P0:Program} {C:Fr P0} {G:Gh} {ρ:Env} {S:St} {w:World} (h:Mem C G ρ S w):fy G ρ S:=fun j r hj hf=>by
 have:=h.rows j r hj
 unfold bU at this
 rw[V7 hf] at this
 exact this
theorem nK {G:Gh} {ρ:Env} {t:Ty} {f:CV->Option t.den} (hf:∀ c x v,f c=some x->aM G ρ c v->ay G t x [v]) {cs:List CV} {x:t.den} {r:List CV} {vs:List Value} (h:nJ f cs=some (x,r)) (hv:aD (aM G ρ) cs vs):∃ a b,vs=a++b/\ay G t x a/\aD (aM G ρ) r b:=by
 cases cs with
 | nil=>cases h
 | cons c q=>
  obtain⟨y,s,e,hy,hs⟩:=hv
  simp only[nJ] at h
  split at h
  ·rename_i z hz
   cases h
   subst e
   exact⟨[y],s,rfl,hf _ _ _ hz hy,hs⟩
  ·cases h
theorem Qh {G:Gh} {ρ:Env} {S:St} (hF:fy G ρ S) {t:Ty} (c:CV) (l:List t.den) (v:Value) (h:GU S t c=some l) (hv:aM G ρ c v):ay G (.slice t) l [v]:=by
 cases c<;>simp only[GU] at h
 case sl t' l'=>
  obtain⟨et,el⟩:=eN h
  subst et;subst el
  exact⟨v,rfl,hv⟩
 case nils=>
  cases h
  exact⟨v,rfl,none,0,hv,Vu _,VI _,.inl rfl⟩
 case row j=>
  split at h
  ·rename_i u hu
   split at h
   ·rename_i hfz
    obtain⟨et,el⟩:=eN h
    have hrow:=hF j u hu hfz
    obtain⟨ufz,ue,ut,ul⟩:=u
    dsimp only at et el hrow
    subst et
    subst el
    exact⟨v,rfl,by rw[hv.1];exact hrow⟩
   ·cases h
  ·cases h
 all_goals cases h
theorem Af {k v k' v':Ty} {l:List (k.den×v.den)} {l':List (k'.den×v'.den)} (h:Oi l=some l'):∃ (e1:k=k') (e2:v=v'),e1 ▸ e2 ▸ l=l':=by
 unfold Oi at h
 split at h
 ·rename_i e;exact⟨e.1,e.2,by simpa using h⟩
 ·cases h
def iF (G:Gh) (ρ:Env) (S:St) (fb:List Nat):Prop:=∀ k cs,inL fb k=true->look S.boxes k=some cs->∃ vs T fz,G (ρ.bx k)=some (.cells (List.toArray vs) T fz)/\aD (aM G ρ) cs vs
theorem iF.nil (G:Gh) (ρ:Env) (S:St):iF G ρ S []:=fun k cs h=>by simp[inL] at h
theorem tg {α:Type} {x:Option (α×List CV)} {y:α} (h:fq x=some y):x=some (y,[]):=by
 unfold fq at h
 split at h
 ·cases h;rfl
 ·cases h
theorem qA {G:Gh} {ρ:Env} {S:St} {fb:List Nat} (hF:fy G ρ S) (hL:iF G ρ S fb):∀ (t:Ty) (cs:List CV) (x:t.den) (r:List CV) (vs:List Value),dN S fb t cs=some (x,r)->aD (aM G ρ) cs vs-> ∃ a b,vs=a++b/\ay G t x a/\aD (aM G ρ) r b
 | .int k,cs,x,r,vs,h,hv=>nK (t:= .int k) (fun c x v hc hv=>by
  cases c<;>simp only[NT] at hc
  case int k' n=>
   split at hc
   ·rename_i ek;subst ek;cases hc;rw[hv];rfl
   ·cases hc
  all_goals cases hc) h hv
 | .bool,cs,x,r,vs,h,hv=>nK (t:= .bool) (fun c x v hc hv=>by
  cases c<;>simp only[L7] at hc
  case bool b=>cases hc;rw[hv];rfl
  all_goals cases hc) h hv
 | .str,cs,x,r,vs,h,hv=>nK (t:= .str) (fun c x v hc hv=>by
  cases c<;>simp only[NU] at hc
  case str b=>cases hc;rw[hv];rfl
  all_goals cases hc) h hv
 | .unit,cs,x,r,vs,h,hv=>by
  simp only[dN] at h;cases h;exact⟨[],vs,rfl,rfl,hv⟩
 | .pair a b,cs,x,r,vs,h,hv=>by
  simp only[dN] at h
  split at h
  ·rename_i y q h1
   split at h
   ·rename_i z q' h2
    cases h
    obtain⟨c1,c2,e1,r1,r2⟩:=qA hF hL a cs y q vs h1 hv
    obtain⟨d1,d2,e2,s1,s2⟩:=qA hF hL b q z r c2 h2 r2
    exact⟨c1++d1,d2,by rw[e1,e2,T4],⟨c1,d1,rfl,r1,s1⟩,s2⟩
   ·cases h
  ·cases h
 | .st t,cs,x,r,vs,h,hv=>qA hF hL t cs x r vs h hv
 | .slice t,cs,x,r,vs,h,hv=>nK (t:= .slice t) (fun c x v hc hv=>Qh hF c x v hc hv) h hv
 | .ptr t,cs,x,r,vs,h,hv=>nK (t:= .ptr t) (fun c x v hc hv=>by
  cases c<;>simp only[IQ] at hc
  case cp t' y o=>
   split at hc
   ·rename_i ho
    have:=Vq ho
    subst this
    obtain⟨et,el⟩:=F4 hc
    subst et;subst el
    obtain⟨b,off,c,T,fz,e,hb,hs',hl⟩:=hv
    exact⟨b,off,c,T,fz,by rw[e];rfl,hb,hs',hl⟩
   ·cases hc
  case ref k o=>
   split at hc
   ·rename_i ho
    simp only[Tu] at ho
    have:=Vq ho.1
    subst this
    split at hc
    ·rename_i cs hcs
     have hp:=tg hc
     obtain⟨ws,T,fz,hg,hw⟩:=hL k cs ho.2 hcs
     obtain⟨a,b,e,h1,h2⟩:=qA hF hL t cs x [] ws hp hw
     cases h2
     have hrep:ay G t x ws:=by simpa [e] using h1
     have hlen:=hrep.len
     refine⟨ρ.bx k,0,ws.toArray,T,fz,by rw[hv],hg,by simp;omega, ?_⟩
     have e2:(List.drop 0 ws.toArray.toList).take t.size=ws:=by simp[<- hlen]
     rw[e2];exact hrep
    ·cases hc
   ·cases hc
  all_goals cases hc) h hv
 | .clo g t,cs,x,r,vs,h,hv=>nK (t:= .clo g t) (fun c x v hc hv=>by
  cases c<;>simp only[NR] at hc
  case clo g' t' y=>
   split at hc
   ·rename_i ho
    have:=Vq ho
    subst this
    obtain⟨et,el⟩:=F4 hc
    subst et;subst el
    obtain⟨caps,e,hc⟩:=hv
    exact⟨caps,by rw[e],hc⟩
   ·cases hc
  case fn g' ks=>
   split at hc
   ·rename_i ho
    have:=Vq ho
    subst this
    have hp:=tg hc
    have hk:∀ l:List Nat,aD (aM G ρ) (l.map fun k=> .ref k 0) (l.map fun k=>Value.pointer (some ⟨ρ.bx k,0,none⟩)):=fun l=>by
     induction l with
     | nil=>rfl
     | cons k l ih=>exact⟨_,_,rfl,rfl,ih⟩
    obtain⟨a,b,e,h1,h2⟩:=qA hF hL t _ x [] _ hp (hk ks)
    cases h2
    refine⟨ks.map fun k=>Value.pointer (some ⟨ρ.bx k,0,none⟩),by rw[hv], ?_⟩
    rw[e];simpa using h1
   ·cases hc
  all_goals cases hc) h hv
 | .hnd,cs,x,r,vs,h,hv=>nK (t:= .hnd) (fun c x v hc hv=>by
  cases c<;>simp only[NS] at hc
  case hnd o k=>
   split at hc
   ·rename_i ho
    have:=Vq ho
    subst this
    cases hc
    cases x with
    | none=>rw[hv.1];rfl
    | some i=>obtain⟨b,hb,e⟩:=hv;exact⟨b,hb,by rw[e]⟩
   ·cases hc
  case nilp=>cases hc;rw[hv];rfl
  all_goals cases hc) h hv
theorem NV {G:Gh} {ρ:Env} {S:St} (hF:fy G ρ S) (t:Ty) (cs:List CV) (x:t.den) (r:List CV) (vs:List Value) (h:pack S t cs=some (x,r)) (hv:aD (aM G ρ) cs vs): ∃ a b,vs=a++b/\ay G t x a/\aD (aM G ρ) r b:=qA hF (iF.nil G ρ S) t cs x r vs h hv
theorem CP {G:Gh} {ρ:Env} {S:St} {fb:List Nat} (hF:fy G ρ S) (hL:iF G ρ S fb) {t:Ty} {cs:List CV} {x:t.den} {vs:List Value} (h:fq (dN S fb t cs)=some x) (hv:aD (aM G ρ) cs vs):ay G t x vs:=by
 obtain⟨a,b,e,h1,h2⟩:=qA hF hL t cs x [] vs (tg h) hv
 cases h2
 simpa [e] using h1
theorem FA {G:Gh} {ρ:Env} {S:St} (hF:fy G ρ S) {t:Ty} {cs:List CV} {x:t.den} {vs:List Value} (h:fq (pack S t cs)=some x) (hv:aD (aM G ρ) cs vs):ay G t x vs:=CP hF (iF.nil G ρ S) h hv
theorem iA {G:Gh} {ρ:Env} {S:St} {fb:List Nat} (hF:fy G ρ S) (hL:iF G ρ S fb) {t:Ty} {s:SV} {x:t.den} {v:Value} (h:fM S fb t s=some x) (hv:aU G ρ s v):bB G t x v:=by
 unfold fM at h
 split at h
 ·rename_i t cs
  obtain⟨vs,e,hl⟩:=hv
  exact⟨vs,e,CP hF hL h hl⟩
 ·cases h
 ·rename_i t' s' cs hne
  have hl:ay G t x [v]:=by
   match cs,hv,h with
   | [c],hv,hp=>exact CP hF hL hp ⟨v,[],rfl,hv,rfl⟩
  cases t with
  | st t=>exact absurd rfl (hne t)
  | _=>exact hl
 ·cases h
end Go.Dn
namespace Go.Dn
structure u7 {P0:Program} (C:Fr P0) (G:Gh) (ρ:Env) (S:St) (w:World) (x:Option aP):Prop where
 agr:Agr G w
 le0:C.G0.le G
 old:∀ b,b<C.n0->¬ C.B b->G b=C.G0 b
 frame:∀ b,b<C.n0->¬ C.B b->w.heap[b]? =C.w0.heap[b]?
 size:C.n0<=w.heap.size
 os:w.os=C.w0.os
 output:w.output=C.w0.output
 pin:∀ k,2000<=k->ρ.bx k=C.pin k
 pinR:∀ k,10000000<=k->ρ.rw k=C.pinR k/\ρ.ob k=C.pinR k
 owned:∀ b o,ρ.own b=some o->G b=none/\b<w.heap.size/\(C.n0<=b\/C.B b)
 boxes:∀ k cs,look S.boxes k=some cs->some (.inl k)≠x->ρ.own (ρ.bx k)=some (.inl k)/\
  ∃ vs T,w.heap[ρ.bx k]? =some (.cells (List.toArray vs) T (0,0))/\aD (aM G ρ) cs vs
 rows:∀ j r,look S.rows j=some r->some (.inr j)≠x->bU G ρ w j r
 objs:∀ j r,look S.objs j=some r->some (.ob j)≠x->jn G ρ w j r
 hndI:C.noAr->G.hnd=C.G0.hnd/\∀ t l,look S.objs bg≠some (.ar false t l)
variable {P0:Program} {C:Fr P0} {G:Gh} {ρ:Env} {S:St} {w:World}
theorem Mem.toX (h:Mem C G ρ S w) (x:Option aP):u7 C G ρ S w x:=
 ⟨h.agr,h.le0,h.old,h.frame,h.size,h.os,h.output,h.pin,h.pinR,h.owned,fun k cs hk _=>h.boxes k cs hk,fun j r hj _=>h.rows j r hj,fun j r hj _=>h.objs j r hj,h.hndI⟩
theorem u7.toMem {x:Option aP} (h:u7 C G ρ S w x) (hb:∀ k cs,look S.boxes k=some cs->some (.inl k)=x->ρ.own (ρ.bx k)=some (.inl k)/\∃ vs T,w.heap[ρ.bx k]? =some (.cells (List.toArray vs) T (0,0))/\aD (aM G ρ) cs vs) (hr:∀ j r,look S.rows j=some r->some (.inr j)=x->bU G ρ w j r) (hob:∀ j r,look S.objs j=some r->some (.ob j)=x->jn G ρ w j r):Mem C G ρ S w:=
 ⟨h.agr,h.le0,h.old,h.frame,h.size,h.os,h.output,h.pin,h.pinR,h.owned,fun k cs hk=>by
   by_cases e:some (.inl k)=x
   ·exact hb k cs hk e
   ·exact h.boxes k cs hk e,fun j r hj=>by
   by_cases e:some (.inr j)=x
   ·exact hr j r hj e
   ·exact h.rows j r hj e,fun j r hj=>by
   by_cases e:some (.ob j)=x
   ·exact hob j r hj e
   ·exact h.objs j r hj e,h.hndI⟩
theorem u7.state {S':St} {x:Option aP} (h:u7 C G ρ S w x) (hb:∀ k cs,look S'.boxes k=some cs->some (.inl k)≠x->look S.boxes k=some cs) (hr:∀ j r,look S'.rows j=some r->some (.inr j)≠x->look S.rows j=some r) (hob:∀ j r,look S'.objs j=some r->some (.ob j)≠x->look S.objs j=some r) (hna:∀ t l,look S'.objs bg=some (.ar false t l)->∃ t l,look S.objs bg=some (.ar false t l)):u7 C G ρ S' w x:=
 { h with hndI:=fun hn=>⟨(h.hndI hn).1,fun t l hl=>by obtain⟨t',l',h'⟩:=hna t l hl;exact (h.hndI hn).2 t' l' h'⟩,boxes:=fun k cs hk e=>h.boxes k cs (hb k cs hk e) e,rows:=fun j r hj e=>h.rows j r (hr j r hj e) e,objs:=fun j r hj e=>h.objs j r (hob j r hj e) e }
theorem u7.grow {w':World} {x:Option aP} {blk:Option Nat} (h:u7 C G ρ S w x) (hg:Grow ρ w w' blk) (hx:∀ b,blk=some b->∃ o,x=some o/\ρ.own b=some o):u7 C G ρ S w' x where
 agr:=fun b o hb=>by
  have hl:=h.agr b o hb
  rw[hg.block b (aj hl) (fun e=>by
   obtain⟨o',_,ho⟩:=hx b e.symm
   have:=(h.owned b o' ho).1
   rw[hb] at this;cases this)]
  exact hl
 le0:=h.le0
 old:=h.old
 frame:=fun b hb hB=>by
  rw[hg.block b (Vw hb h.size) (fun e=>by
   obtain⟨o',_,ho⟩:=hx b e.symm
   rcases (h.owned b o' ho).2.2 with h1 | h1
   ·omega
   ·exact hB h1)]
  exact h.frame b hb hB
 size:=Vv h.size hg.size
 os:=hg.os.trans h.os
 output:=hg.output.trans h.output
 pin:=h.pin
 pinR:=h.pinR
 owned:=fun b o ho=>⟨(h.owned b o ho).1,Vw (h.owned b o ho).2.1 hg.size,(h.owned b o ho).2.2⟩
 boxes:=fun k cs hk hne=>by
  obtain⟨h1,vs,T,h2,h3⟩:=h.boxes k cs hk hne
  refine⟨h1,vs,T, ?_,h3⟩
  rw[hg.block _ (aj h2) (fun e=>by
   obtain⟨o',hx',ho⟩:=hx _ e.symm
   rw[h1] at ho
   cases ho
   exact hne hx'.symm)]
  exact h2
 rows:=fun j r hj hne=>(h.rows j r hj hne).kept hg (fun b e ho=>by
  obtain⟨o',hx',ho'⟩:=hx b e
  rw[ho] at ho'
  cases ho'
  exact hne hx'.symm)
 objs:=fun j r hj hne=>(h.objs j r hj hne).kept hg (fun b e=>by
  obtain⟨o',_,ho'⟩:=hx b e
  exact (h.owned b o' ho').1) (fun b e ho=>by
  obtain⟨o',hx',ho'⟩:=hx b e
  rw[ho] at ho'
  cases ho'
  exact hne hx'.symm)
 hndI:=h.hndI
theorem u7.change {G':Gh} {ρ':Env} {x:Option aP} (h:u7 C G ρ S w x) (hG:G.le G') (hh:G'.hnd=G.hnd) (hagr:Agr G' w) (hold:∀ b,b<C.n0->¬ C.B b->G' b=C.G0 b) (hpin:∀ k,2000<=k->ρ'.bx k=ρ.bx k) (hpinR:∀ k,10000000<=k->ρ'.rw k=ρ.rw k/\ρ'.ob k=ρ.ob k) (hs:∀ p,p∈S.boxes->∀ c,c∈p.2->c.dA ρ ρ') (howned:∀ b o,ρ'.own b=some o->G' b=none/\b<w.heap.size/\(C.n0<=b\/C.B b)) (hbx:∀ k cs,look S.boxes k=some cs->some (.inl k)≠x->ρ'.bx k=ρ.bx k/\(ρ.own (ρ.bx k)=some (.inl k)->ρ'.own (ρ.bx k)=some (.inl k))) (hrw:∀ j r,look S.rows j=some r->some (.inr j)≠x->ρ'.rw j=ρ.rw j/\∀ b,ρ.own b=some (.inr j)->ρ'.own b=some (.inr j)) (hob:∀ j r,look S.objs j=some r->some (.ob j)≠x->ρ'.ob j=ρ.ob j/\ρ'.st j=ρ.st j/\∀ b,ρ.own b=some (.ob j)->ρ'.own b=some (.ob j)):u7 C G' ρ' S w x where
 agr:=hagr
 le0:=Gh.le_trans h.le0 hG
 old:=hold
 frame:=h.frame
 size:=h.size
 os:=h.os
 output:=h.output
 pin:=fun k hk=>(hpin k hk).trans (h.pin k hk)
 pinR:=fun k hk=>⟨(hpinR k hk).1.trans (h.pinR k hk).1,(hpinR k hk).2.trans (h.pinR k hk).2⟩
 owned:=howned
 boxes:=fun k cs hk hne=>by
  obtain⟨h1,vs,T,h2,h3⟩:=h.boxes k cs hk hne
  obtain⟨e1,e2⟩:=hbx k cs hk hne
  rw[e1]
  exact⟨e2 h1,vs,T,h2,aD.qy (fun c hc y=>aM.congr hG (hs (k,cs) (jX hk) c hc)) h3⟩
 rows:=fun j r hj hne=>by
  obtain⟨e1,e2⟩:=hrw j r hj hne
  exact (h.rows j r hj hne).congr hG e1 e2
 objs:=fun j r hj hne=>by
  obtain⟨e1,e2,e3⟩:=hob j r hj hne
  exact (h.objs j r hj hne).congr hG hh e1 e2 e3
 hndI:=fun hn=>⟨hh.trans (h.hndI hn).1,(h.hndI hn).2⟩
theorem NQ (h:Mem C G ρ S w):ρ.own w.heap.size=none:=by
 cases ho:ρ.own w.heap.size with
 | none=>rfl
 | some o=>have:=(h.owned _ o ho).2.1;omega
theorem Cp (h:Mem C G ρ S w):G w.heap.size=none:=by
 cases ho:G w.heap.size with
 | none=>rfl
 | some o=>have:=aj (h.agr _ o ho);omega
theorem Grow.alloc (ρ:Env) (w:World) (o:Obj):Grow ρ w (w.alloc o) none:=
 ⟨rfl,rfl,by simp,fun b hb _=>heap_alloc_old w o b hb⟩
def Env.gD (ρ:Env) (d b:Nat):Env:=⟨fun i=>if i=d then b else ρ.bx i,ρ.rw,fun i=>if i=b then some (.inl d) else ρ.own i,ρ.ob,ρ.st⟩
theorem J2 {ρ:Env} {k b:Nat} (own:Nat->Option aP) {c:CV} (hc:c.bz k=false):c.dA ρ ⟨fun i=>if i=k then b else ρ.bx i,ρ.rw,own,ρ.ob,ρ.st⟩:=
 ⟨fun i hi=>by
   show (if i=k then b else ρ.bx i)=ρ.bx i
   by_cases e:i=k
   ·subst e;rw[hc] at hi;cases hi
   ·simp[e],fun _ _=>rfl,fun _ _=>rfl,fun _ _=>rfl⟩
theorem Mod.gD {a:Act} {d:Nat} {cs:List CV} {vs:List Value} {T:TypeId} (h:Mod C G ρ S w a) (hd:d<2000) (hn:S.bz d=false) (hcs:∀ c,c∈cs->c.bz d=false) (hv:aD (aM G ρ) cs vs): Mod C G (ρ.gD d w.heap.size) { tmps:=S.tmps.set d (.v false [.ref d 0]),boxes:=(d,cs)::S.boxes,rows:=S.rows,objs:=S.objs } (w.alloc (.cells vs.toArray T)) (a.put (some d) (.pointer (some ⟨w.heap.size,0,none⟩))):=by
 have hown:=NQ h.toMem
 have hgh:=Cp h.toMem
 have hsame:S.dA ρ (ρ.gD d w.heap.size):=Kt _ hn
 have hX:=((h.toMem.toX (some (.inl d))).grow (Grow.alloc ρ w (.cells vs.toArray T)) (by simp)).change (G':=G) (ρ':=ρ.gD d w.heap.size) (Gh.le_refl G) rfl
  (fun b o hb=>by rw[heap_alloc_old _ _ _ (aj (h.agr b o hb))];exact h.agr b o hb) h.old (fun k hk=>by simp[Env.gD,show ¬ k=d by omega]) (fun _ _=>⟨rfl,rfl⟩) hsame.boxes
  (fun b o ho=>by
    simp only[Env.gD] at ho
    by_cases e:b=w.heap.size
    ·subst e;exact⟨hgh,by simp,.inl h.size⟩
    ·rw[V6 e] at ho;exact⟨(h.owned b o ho).1,by have:=(h.owned b o ho).2.1;simp;omega,(h.owned b o ho).2.2⟩)
  (fun k cs' hk hne=>by
    have hkd:k≠d:=fun e=>hne (by rw[e])
    refine⟨by simp[Env.gD,hkd],fun ho=> ?_⟩
    have:ρ.bx k≠w.heap.size:=fun e=>by rw[e,hown] at ho;cases ho
    simp[Env.gD,this,ho])
  (fun j r hj _=>⟨rfl,fun b ho=>by
    have:b≠w.heap.size:=fun e=>by rw[e,hown] at ho;cases ho
    simp[Env.gD,this,ho]⟩)
  (fun j r hj _=>⟨rfl,rfl,fun b ho=>by
    have:b≠w.heap.size:=fun e=>by rw[e,hown] at ho;cases ho
    simp[Env.gD,this,ho]⟩)
 have hX':=hX.state (S':={ tmps:=S.tmps.set d (.v false [.ref d 0]),boxes:=(d,cs)::S.boxes,rows:=S.rows,objs:=S.objs })
  (fun k cs' hk hne=>by
    have hkd:d≠k:=fun e=>hne (by rw[e])
    simpa [ak,hkd] using hk) (fun j r hj _=>hj) (fun j r hj _=>hj) (fun t l h=>⟨t,l,h⟩)
 have hM:=hX'.toMem (fun k cs' hk e=>by
  cases e
  simp only[ak,V8,Option.some.injEq] at hk
  subst hk
  refine⟨by simp[Env.gD],vs,T,by simp only[Env.gD,V8];exact heap_alloc_new w _, ?_⟩
  exact aD.qy (fun c hc y=>aM.congr (Gh.le_refl G) (J2 _ (hcs c hc))) hv) (fun j r hj e=>by cases e) (fun j r hj e=>by cases e)
 exact { hM with
  tmps:=(h.tmps.congr (Gh.le_refl G) hsame).put (some d) (fun _ _=>by show _=_;simp[Env.gD])
  defers:=h.defers }
theorem yX {ρ':Env} (hb:ρ'.bx=ρ.bx) (hr:ρ'.rw=ρ.rw) (ho:ρ'.ob=ρ.ob) (hs:ρ'.st=ρ.st) (c:CV):c.dA ρ ρ':=⟨fun k _=>by rw[hb],fun k _=>by rw[hr],fun k _=>by rw[ho],fun k _=>by rw[hs]⟩
theorem gY.same {ρ':Env} (hb:ρ'.bx=ρ.bx) (hr:ρ'.rw=ρ.rw) (ho:ρ'.ob=ρ.ob) (hs:ρ'.st=ρ.st) {s:SV}:s.dA ρ ρ':=by
 cases s with
 | v a cs=>exact fun c _=>yX hb hr ho hs c
 | tup l=>exact fun p _ c _=>yX hb hr ho hs c
theorem fk {α:Type} (l:List (Nat×α)) (d i:Nat):look (l.filter fun p=> !Nat.beq p.1 d) i=if i=d then none else look l i:=by
 induction l with
 | nil=>simp[look]
 | cons p r ih=>
  obtain⟨j,y⟩:=p
  by_cases e:j=d
  ·subst e
   have:(List.filter (fun p:Nat×α=> !Nat.beq p.1 j) ((j,y)::r))=r.filter fun p=> !Nat.beq p.1 j:=by simp
   rw[this,ih,ak]
   by_cases e':i=j
   ·simp[e']
   ·have:¬ j=i:=fun h=>e' h.symm
    simp[e',this]
  ·have hb:Nat.beq j d=false:=by
    cases hb:Nat.beq j d with
    | false=>rfl
    | true=>exact absurd (Vq hb) e
   have:(List.filter (fun p:Nat×α=> !Nat.beq p.1 d) ((j,y)::r))=(j,y)::r.filter fun p=> !Nat.beq p.1 d:=by simp[hb]
   rw[this,ak,ak,ih]
   by_cases e':j=i
   ·subst e';simp[e]
   ·simp[e']
def Env.putRow (ρ:Env) (d:Nat) (v:Value):Env:=⟨ρ.bx,fun i=>if i=d then v else ρ.rw i,fun b=>if v.ownBlock=some b then some (.inr d) else ρ.own b,ρ.ob,ρ.st⟩
theorem Mod.putRow {a:Act} {w':World} {blk jo:Option Nat} {d:Nat} {v:Value} {r:jc} {R:List (Nat×jc)} (h:Mod C G ρ S w a) (hg:Grow ρ w w' blk) (hblk:∀ b,blk=some b->∃ j,jo=some j/\ρ.own b=some (.inr j)) (hR:∀ i q,look R i=some q->look S.rows i=some q/\jo≠some i) (hd2:d<2000) (hd:S.aS d=false) (hf:r.fz=false) (xs:List Value) (hown:w'.ownsRow 0 r.e r.t.size v r.l.length xs) (hrep:bE (ay G r.t) r.l xs) (hnew:∀ b,v.ownBlock=some b->(w.heap.size<=b/\b<w'.heap.size)\/blk=some b): Mod C G (ρ.putRow d v) { tmps:=S.tmps.set d (.v false [.row d]),boxes:=S.boxes,rows:=(d,r)::R,objs:=S.objs } w' (a.put (some d) v):=by
 have hsame:S.dA ρ (ρ.putRow d v):=Bn _ hd
 have hfree:∀ b,v.ownBlock=some b->ρ.own b=none\/∃ j,jo=some j/\ρ.own b=some (.inr j):=fun b hb=>by
  rcases hnew b hb with ⟨h1,_⟩ | h1
  ·left
   cases ho:ρ.own b with
   | none=>rfl
   | some o=>have:=(h.owned b o ho).2.1;omega
  ·exact .inr (hblk b h1)
 have hghost:∀ b,v.ownBlock=some b->G b=none/\b<w'.heap.size/\(C.n0<=b\/C.B b):=fun b hb=>by
  rcases hnew b hb with ⟨h1,h2⟩ | h1
  ·refine⟨?_,h2,.inl (Vv h.size h1)⟩
   cases hG:G b with
   | none=>rfl
   | some o=>have:=aj (h.agr b o hG);omega
  ·obtain⟨j,_,ho⟩:=hblk b h1
   have:=h.owned b _ ho
   exact⟨this.1,Vw this.2.1 hg.size,this.2.2⟩
 have hX0:=(h.toMem.toX (jo.map .inr)).grow hg (fun b hb=>by
  obtain⟨j,e,ho⟩:=hblk b hb
  exact⟨.inr j,by rw[e];rfl,ho⟩)
 have hX1:=hX0.state (S':={ tmps:=S.tmps,boxes:=S.boxes,rows:=R.filter fun p=> !Nat.beq p.1 d,objs:=S.objs }) (fun k cs hk _=>hk) (fun j q hj _=>by
  simp only[fk] at hj
  split at hj
  ·cases hj
  ·exact (hR j q hj).1) (fun j q hj _=>hj) (fun t l h=>⟨t,l,h⟩)
 have hX2:=hX1.change (G':=G) (ρ':=ρ.putRow d v) (Gh.le_refl G) rfl hX0.agr hX0.old (fun _ _=>rfl) (fun k hk=>⟨by simp[Env.putRow,show ¬ k=d by omega],rfl⟩) hsame.boxes
  (fun b o ho=>by
    simp only[Env.putRow] at ho
    by_cases e:v.ownBlock=some b
    ·exact hghost b e
    ·rw[V6 e] at ho;exact hX0.owned b o ho)
  (fun k cs hk _=>⟨rfl,fun ho=>by
    have:v.ownBlock≠some (ρ.bx k):=fun e=>by
     rcases hfree _ e with h1 | ⟨j,_,h1⟩
     ·rw[ho] at h1;cases h1
     ·rw[ho] at h1;cases h1
    simp[Env.putRow,this,ho]⟩)
  (fun j q hj _=>by
    simp only[fk] at hj
    split at hj
    ·cases hj
    ·rename_i hjd
     obtain⟨hj1,hj2⟩:=hR j q hj
     refine⟨by simp[Env.putRow,hjd],fun b ho=> ?_⟩
     have:v.ownBlock≠some b:=fun e=>by
      rcases hfree _ e with h1 | ⟨i,e1,h1⟩
      ·rw[ho] at h1;cases h1
      ·rw[ho] at h1;cases h1;exact hj2 e1
     simp[Env.putRow,this,ho])
  (fun j q hj _=>⟨rfl,rfl,fun b ho=>by
    have:v.ownBlock≠some b:=fun e=>by
     rcases hfree _ e with h1 | ⟨i,_,h1⟩
     ·rw[ho] at h1;cases h1
     ·rw[ho] at h1;cases h1
    simp[Env.putRow,this,ho]⟩)
 refine { agr:=hX2.agr,le0:=hX2.le0,old:=hX2.old,frame:=hX2.frame,size:=hX2.size,os:=hX2.os,output:=hX2.output,pin:=hX2.pin,pinR:=hX2.pinR,owned:=hX2.owned,boxes:= ?_,rows:= ?_,objs:=fun j q hj=>hX2.objs j q hj (by cases jo<;>simp),hndI:=hX2.hndI,tmps:= ?_,defers:=h.defers }
 ·intro k cs hk
  exact hX2.boxes k cs hk (by cases jo<;>simp)
 ·intro j q hj
  simp only[ak] at hj
  split at hj
  ·rename_i e
   subst e
   cases hj
   unfold bU
   rw[V6 (by simp[hf])]
   refine⟨xs,by simpa [Env.putRow] using hown,hrep,fun b hb=> ?_⟩
   simp only[Env.putRow,V8] at hb ⊢
   rw[V7 hb]
  ·rename_i e
   have hjd:¬ j=d:=fun h=>e h.symm
   exact hX2.rows j q (by simp only[fk,V6 hjd];exact hj) (by
    have:=(hR j q hj).2
    cases jo with
    | none=>simp
    | some i=>simp only[VO,ne_eq,Option.some.injEq,aP.inr.injEq];exact fun e=>this (by rw[e]))
 ·exact (h.tmps.congr (Gh.le_refl G) hsame).put (some d) (fun _ _=>⟨by simp[Env.putRow],by
   rcases hown.2 with ⟨e,_⟩ | ⟨g,cap,cur,e,_⟩
   ·exact⟨_,_,_,e⟩
   ·exact⟨_,_,_,e⟩⟩)
theorem Mod.Mm {a:Act} {w':World} {k:Nat} {cs:List CV} {vs:List Value} {T:TypeId} (h:Mod C G ρ S w a) (hk:∃ l,look S.boxes k=some l) (hg:Grow ρ w w' (some (ρ.bx k))) (hw:w'.heap[ρ.bx k]? =some (.cells vs.toArray T (0,0))) (hv:aD (aM G ρ) cs vs):Mod C G ρ { S with boxes:=(k,cs)::S.boxes } w' a:=by
 obtain⟨l,hl⟩:=hk
 have ho:=(h.boxes k l hl).1
 have hX:=((h.toMem.toX (some (.inl k))).grow hg (fun b hb=>by cases hb;exact⟨.inl k,rfl,ho⟩)).state (S':={ S with boxes:=(k,cs)::S.boxes })
  (fun i c hi hne=>by
    have:¬ k=i:=fun e=>hne (by rw[e])
    simpa [ak,this] using hi) (fun j r hj _=>hj) (fun j r hj _=>hj) (fun t l h=>⟨t,l,h⟩)
 have hM:=hX.toMem (fun i c hi e=>by
  cases e
  simp only[ak,V8,Option.some.injEq] at hi
  subst hi
  exact⟨ho,vs,T,hw,hv⟩) (fun j r hj e=>by cases e) (fun j r hj e=>by cases e)
 exact { hM with tmps:=h.tmps,defers:=h.defers }
theorem Mod.setRow {a:Act} {w':World} {j:Nat} {q r:jc} (h:Mod C G ρ S w a) (hj:look S.rows j=some q) (hq:q.fz=false) (hr:r.fz=false) {b:Nat} (hb:(ρ.rw j).ownBlock=some b) (hg:Grow ρ w w' (some b)) (xs:List Value) (hown:w'.ownsRow 0 r.e r.t.size (ρ.rw j) r.l.length xs) (hrep:bE (ay G r.t) r.l xs):Mod C G ρ { S with rows:=(j,r)::S.rows } w' a:=by
 have hrow:=h.rows j q hj
 unfold bU at hrow
 rw[V6 (by simp[hq])] at hrow
 obtain⟨_,_,_,ho⟩:=hrow
 have hX:=((h.toMem.toX (some (.inr j))).grow hg (fun b' hb'=>by cases hb';exact⟨.inr j,rfl,ho b hb⟩)).state (S':={ S with rows:=(j,r)::S.rows }) (fun k cs hk _=>hk)
  (fun i c hi hne=>by
    have:¬ j=i:=fun e=>hne (by rw[e])
    simpa [ak,this] using hi) (fun j r hj _=>hj) (fun t l h=>⟨t,l,h⟩)
 have hM:=hX.toMem (fun k cs hk e=>by cases e) (fun i c hi e=>by
  cases e
  simp only[ak,V8,Option.some.injEq] at hi
  subst hi
  unfold bU
  rw[V6 (by simp[hr])]
  exact⟨xs,hown,hrep,ho⟩) (fun j r hj e=>by cases e)
 exact { hM with tmps:=h.tmps,defers:=h.defers }
structure Fz (G G':Gh) (ρ ρ':Env):Prop where
 le:G.le G'
 bx:ρ'.bx=ρ.bx
 rw:ρ'.rw=ρ.rw
 ob:ρ'.ob=ρ.ob
 st:ρ'.st=ρ.st
 hnd:G'.hnd=G.hnd
 own:∀ b o,ρ'.own b=some o->ρ.own b=some o
 new:∀ b,G' b≠G b->∃ j,ρ.own b=some (.inr j)
theorem Fz.refl (G:Gh) (ρ:Env):Fz G G ρ ρ:=⟨Gh.le_refl G,rfl,rfl,rfl,rfl,rfl,fun _ _ h=>h,fun _ h=>absurd rfl h⟩
theorem Fz.trans {G1 G2 G3:Gh} {r1 r2 r3:Env} (h:Fz G1 G2 r1 r2) (k:Fz G2 G3 r2 r3):Fz G1 G3 r1 r3:=
 ⟨Gh.le_trans h.le k.le,k.bx.trans h.bx,k.rw.trans h.rw,k.ob.trans h.ob,k.st.trans h.st,k.hnd.trans h.hnd,fun b o x=>h.own b o (k.own b o x),fun b hb=>by
   by_cases e:G3 b=G2 b
   ·exact h.new b (fun e'=>hb (e.trans e'))
   ·obtain⟨j,hj⟩:=k.new b e;exact⟨j,h.own b _ hj⟩⟩
def qR (rs:List (Nat×jc)) (j:Nat):List (Nat×jc):=match look rs j with | some q=>(j,{ q with fz:=true })::rs | none=>rs
theorem Mod.qR {a:Act} (h:Mod C G ρ S w a) (j:Nat):∃ G' ρ',Fz G G' ρ ρ'/\Mod C G' ρ' { S with rows:=qR S.rows j } w a:=by
 unfold Dn.qR
 cases hj:look S.rows j with
 | none=>exact⟨G,ρ,Fz.refl G ρ,{ h.toMem.DI (S':={ S with rows:=S.rows }) rfl rfl rfl with tmps:=h.tmps,defers:=h.defers }⟩
 | some q=>
  have hrow:=h.rows j q hj
  have same:bZ G q.t.size (ay G q.t) q.l (ρ.rw j)->∃ G' ρ',Fz G G' ρ ρ'/\Mod C G' ρ' { S with rows:=(j,{ q with fz:=true })::S.rows } w a:=fun hs=>by
   refine⟨G,ρ,Fz.refl G ρ,{ h with rows:= ?_,tmps:=h.tmps }⟩
   intro i r hi
   simp only[ak] at hi
   split at hi
   ·rename_i e;subst e;cases hi;unfold bU;simpa using hs
   ·exact h.rows i r hi
  by_cases hf:q.fz=true
  ·apply same
   unfold bU at hrow;rw[V7 hf] at hrow;exact hrow
  ·have hf':q.fz=false:=by simpa using hf
   unfold bU at hrow
   rw[V6 hf] at hrow
   obtain⟨xs,⟨hlen,hn | ⟨g,cap,cur,hv,_,hg,hnc,hcm,hcs,htake⟩⟩,hl,ho⟩:=hrow
   ·apply same
    have:q.l=[]:=Uh hn.2
    exact⟨none,0,by rw[hn.1,this];rfl,by rw[this];simp,VI _,.inl this⟩
   ·have hog:=ho g (by rw[hv];rfl)
    have hgn:=h.owned g _ hog
    let G':Gh:=⟨fun b=>if b=g then w.heap[g]? else G b,G.hnd⟩
    let ρ':Env:=⟨ρ.bx,ρ.rw,fun b=>if b=g then none else ρ.own b,ρ.ob,ρ.st⟩
    have hle:G.le G':=⟨fun b o hb=>by
     show (if b=g then w.heap[g]? else G b)=some o
     by_cases e:b=g
     ·subst e;rw[hgn.1] at hb;cases hb
     ·rw[V6 e];exact hb,fun _ _ h=>h⟩
    have hfz:Fz G G' ρ ρ':=⟨hle,rfl,rfl,rfl,rfl,rfl,fun b o ho'=>by
     simp only[ρ'] at ho'
     by_cases e:b=g
     ·simp[e] at ho'
     ·simpa [e] using ho',fun b hb=>by
     by_cases e:b=g
     ·exact⟨j,by rw[e];exact hog⟩
     ·simp[G',e] at hb⟩
    have hX:=(h.toMem.toX (some (.inr j))).change (G':=G') (ρ':=ρ') hle rfl
     (fun b o hb=>by
       simp only[G'] at hb
       by_cases e:b=g
       ·subst e;simpa using hb
       ·rw[V6 e] at hb;exact h.agr b o hb)
     (fun b hb hB=>by
       have e:b≠g:=fun e=>by
        subst e
        rcases hgn.2.2 with h1 | h1
        ·omega
        ·exact hB h1
       simp only[G',V6 e];exact h.old b hb hB)
     (fun _ _=>rfl) (fun _ _=>⟨rfl,rfl⟩) (fun p _ c _=>yX (ρ:=ρ) (ρ':=ρ') rfl rfl rfl rfl c)
     (fun b o ho'=>by
       have e:b≠g:=fun e=>by simp[ρ',e] at ho'
       have:=h.owned b o (hfz.own b o ho')
       exact⟨by simp only[G',V6 e];exact this.1,this.2⟩)
     (fun k cs hk _=>⟨rfl,fun ho'=>by
       have e:ρ.bx k≠g:=fun e=>by rw[e,hog] at ho';cases ho'
       simp only[ρ',V6 e];exact ho'⟩)
     (fun i r hi hne=>⟨rfl,fun b ho'=>by
       have e:b≠g:=fun e=>by rw[e,hog] at ho';cases ho';exact hne rfl
       simp only[ρ',V6 e];exact ho'⟩)
     (fun i r hi hne=>⟨rfl,rfl,fun b ho'=>by
       have e:b≠g:=fun e=>by rw[e,hog] at ho';cases ho'
       simp only[ρ',V6 e];exact ho'⟩)
    refine⟨G',ρ',hfz, ?_⟩
    have hX':=hX.state (S':={ S with rows:=(j,{ q with fz:=true })::S.rows }) (fun k cs hk _=>hk) (fun i c hi hne=>by
     have:¬ j=i:=fun e=>hne (by rw[e])
     simpa [ak,this] using hi) (fun j r hj _=>hj) (fun t l h=>⟨t,l,h⟩)
    have hM:=hX'.toMem (fun k cs hk e=>by cases e) (fun i c hi e=>by
     cases e
     simp only[ak,V8,Option.some.injEq] at hi
     subst hi
     unfold bU
     rw[V7 rfl]
     refine⟨some ⟨g,0,none⟩,cap,hv,hnc,hcm,.inr ⟨g,0,cur,q.e,(0,0),rfl,by simp[G',hg], ?_, ?_⟩⟩
     ·simp only[VH];rw[hcs];exact VD _ hnc
     ·simp only[Uf];rw[htake];exact hl.mono (ay.mono hle q.t)) (fun j r hj e=>by cases e)
    exact { hM with tmps:=h.tmps.congr hle ⟨fun s _=>gY.same (ρ:=ρ) (ρ':=ρ') rfl rfl rfl rfl,fun p _ c _=>yX (ρ:=ρ) (ρ':=ρ') rfl rfl rfl rfl c⟩,defers:=h.defers }
theorem Bg (S:St) (js:List Nat):aB S js={ S with rows:=js.foldl qR S.rows }:=rfl
theorem Mod.freeze {a:Act}:∀ (js:List Nat) {G:Gh} {ρ:Env} {S:St},Mod C G ρ S w a->∃ G' ρ',Fz G G' ρ ρ'/\Mod C G' ρ' (aB S js) w a
 | [],G,ρ,S,h=>⟨G,ρ,Fz.refl G ρ,h⟩
 | j::js,G,ρ,S,h=>by
  obtain⟨G1,ρ1,f1,h1⟩:=h.qR j
  obtain⟨G2,ρ2,f2,h2⟩:=Mod.freeze js h1
  exact⟨G2,ρ2,f1.trans f2,h2⟩
end Go.Dn
namespace Go.Dn
theorem eY {β:Type} {b:Bool} {x:Option β} {r:β} (h:chk b x=some r):b=true/\x=some r:=by
 cases b with
 | true=>exact⟨rfl,h⟩
 | false=>cases h
theorem bind_some {α β:Type} {x:Option α} {f:α->Option β} {r:β} (h:x.bind f=some r):∃ y,x=some y/\f y=some r:=by
 cases x with
 | none=>cases h
 | some y=>exact⟨y,rfl,h⟩
variable {P:Program} {G:Gh} {ρ:Env} {w:World} {β:Type}
theorem Pk {op:BinOp} {ka kb:IntKind} {x y:Int} {k:CV->Option β} {r:β} (h:F3 op ka x kb y k=some r): ∃ c,k c=some r/\∀ (P:Program) (G:Gh) (ρ:Env) (w:World) (t:TypeId),∃ v,(binOp op t (.int ka x) (.int kb y)).run P w= .ok v w/\aM G ρ c v:=by
 unfold F3 at h
 cases op
 case shl=>
  obtain⟨h1,h2⟩:=eY h
  exact⟨_,h2,fun P G ρ w t=>⟨_,by simp only[V0] at h1;simp[binOp,Op.shift,show ¬ y<0 by omega],rfl⟩⟩
 case shr=>
  obtain⟨h1,h2⟩:=eY h
  exact⟨_,h2,fun P G ρ w t=>⟨_,by simp only[V0] at h1;simp[binOp,Op.shift,show ¬ y<0 by omega],rfl⟩⟩
 all_goals
  simp only at h
  split at h
  ·cases h
  ·rename_i hk
   have hk':ka=kb:=by simpa using hk
   subst hk'
   first
    | cases h
    | exact⟨_,h,fun P G ρ w t=>⟨_,by simp[binOp,Op.intArith,Op.intCmp,Op.intBits],rfl⟩⟩
    | (obtain⟨h1,h2⟩:=eY h
       exact⟨_,h2,fun P G ρ w t=>⟨_,by simp only[bne_iff_ne,ne_eq] at h1;simp[binOp,Op.intDiv,h1],rfl⟩⟩)
theorem oV (l:List UInt8):(bs l).toList=l:=by rw[ByteArray.toList_eq,Pt]
theorem yT (l:List UInt8):(bs l).size=l.length:=by simp[bs,ByteArray.size]
theorem Sl (a b:List UInt8):bs a++bs b=bs (a++b):=by
 apply ByteArray.ext
 apply Array.ext'
 simp[bs]
theorem Pm {op:BinOp} {x y:List UInt8} {k:CV->Option β} {r:β} (h:KX op x y k=some r): ∃ c,k c=some r/\∀ (P:Program) (G:Gh) (ρ:Env) (w:World) (t:TypeId),∃ v,(binOp op t (.string (bs x)) (.string (bs y))).run P w= .ok v w/\aM G ρ c v:=by
 unfold KX at h
 cases op
 case add=>
  obtain⟨h1,h2⟩:=eY h
  refine⟨_,h2,fun P G ρ w t=>⟨_, ?_,rfl⟩⟩
  simp only[V0] at h1
  have:¬ ((((bs x).size+(bs y).size:Nat):Int)>IntKind.i64.max):=by
   simp only[maxLen] at h1
   rw[yT,yT]
   simp[IntKind.max,IntKind.signed,IntKind.bits]
   omega
  simp only[binOp,Op.stringOp,this,V5,Sl]
  rfl
 all_goals first
  | cases h
  | exact⟨_,h,fun P G ρ w t=>⟨_,by simp only[binOp,Op.stringOp,oV];rfl,rfl⟩⟩
theorem El {op:BinOp} {t:TypeId} {x y:Operand} {k:IntKind} {n:Int} {v:Value}:(eqGuard op t x y (.int k n) v).run P w= .ok () w:=by
 cases op<;>cases v<;>rfl
theorem MM {op:BinOp} {t:TypeId} {x y:Operand} {s:ByteArray} {v:Value}:(eqGuard op t x y (.string s) v).run P w= .ok () w:=by
 cases op<;>cases v<;>rfl
theorem lG {t:TypeId} {d:TypeDesc} (h:P.underlying t=some d):(isAgg t).run P w= .ok (mo P t) w:=by
 simp only[isAgg,Sem.run_bind,run_underlying h,Result.andThen_ok,mo,h]
 cases d<;>rfl
theorem run_sizeOf {t:TypeId} {i:TypeInfo} (h:P.info? t=some i):(sizeOf t).run P w= .ok (bC P t) w:=by
 simp[sizeOf,typeInfo,h,bC]
theorem K1 {b off:Nat} {c:Array Value} {T:TypeId} {fz:Nat×Nat} (hb:w.heap[b]? =some (.cells c T fz)) (n:Nat):∀ j v,((c.toList.drop off).take n)[j]? =some v->w.cell? ((⟨b,off,none⟩:Addr).add j)=some v:=by
 intro j v hj
 rw[UE] at hj
 split at hj
 ·rw[Uv] at hj
  have hadd:(⟨b,off,none⟩:Addr).add j=⟨b,off+j,none⟩:=by unfold Addr.add;split<;>simp_all
  rw[hadd,cell_of_row w b _ c T fz hb]
  simpa using hj
 ·cases hj
theorem zG {t:TypeId} {d:TypeDesc} {i:TypeInfo} (hu:P.underlying t=some d) (hi:P.info? t=some i) {b off:Nat} {vs:List Value} (hl:vs.length=bC P t) (h:∀ j v,vs[j]? =some v->w.cell? ((⟨b,off,none⟩:Addr).add j)=some v): (mo P t=true->(loadVar t ⟨b,off,none⟩).run P w= .ok (.agg vs.toArray) w)/\(mo P t=false->∀ v,vs=[v]->(loadVar t ⟨b,off,none⟩).run P w= .ok v w):=by
 constructor
 ·intro ha
  simp only[loadVar,Sem.run_bind,lG hu,Result.andThen_ok,ha,V8,run_sizeOf hi, <- hl]
  rw[run_loadCells_list w ⟨b,off,none⟩ vs h]
  rfl
 ·intro ha v hv
  subst hv
  have h0:=h 0 v rfl
  simp only[loadVar,Sem.run_bind,lG hu,Result.andThen_ok,ha]
  have:(⟨b,off,none⟩:Addr).add 0=⟨b,off,none⟩:=rfl
  rw[this] at h0
  simp[h0]
theorem RH {t:TypeId} {d:TypeDesc} (h:P.underlying t=some d):∃ i,P.info? t=some i:=by
 unfold Program.underlying at h
 cases hi:P.info? t with
 | none=>rw[hi] at h;cases h
 | some i=>exact⟨i,rfl⟩
theorem fK {t:TypeId} (h:okT P t=true):∃ d i,P.underlying t=some d/\P.info? t=some i:=by
 obtain⟨d,hd⟩:=VM.1 h
 obtain⟨i,hi⟩:=RH hd
 exact⟨d,i,hd,hi⟩
theorem wC {l cs:List CV} {off n:Nat} (h:Dw l off n=some cs):cs=(l.drop off).take n/\cs.length=n:=by
 unfold Dw at h
 simp only at h
 split at h
 ·rename_i hb;cases h;exact⟨rfl,Vq hb⟩
 ·cases h
theorem uJ {T:TypeId} {l:List CV} {off:Nat} {k:SV->Option β} {r:β} (h:iI P T l off k=some r): ∃ s,k s=some r/\∀ (G:Gh) (ρ:Env) (w:World) (b base:Nat) (vs:List Value),aD (aM G ρ) l vs->(∀ j v,vs[j]? =some v->w.cell? ((⟨b,base,none⟩:Addr).add j)=some v)-> ∃ v,(loadVar T ⟨b,base+off,none⟩).run P w= .ok v w/\aU G ρ s v:=by
 unfold iI at h
 split at h
 ·rename_i hok
  obtain⟨d,i,hd,hi⟩:=fK hok
  split at h
  ·rename_i cs hc
   obtain⟨e,hlen⟩:=wC hc
   have key:∀ (G:Gh) (ρ:Env) (w:World) (b base:Nat) (vs:List Value),aD (aM G ρ) l vs->(∀ j v,vs[j]? =some v->w.cell? ((⟨b,base,none⟩:Addr).add j)=some v)->
    ∃ us:List Value,us.length=bC P T/\aD (aM G ρ) cs us/\∀ j v,us[j]? =some v->w.cell? ((⟨b,base+off,none⟩:Addr).add j)=some v:=by
    intro G ρ w b base vs hv hcell
    refine⟨(vs.drop off).take (bC P T), ?_,by rw[e];exact (hv.drop off).take _, ?_⟩
    ·have:=((hv.drop off).take (bC P T)).len
     rw[this, <- e,hlen]
    ·intro j v hj
     rw[UE] at hj
     split at hj
     ·rw[Uv] at hj
      have:=hcell (off+j) v hj
      have e1:(⟨b,base,none⟩:Addr).add (off+j)=⟨b,base+off+j,none⟩:=by unfold Addr.add;split<;>simp_all [Vl]
      have e2:(⟨b,base+off,none⟩:Addr).add j=⟨b,base+off+j,none⟩:=by unfold Addr.add;split<;>simp_all
      rw[e2, <- e1];exact this
     ·cases hj
   split at h
   ·rename_i ha
    refine⟨_,h,fun G ρ w b base vs hv hcell=> ?_⟩
    obtain⟨us,hl,hus,hc'⟩:=key G ρ w b base vs hv hcell
    exact⟨_,(zG hd hi hl hc').1 ha,us,rfl,hus⟩
   ·rename_i ha
    split at h
    ·rename_i c
     refine⟨_,h,fun G ρ w b base vs hv hcell=> ?_⟩
     obtain⟨us,hl,hus,hc'⟩:=key G ρ w b base vs hv hcell
     obtain⟨y,ey,hy⟩:=hus.single
     exact⟨y,(zG hd hi hl hc').2 (by simpa using ha) y ey,hy⟩
    ·cases h
  ·cases h
 ·cases h
theorem Fp {α:Type} {l:List α} {i:Int} {x:α} (h:idx l i=some x):0<=i/\i<l.length/\l[i.toNat]? =some x:=by
 unfold idx at h
 split at h
 ·rename_i h0
  refine⟨h0, ?_,h⟩
  have:=(Uy.1 h).1
  omega
 ·cases h
theorem run_indexAt_slice {t e:TypeId} (ht:P.underlying t=some (.slice e)) (hok:okT P e=true) {ik:IntKind} {i:Int} {b off len cap:Nat} (h0:0<=i) (h1:i<len): (Instr.indexAt t (.slice (some ⟨b,off,none⟩) len cap) (.int ik i)).run P w= .ok (.pointer (some ⟨b,off+i.toNat*bC P e,none⟩)) w:=by
 obtain⟨d,inf,hd,hi⟩:=fK hok
 have hadd:(⟨b,off,none⟩:Addr).add (i.toNat*bC P e)=⟨b,off+i.toNat*bC P e,none⟩:=by unfold Addr.add;split<;>simp_all
 simp only[Instr.indexAt,asIntOf,Sem.run_bind,Sem.run_pure,Result.andThen_ok,run_underlying ht,h0,h1,and_self,V8,run_sizeOf hi,hadd]
theorem bZ.at {t:Ty} {l:List t.den} {v:Value} (h:bZ G t.size (ay G t) l v) {i:Nat} {x:t.den} (hx:l[i]? =some x): ∃ b off c T fz cap,v= .slice (some ⟨b,off,none⟩) l.length cap/\G b=some (.cells c T fz)/\off+i*t.size+t.size<=c.size/\ay G t x ((c.toList.drop (off+i*t.size)).take t.size):=by
 obtain⟨a,cap,hv,h1,h2,h3⟩:=h
 have hlt:=(Uy.1 hx).1
 rcases h3 with rfl | ⟨b,off,c,T,fz,ha,hb,hs,hl⟩
 ·simp at hx
 ·refine⟨b,off,c,T,fz,cap,by rw[hv,ha],hb, ?_, ?_⟩
  ·have:i*t.size+t.size<=l.length*t.size:=by rw[<- Nat.succ_mul];exact VD _ hlt
   omega
  ·have:=hl.get (fun x cs hr=>ay.len hr) hx
   rw[List.drop_take,Vj,Ub] at this
   have e:min t.size (l.length*t.size - i*t.size)=t.size:=by
    have:i*t.size+t.size<=l.length*t.size:=by rw[<- Nat.succ_mul];exact VD _ hlt
    omega
   rw[e] at this
   exact this
end Go.Dn
namespace Go.Dn
variable {β:Type}
def eC (P:Program) (o:Oper) (S M:St) (s:SV):Prop:=
 ∀ (C:Fr P) (G:Gh) (ρ:Env) (w:World) (a:Act),Mem C G ρ M w->(∀ x,x∈o.op.operands->aU G ρ (S.ev x) (a.eval x))->
  ∃ v,(execOp a.eval o).run P w= .ok (.value v) w/\aU G ρ s v
theorem aQ {G:Gh} {ρ:Env} {s:SV} {c:CV} {v:Value} (h:aU G ρ s v) (e:s= .v false [c]):aM G ρ c v:=by subst e;exact h
theorem Jc {G:Gh} {ρ:Env} {n:Nat} {c c':CV} {v:Value} (h:FR n c=some c') (hv:aM G ρ c v):∃ b off,v= .pointer (some ⟨b,off,none⟩)/\aM G ρ c' (.pointer (some ⟨b,off+n,none⟩)):=by
 cases c<;>simp only[FR] at h<;>try cases h
 case ref k o=>exact⟨_,_,hv,rfl⟩
 case cp t x o=>
  obtain⟨b,off,c,T,fz,e,hb,hs,hl⟩:=hv
  exact⟨_,_,e,b,off,c,T,fz,by rw[Vl],hb,hs,hl⟩
 case rp j sz i o=>
  obtain⟨b,len,cap,e1,e2⟩:=hv
  exact⟨_,_,e2,b,len,cap,e1,by rw[Vl]⟩
 case hnd o k=>
  cases o with
  | none=>cases h
  | some i=>
   cases h
   obtain⟨b,hb,e⟩:=hv
   exact⟨_,_,e,b,hb,rfl⟩
theorem yW {G:Gh} {ρ:Env} {c:CV} {v:Value} (h:aM G ρ c v) (hok:c.ok=true):v.oneCell'=true/\v.cells= #[v]:=by
 cases c
 case any=>cases hok
 case opq u=>cases hok
 case sl t l=>obtain⟨a,cap,e,_⟩:=h;subst e;exact⟨rfl,rfl⟩
 case cp t x o=>obtain⟨b,off,c,T,fz,e,_⟩:=h;subst e;exact⟨rfl,rfl⟩
 case clo g t x=>obtain⟨caps,e,_⟩:=h;subst e;exact⟨rfl,rfl⟩
 case rp j sz i o=>obtain⟨b,len,cap,_,e⟩:=h;subst e;exact⟨rfl,rfl⟩
 case row j=>obtain⟨_,a,n,c,e⟩:=h;subst e;exact⟨rfl,rfl⟩
 case mp j=>obtain⟨_,b,e⟩:=h;subst e;exact⟨rfl,rfl⟩
 case kseq g j=>obtain⟨b,T,fz,e,_⟩:=h;subst e;exact⟨rfl,rfl⟩
 case nb b=>obtain⟨c,e,_⟩:=h;subst e;exact⟨rfl,rfl⟩
 case hnd o k=>
  cases o with
  | none=>obtain⟨e,_⟩:=h;subst e;exact⟨rfl,rfl⟩
  | some i=>obtain⟨b,_,e⟩:=h;subst e;exact⟨rfl,rfl⟩
 all_goals (have e:v=_:=h;subst e;exact⟨rfl,rfl⟩)
section
variable {X:Cx} {o:Oper} {S M:St} {k:SV->Option β} {r:β}
theorem NX {P:Program} {T:TypeId} {l:List CV} {off:Nat} {s:SV} (h:iI P T l off some=some s): ∀ (G:Gh) (ρ:Env) (w:World) (vs:List Value),aD (aM G ρ) l vs->∃ v,(part T vs.toArray off).run P w= .ok v w/\aU G ρ s v:=by
 unfold iI at h
 split at h
 ·rename_i hok
  obtain⟨d,i,hd,hi⟩:=fK hok
  split at h
  ·rename_i cs' hc
   obtain⟨e,hlen⟩:=wC hc
   split at h
   ·rename_i ha
    cases h
    intro G ρ w vs hl
    refine⟨.agg ((vs.drop off).take (bC P T)).toArray, ?_,_,rfl,by rw[e];exact (hl.drop _).take _⟩
    simp only[Sem.run_bind,Result.andThen_ok,Sem.run_pure,part,lG hd,ha,V8,run_sizeOf hi]
    congr 2
    simp
   ·rename_i ha
    split at h
    ·rename_i c
     cases h
     intro G ρ w vs hl
     have hsub:=(hl.drop off).take (bC P T)
     rw[<- e] at hsub
     obtain⟨y,ey,hy⟩:=hsub.single
     have hy0:vs[off]? =some y:=by
      have:((vs.drop off).take (bC P T))[0]? =some y:=by rw[ey];rfl
      rw[UE] at this
      split at this
      ·simpa using this
      ·cases this
     refine⟨y, ?_,hy⟩
     simp[part,lG hd,ha,hy0]
    ·cases h
  ·cases h
 ·cases h
theorem NA {P:Program} {g:TypeId->SV->SV->Option Bool} {d:Nat} (hg:∀ t x y r,g t x y=some r->∀ (G:Gh) (ρ:Env) (w:World) vx vy,aU G ρ x vx->aU G ρ y vy->(Op.equalIn d t vx vy).run P w= .ok r w) {xs ys:List CV}: ∀ {fs:List Field} {r:Bool},Cg P g xs ys fs=some r->∀ (G:Gh) (ρ:Env) (w:World) vs us,aD (aM G ρ) xs vs->aD (aM G ρ) ys us->(Op.eqFields d vs.toArray us.toArray fs).run P w= .ok r w
 | [],r,h,G,ρ,w,vs,us,hv,hu=>by simp only[Cg,Option.some.injEq] at h;subst h;rfl
 | f::fs,r,h,G,ρ,w,vs,us,hv,hu=>by
  simp only[Cg] at h
  split at h
  ·cases h
  ·rename_i hn
   split at h
   ·rename_i a b ha hb
    split at h
    ·rename_i r1 hr1
     split at h
     ·rename_i q hq
      cases h
      obtain⟨x,hx1,hx2⟩:=NX ha G ρ w vs hv
      obtain⟨y,hy1,hy2⟩:=NX hb G ρ w us hu
      have h1:=hg _ _ _ _ hr1 G ρ w x y hx2 hy2
      have h2:=NA hg hq G ρ w vs us hv hu
      simp only[Op.eqFields,V7 hn,Sem.run_bind,hx1,hy1,h1,Result.andThen_ok,Sem.run_ite,Sem.run_pure,h2]
      cases r1<;>simp
     ·cases h
    ·cases h
   ·cases h
theorem Ax {G:Gh} {ρ:Env} {c:CV} {v:Value} (h:c.KF=true) (hv:aM G ρ c v):∃ a,v= .pointer (some a):=by
 cases c<;>simp only[CV.KF] at h<;>try cases h
 case ref k o=>exact⟨_,hv⟩
 case cp t x o=>obtain⟨b,off,c,T,fz,e,_⟩:=hv;exact⟨_,e⟩
 case rp j sz i o=>obtain⟨b,len,cap,_,e⟩:=hv;exact⟨_,e⟩
theorem Ig {P:Program}:∀ {d:Nat} {t:TypeId} {x y:SV} {r:Bool},oP P d t x y=some r->∀ (d':Nat),d<=d'->∀ (G:Gh) (ρ:Env) (w:World) vx vy,aU G ρ x vx->aU G ρ y vy->(Op.equalIn d' t vx vy).run P w= .ok r w
 | 0,t,x,y,r,h=>by simp[oP] at h
 | d+1,t,x,y,r,h=>by
  intro d' hd' G ρ w vx vy hx hy
  obtain⟨e,rfl⟩:∃ e,d'=e+1:=⟨d' - 1,by omega⟩
  simp only[oP] at h
  split at h
  ·rename_i k0 ht
   split at h
   ·rename_i k a k' b
    split at h
    ·rename_i hk
     cases h
     subst hk
     have e1:vx= .int k a:=hx
     have e2:vy= .int k b:=hy
     subst e1;subst e2
     exact run_equalIn_int w e t k k0 a b ht
    ·cases h
   ·cases h
  ·rename_i ht
   split at h
   ·rename_i a b
    cases h
    have e1:vx= .bool a:=hx
    have e2:vy= .bool b:=hy
    subst e1;subst e2
    exact run_equalIn_bool w e t a b ht
   ·cases h
  ·rename_i ht
   split at h
   ·rename_i a b
    cases h
    have e1:vx= .string (bs a):=hx
    have e2:vy= .string (bs b):=hy
    subst e1;subst e2
    have:=run_equalIn_string w e t (bs a) (bs b) ht
    rw[oV,oV] at this
    exact this
   ·cases h
  ·rename_i el ht
   split at h
   ·cases h
    have e1:vx= .pointer none:=hx
    have e2:vy= .pointer none:=hy
    subst e1;subst e2
    simp[Op.equalIn,run_underlying ht]
   ·rename_i o k
    cases h
    have e1:vx= .pointer none:=hx
    subst e1
    cases o with
    | none=>obtain⟨e2,_⟩:=hy;subst e2;simp[Op.equalIn,run_underlying ht]
    | some i=>obtain⟨b,_,e2⟩:=hy;subst e2;simp[Op.equalIn,run_underlying ht]
   ·rename_i o k
    cases h
    have e1:vy= .pointer none:=hy
    subst e1
    cases o with
    | none=>obtain⟨e2,_⟩:=hx;subst e2;simp[Op.equalIn,run_underlying ht]
    | some i=>obtain⟨b,_,e2⟩:=hx;subst e2;simp[Op.equalIn,run_underlying ht]
   ·rename_i c _ _
    split at h
    ·rename_i hp
     cases h
     have e1:vx= .pointer none:=hx
     obtain⟨a,e2⟩:=Ax hp (show aM G ρ c vy from hy)
     subst e1;subst e2
     simp[Op.equalIn,run_underlying ht]
    ·cases h
   ·rename_i c _ _
    split at h
    ·rename_i hp
     cases h
     have e2:vy= .pointer none:=hy
     obtain⟨a,e1⟩:=Ax hp (show aM G ρ c vx from hx)
     subst e1;subst e2
     simp[Op.equalIn,run_underlying ht]
    ·cases h
   ·cases h
  ·rename_i fs ht
   split at h
   ·rename_i xs ys
    split at h
    ·cases h
    ·rename_i hst
     obtain⟨vs,e1,hvs⟩:=hx
     obtain⟨us,e2,hus⟩:=hy
     subst e1;subst e2
     have hf:P.fieldsOf t=fs:=by simp[Program.fieldsOf,ht]
     rw[run_equalIn_struct w e t vs.toArray us.toArray (by rw[hf];exact ht) (by simpa using hst),hf]
     exact NA (fun t x y r hr G ρ w vx vy hvx hvy=>Ig hr e (by omega) G ρ w vx vy hvx hvy) h G ρ w vs us hvs hus
   ·cases h
  ·cases h
theorem Em {P:Program} {op:BinOp} {t:TypeId} {x y:Operand} {vx vy:Value} {w:World} (h:P.eqGuardType P.depth t=false) (hx:vx≠ .nilIface):(eqGuard op t x y vx vy).run P w= .ok () w:=by
 unfold eqGuard
 cases op<;>first
  | rfl
  | (cases vx<;>cases vy<;>first | rfl | exact absurd rfl hx | simp[run_program,h])
def SK (t:TypeId) (vx vy:Value):Prop:=vx≠ .nilIface/\binOp .eql t vx vy=(do pure (.bool (<- Op.equal t vx vy)))/\binOp .neq t vx vy=(do pure (.bool (!(<- Op.equal t vx vy))))
theorem Oo {P:Program} {d:Nat} {t:TypeId} {x y:SV} {q:Bool} (hq:oP P (d+1) t x y=some q): (∃ ka a kb b,x= .v false [.int ka a]/\y= .v false [.int kb b])\/(∃ a b,x= .v false [.str a]/\y= .v false [.str b])\/ ∀ (G:Gh) (ρ:Env) (vx vy:Value),aU G ρ x vx->aU G ρ y vy->SK t vx vy:=by
 simp only[oP] at hq
 split at hq
 ·split at hq
  ·exact .inl ⟨_,_,_,_,rfl,rfl⟩
  ·cases hq
 ·split at hq
  ·rename_i a b
   refine .inr (.inr fun G ρ vx vy hvx hvy=> ?_)
   have e1:vx= .bool a:=hvx
   have e2:vy= .bool b:=hvy
   subst e1;subst e2
   exact⟨by simp,rfl,rfl⟩
  ·cases hq
 ·split at hq
  ·exact .inr (.inl ⟨_,_,rfl,rfl⟩)
  ·cases hq
 ·refine .inr (.inr fun G ρ vx vy hvx hvy=> ?_)
  have hp:(∃ p,vx= .pointer p)/\∃ p,vy= .pointer p:=by
   split at hq
   ·exact⟨⟨_,hvx⟩,⟨_,hvy⟩⟩
   ·rename_i o k
    refine⟨⟨_,hvx⟩, ?_⟩
    cases o with
    | none=>exact⟨_,hvy.1⟩
    | some i=>obtain⟨b,_,e⟩:=hvy;exact⟨_,e⟩
   ·rename_i o k
    refine⟨?_,⟨_,hvy⟩⟩
    cases o with
    | none=>exact⟨_,hvx.1⟩
    | some i=>obtain⟨b,_,e⟩:=hvx;exact⟨_,e⟩
   ·rename_i c _ _
    split at hq
    ·rename_i hp
     obtain⟨a,e⟩:=Ax hp (show aM G ρ c vy from hvy)
     exact⟨⟨_,hvx⟩,⟨_,e⟩⟩
    ·cases hq
   ·rename_i c _ _
    split at hq
    ·rename_i hp
     obtain⟨a,e⟩:=Ax hp (show aM G ρ c vx from hvx)
     exact⟨⟨_,e⟩,⟨_,hvy⟩⟩
    ·cases hq
   ·cases hq
  obtain⟨⟨p,rfl⟩,⟨q',rfl⟩⟩:=hp
  exact⟨by simp,rfl,rfl⟩
 ·split at hq
  ·refine .inr (.inr fun G ρ vx vy hvx hvy=> ?_)
   obtain⟨vs,e1,hvs⟩:=hvx
   obtain⟨us,e2,hus⟩:=hvy
   subst e1;subst e2
   exact⟨by simp,rfl,rfl⟩
  ·cases hq
 ·cases hq
theorem Sz {op:BinOp} {t u:TypeId} {x y:Operand} (ho:o.op= .binOp op t x y u) (hi:∀ ka a kb b,S.ev x= .v false [.int ka a]->S.ev y= .v false [.int kb b]->False) (hs:∀ a b,S.ev x= .v false [.str a]->S.ev y= .v false [.str b]->False) (h:QW X.P op t (S.ev x) (S.ev y) k=some r):∃ s,k s=some r/\eC X.P o S M s:=by
 unfold QW at h
 split at h
 ·cases h
 ·rename_i hgd
  have hgd':X.P.eqGuardType X.P.depth t=false:=by simpa using hgd
  have key:∀ q,oP X.P 9 t (S.ev x) (S.ev y)=some q->∀ (G:Gh) (ρ:Env) (w:World) (vx vy:Value),aU G ρ (S.ev x) vx->aU G ρ (S.ev y) vy->
   (eqGuard op t x y vx vy).run X.P w= .ok () w/\(binOp .eql t vx vy).run X.P w= .ok (.bool q) w/\(binOp .neq t vx vy).run X.P w= .ok (.bool !q) w:=by
   intro q hq G ρ w vx vy hvx hvy
   have heq':(Op.equal t vx vy).run X.P w= .ok q w:=Ig hq Op.maxDepth (by decide) G ρ w vx vy hvx hvy
   rcases Oo hq with ⟨ka,a,kb,b,e1,e2⟩ | ⟨a,b,e1,e2⟩ | hB
   ·exact (hi _ _ _ _ e1 e2).elim
   ·exact (hs _ _ e1 e2).elim
   ·obtain⟨h1,h2,h3⟩:=hB G ρ vx vy hvx hvy
    refine⟨Em hgd' h1, ?_, ?_⟩
    ·rw[h2];simp[heq']
    ·rw[h3];simp[heq']
  clear hi hs
  split at h
  ·split at h
   ·rename_i q hq
    refine⟨_,h,fun C G ρ w a hM hop=>⟨.bool q, ?_,rfl⟩⟩
    obtain⟨h1,h2,_⟩:=key q hq G ρ w _ _ (hop x (by simp[ho,Op.operands])) (hop y (by simp[ho,Op.operands]))
    simp only[execOp,ho,Sem.run_bind,h1,Result.andThen_ok,h2,Sem.run_pure]
   ·split at h
    ·rename_i e b ht hb
     refine⟨_,h,fun C G ρ w a hM hop=> ?_⟩
     have hvx:=hop x (by simp[ho,Op.operands])
     have hvy:=hop y (by simp[ho,Op.operands])
     generalize S.ev x=sx at hb hvx
     generalize S.ev y=sy at hb hvy
     unfold Rt at hb
     split at hb
     ·rename_i ty l
      cases hb
      obtain⟨p,cap,e1,_,_,hl⟩:=(hvx:bZ G _ _ l _)
      have e2:a.eval y= .slice none 0 0:=hvy
      refine⟨.bool p.isNone, ?_,p.isNone,rfl,fun he=> ?_⟩
      ·have h1:(eqGuard .eql t x y (a.eval x) (a.eval y)).run X.P w= .ok () w:=Em hgd' (by rw[e1];simp)
       have h2:(binOp .eql t (a.eval x) (a.eval y)).run X.P w= .ok (.bool p.isNone) w:=by
        rw[e1,e2]
        have h3:(Op.equal t (.slice p l.length cap) (.slice none 0 0)).run X.P w= .ok p.isNone w:=by
         unfold Op.equal
         obtain⟨dd,hd⟩:∃ dd,Op.maxDepth=dd+1:=⟨9999,rfl⟩
         rw[hd]
         cases p<;>simp[Op.equalIn,run_underlying ht]
        have h4:binOp .eql t (.slice p l.length cap) (.slice none 0 0)=(do pure (.bool (<- Op.equal t (.slice p l.length cap) (.slice none 0 0)))):=rfl
        rw[h4];simp[h3]
       simp only[execOp,ho,Sem.run_bind,h1,Result.andThen_ok,h2,Sem.run_pure]
      ·rcases hl with hl | ⟨_,_,_,_,_,e3,_⟩
       ·subst hl;cases he
       ·rw[e3];rfl
     ·cases hb
    ·cases h
  ·split at h
   ·rename_i q hq
    refine⟨_,h,fun C G ρ w a hM hop=>⟨.bool !q, ?_,rfl⟩⟩
    obtain⟨h1,_,h2⟩:=key q hq G ρ w _ _ (hop x (by simp[ho,Op.operands])) (hop y (by simp[ho,Op.operands]))
    simp only[execOp,ho,Sem.run_bind,h1,Result.andThen_ok,h2,Sem.run_pure]
   ·cases h
  ·cases h
theorem RX {op:BinOp} {t u:TypeId} {x y:Operand} (ho:o.op= .binOp op t x y u) (h:cr X o S M k=some r):∃ s,k s=some r/\eC X.P o S M s:=by
 unfold cr at h
 rw[ho] at h
 simp only[Og] at h
 split at h
 ·rename_i ka n kb m hx hy
  obtain⟨c,hk,hc⟩:=Pk h
  refine⟨_,hk,fun C G ρ w a hM hop=> ?_⟩
  have h1:=aQ (hop x (by simp[ho,Op.operands])) hx
  have h2:=aQ (hop y (by simp[ho,Op.operands])) hy
  obtain⟨v,hr,hv⟩:=hc X.P G ρ w t
  refine⟨v, ?_,hv⟩
  simp only[execOp,ho,Sem.run_bind,show a.eval x= .int ka n from h1,show a.eval y= .int kb m from h2,El,Result.andThen_ok,hr,Sem.run_pure]
 ·rename_i n m hx hy
  obtain⟨c,hk,hc⟩:=Pm h
  refine⟨_,hk,fun C G ρ w a hM hop=> ?_⟩
  have h1:=aQ (hop x (by simp[ho,Op.operands])) hx
  have h2:=aQ (hop y (by simp[ho,Op.operands])) hy
  obtain⟨v,hr,hv⟩:=hc X.P G ρ w t
  refine⟨v, ?_,hv⟩
  simp only[execOp,ho,Sem.run_bind,show a.eval x= .string (bs n) from h1,show a.eval y= .string (bs m) from h2,MM,Result.andThen_ok,hr,Sem.run_pure]
 ·rename_i hni hns
  exact Sz ho hni hns h
theorem SC {op:UnOp} {t:TypeId} {x:Operand} (ho:o.op= .unOp op t x) (h:cr X o S M k=some r):∃ s,k s=some r/\eC X.P o S M s:=by
 unfold cr at h
 rw[ho] at h
 simp only at h
 split at h
 ·rename_i b hx
  refine⟨_,h,fun C G ρ w a hM hop=> ?_⟩
  have h1:=aQ (hop x (by simp[ho,Op.operands])) hx
  exact⟨.bool !b,by simp only[execOp,ho,show a.eval x= .bool b from h1,Op.unary];rfl,rfl⟩
 ·rename_i ik n hx
  refine⟨_,h,fun C G ρ w a hM hop=> ?_⟩
  have h1:=aQ (hop x (by simp[ho,Op.operands])) hx
  exact⟨_,by simp only[execOp,ho,show a.eval x= .int ik n from h1,Op.unary,Op.intArith];rfl,rfl⟩
 ·cases h
theorem JJ {G:Gh}:∀ {l:List Int} {vs:List Value},bE (ay G (.int .u8)) l vs->vs=l.map (Value.int .u8)
 | [],vs,h=>h
 | x::r,vs,h=>by
  obtain⟨a,b,e,h1,h2⟩:=h
  have h1:a=[.int .u8 x]:=h1
  rw[e,h1,JJ h2]
  rfl
theorem fold_push:∀ (ns:List Int) (s:ByteArray),ns.foldl (fun r n=>r.push (UInt8.ofNat n.toNat)) s=⟨(s.data.toList++ns.map fun n=>UInt8.ofNat n.toNat).toArray⟩
 | [],s=>by simp
 | n::r,s=>by
  rw[Um,fold_push r]
  simp[ByteArray.push]
theorem MC {P:Program} (w:World) {t u e e':TypeId} (hd:P.underlying t=some (.slice e)) (he:P.underlying e=some (.int .u8)) (hu:P.underlying u=some .string) (v:Value) (ql:List Int) {xs:List Value} (hown:w.ownsRow 0 e' 1 v ql.length xs) (hxs:xs=ql.map (Value.int .u8)):(convert t u v).run P w= .ok (.string (bs (ql.map fun n=>UInt8.ofNat n.toNat))) w:=by
 obtain⟨hlen,hv⟩:=hown
 rcases hv with ⟨hv,h0⟩ | ⟨g,cap,cur,hv,_,hheap,hle,nA,hsz,htake⟩
 ·have:ql=[]:=UL.1 h0
  subst this
  rw[hv,run_convert_bytes_string w t u e none 0 0 hd he hu]
  rfl
 ·have hcell:∀ i v,(ql.map (Value.int .u8))[i]? =some v->w.cell? ((⟨g,0,none⟩:Addr).add i)=some v:=fun i v hi=>by
   rw[<- hxs, <- htake] at hi
   have hlt:i<ql.length*1:=by
    have:=(Uy.1 hi).1
    rw[UR] at this
    exact Vw this (Nat.min_le_left _ _)
   rw[UF hlt] at hi
   have hi:cur[i]? =some v:=by simpa using hi
   by_cases h0:i=0
   ·subst h0;simp[World.cell?,Addr.add,hheap,hi]
   ·simp[World.cell?,Addr.add,h0,hheap,hi]
  have h:=run_loadCells_list (P:=P) (w:=w) ⟨g,0,none⟩ (ql.map (Value.int .u8)) hcell
  rw[UM] at h
  rw[hv,run_convert_bytes_string w t u e _ _ _ hd he hu,run_bytesToString w _ _ _ ql h,fold_push]
  rfl
theorem Qi {t u:TypeId} {x:Operand} (ho:o.op= .convert t u x) (h:cr X o S M k=some r):∃ s,k s=some r/\eC X.P o S M s:=by
 unfold cr at h
 rw[ho] at h
 simp only at h
 split at h
 ·rename_i d ik ik' n hd hu hx
  refine⟨_,h,fun C G ρ w a hM hop=> ?_⟩
  have h1:=aQ (hop x (by simp[ho,Op.operands])) hx
  refine⟨.int ik (ik.wrap n), ?_,rfl⟩
  simp only[execOp,ho,show a.eval x= .int ik' n from h1,convert,Sem.run_bind,run_underlying hd,run_underlying hu,Result.andThen_ok,Conv.intToInt,Sem.run_pure]
 ·rename_i d s hd hu hx
  refine⟨_,h,fun C G ρ w a hM hop=> ?_⟩
  have h1:=aQ (hop x (by simp[ho,Op.operands])) hx
  refine⟨.string (bs s), ?_,rfl⟩
  simp only[execOp,ho,show a.eval x= .string (bs s) from h1,convert,Sem.run_bind,run_underlying hd,run_underlying hu,Result.andThen_ok,Sem.run_pure]
 ·rename_i d ik n hd hu hx
  obtain⟨hc,h⟩:=eY h
  simp only[Tu,V0] at hc
  refine⟨_,h,fun C G ρ w a hM hop=> ?_⟩
  have h1:=aQ (hop x (by simp[ho,Op.operands])) hx
  have he:Utf8.encode n=bs [UInt8.ofNat n.toNat]:=by
   have hv:Utf8.valid n=true:=by
    unfold Utf8.valid
    rw[TJ,Tu,V0,V0]
    exact .inl ⟨hc.1,by omega⟩
   unfold Utf8.encode
   rw[hv]
   simp only[V8]
   rw[V7 (show n.toNat<128 by omega)]
   rfl
  refine⟨.string (bs [UInt8.ofNat n.toNat]), ?_,rfl⟩
  simp only[execOp,ho,show a.eval x= .int ik n from h1,convert,Sem.run_bind,run_underlying hd,run_underlying hu,Result.andThen_ok,Conv.intToString,Sem.run_pure,he]
 ·rename_i d e j hd hu hx
  split at h
  ·rename_i q he hq
   split at h
   ·cases h
   ·rename_i hfz
    cases hc:kC (b:= .int .u8) q.l with
    | none=>rw[hc] at h;cases h
    | some l=>
     rw[hc] at h
     simp only at h
     refine⟨_,h,fun C G ρ w a hM hop=> ?_⟩
     have h1:a.eval x=ρ.rw j:=by
      exact (aQ (hop x (by simp[ho,Op.operands])) hx).1
     have hr:=hM.rows j q hq
     obtain⟨fz,e',t',ql⟩:=q
     obtain⟨et,hl⟩:=eN hc
     simp only at et hl hfz
     subst et
     subst hl
     unfold bU at hr
     simp only at hr
     rw[V6 hfz] at hr
     obtain⟨xs,⟨hlen,hv⟩,hrep,_⟩:=hr
     have hxs:=JJ hrep
     have hrun:(convert t u (a.eval x)).run X.P w= .ok (.string (bs (ql.map fun n=>UInt8.ofNat n.toNat))) w:=by
      rw[h1]
      exact MC w hd he hu _ ql ⟨hlen,hv⟩ hxs
     exact⟨_,by simp only[execOp,ho,Sem.run_bind,hrun,Result.andThen_ok,Sem.run_pure],rfl⟩
  ·cases h
 ·cases h
theorem Qk {x:Operand} (ho:o.op= .move x\/o.op= .assign x) (h:cr X o S M k=some r):∃ s,k s=some r/\eC X.P o S M s:=by
 unfold cr at h
 rcases ho with ho | ho<;>rw[ho] at h<;>simp only at h
 all_goals exact⟨_,h,fun C G ρ w a hM hop=>⟨a.eval x,by simp only[execOp,ho,Sem.run_pure],hop x (by simp[ho,Op.operands])⟩⟩
theorem SB {c x y:Operand} (ho:o.op= .pick c x y) (h:cr X o S M k=some r):∃ s,k s=some r/\eC X.P o S M s:=by
 unfold cr at h
 rw[ho] at h
 simp only at h
 split at h
 ·rename_i t hc
  cases t with
  | true=>
   refine⟨_,h,fun C G ρ w a hM hop=>⟨a.eval x, ?_,hop x (by simp[ho,Op.operands])⟩⟩
   have h1:=aQ (hop c (by simp[ho,Op.operands])) hc
   simp only[execOp,ho,show a.eval c= .bool true from h1,asBool,Sem.run_bind,Sem.run_pure,Result.andThen_ok,V8]
  | false=>
   refine⟨_,h,fun C G ρ w a hM hop=>⟨a.eval y, ?_,hop y (by simp[ho,Op.operands])⟩⟩
   have h1:=aQ (hop c (by simp[ho,Op.operands])) hc
   simp[execOp,ho,show a.eval c= .bool false from h1,asBool]
 ·cases h
theorem OS {x:Operand} (ho:o.op= .nilCheck x) (h:cr X o S M k=some r):∃ s,k s=some r/\eC X.P o S M s:=by
 unfold cr at h
 rw[ho] at h
 simp only at h
 split at h
 ·rename_i i j hx
  refine⟨_,h,fun C G ρ w a hM hop=> ?_⟩
  have h1:=aQ (hop x (by simp[ho,Op.operands])) hx
  exact⟨_,by simp only[execOp,ho,show a.eval x=_ from h1];rfl,rfl⟩
 ·rename_i t y j hx
  refine⟨_,h,fun C G ρ w a hM hop=> ?_⟩
  have h1:=aQ (hop x (by simp[ho,Op.operands])) hx
  obtain⟨b,off,c,T,fz,e,rest⟩:=h1
  exact⟨_,by simp only[execOp,ho,e];rfl,b,off,c,T,fz,rfl,rest⟩
 ·rename_i i sz j l hx
  refine⟨_,h,fun C G ρ w a hM hop=> ?_⟩
  have h1:=aQ (hop x (by simp[ho,Op.operands])) hx
  obtain⟨b,len,cap,e1,e2⟩:=h1
  exact⟨_,by simp only[execOp,ho,e2];rfl,b,len,cap,e1,rfl⟩
 ·rename_i g t y hx
  refine⟨_,h,fun C G ρ w a hM hop=> ?_⟩
  have h1:=aQ (hop x (by simp[ho,Op.operands])) hx
  obtain⟨caps,e,hc⟩:=h1
  exact⟨_,by simp only[execOp,ho,e];rfl,caps,rfl,hc⟩
 ·rename_i g ks hx
  refine⟨_,h,fun C G ρ w a hM hop=> ?_⟩
  have h1:=aQ (hop x (by simp[ho,Op.operands])) hx
  exact⟨_,by simp only[execOp,ho,show a.eval x=_ from h1];rfl,rfl⟩
 ·rename_i oh j hx
  obtain⟨i,hi,h⟩:=bind_some h
  subst hi
  refine⟨_,h,fun C G ρ w a hM hop=> ?_⟩
  have h1:=aQ (hop x (by simp[ho,Op.operands])) hx
  obtain⟨b,hb,e⟩:=h1
  exact⟨_,by simp only[execOp,ho,e];rfl,b,hb,rfl⟩
 ·cases h
theorem Nc {t:TypeId} {x:Operand} {f:Nat} (ho:o.op= .fieldAddr t x f) (h:cr X o S M k=some r):∃ s,k s=some r/\eC X.P o S M s:=by
 unfold cr at h
 rw[ho] at h
 simp only at h
 split at h
 ·rename_i fs c ht hx
  split at h
  ·rename_i fd hf
   split at h
   ·rename_i hok
    simp only[Tu,TF] at hok
    obtain⟨d,i,hd,hi⟩:=fK hok.1
    split at h
    ·rename_i c' hc
     refine⟨_,h,fun C G ρ w a hM hop=> ?_⟩
     have h1:=aQ (hop x (by simp[ho,Op.operands])) hx
     obtain⟨b,off,e,hc'⟩:=Jc hc h1
     have hadd:(⟨b,off,none⟩:Addr).add fd.offset=⟨b,off+fd.offset,none⟩:=by unfold Addr.add;split<;>simp_all
     have hz:bC X.P fd.type≠0:=fun e0=>by rw[e0] at hok;simp at hok
     refine⟨_, ?_,hc'⟩
     simp only[execOp,ho,e,Instr.fieldAt,Sem.run_bind,run_underlying ht,Result.andThen_ok,hf,Instr.sureAddr,Sem.run_pure,fieldPlace,run_sizeOf hi,hz,V5,hadd]
    ·cases h
   ·cases h
  ·cases h
 ·cases h
theorem SA {t:TypeId} {x:Operand} (ho:o.op= .load t x) (h:cr X o S M k=some r):∃ s,k s=some r/\eC X.P o S M s:=by
 unfold cr at h
 rw[ho] at h
 simp only at h
 split at h
 ·rename_i bk off hx
  split at h
  ·rename_i l hl
   obtain⟨s,hs,hld⟩:=uJ h
   refine⟨s,hs,fun C G ρ w a hM hop=> ?_⟩
   have h1:=aQ (hop x (by simp[ho,Op.operands])) hx
   obtain⟨_,vs,T,hw,hv⟩:=hM.boxes bk l hl
   obtain⟨v,hr,hsv⟩:=hld G ρ w (ρ.bx bk) 0 vs hv (fun j v hj=>by
    have hadd:(⟨ρ.bx bk,0,none⟩:Addr).add j=⟨ρ.bx bk,j,none⟩:=by unfold Addr.add;split<;>simp_all
    rw[hadd,cell_of_row w _ j _ T (0,0) hw];simpa using hj)
   refine⟨v, ?_,hsv⟩
   simp only[VH] at hr
   simp only[execOp,ho,show a.eval x=_ from h1,Instr.loadAt,Instr.sureAddr,Sem.run_bind,Sem.run_pure,Result.andThen_ok,hr]
  ·cases h
 ·rename_i ty y off hx
  obtain⟨s,hs,hld⟩:=uJ h
  refine⟨s,hs,fun C G ρ w a hM hop=> ?_⟩
  have h1:=aQ (hop x (by simp[ho,Op.operands])) hx
  obtain⟨b,base,c,T,fz,e,hb,hsz,hl⟩:=h1
  obtain⟨v,hr,hsv⟩:=hld G ρ w b base _ (dS ρ hl) (K1 (hM.agr b _ hb) _)
  refine⟨v, ?_,hsv⟩
  simp only[execOp,ho,e,Instr.loadAt,Instr.sureAddr,Sem.run_bind,Sem.run_pure,Result.andThen_ok,hr]
 ·rename_i j sz i off hx
  split at h
  ·rename_i q hq
   obtain⟨y,hy,h⟩:=bind_some h
   split at h
   ·rename_i hcond
    simp only[Tu,TF] at hcond
    obtain⟨s,hs,hld⟩:=uJ h
    refine⟨s,hs,fun C G ρ w a hM hop=> ?_⟩
    have h1:=aQ (hop x (by simp[ho,Op.operands])) hx
    obtain⟨b,len,cap,e1,e2⟩:=h1
    have hrow:=hM.rows j q hq
    unfold bU at hrow
    rw[V6 (by simp[hcond.1])] at hrow
    obtain⟨xs,⟨hlen,hn | ⟨g,cap',cur,hv,_,hg,hnc,hcm,hcs,htake⟩⟩,hl,hown⟩:=hrow
    ·have:q.l=[]:=Uh hn.2
     rw[this] at hy;simp at hy
    ·rw[e1] at hv
     cases hv
     have hyr:=hl.get (fun x cs hr=>ay.len hr) hy
     have hsz:=Vq hcond.2
     obtain⟨v,hr,hsv⟩:=hld G ρ w b (i*sz) _ (dS ρ hyr) (fun n u hu=>by
      rw[UE] at hu
      split at hu
      ·rw[Uv, <- htake,UE] at hu
       split at hu
       ·have hadd:(⟨b,i*sz,none⟩:Addr).add n=⟨b,i*sz+n,none⟩:=by unfold Addr.add;split<;>simp_all
        rw[hadd,cell_of_row w _ _ _ _ _ hg,hsz];simpa using hu
       ·cases hu
      ·cases hu)
     refine⟨v, ?_,hsv⟩
     simp only[execOp,ho,e2,Instr.loadAt,Instr.sureAddr,Sem.run_bind,Sem.run_pure,Result.andThen_ok,hr]
   ·cases h
  ·cases h
 ·rename_i i off hx
  split at h
  ·rename_i fz ty l hl
   obtain⟨y,hy,h⟩:=bind_some h
   obtain⟨s,hs,hld⟩:=uJ h
   refine⟨s,hs,fun C G ρ w a hM hop=> ?_⟩
   have h1:=aQ (hop x (by simp[ho,Op.operands])) hx
   obtain⟨b,hb,e⟩:=h1
   obtain⟨b',vs,T,hb',_,_,hw,hrep⟩:=(hM.objs bg _ hl).2.2.2 i y hy
   rw[hb] at hb'
   cases hb'
   obtain⟨v,hr,hsv⟩:=hld G ρ w b 0 vs (dS ρ hrep) (fun j v hj=>by
    have hadd:(⟨b,0,none⟩:Addr).add j=⟨b,j,none⟩:=by unfold Addr.add;split<;>simp_all
    rw[hadd,cell_of_row w _ j _ T (0,0) hw];simpa using hj)
   refine⟨v, ?_,hsv⟩
   simp only[VH] at hr
   simp only[execOp,ho,e,Instr.loadAt,Instr.sureAddr,Sem.run_bind,Sem.run_pure,Result.andThen_ok,hr]
  ·cases h
 ·cases h
theorem GC {ik:IntKind}:∀ {cs:List CV} {l:List Int} {i:Nat} {m:Int},Cu ik cs=some l->l[i]? =some m->cs[i]? =some (.int ik m)
 | [],l,i,m,h,hg=>by simp only[Cu,Option.some.injEq] at h;subst h;simp at hg
 | c::cs,l,i,m,h,hg=>by
  cases c<;>simp only[Cu] at h<;>try cases h
  split at h
  ·rename_i k n hk
   subst hk
   split at h
   ·rename_i l' hl'
    cases h
    cases i with
    | zero=>simp at hg;subst hg;rfl
    | succ i=>simp at hg ⊢;exact GC hl' hg
   ·cases h
  ·cases h
theorem Nd {t:TypeId} {x ix:Operand} (ho:o.op= .indexAddr t x ix) (h:cr X o S M k=some r):∃ s,k s=some r/\eC X.P o S M s:=by
 unfold cr at h
 rw[ho] at h
 simp only at h
 split at h
 ·rename_i e ty l ik i ht hx hix
  split at h
  ·rename_i hok
   simp only[Tu] at hok
   obtain⟨y,hy,h⟩:=bind_some h
   obtain⟨h0,h1,hget⟩:=Fp hy
   refine⟨_,h,fun C G ρ w a hM hop=> ?_⟩
   have hv1:=aQ (hop x (by simp[ho,Op.operands])) hx
   have hv2:=aQ (hop ix (by simp[ho,Op.operands])) hix
   obtain⟨b,off,c,T,fz,cap,ev,hb,hs,hrep⟩:=bZ.at hv1 hget
   have hsz:=Vq hok.2
   refine⟨_, ?_,b,off+i.toNat*ty.size,c,T,fz,rfl,hb,hs,hrep⟩
   simp only[execOp,ho,ev,show a.eval ix= .int ik i from hv2,Sem.run_bind,run_indexAt_slice ht hok.1 h0 h1,Result.andThen_ok,Sem.run_pure,hsz,Vn]
  ·cases h
 ·rename_i e j ik i ht hx hix
  split at h
  ·rename_i q hq
   split at h
   ·rename_i hok
    simp only[Tu] at hok
    have hsz:=Vq hok.2
    split at h
    ·rename_i hfz
     obtain⟨y,hy,h⟩:=bind_some h
     obtain⟨h0,h1,hget⟩:=Fp hy
     refine⟨_,h,fun C G ρ w a hM hop=> ?_⟩
     have hv1:=aQ (hop x (by simp[ho,Op.operands])) hx
     have hv2:=aQ (hop ix (by simp[ho,Op.operands])) hix
     have hrow:=hM.frozen j q hq hfz
     obtain⟨b,off,c,T,fz,cap,ev,hb,hs,hrep⟩:=bZ.at hrow hget
     refine⟨_, ?_,b,off+i.toNat*q.t.size,c,T,fz,rfl,hb,hs,hrep⟩
     simp only[execOp,ho,show a.eval x=ρ.rw j from hv1.1,ev,show a.eval ix= .int ik i from hv2,Sem.run_bind,run_indexAt_slice ht hok.1 h0 h1,Result.andThen_ok,Sem.run_pure,hsz,Vn]
    ·rename_i hfz
     obtain⟨hc,h⟩:=eY h
     simp only[Tu,V0] at hc
     refine⟨_,h,fun C G ρ w a hM hop=> ?_⟩
     have hv1:=aQ (hop x (by simp[ho,Op.operands])) hx
     have hv2:=aQ (hop ix (by simp[ho,Op.operands])) hix
     have hrow:=hM.rows j q hq
     unfold bU at hrow
     rw[V6 hfz] at hrow
     obtain⟨xs,⟨hlen,hn | ⟨g,cap',cur,hv,_,hg,_⟩⟩,hl,hown⟩:=hrow
     ·omega
     ·refine⟨_, ?_,g,q.l.length,cap',hv,rfl⟩
      simp only[execOp,ho,show a.eval x=ρ.rw j from hv1.1,hv,show a.eval ix= .int ik i from hv2,Sem.run_bind,run_indexAt_slice ht hok.1 hc.1 hc.2,Result.andThen_ok,Sem.run_pure,hsz,VH,Vn]
   ·cases h
  ·cases h
 ·rename_i n e c ik i ht hx hix
  split at h
  ·rename_i hok
   obtain⟨m,rfl,hlt,h⟩:=GW h
   rw[VH] at hlt
   split at h
   ·rename_i c' hc
    refine⟨_,h,fun C G ρ w a hM hop=> ?_⟩
    have h1:=aQ (hop x (by simp[ho,Op.operands])) hx
    have hv2:=aQ (hop ix (by simp[ho,Op.operands])) hix
    obtain⟨b,off,e1,hc'⟩:=Jc hc h1
    obtain⟨d,j,hd,hj⟩:=fK hok
    have hadd:(⟨b,off,none⟩:Addr).add (m*bC X.P e)=⟨b,off+m*bC X.P e,none⟩:=by unfold Addr.add;split<;>simp_all
    refine⟨_, ?_,hc'⟩
    have h0:(0:Int)<=(m:Int)/\(m:Int)<(n:Int):=⟨Int.natCast_nonneg m,Int.ofNat_lt.2 hlt⟩
    simp only[execOp,ho,e1,show a.eval ix= .int ik (m:Int) from hv2,Instr.indexAt,asIntOf,Instr.sureAddr,Sem.run_bind,Sem.run_pure,run_underlying ht,Result.andThen_ok,V7 h0,run_sizeOf hj,show ((m:Int)).toNat=m from rfl,hadd]
   ·cases h
  ·cases h
 ·cases h
theorem R1 {t:TypeId} {x ix:Operand} (ho:o.op= .index t x ix) (h:cr X o S M k=some r):∃ s,k s=some r/\eC X.P o S M s:=by
 unfold cr at h
 rw[ho] at h
 simp only at h
 split at h
 ·rename_i s ik i ht hx hix
  obtain⟨b,hb,h⟩:=bind_some h
  refine⟨_,h,fun C G ρ w a hM hop=> ?_⟩
  have hv1:=aQ (hop x (by simp[ho,Op.operands])) hx
  have hv2:=aQ (hop ix (by simp[ho,Op.operands])) hix
  unfold dI at hb
  split at hb
  ·rename_i h0
   refine⟨.int .u8 b.toNat, ?_,rfl⟩
   have hb':(bs s)[i.toNat]? =some b:=by
    obtain⟨hlt,he⟩:=Uy.1 hb
    rw[getElem?_pos (bs s) i.toNat (by rw[yT];exact hlt)]
    simp only[bs,Option.some.injEq]
    rw[<- he];rfl
   simp only[execOp,ho,show a.eval x= .string (bs s) from hv1,show a.eval ix= .int ik i from hv2,Instr.index,asIntOf,Sem.run_bind,Sem.run_pure,Result.andThen_ok,run_underlying ht,h0,V8,hb']
  ·cases hb
 ·rename_i n e cs ik i ht hx hix
  split at h
  ·rename_i ek he
   split at h
   ·rename_i l hl
    split at h
    ·rename_i hc
     simp only[Tu,TF] at hc
     obtain⟨⟨⟨c1,c2⟩,c3⟩,c4⟩:=hc
     obtain⟨d,j,hd,hj⟩:=fK c1
     have hsz:=Vq c2
     have hln:=Vq c4
     obtain⟨m,hm,h⟩:=bind_some h
     obtain⟨h0,h1,hget⟩:=Fp hm
     refine⟨_,h,fun C G ρ w a hM hop=> ?_⟩
     have hv:=hop x (by simp[ho,Op.operands])
     rw[hx] at hv
     obtain⟨vs,ev,hall⟩:=hv
     have hv2:=aQ (hop ix (by simp[ho,Op.operands])) hix
     have hcell:=GC hl hget
     obtain⟨v,hv3,hv4⟩:=hall.get hcell
     refine⟨v, ?_,hv4⟩
     have hb:0<=i/\i<(n:Int):=⟨h0,by rw[<- hln];exact h1⟩
     simp only[execOp,ho,ev,show a.eval ix= .int ik i from hv2,Instr.index,asIntOf,Sem.run_bind,Sem.run_pure,Result.andThen_ok,run_underlying ht,V7 hb,run_sizeOf hj,hsz,VE,part,lG hd,c3,TA,V5]
     simp[hv3]
    ·cases h
   ·cases h
  ·cases h
 ·cases h
theorem Qj {x:Operand} {i:Nat} (ho:o.op= .extract x i) (h:cr X o S M k=some r):∃ s,k s=some r/\eC X.P o S M s:=by
 unfold cr at h
 rw[ho] at h
 simp only at h
 split at h
 ·rename_i l hx
  split at h
  ·rename_i p hp
   refine⟨_,h,fun C G ρ w a hM hop=> ?_⟩
   have hv1:=hop x (by simp[ho,Op.operands])
   rw[hx] at hv1
   obtain⟨vs,e,hl⟩:=hv1
   obtain⟨v,hv,hsv⟩:=hl.get hp
   refine⟨v, ?_,hsv⟩
   simp[execOp,ho,e,Instr.extract,hv]
  ·cases h
 ·cases h
end
end Go.Dn
namespace Go.Dn
variable {P:Program} {G:Gh} {w:World}
theorem Pr (a b:List UInt8):(bs a==bs b)=(a==b):=by
 have h:(bs a==bs b)=((bs a).data==(bs b).data):=rfl
 rw[h]
 simp[bs]
theorem uI {t:TypeId} {k:Ty} (h:dX P t k=true) (hn:∀ s,k≠ .st s):bu P t k=true:=by
 cases k with
 | st s=>exact absurd rfl (hn s)
 | _=>exact h
theorem yE {t:TypeId} {k:Ty} (h:bu P t k=true) (d:Nat) (a b:k.den):∃ c1 c2,unpack k a=[c1]/\unpack k b=[c2]/\oP P (d+1) t (.v false [c1]) (.v false [c2])=some (k.beq a b)/\k8 k a= .v false [c1]/\k8 k b= .v false [c2]:=by
 cases k with
 | int kk=>
  simp only[bu] at h
  split at h
  ·rename_i hu
   exact⟨_,_,rfl,rfl,by simp[oP,hu,Ty.beq,Ow],rfl,rfl⟩
  ·cases h
 | bool=>
  simp only[bu] at h
  split at h
  ·rename_i hu
   exact⟨_,_,rfl,rfl,by simp[oP,hu,Ty.beq,Of],rfl,rfl⟩
  ·cases h
 | str=>
  simp only[bu] at h
  split at h
  ·rename_i hu
   exact⟨_,_,rfl,rfl,by simp[oP,hu,Ty.beq,SF],rfl,rfl⟩
  ·cases h
 | _=>simp[bu] at h
theorem pK {t:TypeId} {k:Ty} (h:bu P t k=true):okT P t=true/\mo P t=false/\k.size=1:=by
 cases k with
 | int kk=>
  simp only[bu] at h
  split at h
  ·rename_i hu;exact⟨by simp[okT,hu],by simp[mo,hu],rfl⟩
  ·cases h
 | bool=>
  simp only[bu] at h
  split at h
  ·rename_i hu;exact⟨by simp[okT,hu],by simp[mo,hu],rfl⟩
  ·cases h
 | str=>
  simp only[bu] at h
  split at h
  ·rename_i hu;exact⟨by simp[okT,hu],by simp[mo,hu],rfl⟩
  ·cases h
 | _=>simp[bu] at h
theorem AD {T:TypeId} (hok:okT P T=true) (hag:mo P T=false) (hsz:bC P T=1) {l:List CV} {n:Nat} {c:CV} {r:List CV} (h:l.drop n=c::r):iI P T l n some=some (.v false [c]):=by
 have:(l.drop n).take 1=[c]:=by rw[h];rfl
 simp[iI,hok,Dw,hsz,this,hag]
theorem Jo {l:List CV} {n:Nat} {c:CV} {r:List CV} (h:l.drop n=c::r):l.drop (n+1)=r:=by
 have:l.drop (n+1)=(l.drop n).drop 1:=by rw[Ub]
 rw[this,h];rfl
theorem Jp {d:Nat} {xs ys:List CV}:∀ {fs:List Field} {n:Nat} {t:Ty} {a b:t.den},bK P fs n t=true->xs.drop n=unpack t a->ys.drop n=unpack t b->Cg P (oP P (d+1)) xs ys fs=some (t.beq a b)
 | [],n,t,a,b,h,_,_=>by simp[bK] at h
 | [f],n,t,a,b,h,hx,hy=>by
  simp only[bK,Tu,V0] at h
  obtain⟨⟨⟨h1,h2⟩,h3⟩,h4⟩:=h
  have e2:=Vq h2
  have e3:=Vq h3
  obtain⟨k1,k2,k3⟩:=pK h4
  obtain⟨c1,c2,u1,u2,he,_,_⟩:=yE h4 d a b
  simp only[Cg,V6 h1,e2]
  rw[AD k1 k2 e3 (hx.trans u1),AD k1 k2 e3 (hy.trans u2)]
  simp only[he,Tx]
 | f::g::r,n,t,a,b,h,hx,hy=>by
  cases t with
  | pair s t=>
   simp only[bK,Tu,V0] at h
   obtain⟨⟨⟨⟨h1,h2⟩,h3⟩,h4⟩,h5⟩:=h
   have e2:=Vq h2
   have e3:=Vq h3
   obtain⟨k1,k2,k3⟩:=pK h4
   obtain⟨c1,c2,u1,u2,he,_,_⟩:=yE h4 d a.1 b.1
   simp only[unpack,u1,u2,List.singleton_append] at hx hy
   have ih:=Jp (d:=d) h5 (Jo hx) (Jo hy)
   rw[Cg,V6 h1,e2]
   rw[AD k1 k2 e3 hx,AD k1 k2 e3 hy]
   simp only[he,ih,Ty.beq]
  | _=>simp[bK] at h
theorem Q1 {t:TypeId} {k:Ty} (h:dX P t k=true) (a b:k.den):oP P 9 t (k8 k a) (k8 k b)=some (k.beq a b):=by
 cases k with
 | st s=>
  simp only[dX] at h
  split at h
  ·rename_i fs hu
   simp only[Tu,TF] at h
   simp only[k8,oP,hu,h.1,TA,V5]
   exact Jp (t:=s) (a:=a) (b:=b) (d:=7) (n:=0) h.2 (by simp) (by simp)
  ·cases h
 | _=>
  obtain⟨c1,c2,u1,u2,he,e1,e2⟩:=yE (P:=P) (t:=t) (uI h (by intro s e;cases e)) 8 a b
  rw[e1,e2]
  exact he
theorem Jv {t:TypeId} {k:Ty} (h:dX P t k=true) {a b:k.den} {va vb:Value} (ha:bB G k a va) (hb:bB G k b vb) (w:World):(Op.equal t va vb).run P w= .ok (k.beq a b) w:=by
 let ρ:Env:=⟨fun _=>0,fun _=> .nilFunc,fun _=>none,fun _=> .nilFunc,fun _ _=>0⟩
 exact Ig (Q1 h a b) Op.maxDepth (by decide) G ρ w va vb (zU ρ ha) (zU ρ hb)
theorem PT {t:TypeId} {k:Ty} (h:dX P t k=true) {a b:k.den} (e:k.beq a b=true):a=b:=by
 have sc:∀ {t:TypeId} {k:Ty},bu P t k=true->∀ {a b:k.den},k.beq a b=true->a=b:=by
  intro t k h a b e
  cases k with
  | int kk=>exact eq_of_beq (α:=Int) (a:=a) (b:=b) e
  | bool=>exact eq_of_beq (α:=Bool) (a:=a) (b:=b) e
  | str=>exact eq_of_beq (α:=List UInt8) (a:=a) (b:=b) e
  | _=>simp[bu] at h
 have fc:∀ (fs:List Field) (n:Nat) (t:Ty) (a b:t.den),bK P fs n t=true->t.beq a b=true->a=b:=by
  intro fs
  induction fs with
  | nil=>intro n t a b h;simp[bK] at h
  | cons f r ih=>
   intro n t a b h e
   cases r with
   | nil=>
    simp only[bK,Tu] at h
    exact sc h.2 e
   | cons g r=>
    cases t with
    | pair s t=>
     simp only[bK,Tu] at h
     simp only[Ty.beq,Tu] at e
     exact Prod.ext (sc h.1.2 (a:=a.1) (b:=b.1) e.1) (ih (n+1) t a.2 b.2 h.2 e.2)
    | _=>simp[bK] at h
 cases k with
 | st s=>
  simp only[dX] at h
  split at h
  ·rename_i fs hu
   simp only[Tu] at h
   exact fc fs.toList 0 s a b h.2 e
  ·cases h
 | _=>exact sc (t:=t) (a:=a) (b:=b) (uI h (by intro s e;cases e)) e
theorem Nl {t:TypeId} {k:Ty} (h:dX P t k=true) {a:k.den} {va vb:Value} (ha:bB G k a va) (hb:bB G k a vb):va=vb:=by
 have sc:∀ {t:TypeId} {k:Ty},bu P t k=true->∀ {a:k.den} {u v:List Value},ay G k a u->ay G k a v->u=v:=by
  intro t k h a u v hu hv
  cases k with
  | int kk=>exact hu.trans hv.symm
  | bool=>exact hu.trans hv.symm
  | str=>exact hu.trans hv.symm
  | _=>simp[bu] at h
 have fc:∀ (fs:List Field) (n:Nat) (t:Ty) (a:t.den) (u v:List Value),bK P fs n t=true->ay G t a u->ay G t a v->u=v:=by
  intro fs
  induction fs with
  | nil=>intro n t a u v h;simp[bK] at h
  | cons f r ih=>
   intro n t a u v h hu hv
   cases r with
   | nil=>
    simp only[bK,Tu] at h
    exact sc h.2 hu hv
   | cons g r=>
    cases t with
    | pair s t=>
     simp only[bK,Tu] at h
     obtain⟨c1,r1,e1,p1,q1⟩:=hu
     obtain⟨c2,r2,e2,p2,q2⟩:=hv
     rw[e1,e2,sc h.1.2 p1 p2,ih (n+1) t a.2 r1 r2 h.2 q1 q2]
    | _=>simp[bK] at h
 cases k with
 | st s=>
  simp only[dX] at h
  split at h
  ·rename_i fs hu
   simp only[Tu] at h
   obtain⟨us,e1,h1⟩:=ha
   obtain⟨vs,e2,h2⟩:=hb
   rw[e1,e2,fc fs.toList 0 s a us vs h.2 h1 h2]
  ·cases h
 | _=>
  have:=sc (t:=t) (a:=a) (uI h (by intro s e;cases e)) ha hb
  simpa using this
theorem sameBits_self {t:TypeId} {k:Ty} (h:dX P t k=true) {a:k.den} {v:Value} (hv:bB G k a v):Instr.sameBits 10000 v v=true:=by
 have sc:∀ {t:TypeId} {k:Ty},bu P t k=true->∀ {a:k.den} {cs:List Value},ay G k a cs->∀ n u,u∈cs->Instr.sameBits n u u=true:=by
  intro t k h a cs hc n u hu
  cases k with
  | int kk=>
   have e:cs=[_]:=hc
   rw[e] at hu
   rcases U6.1 hu with rfl
   exact (fun x:Int=>by cases n<;>simp[Instr.sameBits]:∀ x:Int,Instr.sameBits n (.int kk x) (.int kk x)=true) a
  | bool=>
   have e:cs=[_]:=hc
   rw[e] at hu
   rcases U6.1 hu with rfl
   exact (fun x:Bool=>by cases n<;>simp[Instr.sameBits]:∀ x:Bool,Instr.sameBits n (.bool x) (.bool x)=true) a
  | str=>
   have e:cs=[_]:=hc
   rw[e] at hu
   rcases U6.1 hu with rfl
   exact (fun x:List UInt8=>by cases n<;>simp[Instr.sameBits,Pr]:∀ x:List UInt8,Instr.sameBits n (.string (bs x)) (.string (bs x))=true) a
  | _=>simp[bu] at h
 have fc:∀ (fs:List Field) (n:Nat) (t:Ty) (a:t.den) (cs:List Value),bK P fs n t=true->ay G t a cs->∀ m u,u∈cs->Instr.sameBits m u u=true:=by
  intro fs
  induction fs with
  | nil=>intro n t a cs h;simp[bK] at h
  | cons f r ih=>
   intro n t a cs h hc m u hu
   cases r with
   | nil=>
    simp only[bK,Tu] at h
    exact sc h.2 hc m u hu
   | cons g r=>
    cases t with
    | pair s t=>
     simp only[bK,Tu] at h
     obtain⟨c1,r1,e1,p1,q1⟩:=hc
     rw[e1,UW] at hu
     rcases hu with hu | hu
     ·exact sc h.1.2 p1 m u hu
     ·exact ih (n+1) t a.2 r1 h.2 q1 m u hu
    | _=>simp[bK] at h
 cases k with
 | st s=>
  simp only[dX] at h
  split at h
  ·rename_i fs hu
   simp only[Tu] at h
   obtain⟨us,e1,h1⟩:=hv
   rw[e1]
   have key:=fc fs.toList 0 s a us h.2 h1
   have:∀ (l:List Value),(∀ u,u∈l->Instr.sameBits 9999 u u=true)->((l.zip l).all fun p=>Instr.sameBits 9999 p.1 p.2)=true:=by
    intro l hl
    induction l with
    | nil=>rfl
    | cons x l ih=>simp only[List.zip_cons_cons,TX,Tu];exact⟨hl x (by simp),ih fun u hu=>hl u (by simp[hu])⟩
   show Instr.sameBits (9999+1) _ _=true
   simp only[Instr.sameBits,VT,TK]
   exact this us fun u hu=>key 9999 u hu
  ·cases h
 | _=>exact sc (t:=t) (a:=a) (uI h (by intro s e;cases e)) hv 10000 v (by simp)
inductive vF {k v:Ty} (a:k.den) (l:List (k.den×v.den)) (es:List MapEntry):Option (Nat×Value)->Prop
 | no (h:∀ p,p∈l->k.beq a p.1=false):vF a l es none
 | yes (i:Nat) (p:k.den×v.den) (e:MapEntry) (hp:l[i]? =some p) (he:es[i]? =some e) (hb:k.beq a p.1=true) (hn:∀ j q,j<i->l[j]? =some q->k.beq a q.1=false):vF a l es (some (i,e.val))
theorem Bf {t:TypeId} {k v:Ty} (h:dX P t k=true) {a:k.den} {va:Value} (ha:bB G k a va):∀ {l:List (k.den×v.den)} {es:List MapEntry} (n:Nat),aD (q9 G k v) l es-> ∃ r,(Instr.findAsking t va es n).run P w= .ok (r.map fun p:Nat×Value=>(n+p.1,p.2)) w/\vF a l es r
 | [],es,n,he=>by cases he;exact⟨none,rfl,.no (by simp)⟩
 | p::l,_,n,⟨e,es,ee,hp,hl⟩=>by
  subst ee
  obtain⟨r,hr,hf⟩:=Bf h ha (n+1) hl
  cases hb:k.beq a p.1 with
  | true=>
   refine⟨some (0,e.val), ?_,.yes 0 p e rfl rfl hb (fun j q hj=>by omega)⟩
   simp[Instr.findAsking,Jv h ha hp.1 w,hb]
  | false=>
   refine⟨r.map fun q=>(q.1+1,q.2), ?_, ?_⟩
   ·simp only[Instr.findAsking,Sem.run_bind,Jv h ha hp.1 w,hb,Result.andThen_ok,TA,V5,hr,VN]
    congr 1
    cases r<;>simp;omega
   ·cases hf with
    | no hn=>
     refine .no fun q hq=> ?_
     rcases UX.1 hq with rfl | hq
     ·exact hb
     ·exact hn q hq
    | yes i q e' h1 h2 h3 h4=>
     refine .yes (i+1) q e' (by simpa using h1) (by simpa using h2) h3 (fun j q' hj hq=> ?_)
     cases j with
     | zero=>simp only[Uu,Option.some.injEq] at hq;subst hq;exact hb
     | succ j=>exact h4 j q' (by omega) (by simpa using hq)
theorem Gt {t:TypeId} {k v:Ty} (h:bu P t k=true) {dsc:TypeDesc} (hd:P.underlying t=some dsc) {a:k.den} {va:Value} (ha:bB G k a va):∀ {l:List (k.den×v.den)} {es:List MapEntry} (n:Nat),aD (q9 G k v) l es-> ∃ r,Instr.findNow dsc va es n=some (r.map fun p:Nat×Value=>(n+p.1,p.2))/\vF a l es r
 | [],es,n,he=>by cases he;exact⟨none,rfl,.no (by simp)⟩
 | p::l,_,n,⟨e,es,ee,hp,hl⟩=>by
  subst ee
  obtain⟨r,hr,hf⟩:=Gt h hd ha (n+1) hl
  have hs:Instr.sameNow dsc va e.key=some (k.beq a p.1):=by
   obtain⟨p1,p2⟩:=p
   have hp1:=hp.1
   dsimp only at hp1 ⊢
   cases k with
   | int kk=>
    have e1:va= .int kk a:=by simpa [bB,ay] using ha
    have e2:e.key= .int kk p1:=by simpa [bB,ay] using hp1
    simp only[bu,hd] at h
    cases dsc<;>simp at h
    rw[e1,e2];exact (fun x y:Int=>by simp[Instr.sameNow,Ow]:∀ x y:Int,Instr.sameNow (.int _) (.int kk x) (.int kk y)=some (Ow x y)) a p1
   | bool=>
    have e1:va= .bool a:=by simpa [bB,ay] using ha
    have e2:e.key= .bool p1:=by simpa [bB,ay] using hp1
    simp only[bu,hd] at h
    cases dsc<;>simp at h
    rw[e1,e2];exact (fun x y:Bool=>by simp[Instr.sameNow,Of]:∀ x y:Bool,Instr.sameNow .bool (.bool x) (.bool y)=some (Of x y)) a p1
   | str=>
    have e1:va= .string (bs a):=by simpa [bB,ay] using ha
    have e2:e.key= .string (bs p1):=by simpa [bB,ay] using hp1
    simp only[bu,hd] at h
    cases dsc<;>simp at h
    rw[e1,e2]
    exact congrArg some (Pr a p1)
   | _=>simp[bu] at h
  cases hb:k.beq a p.1 with
  | true=>
   refine⟨some (0,e.val), ?_,.yes 0 p e rfl rfl hb (fun j q hj=>by omega)⟩
   simp[Instr.findNow,hs,hb]
  | false=>
   refine⟨r.map fun q=>(q.1+1,q.2), ?_, ?_⟩
   ·simp only[Instr.findNow,hs,hb,hr,VN]
    congr 1
    cases r<;>simp;omega
   ·cases hf with
    | no hn=>
     refine .no fun q hq=> ?_
     rcases UX.1 hq with rfl | hq
     ·exact hb
     ·exact hn q hq
    | yes i q e' h1 h2 h3 h4=>
     refine .yes (i+1) q e' (by simpa using h1) (by simpa using h2) h3 (fun j q' hj hq=> ?_)
     cases j with
     | zero=>simp only[Uu,Option.some.injEq] at hq;subst hq;exact hb
     | succ j=>exact h4 j q' (by omega) (by simpa using hq)
theorem Gs {t:TypeId} {k v:Ty} (h:dX P t k=true) {a:k.den} {va:Value} (ha:bB G k a va) {l:List (k.den×v.den)} {es:List MapEntry} (he:aD (q9 G k v) l es): ∃ r,(Instr.findKey t va es).run P w= .ok r w/\vF a l es r:=by
 by_cases hst:∃ s,k= .st s
 ·obtain⟨s,rfl⟩:=hst
  have h0:=h
  simp only[dX] at h
  split at h
  ·rename_i fs hu
   obtain⟨us,eu,_⟩:=ha
   have ha':bB G (.st s) a va:=⟨us,eu,by assumption⟩
   obtain⟨r,hr,hf⟩:=Bf (w:=w) h0 ha' 0 he
   have hid:(r.map fun p:Nat×Value=>(0+p.1,p.2))=r:=by cases r<;>simp
   rw[hid] at hr
   cases es with
   | nil=>
    refine⟨none,by simp[Instr.findKey,run_underlying hu,Instr.findNow], ?_⟩
    have:l=[]:=by
     cases l with
     | nil=>rfl
     | cons p l=>obtain⟨y,s',e,_⟩:=he;cases e
    subst this
    exact .no (by simp)
   | cons e es=>
    refine⟨r, ?_,hf⟩
    have hn:Instr.findNow (.struct fs) va (e::es) 0=none:=by simp[Instr.findNow,Instr.sameNow]
    simp only[Instr.findKey,Sem.run_bind,run_underlying hu,Result.andThen_ok,hn,hr]
  ·cases h
 ·have hs:bu P t k=true:=by
   cases k with
   | st s=>exact absurd ⟨s,rfl⟩ hst
   | _=>exact h
  obtain⟨d,i,hd,_⟩:=fK (pK hs).1
  obtain⟨r,hr,hf⟩:=Gt hs hd ha 0 he
  have hid:(r.map fun p:Nat×Value=>(0+p.1,p.2))=r:=by cases r<;>simp
  rw[hid] at hr
  exact⟨r,by simp[Instr.findKey,run_underlying hd,hr],hf⟩
theorem vF.get {k v:Ty} {a:k.den} {l:List (k.den×v.den)} {es:List MapEntry} {r:Option (Nat×Value)} (h:vF a l es r):match r with
 | none=>iJ l a=none
 | some (i,u)=>∃ p e,l[i]? =some p/\es[i]? =some e/\u=e.val/\iJ l a=some p.2:=by
 cases h with
 | no hn=>
  simp only[iJ]
  have:l.find? (fun p=>k.beq a p.1)=none:=by
   rw[List.find?_eq_none];intro p hp;simp[hn p hp]
  rw[this]
 | yes i p e h1 h2 h3 h4=>
  refine⟨p,e,h1,h2,rfl, ?_⟩
  have:l.find? (fun p=>k.beq a p.1)=some p:=by
   rw[List.find?_eq_some_iff_getElem]
   obtain⟨hlt,hp⟩:=Uy.1 h1
   exact⟨h3,i,hlt,hp,fun j hj=>by simp[h4 j l[j] hj (Uw (by omega))]⟩
  simp[iJ,this]
theorem vF.set {k v:Ty} {a:k.den} (y:v.den) {l:List (k.den×v.den)} {es:List MapEntry} {r:Option (Nat×Value)} (h:vF a l es r):match r with
 | none=>s7 l a y=l++[(a,y)]
 | some (i,_)=>s7 l a y=l.set i (a,y):=by
 cases h with
 | no hn=>
  simp only
  clear es
  induction l with
  | nil=>rfl
  | cons p l ih=>
   simp only[s7,hn p (by simp),VV,T7]
   rw[ih fun q hq=>hn q (by simp[hq])]
 | yes i p e h1 h2 h3 h4=>
  simp only
  clear h2
  induction l generalizing i with
  | nil=>simp at h1
  | cons q l ih=>
   cases i with
   | zero=>
    simp only[Uu,Option.some.injEq] at h1
    subst h1
    simp[s7,h3]
   | succ i=>
    have hq:=h4 0 q (by omega) rfl
    simp only[s7,hq,VV,Vc]
    rw[ih i (by simpa using h1) (fun j q' hj hq'=>h4 (j+1) q' (by omega) (by simpa using hq'))]
theorem xH {b:Bool} {t:TypeId} {k:Ty} (h:bu P t k=true) {u:Value} (n:Nat):(Instr.checkKey b (n+1) t u).run P w= .ok () w:=by
 cases k with
 | int kk=>
  simp only[bu] at h
  split at h
  ·rename_i hu;simp[Instr.checkKey,run_underlying hu]
  ·cases h
 | bool=>
  simp only[bu] at h
  split at h
  ·rename_i hu;simp[Instr.checkKey,run_underlying hu]
  ·cases h
 | str=>
  simp only[bu] at h
  split at h
  ·rename_i hu;simp[Instr.checkKey,run_underlying hu]
  ·cases h
 | _=>simp[bu] at h
def F5 (b:Bool) (n:Nat) (us:List Value) (f:Field) (_:PUnit):Sem (ForInStep PUnit):=
 if f.name≠ "_" then do
  let x <- part f.type us.toArray f.offset
  Instr.checkKey b (n+1) f.type x
  pure (ForInStep.yield PUnit.unit)
 else pure (ForInStep.yield PUnit.unit)
theorem Px {b:Bool} {n m:Nat} {us pre c1 rest:List Value} {f:Field} {t1:Ty} {x1:t1.den} (q1:f.name≠ "_") (q2:f.offset=m) (q4:bu P f.type t1=true) (q5:ay G t1 x1 c1) (hpre:pre.length=m) (q6:us=pre++(c1++rest)): (F5 b n us f PUnit.unit).run P w= .ok (.yield PUnit.unit) w:=by
 obtain⟨k1,k2,k3⟩:=pK q4
 obtain⟨d,i,hd,_⟩:=fK k1
 have hl1:c1.length=1:=by rw[q5.len,k3]
 obtain⟨u,rfl⟩:∃ u,c1=[u]:=by
  match c1,hl1 with
  | [u],_=>exact⟨u,rfl⟩
 have hget:us[m]? =some u:=by rw[q6,Us (by omega),hpre];simp
 have hp:(part f.type us.toArray f.offset).run P w= .ok u w:=by
  simp[part,lG hd,k2,q2,hget]
 simp only[F5,V7 q1,Sem.run_bind,hp,Result.andThen_ok,xH q4 n,Sem.run_pure]
theorem Pw {b:Bool} {n:Nat} {us:List Value}:∀ (l:List Field) (m:Nat) (t:Ty) (x:t.den) (pre c:List Value),bK P l m t=true->us=pre++c->pre.length=m->ay G t x c-> (forIn l PUnit.unit (F5 b n us)).run P w= .ok PUnit.unit w
 | [],m,t,x,pre,c,h,_,_,_=>by simp[bK] at h
 | [f],m,t,x,pre,c,h,hus,hpre,hc=>by
  simp only[bK,Tu,V0] at h
  have:=Px (P:=P) (w:=w) (b:=b) (n:=n) (rest:=[]) h.1.1.1 (Vq h.1.1.2) h.2 hc hpre (by simpa using hus)
  rw[List.forIn_cons,Sem.run_bind,this]
  rfl
 | f::g::r,m,t,x,pre,c,h,hus,hpre,hc=>by
  cases t with
  | pair s t=>
   simp only[bK,Tu,V0] at h
   obtain⟨c1,r1,e1,p1,q1⟩:=hc
   obtain⟨⟨⟨⟨f1,f2⟩,f3⟩,f4⟩,f5⟩:=h
   have o1:=Px (P:=P) (w:=w) (b:=b) (n:=n) (us:=us) (rest:=r1) f1 (Vq f2) f4 p1 hpre (by rw[hus,e1])
   have hl1:c1.length=1:=by rw[p1.len,(pK f4).2.2]
   have o2:=Pw (b:=b) (n:=n) (us:=us) (g::r) (m+1) t x.2 (pre++c1) r1 f5 (by rw[hus,e1];simp) (by simp;omega) q1
   rw[List.forIn_cons,Sem.run_bind,o1]
   exact o2
  | _=>simp[bK] at h
theorem K2 {t:TypeId} {k:Ty} (h:dX P t k=true) {a:k.den} {v:Value} (hv:bB G k a v) (b:Bool) (n:Nat):(Instr.checkKey b (n+1+1) t v).run P w= .ok () w:=by
 cases k with
 | st s=>
  simp only[dX] at h
  split at h
  ·rename_i fs hu
   simp only[Tu] at h
   obtain⟨us,e1,h1⟩:=hv
   subst e1
   have:=Pw (P:=P) (w:=w) (b:=b) (n:=n) (us:=us) fs.toList 0 s a [] us h.2 rfl rfl h1
   rw[Array.forIn_toList] at this
   rw[Instr.checkKey]
   simp only[Sem.run_bind,run_underlying hu,Result.andThen_ok]
   have e2:∀ (X:Sem PUnit),X=forIn fs PUnit.unit (F5 b n us)->(X.run P w).andThen (fun _ w'=>Sem.run P (pure ()) w')= .ok () w:=by
    intro X hX;rw[hX,this];rfl
   exact e2 _ rfl
  ·cases h
 | _=>exact xH (uI h (by intro s e;cases e)) (n+1)
theorem tX {t:TypeId} {k:Ty} (h:dX P t k=true) {a:k.den} {v:Value} (hv:bB G k a v) (b:Bool):(Instr.checkKey b 10000 t v).run P w= .ok () w:=
 K2 h hv b 9998
end Go.Dn
