/-
  An executor of Go code on plain data, proved sound against the model: values, states, operations. No condition.
-/
import Derived.Laws.AppendOwn
import Derived.Orders
import Derived.Below
import Derived.KernelRfl
import Derived.StillTail
import Derived.Laws.Cells
import Derived.Laws.Strings
import Derived.Laws.BytesString
import Derived.Great.BuildSlice
import Derived.Laws.StructEq
set_option linter.all false
namespace Go.Dn
abbrev T0:= @List.any_eq_false
abbrev T3:= @List.any_eq_true
abbrev T4:= @List.append_assoc
abbrev T6:= @List.append_nil
abbrev T7:= @List.cons_append
abbrev T8:= @List.countP_eq_zero
abbrev T9:= @List.countP_pos_iff
abbrev TA:= @Bool.false_ne_true
abbrev TB:= @Bool.false_or
abbrev TC:= @Bool.not_eq_false'
abbrev TD:= @Bool.not_eq_true
abbrev TE:= @Bool.not_eq_true'
abbrev TF:= @Bool.not_false
abbrev TG:= @Bool.not_true
abbrev TH:= @Bool.or_eq_false_iff
abbrev TI:= @Bool.or_eq_true
abbrev TJ:= @Bool.true_and
abbrev TK:= @Classical.not_not
abbrev TL:= @Int.mul_add
abbrev TM:= @Int.mul_assoc
abbrev TN:= @Int.mul_le_mul_of_nonneg_left
abbrev TO:= @Int.mul_nonneg
abbrev TP:= @Int.mul_one
abbrev TQ:= @Int.natAbs_natCast
abbrev TR:= @Int.pow_add
abbrev TS:= @Int.pow_succ
abbrev TT:= @Int.tdiv_eq_ediv_of_nonneg
abbrev TU:= @Int.tmod_eq_emod_of_nonneg
abbrev TV:= @Int.toNat_natCast
abbrev TW:= @List.all_append
abbrev TX:= @List.all_cons
abbrev TY:= @List.all_eq_false
abbrev TZ:= @List.all_eq_true
abbrev Th:= @Array.getD_eq_getD_getElem?
abbrev Ti:= @Array.getElem?_eq_getElem
abbrev Tj:= @Array.getElem?_eq_none
abbrev Tk:= @Array.getElem?_eq_some_iff
abbrev Tl:= @Array.getElem?_replicate
abbrev Tm:= @Array.getElem?_setIfInBounds_ne
abbrev Tn:= @Array.getElem?_setIfInBounds_self_of_lt
abbrev To:= @Array.mem_toList_iff
abbrev Tp:= @Array.toArray_toList
abbrev Tq:= @Bool.and_eq_false_iff
abbrev Tr:= @Bool.and_eq_true
abbrev Tt:= @Bool.and_false
abbrev Tu:= @Bool.and_self
abbrev Tv:= @Bool.and_true
abbrev Tw:= @Bool.eq_iff_iff
abbrev Tx:= @Bool.false_and
abbrev Tz:= @Bool.false_eq_true
abbrev U0:= @List.mem_filterMap
abbrev U1:= @List.mem_iff_getElem?
abbrev U2:= @List.mem_map
abbrev U3:= @List.mem_of_getElem?
abbrev U4:= @List.mem_of_mem_take
abbrev U5:= @List.mem_or_eq_of_mem_set
abbrev U6:= @List.mem_range
abbrev U7:= @List.mem_singleton
abbrev U8:= @List.nil_append
abbrev U9:= @List.pairwise_append
abbrev UA:= @List.getElem?_take_of_lt
abbrev UB:= @List.getElem?_toArray
abbrev UC:= @List.getElem_mem
abbrev UD:= @List.head?_cons
abbrev UE:= @List.headD_cons
abbrev UF:= @List.isEmpty_cons
abbrev UG:= @List.length_append
abbrev UH:= @List.length_cons
abbrev UI:= @List.length_drop
abbrev UJ:= @List.length_eq_zero_iff
abbrev UK:= @List.length_map
abbrev UL:= @List.length_nil
abbrev UM:= @List.length_pos_iff
abbrev UN:= @List.length_replicate
abbrev UO:= @List.length_set
abbrev UP:= @List.length_take
abbrev UQ:= @List.map_congr_left
abbrev UR:= @List.map_cons
abbrev US:= @List.map_map
abbrev UT:= @List.mem_append
abbrev UU:= @List.mem_append_left
abbrev UW:= @List.mem_append_right
abbrev UX:= @List.mem_cons
abbrev UY:= @List.mem_cons_of_mem
abbrev UZ:= @List.mem_filter
abbrev Ua:= @List.drop_drop
abbrev Ub:= @List.drop_eq_getElem_cons
abbrev Uc:= @List.drop_left
abbrev Ud:= @List.drop_length
abbrev Ue:= @List.drop_of_length_le
abbrev Uf:= @List.drop_zero
abbrev Ug:= @List.eq_nil_iff_forall_not_mem
abbrev Uh:= @List.eq_nil_of_length_eq_zero
abbrev Ui:= @List.ext_getElem?
abbrev Uj:= @List.foldl_append
abbrev Uk:= @List.foldl_cons
abbrev Ul:= @List.getD_eq_getElem?_getD
abbrev Um:= @List.getElem?_append_left
abbrev Un:= @List.getElem?_append_right
abbrev Uo:= @List.getElem?_cons_succ
abbrev Up:= @List.getElem?_cons_zero
abbrev Uq:= @List.getElem?_drop
abbrev Ur:= @List.getElem?_eq_getElem
abbrev Us:= @List.getElem?_eq_none
abbrev Ut:= @List.getElem?_eq_some_iff
abbrev Uu:= @List.getElem?_map
abbrev Uv:= @List.getElem?_range
abbrev Uw:= @List.getElem?_set
abbrev Ux:= @List.getElem?_set_ne
abbrev Uy:= @List.getElem?_set_self
abbrev Uz:= @List.getElem?_take
abbrev V0:= @decide_eq_true_eq
abbrev V1:= @decide_false
abbrev V2:= @decide_true
abbrev V3:= @false_and
abbrev V4:= @false_or
abbrev V5:= @if_false
abbrev V6:= @if_neg
abbrev V7:= @if_pos
abbrev V8:= @if_true
abbrev V9:= @not_and
abbrev VA:= @Nat.lt_trichotomy
abbrev VB:= @Nat.min_eq_left
abbrev VC:= @Nat.mul_le_mul_right
abbrev VD:= @Nat.mul_one
abbrev VE:= @Nat.not_lt_zero
abbrev VF:= @Nat.pow_le_pow_right
abbrev VG:= @Nat.pow_succ
abbrev VH:= @Nat.zero_add
abbrev VI:= @Nat.zero_le
abbrev VJ:= @Option.bind_some
abbrev VK:= @Option.getD_some
abbrev VL:= @Option.isNone_iff_eq_none
abbrev VM:= @Option.isSome_iff_exists
abbrev VN:= @Option.map_map
abbrev VO:= @Option.map_some
abbrev VP:= @UInt8.toNat_inj
abbrev VQ:= @and_self
abbrev VR:= @and_true
abbrev VS:= @beq_eq_false_iff_ne
abbrev VT:= @beq_self_eq_true
abbrev VU:= @bne_self_eq_false
abbrev VV:= @cond_false
abbrev VW:= @cond_true
abbrev VX:= @decide_eq_decide
abbrev VY:= @decide_eq_false
abbrev VZ:= @decide_eq_true
abbrev Va:= @List.replicate_succ
abbrev Vb:= @List.singleton_append
abbrev Vc:= @List.size_toArray
abbrev Vd:= @List.tail_cons
abbrev Ve:= @List.tail_drop
abbrev Vf:= @List.take_add_one
abbrev Vg:= @List.take_append_drop
abbrev Vh:= @List.take_left
abbrev Vi:= @List.take_length
abbrev Vj:= @List.take_of_length_le
abbrev Vk:= @List.take_take
abbrev Vl:= @Nat.add_assoc
abbrev Vm:= @Nat.add_mul
abbrev Vn:= @Nat.add_zero
abbrev Vo:= @Nat.beq_refl
abbrev Vp:= @Nat.div_lt_self
abbrev Vq:= @Nat.eq_of_beq_eq_true
abbrev Vr:= @Nat.eq_zero_or_pos
abbrev Vs:= @Nat.le_of_ble_eq_true
abbrev Vt:= @Nat.le_of_lt
abbrev Vu:= @Nat.le_refl
abbrev Vv:= @Nat.le_trans
abbrev Vw:= @Nat.lt_of_lt_of_le
abbrev Vx:= @Nat.lt_or_ge
abbrev Vy:= @Nat.lt_or_gt_of_ne
abbrev Vz:= @Nat.lt_succ_self
abbrev Wa:= @not_exists
abbrev Wb:= @not_false_eq_true
abbrev Wc:= @not_or
abbrev Wd:= @of_decide_eq_true
inductive Ty where
 | int (k:IntKind)
 | bool
 | str
 | unit
 | pair (a b:Ty)
 | st (t:Ty)
 | slice (t:Ty)
 | ptr (t:Ty)
 | clo (g:Nat) (t:Ty)
 | hnd
 deriving DecidableEq
def Ty.den:Ty->Type
 | .int _=>Int
 | .bool=>Bool
 | .str=>List UInt8
 | .unit=>Unit
 | .pair a b=>a.den×b.den
 | .st t=>t.den
 | .slice t=>List t.den
 | .ptr t=>t.den
 | .clo _ t=>t.den
 | .hnd=>Option Nat
def Ty.size:Ty->Nat
 | .unit=>0
 | .pair a b=>a.size+b.size
 | .st t=>t.size
 | _=>1
def Ty.flat:Ty->Bool
 | .pair a b=>a.flat&&b.flat
 | .st t=>t.flat
 | .slice _ | .ptr _ | .clo _ _=>false
 | _=>true
def Ty.aL:Ty->Bool
 | .pair a b=>a.aL&&b.aL
 | .st t=>t.aL
 | .slice t=>t.aL
 | .ptr t=>t.aL
 | .clo _ t=>t.aL
 | .hnd=>false
 | _=>true
structure Gh where
 blk:Nat->Option Obj
 hnd:Nat->Option Nat
instance:CoeFun Gh fun _=>Nat->Option Obj:=⟨Gh.blk⟩
structure Gh.le (G G':Gh):Prop where
 blk:∀ b o,G b=some o->G' b=some o
 hnd:∀ h b,G.hnd h=some b->G'.hnd h=some b
instance {G G':Gh}:CoeFun (G.le G') fun _=>∀ b o,G b=some o->G' b=some o:=⟨Gh.le.blk⟩
theorem Gh.le_refl (G:Gh):G.le G:=⟨fun _ _ h=>h,fun _ _ h=>h⟩
theorem Gh.le_trans {A B C:Gh} (h:A.le B) (k:B.le C):A.le C:=⟨fun b o x=>k b o (h b o x),fun b o x=>k.hnd b o (h.hnd b o x)⟩
def bs (l:List UInt8):ByteArray:=⟨l.toArray⟩
def Agr (G:Gh) (w:World):Prop:=∀ b o,G b=some o->w.heap[b]? =some o
def bF {α:Type} (R:α->List Value->Prop):List α->List Value->Prop
 | [],cs=>cs=[]
 | x::l,cs=>∃ c r,cs=c++r/\R x c/\bF R l r
def cW {α:Type} (G:Gh) (sz:Nat) (R:α->List Value->Prop) (l:List α) (v:Value):Prop:=
 ∃ a cap,v= .slice a l.length cap/\l.length<=cap/\cap<=maxLen/\
  (l=[]\/∃ b off c T fz,a=some ⟨b,off,none⟩/\G b=some (.cells c T fz)/\off+l.length*sz<=c.size/\
    bF R l ((c.toList.drop off).take (l.length*sz)))
def an (G:Gh):(t:Ty)->t.den->List Value->Prop
 | .int k,n,cs=>cs=[.int k n]
 | .bool,b,cs=>cs=[.bool b]
 | .str,s,cs=>cs=[.string (bs s)]
 | .unit,_,cs=>cs=[]
 | .pair a b,(x,y),cs=>∃ c r,cs=c++r/\an G a x c/\an G b y r
 | .st t,x,cs=>an G t x cs
 | .slice t,l,cs=>∃ v,cs=[v]/\cW G t.size (an G t) l v
 | .ptr t,x,cs=>∃ b off c T fz,cs=[.pointer (some ⟨b,off,none⟩)]/\G b=some (.cells c T fz)/\off+t.size<=c.size/\
  an G t x ((c.toList.drop off).take t.size)
 | .clo g t,x,cs=>∃ caps:List Value,cs=[.func (.func g) #[] caps.toArray]/\an G t x caps
 | .hnd,none,cs=>cs=[.pointer none]
 | .hnd,some h,cs=>∃ b,G.hnd h=some b/\cs=[.pointer (some ⟨b,0,none⟩)]
theorem bF.mono {α:Type} {R R':α->List Value->Prop} (h:∀ x cs,R x cs->R' x cs):∀ {l:List α} {cs:List Value},bF R l cs->bF R' l cs
 | [],_,hh=>hh
 | _::_,_,⟨c,r,e,hx,hl⟩=>⟨c,r,e,h _ _ hx,bF.mono h hl⟩
theorem an.mono {G G':Gh} (hG:G.le G'):∀ (t:Ty) (x:t.den) (cs:List Value),an G t x cs->an G' t x cs
 | .int _,_,_,h=>h
 | .bool,_,_,h=>h
 | .str,_,_,h=>h
 | .unit,_,_,h=>h
 | .pair a b,(x,y),_,⟨c,r,e,hx,hy⟩=>⟨c,r,e,an.mono hG a x c hx,an.mono hG b y r hy⟩
 | .st t,x,cs,h=>an.mono hG t x cs h
 | .slice t,_,_,⟨v,e,a,cap,hv,h1,h2,h3⟩=>⟨v,e,a,cap,hv,h1,h2,h3.imp id fun ⟨b,off,c,T,fz,ha,hb,hs,hl⟩=>
  ⟨b,off,c,T,fz,ha,hG _ _ hb,hs,hl.mono (an.mono hG t)⟩⟩
 | .ptr t,x,_,⟨b,off,c,T,fz,e,hb,hs,hl⟩=>⟨b,off,c,T,fz,e,hG _ _ hb,hs,an.mono hG t x _ hl⟩
 | .clo _ t,x,_,⟨caps,e,h⟩=>⟨caps,e,an.mono hG t x _ h⟩
 | .hnd,none,_,h=>h
 | .hnd,some _,_,⟨b,hb,e⟩=>⟨b,hG.hnd _ _ hb,e⟩
theorem cW.mono {G G':Gh} (hG:G.le G') {t:Ty} {l:List t.den} {v:Value} (h:cW G t.size (an G t) l v):cW G' t.size (an G' t) l v:=by
 obtain⟨a,cap,hv,h1,h2,h3⟩:=h
 exact⟨a,cap,hv,h1,h2,h3.imp id fun ⟨b,off,c,T,fz,ha,hb,hs,hl⟩=>⟨b,off,c,T,fz,ha,hG _ _ hb,hs,hl.mono (an.mono hG t)⟩⟩
theorem an.len {G:Gh}:∀ {t:Ty} {x:t.den} {cs:List Value},an G t x cs->cs.length=t.size
 | .int _,_,_,h=>by cases h;rfl
 | .bool,_,_,h=>by cases h;rfl
 | .str,_,_,h=>by cases h;rfl
 | .unit,_,_,h=>by cases h;rfl
 | .pair a b,(x,y),_,⟨c,r,e,hx,hy⟩=>by
  subst e;rw[UG,hx.len,hy.len];rfl
 | .st t,x,cs,h=>an.len (t:=t) (x:=x) h
 | .slice t,_,_,⟨v,e,_⟩=>by subst e;rfl
 | .ptr t,x,_,⟨b,off,c,T,fz,e,_⟩=>by subst e;rfl
 | .clo _ t,x,_,⟨caps,e,h⟩=>by subst e;rfl
 | .hnd,none,_,h=>by cases h;rfl
 | .hnd,some _,_,⟨b,hb,e⟩=>by subst e;rfl
theorem bF.len {α:Type} {R:α->List Value->Prop} {n:Nat} (h:∀ x cs,R x cs->cs.length=n):∀ {l:List α} {cs:List Value},bF R l cs->cs.length=l.length*n
 | [],_,hh=>by cases hh;simp
 | _::l,_,⟨c,r,e,hx,hl⟩=>by
  subst e
  rw[UG,h _ _ hx,hl.len h,UH,Vm]
  omega
theorem bF.append {α:Type} {R:α->List Value->Prop}:∀ {l l':List α} {cs cs':List Value},bF R l cs->bF R l' cs'->bF R (l++l') (cs++cs')
 | [],_,_,_,hh,h'=>by cases hh;simpa using h'
 | x::l,_,_,_,⟨c,r,e,hx,hl⟩,h'=>by
  subst e
  exact⟨c,r++_,by simp,hx,hl.append h'⟩
theorem vH {α:Type} (c r:List α) (k:Nat):(c++r).drop (c.length+k)=r.drop k:=by
 rw[List.drop_append,Ue (by omega)];simp
theorem CR {α:Type} (c r:List α) (k:Nat):(c++r).take (c.length+k)=c++r.take k:=by
 rw[List.take_append,Vj (by omega)];simp
theorem bF.get {α:Type} {R:α->List Value->Prop} {n:Nat} (h:∀ x cs,R x cs->cs.length=n):∀ {l:List α} {cs:List Value},bF R l cs->∀ {i:Nat} {x:α},l[i]? =some x->R x ((cs.drop (i*n)).take n)
 | [],_,_,_,_,hi=>by simp at hi
 | y::l,_,⟨c,r,e,hx,hl⟩,0,x,hi=>by
  subst e
  have hc:=h _ _ hx
  have hy:y=x:=by simpa using hi
  subst hy
  simp only[Nat.zero_mul,Uf]
  rw[<- hc,Vh]
  exact hx
 | y::l,_,⟨c,r,e,hx,hl⟩,i+1,x,hi=>by
  subst e
  have hc:=h _ _ hx
  have:=hl.get h (i:=i) (x:=x) (by simpa using hi)
  rw[show (i+1)*n=c.length+i*n by rw[Vm];omega,vH]
  exact this
theorem bF.take {α:Type} {R:α->List Value->Prop} {n:Nat} (h:∀ x cs,R x cs->cs.length=n):∀ {l:List α} {cs:List Value},bF R l cs->∀ (i:Nat),bF R (l.take i) (cs.take (i*n))
 | l,cs,hl,0=>by simp[bF]
 | [],_,hh,i+1=>by cases hh;simp[bF]
 | y::l,_,⟨c,r,e,hx,hl⟩,i+1=>by
  subst e
  have hc:=h _ _ hx
  refine⟨c,r.take (i*n), ?_,hx,hl.take h i⟩
  rw[show (i+1)*n=c.length+i*n by rw[Vm];omega,CR]
theorem bF.drop {α:Type} {R:α->List Value->Prop} {n:Nat} (h:∀ x cs,R x cs->cs.length=n):∀ {l:List α} {cs:List Value},bF R l cs->∀ (i:Nat),bF R (l.drop i) (cs.drop (i*n))
 | l,cs,hl,0=>by simpa using hl
 | [],_,hh,i+1=>by cases hh;simp[bF]
 | y::l,_,⟨c,r,e,hx,hl⟩,i+1=>by
  subst e
  have hc:=h _ _ hx
  rw[show (i+1)*n=c.length+i*n by rw[Vm];omega,vH]
  exact hl.drop h i
theorem bF.set {α:Type} {R:α->List Value->Prop} {n:Nat} (h:∀ x cs,R x cs->cs.length=n) {y:α} {d:List Value} (hy:R y d):∀ {l:List α} {cs:List Value},bF R l cs->∀ {i:Nat},i<l.length-> bF R (l.set i y) (cs.take (i*n)++d++cs.drop (i*n+n))
 | [],_,_,_,hi=>by simp at hi
 | x::l,_,⟨c,r,e,hx,hl⟩,0,_=>by
  subst e
  have hc:=h _ _ hx
  exact⟨d,r,by simp[<- hc],hy,hl⟩
 | x::l,_,⟨c,r,e,hx,hl⟩,i+1,hi=>by
  subst e
  have hc:=h _ _ hx
  refine⟨c,r.take (i*n)++d++r.drop (i*n+n), ?_,hx,hl.set h hy (by simpa using hi)⟩
  rw[show (i+1)*n=c.length+i*n by rw[Vm];omega,Vl,CR,vH]
  simp
theorem an.aL {G G':Gh} (hG:∀ b o,G b=some o->G' b=some o):∀ (t:Ty) (x:t.den) (cs:List Value),t.aL=true->an G t x cs->an G' t x cs
 | .int _,_,_,_,h=>h
 | .bool,_,_,_,h=>h
 | .str,_,_,_,h=>h
 | .unit,_,_,_,h=>h
 | .pair a b,(x,y),_,hn,⟨c,r,e,hx,hy⟩=>by
  simp only[Ty.aL,Tr] at hn
  exact⟨c,r,e,an.aL hG a x c hn.1 hx,an.aL hG b y r hn.2 hy⟩
 | .st t,x,cs,hn,h=>an.aL hG t x cs hn h
 | .slice t,_,_,hn,⟨v,e,a,cap,hv,h1,h2,h3⟩=>⟨v,e,a,cap,hv,h1,h2,h3.imp id fun ⟨b,off,c,T,fz,ha,hb,hs,hl⟩=>
  ⟨b,off,c,T,fz,ha,hG _ _ hb,hs,hl.mono fun x cs=>an.aL hG t x cs hn⟩⟩
 | .ptr t,x,_,hn,⟨b,off,c,T,fz,e,hb,hs,hl⟩=>⟨b,off,c,T,fz,e,hG _ _ hb,hs,an.aL hG t x _ hn hl⟩
 | .clo _ t,x,_,hn,⟨caps,e,h⟩=>⟨caps,e,an.aL hG t x _ hn h⟩
 | .hnd,_,_,hn,_=>by cases hn
def bK (G:Gh) (t:Ty) (x:t.den) (v:Value):Prop:=
 match t,x with
 | .st t,x=>∃ vs:List Value,v= .agg vs.toArray/\an G t x vs
 | t,x=>an G t x [v]
theorem bK.mono {G G':Gh} (hG:G.le G') {t:Ty} {x:t.den} {v:Value} (h:bK G t x v):bK G' t x v:=by
 cases t with
 | st t=>obtain⟨vs,e,hv⟩:=h;exact⟨vs,e,an.mono hG _ _ _ hv⟩
 | _=>exact an.mono hG _ _ _ h
end Go.Dn
namespace Go.Dn
inductive CV where
 | int (k:IntKind) (n:Int)
 | bool (b:Bool)
 | str (s:List UInt8)
 | sl (t:Ty) (l:List t.den)
 | cp (t:Ty) (x:t.den) (off:Nat)
 | clo (g:Nat) (t:Ty) (x:t.den)
 | ref (k off:Nat)
 | row (j:Nat)
 | rp (j sz i off:Nat)
 | fn (g:Nat) (ks:List Nat)
 | nilp
 | nils
 | any
 | mp (j:Nat)
 | hnd (o:Option Nat) (off:Nat)
 | stp (j i:Nat)
 | kseq (g j:Nat)
 | nb (b:Bool)
 | opq (v:Value)
inductive SV where
 | v (agg:Bool) (cs:List CV)
 | tup (l:List (Bool×List CV))
structure jk where
 fz:Bool
 e:TypeId
 t:Ty
 l:List t.den
inductive lz where
 | map (k v:Ty) (l:List (k.den×v.den))
 | ar (fz:Bool) (t:Ty) (l:List t.den)
structure St where
 tmps:List SV
 boxes:List (Nat×List CV)
 rows:List (Nat×jk)
 objs:List (Nat×lz)
def look {α:Type}:List (Nat×α)->Nat->Option α
 | [],_=>none
 | (j,x)::r,k=>bif Nat.beq j k then some x else look r k
inductive aM where
 | inl (k:Nat)
 | inr (j:Nat)
 | ob (j:Nat)
 deriving DecidableEq
structure Env where
 bx:Nat->Nat
 rw:Nat->Value
 own:Nat->Option aM
 ob:Nat->Value
 st:Nat->Nat->Int
def aB {α β:Type} (R:α->β->Prop):List α->List β->Prop
 | [],l=>l=[]
 | x::r,l=>∃ y s,l=y::s/\R x y/\aB R r s
def aJ (G:Gh) (ρ:Env):CV->Value->Prop
 | .int k n,v=>v= .int k n
 | .bool b,v=>v= .bool b
 | .str s,v=>v= .string (bs s)
 | .sl t l,v=>cW G t.size (an G t) l v
 | .cp t x o,v=>∃ b off c T fz,v= .pointer (some ⟨b,off+o,none⟩)/\G b=some (.cells c T fz)/\off+t.size<=c.size/\
  an G t x ((c.toList.drop off).take t.size)
 | .clo g t x,v=>∃ caps:List Value,v= .func (.func g) #[] caps.toArray/\an G t x caps
 | .ref k o,v=>v= .pointer (some ⟨ρ.bx k,o,none⟩)
 | .row j,v=>v=ρ.rw j/\∃ a n c,v= .slice a n c
 | .rp j sz i o,v=>∃ b len cap,ρ.rw j= .slice (some ⟨b,0,none⟩) len cap/\v= .pointer (some ⟨b,i*sz+o,none⟩)
 | .fn g ks,v=>v= .func (.func g) #[] (ks.map fun k=>Value.pointer (some ⟨ρ.bx k,0,none⟩)).toArray
 | .nilp,v=>v= .pointer none
 | .nils,v=>v= .slice none 0 0
 | .any,_=>True
 | .mp j,v=>v=ρ.ob j/\∃ b,v= .map (some b)
 | .hnd none o,v=>v= .pointer none/\o=0
 | .hnd (some h) o,v=>∃ b,G.hnd h=some b/\v= .pointer (some ⟨b,o,none⟩)
 | .stp j i,v=>v= .int .i64 (ρ.st j i)
 | .kseq g j,v=>∃ b T fz,v= .func (.func g) #[] #[.pointer (some ⟨b,0,none⟩)]/\G b=some (.cells #[ρ.ob j] T fz)
 | .nb b,v=>∃ c,v= .bool c/\(b=false->c=false)
 | .opq u,v=>v=u
def iG (G:Gh) (ρ:Env):Bool->List CV->Value->Prop
 | true,cs,v=>∃ vs:List Value,v= .agg vs.toArray/\aB (aJ G ρ) cs vs
 | false,[c],v=>aJ G ρ c v
 | false,_,_=>False
def aR (G:Gh) (ρ:Env):SV->Value->Prop
 | .v a cs,v=>iG G ρ a cs v
 | .tup l,v=>∃ vs:List Value,v= .tuple vs.toArray/\aB (fun p=>iG G ρ p.1 p.2) l vs
def vQ:List Int:=(List.range 20).map fun i=>((10 ^ i:Nat):Int)
structure fR (P:Program) (G:Gh):Prop where
 pow:∀ g,P.globalNamed "internal/strconv.uint64pow10" =some g->∃ T fz,G g=some (.cells (vQ.map fun z=>Value.int .u64 z).toArray T fz)
 maxLen:∀ g,P.globalNamed "internal/bytealg.MaxLen" =some g->∃ n T fz,G g=some (.cells #[Value.int .i64 n] T fz)
theorem fR.mono {P:Program} {G G':Gh} (h:fR P G) (hG:G.le G'):fR P G':=
 ⟨fun g hg=>let ⟨T,fz,e⟩:=h.pow g hg;⟨T,fz,hG.blk _ _ e⟩,fun g hg=>let ⟨n,T,fz,e⟩:=h.maxLen g hg;⟨n,T,fz,hG.blk _ _ e⟩⟩
structure Fr (P:Program) where
 n0:Nat
 pin:Nat->Nat
 pinR:Nat->Value
 B:Nat->Prop
 w0:World
 G0:Gh
 noAr:Prop
 tab:fR P G0
def b8 (G:Gh) (ρ:Env) (w:World) (j:Nat) (r:jk):Prop:=
 if r.fz then cW G r.t.size (an G r.t) r.l (ρ.rw j)
 else ∃ xs,w.ownsRow 0 r.e r.t.size (ρ.rw j) r.l.length xs/\bF (an G r.t) r.l xs/\∀ b,(ρ.rw j).ownBlock=some b->ρ.own b=some (.inr j)
def qF (G:Gh) (k v:Ty) (p:k.den×v.den) (e:MapEntry):Prop:=bK G k p.1 e.key/\bK G v p.2 e.val
def ir (G:Gh) (w:World) (own:Nat->Prop) (fz:Bool) (t:Ty) (l:List t.den):Prop:=
 (∀ h b,G.hnd h=some b->h<l.length)/\(∀ h h' b,G.hnd h=some b->G.hnd h'=some b->h=h')/\
   ∀ h x,l[h]? =some x->∃ b vs T,G.hnd h=some b/\(fz=true->G b=some (.cells (List.toArray vs) T (0,0)))/\(fz=false->own b)/\w.heap[b]? =some (.cells (List.toArray vs) T (0,0))/\an G t x vs
def bf:Nat:=9999
def jx (G:Gh) (ρ:Env) (w:World) (j:Nat):lz->Prop
 | .map k v l=>∃ b es clock,ρ.ob j= .map (some b)/\ρ.own b=some (.ob j)/\w.heap[b]? =some (.map es clock)/\aB (qF G k v) l es.toList/\
  (∀ (i:Nat) (e:MapEntry),es.toList[i]? =some e->(e.born:Int)=ρ.st j i/\e.born<clock)/\es.toList.Pairwise (fun a b=>a.born<b.born)
 | .ar fz t l=>j=bf/\ir G w (fun b=>ρ.own b=some (.ob j)) fz t l
structure Mem {P0:Program} (C:Fr P0) (G:Gh) (ρ:Env) (S:St) (w:World):Prop where
 agr:Agr G w
 le0:C.G0.le G
 old:∀ b,b<C.n0->¬ C.B b->G b=C.G0 b
 frame:∀ b,b<C.n0->¬ C.B b->w.heap[b]? =C.w0.heap[b]?
 size:C.n0<=w.heap.size
 os:w.os=C.w0.os
 output:w.output=C.w0.output
 pin:∀ k,2000<=k->ρ.bx k=C.pin k
 pinR:∀ k,10000000<=k->ρ.rw k=C.pinR k/\ρ.ob k=C.pinR k
 owned:∀ b o,ρ.own b=some o->G b=none/\b<w.heap.size/\(C.n0<=b\/C.B b)
 boxes:∀ k cs,look S.boxes k=some cs->ρ.own (ρ.bx k)=some (.inl k)/\
  ∃ vs T,w.heap[ρ.bx k]? =some (.cells (List.toArray vs) T (0,0))/\aB (aJ G ρ) cs vs
 rows:∀ j r,look S.rows j=some r->b8 G ρ w j r
 objs:∀ j r,look S.objs j=some r->jx G ρ w j r
 hndI:C.noAr->G.hnd=C.G0.hnd/\∀ t l,look S.objs bf≠some (.ar false t l)
def eW (G:Gh) (ρ:Env) (S:St) (a:Act):Prop:=
 a.tmps.size=S.tmps.length/\∀ (i:Nat) (s:SV),S.tmps[i]? =some s->aR G ρ s (a.tmps.getD i undef)
structure Mod {P0:Program} (C:Fr P0) (G:Gh) (ρ:Env) (S:St) (w:World) (a:Act):Prop extends Mem C G ρ S w where
 tmps:eW G ρ S a
 defers:a.defers=[]
theorem aB.mono {α β:Type} {R R':α->β->Prop} (h:∀ x y,R x y->R' x y):∀ {l:List α} {r:List β},aB R l r->aB R' l r
 | [],_,hh=>hh
 | _::_,_,⟨y,s,e,hx,hl⟩=>⟨y,s,e,h _ _ hx,hl.mono h⟩
theorem aB.pX {α β:Type} {R R':α->β->Prop}:∀ {l:List α} {r:List β},(∀ x,x∈l->∀ y,R x y->R' x y)->aB R l r->aB R' l r
 | [],_,_,hh=>hh
 | x::l,_,h,⟨y,s,e,hx,hl⟩=>⟨y,s,e,h x (by simp) _ hx,aB.pX (fun z hz=>h z (by simp[hz])) hl⟩
theorem aB.len {α β:Type} {R:α->β->Prop}:∀ {l:List α} {r:List β},aB R l r->r.length=l.length
 | [],_,hh=>by cases hh;rfl
 | _::_,_,⟨y,s,e,_,hl⟩=>by subst e;simp[hl.len]
theorem aB.get {α β:Type} {R:α->β->Prop}:∀ {l:List α} {r:List β},aB R l r->∀ {i:Nat} {x:α},l[i]? =some x->∃ y,r[i]? =some y/\R x y
 | [],_,_,_,_,hi=>by simp at hi
 | _::_,_,⟨y,s,e,hx,_⟩,0,x,hi=>by subst e;simp at hi;subst hi;exact⟨y,by simp,hx⟩
 | _::_,_,⟨y,s,e,_,hl⟩,i+1,x,hi=>by
  subst e
  obtain⟨z,hz,hr⟩:=hl.get (i:=i) (x:=x) (by simpa using hi)
  exact⟨z,by simpa using hz,hr⟩
theorem aB.append {α β:Type} {R:α->β->Prop}:∀ {l l':List α} {r r':List β},aB R l r->aB R l' r'->aB R (l++l') (r++r')
 | [],_,_,_,hh,h'=>by cases hh;simpa using h'
 | _::_,_,_,_,⟨y,s,e,hx,hl⟩,h'=>by subst e;exact⟨y,s++_,by simp,hx,hl.append h'⟩
theorem aB.drop {α β:Type} {R:α->β->Prop}:∀ {l:List α} {r:List β},aB R l r->∀ n,aB R (l.drop n) (r.drop n)
 | _,_,h,0=>by simpa using h
 | [],_,hh,n+1=>by cases hh;simp[aB]
 | _::_,_,⟨y,s,e,_,hl⟩,n+1=>by subst e;simpa using hl.drop n
theorem aB.take {α β:Type} {R:α->β->Prop}:∀ {l:List α} {r:List β},aB R l r->∀ n,aB R (l.take n) (r.take n)
 | _,_,_,0=>by simp[aB]
 | [],_,hh,n+1=>by cases hh;simp[aB]
 | _::_,_,⟨y,s,e,hx,hl⟩,n+1=>by subst e;exact⟨y,s.take n,by simp,hx,hl.take n⟩
theorem aB.set {α β:Type} {R:α->β->Prop} {x:α} {y:β} (hxy:R x y):∀ {l:List α} {r:List β},aB R l r->∀ n,aB R (l.set n x) (r.set n y)
 | [],_,hh,n=>by cases hh;simp[aB]
 | _::_,_,⟨z,s,e,_,hl⟩,0=>by subst e;exact⟨y,s,by simp,hxy,hl⟩
 | _::_,_,⟨z,s,e,hx,hl⟩,n+1=>by subst e;exact⟨z,s.set n y,by simp,hx,hl.set hxy n⟩
theorem aB.single {α β:Type} {R:α->β->Prop} {x:α} {r:List β} (h:aB R [x] r):∃ y,r=[y]/\R x y:=by
 obtain⟨y,s,e,hx,hl⟩:=h;cases hl;exact⟨y,e,hx⟩
def CV.bE (k:Nat):CV->Bool
 | .ref j _=>Nat.beq j k
 | .fn _ ks=>ks.any (Nat.beq · k)
 | _=>false
def CV.aP (k:Nat):CV->Bool
 | .row j=>Nat.beq j k
 | .rp j _ _ _=>Nat.beq j k
 | _=>false
def CV.bg (k:Nat):CV->Bool
 | .mp j=>Nat.beq j k
 | .kseq _ j=>Nat.beq j k
 | _=>false
def CV.aV (k:Nat):CV->Bool
 | .stp j _=>Nat.beq j k
 | _=>false
def SV.bE (k:Nat):SV->Bool
 | .v _ cs=>cs.any (CV.bE k)
 | .tup l=>l.any fun p=>p.2.any (CV.bE k)
def SV.aP (k:Nat):SV->Bool
 | .v _ cs=>cs.any (CV.aP k)
 | .tup l=>l.any fun p=>p.2.any (CV.aP k)
def SV.bg (k:Nat):SV->Bool
 | .v _ cs=>cs.any (CV.bg k)
 | .tup l=>l.any fun p=>p.2.any (CV.bg k)
def St.bg (k:Nat) (S:St):Bool:=S.tmps.any (SV.bg k)||S.boxes.any fun p=>p.2.any (CV.bg k)
def SV.aV (k:Nat):SV->Bool
 | .v _ cs=>cs.any (CV.aV k)
 | .tup l=>l.any fun p=>p.2.any (CV.aV k)
def St.aV (k:Nat) (S:St):Bool:=S.tmps.any (SV.aV k)||S.boxes.any fun p=>p.2.any (CV.aV k)
def St.bE (k:Nat) (S:St):Bool:=S.tmps.any (SV.bE k)||S.boxes.any fun p=>p.2.any (CV.bE k)
def St.aP (k:Nat) (S:St):Bool:=S.tmps.any (SV.aP k)||S.boxes.any fun p=>p.2.any (CV.aP k)
structure CV.bW (ρ ρ':Env) (c:CV):Prop where
 bx:∀ k,c.bE k=true->ρ'.bx k=ρ.bx k
 rw:∀ k,c.aP k=true->ρ'.rw k=ρ.rw k
 ob:∀ k,c.bg k=true->ρ'.ob k=ρ.ob k
 st:∀ k,c.aV k=true->ρ'.st k=ρ.st k
theorem aJ.congr {G G':Gh} (hG:G.le G') {ρ ρ':Env}:∀ {c:CV} {v:Value},c.bW ρ ρ'->aJ G ρ c v->aJ G' ρ' c v
 | .int _ _,_,_,h=>h
 | .bool _,_,_,h=>h
 | .str _,_,_,h=>h
 | .sl _ _,_,_,h=>cW.mono hG h
 | .cp t x _,_,_,⟨b,off,c,T,fz,e,hb,hs,hl⟩=>⟨b,off,c,T,fz,e,hG _ _ hb,hs,an.mono hG t x _ hl⟩
 | .clo _ t x,_,_,⟨caps,e,h⟩=>⟨caps,e,an.mono hG t x _ h⟩
 | .ref k _,_,s,h=>by
  have:=s.bx k (by simp[CV.bE]);simp only[aJ] at h ⊢;rw[this];exact h
 | .row j,_,s,h=>by
  have:=s.rw j (by simp[CV.aP]);simp only[aJ] at h ⊢;rw[this];exact h
 | .rp j _ _ _,_,s,h=>by
  have:=s.rw j (by simp[CV.aP]);simp only[aJ] at h ⊢;rw[this];exact h
 | .fn g ks,_,s,h=>by
  simp only[aJ] at h ⊢
  rw[h]
  congr 2
  refine UQ fun k hk=> ?_
  rw[s.bx k (by simp[CV.bE,hk])]
 | .nilp,_,_,h=>h
 | .nils,_,_,h=>h
 | .any,_,_,_=>trivial
 | .nb _,_,_,h=>h
 | .opq _,_,_,h=>h
 | .mp j,_,s,h=>by
  have:=s.ob j (by simp[CV.bg]);simp only[aJ] at h ⊢;rw[this];exact h
 | .hnd none _,_,_,h=>h
 | .hnd (some _) _,_,_,⟨b,hb,e⟩=>⟨b,hG.hnd _ _ hb,e⟩
 | .stp j i,_,s,h=>by
  have:=s.st j (by simp[CV.aV]);simp only[aJ] at h ⊢;rw[this];exact h
 | .kseq g j,_,s,h=>by
  have:=s.ob j (by simp[CV.bg]);simp only[aJ] at h ⊢;rw[this]
  obtain⟨b,T,fz,e,hb⟩:=h
  exact⟨b,T,fz,e,hG _ _ hb⟩
theorem iG.congr {G G':Gh} (hG:G.le G') {ρ ρ':Env} {a:Bool} {cs:List CV} {v:Value} (hs:∀ c,c∈cs->c.bW ρ ρ') (h:iG G ρ a cs v):iG G' ρ' a cs v:=by
 cases a with
 | true=>obtain⟨vs,e,hl⟩:=h;exact⟨vs,e,aB.pX (fun c hc y=>aJ.congr hG (hs c hc)) hl⟩
 | false=>
  match cs,hs,h with
  | [c],hs,h=>exact aJ.congr hG (hs c (by simp)) h
def SV.bW (ρ ρ':Env):SV->Prop
 | .v _ cs=>∀ c,c∈cs->c.bW ρ ρ'
 | .tup l=>∀ p,p∈l->∀ c,c∈p.2->c.bW ρ ρ'
theorem aR.congr {G G':Gh} (hG:G.le G') {ρ ρ':Env} {s:SV} {v:Value} (hs:s.bW ρ ρ') (h:aR G ρ s v):aR G' ρ' s v:=by
 cases s with
 | v a cs=>exact iG.congr hG hs h
 | tup l=>
  obtain⟨vs,e,hl⟩:=h
  exact⟨vs,e,aB.pX (fun p hp y=>iG.congr hG (hs p hp)) hl⟩
theorem CV.bW.refl (ρ:Env) (c:CV):c.bW ρ ρ:=⟨fun _ _=>rfl,fun _ _=>rfl,fun _ _=>rfl,fun _ _=>rfl⟩
theorem SV.bW.refl (ρ:Env) (s:SV):s.bW ρ ρ:=by
 cases s with
 | v a cs=>exact fun c _=> .refl ρ c
 | tup l=>exact fun p _ c _=> .refl ρ c
theorem jX {α:Type} {l:List (Nat×α)} {k:Nat} {x:α} (h:look l k=some x):(k,x)∈l:=by
 induction l with
 | nil=>simp[look] at h
 | cons p r ih=>
  obtain⟨j,y⟩:=p
  simp only[look] at h
  cases hb:Nat.beq j k with
  | true=>rw[hb] at h;simp only[VW,Option.some.injEq] at h;subst h;have:=Vq hb;subst this;simp
  | false=>rw[hb] at h;simp only[VV] at h;exact UY _ (ih h)
theorem ai {α:Type} (l:List (Nat×α)) (j k:Nat) (x:α):look ((j,x)::l) k=if j=k then some x else look l k:=by
 simp only[look]
 by_cases h:j=k
 ·subst h;simp
 ·have:Nat.beq j k=false:=by
   cases hb:Nat.beq j k with
   | false=>rfl
   | true=>exact absurd (Vq hb) h
  simp[this,h]
structure St.bW (ρ ρ':Env) (S:St):Prop where
 tmps:∀ s,s∈S.tmps->s.bW ρ ρ'
 boxes:∀ p,p∈S.boxes->∀ c,c∈p.2->c.bW ρ ρ'
theorem JQ {ρ:Env} {k b:Nat} {S:St} (own:Nat->Option aM) (h:S.bE k=false):S.bW ρ ⟨fun i=>if i=k then b else ρ.bx i,ρ.rw,own,ρ.ob,ρ.st⟩:=by
 simp only[St.bE,TH,T0] at h
 have cv:∀ c:CV,c.bE k=false->c.bW ρ ⟨fun i=>if i=k then b else ρ.bx i,ρ.rw,own,ρ.ob,ρ.st⟩:=fun c hc=>
  ⟨fun i hi=>by
    show (if i=k then b else ρ.bx i)=ρ.bx i
    by_cases e:i=k
    ·subst e;rw[hc] at hi;cases hi
    ·simp[e],fun _ _=>rfl,fun _ _=>rfl,fun _ _=>rfl⟩
 refine⟨fun s hs=> ?_,fun p hp c hc=>cv c ?_⟩
 ·have:=h.1 s hs
  cases s with
  | v a cs=>exact fun c hc=>cv c (by simp only[SV.bE,T3,Wa,V9] at this;simpa using this c hc)
  | tup l=>exact fun p hp c hc=>cv c (by simp only[SV.bE,T3,Wa,V9] at this;simpa using this p hp c hc)
 ·have:=h.2 p hp
  simp only[T3,Wa,V9] at this
  simpa using this c hc
theorem AL {ρ:Env} {k:Nat} {u:Value} {S:St} (own:Nat->Option aM) (h:S.aP k=false):S.bW ρ ⟨ρ.bx,fun i=>if i=k then u else ρ.rw i,own,ρ.ob,ρ.st⟩:=by
 simp only[St.aP,TH,T0] at h
 have cv:∀ c:CV,c.aP k=false->c.bW ρ ⟨ρ.bx,fun i=>if i=k then u else ρ.rw i,own,ρ.ob,ρ.st⟩:=fun c hc=>
  ⟨fun _ _=>rfl,fun i hi=>by
    show (if i=k then u else ρ.rw i)=ρ.rw i
    by_cases e:i=k
    ·subst e;rw[hc] at hi;cases hi
    ·simp[e],fun _ _=>rfl,fun _ _=>rfl⟩
 refine⟨fun s hs=> ?_,fun p hp c hc=>cv c ?_⟩
 ·have:=h.1 s hs
  cases s with
  | v a cs=>exact fun c hc=>cv c (by simp only[SV.aP,T3,Wa,V9] at this;simpa using this c hc)
  | tup l=>exact fun p hp c hc=>cv c (by simp only[SV.aP,T3,Wa,V9] at this;simpa using this p hp c hc)
 ·have:=h.2 p hp
  simp only[T3,Wa,V9] at this
  simpa using this c hc
theorem JS {ρ:Env} {k:Nat} {u:Value} {S:St} (own:Nat->Option aM) (h:S.bg k=false):S.bW ρ ⟨ρ.bx,ρ.rw,own,fun i=>if i=k then u else ρ.ob i,ρ.st⟩:=by
 simp only[St.bg,TH,T0] at h
 have cv:∀ c:CV,c.bg k=false->c.bW ρ ⟨ρ.bx,ρ.rw,own,fun i=>if i=k then u else ρ.ob i,ρ.st⟩:=fun c hc=>
  ⟨fun _ _=>rfl,fun _ _=>rfl,fun i hi=>by
    show (if i=k then u else ρ.ob i)=ρ.ob i
    by_cases e:i=k
    ·subst e;rw[hc] at hi;cases hi
    ·simp[e],fun _ _=>rfl⟩
 refine⟨fun s hs=> ?_,fun p hp c hc=>cv c ?_⟩
 ·have:=h.1 s hs
  cases s with
  | v a cs=>exact fun c hc=>cv c (by simp only[SV.bg,T3,Wa,V9] at this;simpa using this c hc)
  | tup l=>exact fun p hp c hc=>cv c (by simp only[SV.bg,T3,Wa,V9] at this;simpa using this p hp c hc)
 ·have:=h.2 p hp
  simp only[T3,Wa,V9] at this
  simpa using this c hc
theorem eW.congr {G G':Gh} (hG:G.le G') {ρ ρ':Env} {S:St} {a:Act} (hs:S.bW ρ ρ') (h:eW G ρ S a):eW G' ρ' S a:=
 ⟨h.1,fun i s hi=>aR.congr hG (hs.tmps s (U3 hi)) (h.2 i s hi)⟩
def St.put (S:St) (d:Option Tmp) (s:SV):St:=
 match d with
 | some d=>{ S with tmps:=S.tmps.set d s }
 | none=>S
@[simp] theorem St.S5 (S:St) (d:Option Tmp) (s:SV):(S.put d s).boxes=S.boxes:=by cases d<;>rfl
@[simp] theorem St.Tb (S:St) (d:Option Tmp) (s:SV):(S.put d s).rows=S.rows:=by cases d<;>rfl
@[simp] theorem St.Ta (S:St) (d:Option Tmp) (s:SV):(S.put d s).objs=S.objs:=by cases d<;>rfl
theorem eW.put {G:Gh} {ρ:Env} {S:St} {a:Act} (h:eW G ρ S a) (d:Option Tmp) {s:SV} {v:Value} (hv:∀ t,d=some t->aR G ρ s v):eW G ρ (S.put d s) (a.put d v):=by
 cases d with
 | none=>exact h
 | some d=>
  refine⟨by simp[Act.put,St.put,h.1],fun i s' hi=> ?_⟩
  simp only[St.put,Uw] at hi
  by_cases e:d=i
  ·subst e
   by_cases hlt:d<S.tmps.length
   ·simp only[V7,hlt,Option.some.injEq] at hi
    subst hi
    simp only[Act.put]
    rw[Th,Tn (by rw[h.1];exact hlt)]
    exact hv _ rfl
   ·simp[hlt] at hi
  ·simp only[e,V5] at hi
   have:=h.2 i s' hi
   simp only[Act.put]
   rw[Th,Tm (by omega), <- Th]
   exact this
theorem Mem.Dl {P0:Program} {C:Fr P0} {G:Gh} {ρ:Env} {S S':St} {w:World} (h:Mem C G ρ S w) (hb:S'.boxes=S.boxes) (hr:S'.rows=S.rows) (ho:S'.objs=S.objs):Mem C G ρ S' w:=
 { h with boxes:=by rw[hb];exact h.boxes,rows:=by rw[hr];exact h.rows,objs:=by rw[ho];exact h.objs,hndI:=by rw[ho];exact h.hndI }
theorem Mod.put {P0:Program} {C:Fr P0} {G:Gh} {ρ:Env} {S:St} {w:World} {a:Act} (h:Mod C G ρ S w a) (d:Option Tmp) {s:SV} {v:Value} (hv:∀ t,d=some t->aR G ρ s v):Mod C G ρ (S.put d s) w (a.put d v):=
 { h.toMem.Dl (S':=S.put d s) (by simp) (by simp) (by simp) with tmps:=h.tmps.put d hv,defers:=by cases d<;>exact h.defers }
theorem b8.of_heap {G:Gh} {ρ:Env} {w w':World} {j:Nat} {r:jk} (hh:w'.heap=w.heap) (h:b8 G ρ w j r):b8 G ρ w' j r:=by
 unfold b8 at*
 split
 ·rename_i hf;rw[V7 hf] at h;exact h
 ·rename_i hf;rw[V6 hf] at h
  obtain⟨xs,ho,hl,hb⟩:=h
  exact⟨xs,by simpa [World.ownsRow,hh] using ho,hl,hb⟩
theorem ir.of_heap {G:Gh} {w w':World} {own:Nat->Prop} {fz:Bool} {t:Ty} {l:List t.den} (hh:∀ h b,G.hnd h=some b->w'.heap[b]? =w.heap[b]?) (h:ir G w own fz t l):ir G w' own fz t l:=
 ⟨h.1,h.2.1,fun i x hx=>by
   obtain⟨b,vs,T,h1,h2,h3,h4,h5⟩:=h.2.2 i x hx
   exact⟨b,vs,T,h1,h2,h3,by rw[hh i b h1];exact h4,h5⟩⟩
theorem jx.of_heap {G:Gh} {ρ:Env} {w w':World} {j:Nat} {r:lz} (hh:w'.heap=w.heap) (h:jx G ρ w j r):jx G ρ w' j r:=by
 cases r with
 | map k v l=>obtain⟨b,es,clock,h1,h2,h3,h4,h5⟩:=h;exact⟨b,es,clock,h1,h2,by rw[hh];exact h3,h4,h5⟩
 | ar fz t l=>exact⟨h.1,ir.of_heap (fun _ _ _=>by rw[hh]) h.2⟩
theorem Mem.of_heap {P0:Program} {C:Fr P0} {G:Gh} {ρ:Env} {S:St} {w w':World} (h:Mem C G ρ S w) (hh:w'.heap=w.heap) (ho:w'.os=w.os) (hu:w'.output=w.output):Mem C G ρ S w' where
 agr:=fun b o hb=>by rw[hh];exact h.agr b o hb
 le0:=h.le0
 old:=h.old
 frame:=by rw[hh];exact h.frame
 size:=by rw[hh];exact h.size
 os:=ho.trans h.os
 output:=hu.trans h.output
 pin:=h.pin
 pinR:=h.pinR
 owned:=by rw[hh];exact h.owned
 boxes:=by rw[hh];exact h.boxes
 rows:=fun j r hr=>(h.rows j r hr).of_heap hh
 objs:=fun j r hr=>(h.objs j r hr).of_heap hh
 hndI:=h.hndI
theorem Mod.of_heap {P0:Program} {C:Fr P0} {G:Gh} {ρ:Env} {S:St} {w w':World} {a:Act} (h:Mod C G ρ S w a) (hh:w'.heap=w.heap) (ho:w'.os=w.os) (hu:w'.output=w.output):Mod C G ρ S w' a:=
 { h.toMem.of_heap hh ho hu with tmps:=h.tmps,defers:=h.defers }
structure Grow (ρ:Env) (w w':World) (blk:Option Nat):Prop where
 os:w'.os=w.os
 output:w'.output=w.output
 size:w.heap.size<=w'.heap.size
 block:∀ b,b<w.heap.size->some b≠blk->w'.heap[b]? =w.heap[b]?
theorem bJ {w:World} {b:Nat} {o:Obj} (h:w.heap[b]? =some o):b<w.heap.size:=(Tk.1 h).1
theorem b8.kept {G:Gh} {ρ:Env} {w w':World} {j:Nat} {r:jk} {blk:Option Nat} (hg:Grow ρ w w' blk) (hne:∀ b,blk=some b->ρ.own b≠some (.inr j)) (h:b8 G ρ w j r):b8 G ρ w' j r:=by
 unfold b8 at*
 split
 ·rename_i hf;rw[V7 hf] at h;exact h
 ·rename_i hf;rw[V6 hf] at h
  obtain⟨xs,⟨hlen,ho⟩,hl,hb⟩:=h
  refine⟨xs,⟨hlen, ?_⟩,hl,hb⟩
  rcases ho with hn | ⟨g,cap,cur,hv,h0,hgg,rest⟩
  ·exact .inl hn
  ·refine .inr ⟨g,cap,cur,hv,h0, ?_,rest⟩
   rw[hg.block g (bJ hgg) ?_]
   ·exact hgg
   ·intro e
    exact hne g e.symm (hb g (by rw[hv];rfl))
theorem jx.kept {G:Gh} {ρ:Env} {w w':World} {j:Nat} {r:lz} {blk:Option Nat} (hg:Grow ρ w w' blk) (hgn:∀ b,blk=some b->G b=none) (hne:∀ b,blk=some b->ρ.own b≠some (.ob j)) (h:jx G ρ w j r):jx G ρ w' j r:=by
 cases r with
 | map k v l=>
  obtain⟨b,es,clock,h1,h2,h3,h4,h5⟩:=h
  refine⟨b,es,clock,h1,h2, ?_,h4,h5⟩
  rw[hg.block b (bJ h3) (fun e=>hne b e.symm h2)];exact h3
 | ar fz t l=>
  obtain⟨hj,h⟩:=h
  refine⟨hj,h.1,h.2.1,fun i x hx=> ?_⟩
  obtain⟨b,vs,T,h1,h2,h3,h4,h5⟩:=h.2.2 i x hx
  refine⟨b,vs,T,h1,h2,h3, ?_,h5⟩
  rw[hg.block b (bJ h4) (fun e=> ?_)]
  ·exact h4
  ·cases fz with
   | true=>have:=hgn b e.symm;rw[h2 rfl] at this;cases this
   | false=>exact hne b e.symm (h3 rfl)
theorem qF.mono {G G':Gh} (hG:G.le G') {k v:Ty} {p:k.den×v.den} {e:MapEntry} (h:qF G k v p e):qF G' k v p e:=⟨h.1.mono hG,h.2.mono hG⟩
theorem jx.congr {G G':Gh} (hG:G.le G') (hh:G'.hnd=G.hnd) {ρ ρ':Env} {w:World} {j:Nat} {r:lz} (hr:ρ'.ob j=ρ.ob j) (hst:ρ'.st j=ρ.st j) (ho:∀ b,ρ.own b=some (.ob j)->ρ'.own b=some (.ob j)) (h:jx G ρ w j r):jx G' ρ' w j r:=by
 cases r with
 | map k v l=>
  obtain⟨b,es,clock,h1,h2,h3,h4,h5,h6⟩:=h
  exact⟨b,es,clock,by rw[hr];exact h1,ho b h2,h3,h4.mono fun x y hxy=>hxy.mono hG,by rw[hst];exact h5,h6⟩
 | ar fz t l=>
  obtain⟨hj,h⟩:=h
  refine⟨hj,fun i b hb=>h.1 i b (by rw[<- hh];exact hb),fun i i' b hb hb'=>h.2.1 i i' b (by rw[<- hh];exact hb) (by rw[<- hh];exact hb'),fun i x hx=> ?_⟩
  obtain⟨b,vs,T,h1,h2,h3,h4,h5⟩:=h.2.2 i x hx
  exact⟨b,vs,T,by rw[hh];exact h1,fun e=>hG _ _ (h2 e),fun e=>ho b (h3 e),h4,an.mono hG t x _ h5⟩
theorem b8.congr {G G':Gh} (hG:G.le G') {ρ ρ':Env} {w:World} {j:Nat} {r:jk} (hr:ρ'.rw j=ρ.rw j) (ho:∀ b,ρ.own b=some (.inr j)->ρ'.own b=some (.inr j)) (h:b8 G ρ w j r):b8 G' ρ' w j r:=by
 unfold b8 at*
 rw[hr]
 split
 ·rename_i hf;rw[V7 hf] at h;exact cW.mono hG h
 ·rename_i hf;rw[V6 hf] at h
  obtain⟨xs,hown,hl,hb⟩:=h
  exact⟨xs,hown,hl.mono (an.mono hG r.t),fun b e=>ho b (hb b e)⟩
end Go.Dn
namespace Go.Dn
def unpack:(t:Ty)->t.den->List CV
 | .int k,n=>[.int k n]
 | .bool,b=>[.bool b]
 | .str,s=>[.str s]
 | .unit,_=>[]
 | .pair a b,p=>unpack a p.1++unpack b p.2
 | .st t,x=>unpack t x
 | .slice t,l=>[.sl t l]
 | .ptr t,x=>[.cp t x 0]
 | .clo g t,x=>[.clo g t x]
 | .hnd,o=>[.hnd o 0]
def kS (t:Ty) (x:t.den):SV:=
 match t,x with
 | .st t,x=> .v true (unpack t x)
 | t,x=> .v false (unpack t x)
def C1 (t:Ty) (x:t.den):Bool×List CV:=
 match t,x with
 | .st t,x=>(true,unpack t x)
 | t,x=>(false,unpack t x)
def ki {a b:Ty} (l:List a.den):Option (List b.den):=if h:a=b then some (h ▸ l) else none
def JY {a b:Ty} (x:a.den):Option b.den:=if h:a=b then some (h ▸ x) else none
def NB {k v k' v':Ty} (l:List (k.den×v.den)):Option (List (k'.den×v'.den)):=if h:k=k'/\v=v' then some (h.1 ▸ h.2 ▸ l) else none
def Nd (k:IntKind):CV->Option Int
 | .int k' n=>if k=k' then some n else none
 | _=>none
def Ll:CV->Option Bool
 | .bool b=>some b
 | _=>none
def Nf:CV->Option (List UInt8)
 | .str s=>some s
 | _=>none
def Gl (S:St) (t:Ty):CV->Option (List t.den)
 | .sl _ l=>ki (b:=t) l
 | .nils=>some []
 | .row j=>match look S.rows j with
  | some q=>if q.fz then ki (b:=t) q.l else none
  | none=>none
 | _=>none
def Nc:CV->Option (Option Nat)
 | .hnd o k=>if Nat.beq k 0 then some o else none
 | .nilp=>some none
 | _=>none
def nr {α:Type} (f:CV->Option α):List CV->Option (α×List CV)
 | c::r=>match f c with | some x=>some (x,r) | none=>none
 | []=>none
def fN {α:Type}:Option (α×List CV)->Option α
 | some (x,[])=>some x
 | _=>none
def inL (l:List Nat) (j:Nat):Bool:=l.any (Nat.beq j)
def Ih (S:St) (fb:List Nat) {t:Ty} (g:List CV->Option (t.den×List CV)):CV->Option t.den
 | .cp _ x o=>if Nat.beq o 0 then JY (b:=t) x else none
 | .ref k o=>if Nat.beq o 0&&inL fb k then (match look S.boxes k with
  | some cs=>fN (g cs)
  | none=>none) else none
 | _=>none
def Nb {t:Ty} (g:Nat) (p:List CV->Option (t.den×List CV)):CV->Option t.den
 | .clo g' _ x=>if Nat.beq g g' then JY (b:=t) x else none
 | .fn g' ks=>if Nat.beq g g' then fN (p (ks.map fun k=> .ref k 0)) else none
 | _=>none
def eE (S:St) (fb:List Nat):(t:Ty)->List CV->Option (t.den×List CV)
 | .int k,r=>nr (Nd k) r
 | .bool,r=>nr Ll r
 | .str,r=>nr Nf r
 | .unit,r=>some ((),r)
 | .pair a b,r=>match eE S fb a r with
  | some (x,r)=>match eE S fb b r with
   | some (y,r)=>some ((x,y),r)
   | none=>none
  | none=>none
 | .st t,r=>eE S fb t r
 | .slice t,r=>nr (Gl S t) r
 | .ptr t,r=>nr (Ih S fb (t:=t) (eE S fb t)) r
 | .clo g t,r=>nr (Nb (t:=t) g (eE S fb t)) r
 | .hnd,r=>nr Nc r
abbrev pack (S:St) (t:Ty) (cs:List CV):Option (t.den×List CV):=eE S [] t cs
def gf (S:St) (fb:List Nat) (t:Ty) (s:SV):Option t.den:=
 match t,s with
 | .st t,.v true cs=>fN (eE S fb t cs)
 | .st _,_=>none
 | t,.v false cs=>fN (eE S fb t cs)
 | _,_=>none
inductive OT where
 | val (t:Ty)
 | row (e:TypeId) (t:Ty)
 | map (k v:Ty)
def OT.den:OT->Type
 | .val t=>t.den
 | .row _ t=>List t.den
 | .map k v=>List (k.den×v.den)
def iH:List OT->Type
 | []=>Unit
 | o::r=>o.den×iH r
inductive PM where
 | val (t:Ty)
 | row (e:TypeId) (t:Ty)
 | mrow (e:TypeId) (t:Ty)
 | map (k v:Ty)
 | box (l:List OT)
 | ar (t:Ty)
 | arR (t:Ty)
inductive RM where
 | val (t:Ty)
 | row (e:TypeId) (t:Ty)
 | map (k v:Ty)
 | box (l:List OT)
def PM.den:PM->Type
 | .val t=>t.den
 | .row _ t=>List t.den
 | .mrow _ t=>List t.den
 | .map k v=>List (k.den×v.den)
 | .box l=>iH l
 | .ar t=>List t.den
 | .arR t=>List t.den
def RM.den:RM->Type
 | .val t=>t.den
 | .row _ t=>List t.den
 | .map k v=>List (k.den×v.den)
 | .box l=>iH l
def PM.arg:PM->Bool
 | .ar _=>false
 | .arR _=>false
 | _=>true
def eU:List PM->Type
 | []=>Unit
 | p::r=>p.den×eU r
def dh:List PM->Type
 | []=>Unit
 | .mrow _ t::r=>List t.den×dh r
 | .map k v::r=>List (k.den×v.den)×dh r
 | .box l::r=>iH l×dh r
 | .ar t::r=>List t.den×dh r
 | .val _::r=>dh r
 | .row _ _::r=>dh r
 | .arR _::r=>dh r
def cJ (ps:List PM):List RM->Type
 | []=>dh ps
 | q::r=>q.den×cJ ps r
structure aq where
 ps:List PM
 rs:List RM
 m:eU ps->Option (cJ ps rs)
inductive Be where
 | mk (g:Nat)
 | srt (g:Nat) (kt e:TypeId)
 | elt (lo nb:Nat) (tb te:Ty) (m:List tb.den->List te.den->Nat->Option (List te.den))
 | nest (p:Nat) (sp:aq)
 | srt2 (g:Nat) (kt e:TypeId) (cl:Nat) (cf:List UInt8×List UInt8->List UInt8×List UInt8->Int)
 | cop (sz lo b:Nat) (e:TypeId) (t:Ty)
 | own
structure Cx where
 P:Program
 specs:List (Nat×aq)
 keys:List (Nat×Be):=[]
def J3 {α:Type} (l:List (Int×α)):List Int:=(l.map (·.1)).mergeSort fun x y=>decide (x<=y)
def Pf {α:Type} (l:List (Int×α)):Bool:=decide (l.length<=1000000)&&((l.all fun p=>decide (-9223372036854775808<=p.1/\p.1<=9223372036854775807))&&decide (l.map (·.1)).Nodup)
def zS {α:Type} (cf:List UInt8×List UInt8->List UInt8×List UInt8->Int) (l:List ((List UInt8×List UInt8)×α)):List (List UInt8×List UInt8):=(l.map (·.1)).mergeSort fun x y=> !decide (cf y x<0)
theorem Pe {α:Type} (cf:List UInt8×List UInt8->List UInt8×List UInt8->Int) (l:List ((List UInt8×List UInt8)×α)):(zS cf l).length=l.length:=by
 unfold zS
 rw[List.length_mergeSort,UK]
def M4 {α:Type} (cf:List UInt8×List UInt8->List UInt8×List UInt8->Int) (l:List ((List UInt8×List UInt8)×α)):Bool:=decide (l.length<=1000000)&&((l.all fun p=>decide (p.1.1.length<=9223372036854775807)&&decide (p.1.2.length<=9223372036854775807))&&(decide (l.map (·.1)).Nodup&&((l.map (·.1)).all fun x=>(l.map (·.1)).all fun y=>decide (cf x y<0)||(decide (cf y x<0)||decide (x=y)))))
inductive CK where
 | val (t:Ty)
 | own (e:TypeId) (t:Ty)
 | map (k v:Ty)
 | ref (k off:Nat)
 | fn (g:Nat) (ks:List Nat)
 | ar (t:Ty)
 | arF (t:Ty)
 | rowR (j:Nat)
 | rpR (j sz:Nat)
 | rowC (j:Nat) (e:TypeId) (t:Ty)
 | mapR (j:Nat)
 | mapC (j:Nat) (k v:Ty)
def cB:List CK->Type
 | []=>Unit
 | .val t::r=>t.den×cB r
 | .own _ t::r=>List t.den×cB r
 | .map k v::r=>List (k.den×v.den)×cB r
 | .ref _ _::r=>cB r
 | .fn _ _::r=>cB r
 | .ar t::r=>List t.den×cB r
 | .arF t::r=>List t.den×cB r
 | .rowR _::r=>cB r
 | .rpR _ _::r=>Nat×cB r
 | .rowC _ _ t::r=>List t.den×cB r
 | .mapR _::r=>cB r
 | .mapC _ k v::r=>List (k.den×v.den)×cB r
def CK.size:CK->Nat
 | .val t=>t.size
 | .ar _=>0
 | .arF _=>0
 | .rowC _ _ _=>0
 | .mapC _ _ _=>0
 | _=>1
def jC:List CK->Nat
 | []=>0
 | c::r=>c.size+jC r
def OF (tmps:List (Nat×CK)) (boxes:List (Nat×List CK)) (cts:List CK):List CK:=
 tmps.map (·.2)++(boxes.flatMap (·.2)++cts)
structure Ann where
 tmps:List (Nat×CK)
 boxes:List (Nat×List CK)
 cts:List CK
 fuel:cB (OF tmps boxes cts)->Nat
def Ann.cks (A:Ann):List CK:=OF A.tmps A.boxes A.cts
def iter {X β:Type}:Nat->X->(X->(X->Option β)->Option β)->Option β
 | 0,_,_=>none
 | n+1,x,f=>f x fun y=>iter n y f
def l7 (P:Program) (t:TypeId):Bool:=
 match P.underlying t with
 | some (.struct _) | some (.array _ _)=>true
 | _=>false
def bI (P:Program) (t:TypeId):Nat:=((P.info? t).map (·.size)).getD 0
def okT (P:Program) (t:TypeId):Bool:=(P.underlying t).isSome
def BA:Value->CV
 | .int k n=> .int k n
 | .bool b=> .bool b
 | .string s=> .str s.data.toList
 | .slice none 0 0=> .nils
 | .pointer none=> .nilp
 | .func (.func g) f c=>if f.isEmpty&&c.isEmpty then .fn g [] else .any
 | _=> .any
def Du:Value->SV
 | .agg cs=> .v true (cs.toList.map BA)
 | v=> .v false [BA v]
def St.ev (S:St):Operand->SV
 | .tmp t=>S.tmps.getD t (.v false [.any])
 | .const v=>Du v
 | .global _=> .v false [.any]
 | .func f=> .v false [.fn f []]
variable {β:Type}
def chk (b:Bool) (x:Option β):Option β:=bif b then x else none
def idx {α:Type} (l:List α) (i:Int):Option α:=if 0<=i then l[i.toNat]? else none
def fP (s:List UInt8) (i:Int):Option UInt8:=if 0<=i then s[i.toNat]? else none
def Fo (op:BinOp) (ka:IntKind) (a:Int) (kb:IntKind) (b:Int) (k:CV->Option β):Option β:=
 match op with
 | .shl=>chk (decide (0<=b)) (k (.int ka (ka.wrap (a*2 ^ (min b.toNat ka.bits)))))
 | .shr=>chk (decide (0<=b)) (k (.int ka (a.fdiv (2 ^ (min b.toNat ka.bits)))))
 | _=>if ka≠kb then none else
  match op with
  | .add=>k (.int ka (ka.wrap (a+b)))
  | .sub=>k (.int ka (ka.wrap (a - b)))
  | .mul=>k (.int ka (ka.wrap (a*b)))
  | .quo=>chk (b != 0) (k (.int ka (ka.wrap (a.tdiv b))))
  | .rem=>chk (b != 0) (k (.int ka (a.tmod b)))
  | .and=>k (.int ka (ka.wrap (BitVec.ofInt ka.bits a &&& BitVec.ofInt ka.bits b).toNat))
  | .or=>k (.int ka (ka.wrap (BitVec.ofInt ka.bits a ||| BitVec.ofInt ka.bits b).toNat))
  | .eql=>k (.bool (a==b))
  | .neq=>k (.bool (a != b))
  | .lss=>k (.bool (decide (a<b)))
  | .leq=>k (.bool (decide (a<=b)))
  | .gtr=>k (.bool (decide (a>b)))
  | .geq=>k (.bool (decide (a>=b)))
  | _=>none
def Km (op:BinOp) (a b:List UInt8) (k:CV->Option β):Option β:=
 match op with
 | .eql=>k (.bool (a==b))
 | .neq=>k (.bool !(a==b))
 | .lss=>k (.bool (Op.bytesLess a b))
 | .leq=>k (.bool (Op.bytesLess a b||a==b))
 | .gtr=>k (.bool !(Op.bytesLess a b||a==b))
 | .geq=>k (.bool !(Op.bytesLess a b))
 | .add=>chk (decide (a.length+b.length<=maxLen)) (k (.str (a++b)))
 | _=>none
def C5 (l:List CV) (off n:Nat):Option (List CV):=
 let c:=(l.drop off).take n
 if Nat.beq c.length n then some c else none
def iW (P:Program) (T:TypeId) (l:List CV) (off:Nat) (k:SV->Option β):Option β:=
 if okT P T then
 match C5 l off (bI P T) with
 | some cs=>if l7 P T then k (.v true cs) else (match cs with | [c]=>k (.v false [c]) | _=>none)
 | none=>none
 else none
def BP (P:Program) (g:TypeId->SV->SV->Option Bool) (xs ys:List CV):List Field->Option Bool
 | []=>some true
 | f::fs=>if f.name= "_" then none else
  match iW P f.type xs f.offset some,iW P f.type ys f.offset some with
  | some a,some b=>match g f.type a b with
   | some r=>match BP P g xs ys fs with
    | some q=>some (r&&q)
    | none=>none
   | none=>none
  | _,_=>none
def CV.J2:CV->Bool
 | .ref _ _ | .cp _ _ _ | .rp _ _ _ _=>true
 | _=>false
def ou (P:Program):Nat->TypeId->SV->SV->Option Bool
 | 0,_,_,_=>none
 | d+1,t,x,y=>match P.underlying t with
  | some (.int _)=>match x,y with
   | .v false [.int k a],.v false [.int k' b]=>if k=k' then some (a==b) else none
   | _,_=>none
  | some .bool=>match x,y with
   | .v false [.bool a],.v false [.bool b]=>some (a==b)
   | _,_=>none
  | some .string=>match x,y with
   | .v false [.str a],.v false [.str b]=>some (a==b)
   | _,_=>none
  | some (.pointer _)=>match x,y with
   | .v false [.nilp],.v false [.nilp]=>some true
   | .v false [.nilp],.v false [.hnd o _]=>some o.isNone
   | .v false [.hnd o _],.v false [.nilp]=>some o.isNone
   | .v false [.nilp],.v false [c]=>if c.J2 then some false else none
   | .v false [c],.v false [.nilp]=>if c.J2 then some false else none
   | _,_=>none
  | some (.struct fs)=>match x,y with
   | .v true xs,.v true ys=>if P.stoodInHeld t then none else BP P (ou P d) xs ys fs.toList
   | _,_=>none
  | _=>none
def Rh:SV->SV->Option Bool
 | .v false [.sl _ l],.v false [.nils]=>some l.isEmpty
 | _,_=>none
def Qy (P:Program) (op:BinOp) (t:TypeId) (x y:SV) (k:SV->Option β):Option β:=
 if P.eqGuardType P.depth t then none else match op with
 | .eql=>match ou P 9 t x y with
  | some r=>k (.v false [.bool r])
  | none=>match P.underlying t,Rh x y with
   | some (.slice _),some b=>k (.v false [.nb b])
   | _,_=>none
 | .neq=>match ou P 9 t x y with
  | some r=>k (.v false [.bool !r])
  | none=>none
 | _=>none
def Nx (P:Program) (op:BinOp) (t:TypeId) (x y:SV) (k:SV->Option β):Option β:=
 match x,y with
 | .v false [.int ka a],.v false [.int kb b]=>Fo op ka a kb b fun c=>k (.v false [c])
 | .v false [.str a],.v false [.str b]=>Km op a b fun c=>k (.v false [c])
 | x,y=>Qy P op t x y k
def Ff (n:Nat):CV->Option CV
 | .ref k o=>some (.ref k (o+n))
 | .cp t x o=>some (.cp t x (o+n))
 | .rp j sz i o=>some (.rp j sz i (o+n))
 | .hnd (some h) o=>some (.hnd (some h) (o+n))
 | _=>none
def CV.ok:CV->Bool
 | .any=>false
 | .opq _=>false
 | _=>true
def setAt (l:List CV) (off:Nat) (new:List CV):Option (List CV):=
 if Nat.ble (off+new.length) l.length then some (l.take off++new++l.drop (off+new.length)) else none
def zK (place:Nat->Option (Nat×Nat)):List CV->List (Nat×SV)->Option (List CV)
 | cells,[]=>some cells
 | cells,(i,.v _ cs)::rest=>
  match place i with
  | none=>none
  | some (off,size)=>if Nat.beq cs.length size&&cs.all CV.ok then (match setAt cells off cs with | some c=>zK place c rest | none=>none) else none
 | _,_=>none
def xF (P:Program) (fs:Array Field) (i:Nat):Option (Nat×Nat):=match fs[i]? with | some f=>some (f.offset,bI P f.type) | none=>none
def zeroCells (P:Program) (t:TypeId):Option (List CV):=
 match (P.info? t).bind (·.zero) with
 | some (.agg cs)=>some (cs.toList.map BA)
 | some v=>some [BA v]
 | none=>none
def Iv:List Ty->Ty
 | []=> .unit
 | [a]=>a
 | a::b::r=> .pair a (Iv (b::r))
def Ay (P:Program):Nat->TypeId->Option Ty
 | 0,_=>none
 | n+1,t=>match P.underlying t with
  | some (.int k)=>some (.int k)
  | some .bool=>some .bool
  | some .string=>some .str
  | some (.slice e)=>(Ay P n e).map .slice
  | some (.pointer _)=>some .hnd
  | some (.array m e)=>(Ay P n e).map fun t=> .st (Iv (List.replicate m t))
  | some (.struct fs)=>(fs.toList.mapM fun f=>Ay P n f.type).map fun l=> .st (Iv l)
  | _=>none
def zl (P:Program) (t:TypeId) (ty:Ty):Option ty.den:=
 match (P.info? t).bind (·.zero) with
 | some v=>gf ⟨[],[],[],[]⟩ [] ty (Du v)
 | none=>none
def NR (a b:Int):Bool:=a==b
def Nw (a b:Bool):Bool:=a==b
def SB (a b:List UInt8):Bool:=a==b
def Ty.beq:(t:Ty)->t.den->t.den->Bool
 | .int _,a,b=>NR a b
 | .bool,a,b=>Nw a b
 | .str,a,b=>SB a b
 | .unit,_,_=>true
 | .pair s t,a,b=>s.beq a.1 b.1&&t.beq a.2 b.2
 | .st t,a,b=>t.beq a b
 | _,_,_=>false
def bB (P:Program) (t:TypeId):Ty->Bool
 | .int _=>match P.underlying t with | some (.int _)=>true | _=>false
 | .bool=>match P.underlying t with | some .bool=>true | _=>false
 | .str=>match P.underlying t with | some .string=>true | _=>false
 | _=>false
def bR (P:Program):List Field->Nat->Ty->Bool
 | [f],n,t=>f.name≠ "_" &&Nat.beq f.offset n&&Nat.beq (bI P f.type) 1&&bB P f.type t
 | f::g::r,n,.pair a b=>f.name≠ "_" &&Nat.beq f.offset n&&Nat.beq (bI P f.type) 1&&bB P f.type a&&bR P (g::r) (n+1) b
 | _,_,_=>false
def eX (P:Program) (t:TypeId):Ty->Bool
 | .st s=>match P.underlying t with | some (.struct fs)=> !P.stoodInHeld t&&bR P fs.toList 0 s | _=>false
 | ty=>bB P t ty
def iX {k v:Ty} (l:List (k.den×v.den)) (x:k.den):Option v.den:=match l.find? (fun p=>k.beq x p.1) with | some p=>some p.2 | none=>none
def sw {k v:Ty} (l:List (k.den×v.den)) (x:k.den) (y:v.den):List (k.den×v.den):=
 match l with
 | []=>[(x,y)]
 | p::r=>bif k.beq x p.1 then (x,y)::r else p::sw r x y
def allRefs:List SV->Option (List Nat)
 | []=>some []
 | .v false [.ref k o]::r=>if Nat.beq o 0 then (match allRefs r with | some l=>some (k::l) | none=>none) else none
 | _=>none
def bnd (d:Int):Option SV->Option Int
 | none=>some d
 | some (.v false [.int _ a])=>some a
 | _=>none
def NZ (M:St) (d:TypeDesc):CV->Option Int
 | .str s=>match d with | .string=>some s.length | _=>none
 | .sl _ l=>match d with | .slice _=>some l.length | _=>none
 | .nils=>match d with | .slice _=>some 0 | _=>none
 | .row j=>match d with
  | .slice _=>match look M.rows j with
   | some q=>some q.l.length
   | none=>none
  | _=>none
 | .mp j=>match d with
  | .map _ _=>match look M.objs j with
   | some (.map _ _ l)=>some l.length
   | _=>none
  | _=>none
 | _=>none
def OQ (P:Program) (b:Builtin) (c:Call) (S M:St) (k:SV->Option β):Option β:=
 match b with
 | .len=>match c.args.toList.map S.ev,c.argTypes.toList with
  | [.v false [x]],[t]=>match P.underlying t with
   | some d=>match NZ M d x with
    | some n=>k (.v false [.int .i64 n])
    | none=>none
   | none=>none
  | _,_=>none
 | .min=>match c.args.toList.map S.ev with
  | [.v false [.int ik a],.v false [.int _ b]]=>k (.v false [.int ik (if b<a then b else a)])
  | _=>none
 | .max=>match c.args.toList.map S.ev with
  | [.v false [.int ik a],.v false [.int _ b]]=>k (.v false [.int ik (if b>a then b else a)])
  | _=>none
 | _=>none
def Gm:Nat->Nat->Int->(Nat->Option β)->Option β
 | 0,_,_,_=>none
 | n+1,j,i,k=>bif i==(j:Int) then k j else Gm n (j+1) i k
theorem Gn {r:β}:∀ {n j:Nat} {i:Int} {k:Nat->Option β},Gm n j i k=some r->∃ m:Nat,i=(m:Int)/\m<j+n/\k m=some r
 | 0,_,_,_,h=>by cases h
 | n+1,j,i,k,h=>by
  unfold Gm at h
  cases hb:i==(j:Int) with
  | true=>rw[hb] at h;exact⟨j,by simpa using hb,by omega,h⟩
  | false=>
   rw[hb] at h
   obtain⟨m,h1,h2,h3⟩:=Gn (h:Gm n (j+1) i k=some r)
   exact⟨m,h1,by omega,h3⟩
def B8 (ik:IntKind):List CV->Option (List Int)
 | []=>some []
 | .int k n::r=>if k=ik then (match B8 ik r with | some l=>some (n::l) | none=>none) else none
 | _=>none
def cG (X:Cx) (o:Oper) (S M:St) (k:SV->Option β):Option β:=
 match o.op with
 | .move x | .assign x=>k (S.ev x)
 | .pick c a b=>match S.ev c with
  | .v false [.bool t]=>bif t then k (S.ev a) else k (S.ev b)
  | _=>none
 | .binOp op t x y _=>Nx X.P op t (S.ev x) (S.ev y) k
 | .unOp op _ x=>match op,S.ev x with
  | .not,.v false [.bool b]=>k (.v false [.bool !b])
  | .neg,.v false [.int ik n]=>k (.v false [.int ik (ik.wrap (0 - n))])
  | _,_=>none
 | .convert src dst x=>match X.P.underlying src,X.P.underlying dst,S.ev x with
  | some _,some (.int ik),.v false [.int _ n]=>k (.v false [.int ik (ik.wrap n)])
  | some _,some .string,.v false [.str s]=>k (.v false [.str s])
  | some _,some .string,.v false [.int _ n]=>chk (decide (0<=n)&&decide (n<128)) (k (.v false [.str [UInt8.ofNat n.toNat]]))
  | some (.slice e),some .string,.v false [.row j]=>match X.P.underlying e,look M.rows j with
   | some (.int .u8),some q=>if q.fz then none else match ki (b:= .int .u8) q.l with
    | some l=>k (.v false [.str (l.map fun n=>UInt8.ofNat n.toNat)])
    | none=>none
   | _,_=>none
  | _,_,_=>none
 | .nilCheck x=>match S.ev x with
  | .v false [.ref i j]=>k (.v false [.ref i j])
  | .v false [.cp t y j]=>k (.v false [.cp t y j])
  | .v false [.rp i sz j l]=>k (.v false [.rp i sz j l])
  | .v false [.clo g t y]=>k (.v false [.clo g t y])
  | .v false [.fn g ks]=>k (.v false [.fn g ks])
  | .v false [.hnd o j]=>o.bind fun h=>k (.v false [.hnd (some h) j])
  | _=>none
 | .fieldAddr s x f=>match X.P.underlying s,S.ev x with
  | some (.struct fs),.v false [c]=>match fs[f]? with
   | some fd=>if okT X.P fd.type&& !Nat.beq (bI X.P fd.type) 0 then (match Ff fd.offset c with
    | some c=>k (.v false [c])
    | none=>none) else none
   | none=>none
  | _,_=>none
 | .field s x f=>match X.P.underlying s,S.ev x with
  | some (.struct fs),.v true cs=>match fs[f]? with
   | some fd=>iW X.P fd.type cs fd.offset k
   | none=>none
  | _,_=>none
 | .load t x=>match S.ev x with
  | .v false [.ref b off]=>match look M.boxes b with
   | some l=>iW X.P t l off k
   | none=>none
  | .v false [.cp ty y off]=>iW X.P t (unpack ty y) off k
  | .v false [.rp j sz i off]=>match look M.rows j with
   | some q=>(q.l[i]?).bind fun y=>if !q.fz&&Nat.beq sz q.t.size then iW X.P t (unpack q.t y) off k else none
   | none=>none
  | .v false [.hnd (some h) off]=>match look M.objs bf with
   | some (.ar _ ty l)=>(l[h]?).bind fun y=>iW X.P t (unpack ty y) off k
   | _=>none
  | _=>none
 | .indexAddr t x ix=>match X.P.underlying t,S.ev x,S.ev ix with
  | some (.slice e),.v false [.sl ty l],.v false [.int _ i]=>
   if okT X.P e&&Nat.beq (bI X.P e) ty.size then (idx l i).bind fun y=>k (.v false [.cp ty y 0]) else none
  | some (.slice e),.v false [.row j],.v false [.int _ i]=>match look M.rows j with
   | some q=>if okT X.P e&&Nat.beq (bI X.P e) q.t.size then
    (if q.fz then (idx q.l i).bind fun y=>k (.v false [.cp q.t y 0])
     else chk (decide (0<=i)&&decide (i<q.l.length)) (k (.v false [.rp j q.t.size i.toNat 0]))) else none
   | none=>none
  | some (.array n e),.v false [c],.v false [.int _ i]=>
   if okT X.P e then Gm n 0 i fun j=>(match Ff (j*bI X.P e) c with
    | some c=>k (.v false [c])
    | none=>none) else none
  | _,_,_=>none
 | .index t x ix=>match X.P.underlying t,S.ev x,S.ev ix with
  | some .string,.v false [.str s],.v false [.int _ i]=>(fP s i).bind fun b=>k (.v false [.int .u8 b.toNat])
  | some (.array n e),.v true cs,.v false [.int _ i]=>match X.P.underlying e with
   | some (.int ik)=>match B8 ik cs with
    | some l=>if okT X.P e&&Nat.beq (bI X.P e) 1&& !l7 X.P e&&Nat.beq l.length n then (idx l i).bind fun m=>k (.v false [.int ik m]) else none
    | none=>none
   | _=>none
  | _,_,_=>none
 | .extract x i=>match S.ev x with
  | .tup l=>match l[i]? with
   | some p=>k (.v p.1 p.2)
   | none=>none
  | _=>none
 | .build t parts=>match X.P.underlying t,zeroCells X.P t with
  | some (.struct fs),some z=>if !fs.all (fun f=>okT X.P f.type) then none else match zK (xF X.P fs) z (parts.toList.map fun p=>(p.1,S.ev p.2)) with
   | some cs=>k (.v true cs)
   | none=>none
  | some (.array _ e),some z=>if !okT X.P e then none else match zK (fun i=>some (i*bI X.P e,bI X.P e)) z (parts.toList.map fun p=>(p.1,S.ev p.2)) with
   | some cs=>k (.v true cs)
   | none=>none
  | _,_=>none
 | .slice t x lo hi none=>match X.P.underlying t,S.ev x with
  | some .string,.v false [.str s]=>match bnd 0 (lo.map S.ev),bnd s.length (hi.map S.ev) with
   | some a,some b=>chk (decide (0<=a)&&decide (a<=b)&&decide (b<=s.length)) (k (.v false [.str ((s.take b.toNat).drop a.toNat)]))
   | _,_=>none
  | some (.slice e),.v false [.sl ty l]=>
   if okT X.P e&&Nat.beq (bI X.P e) ty.size then
   (match bnd 0 (lo.map S.ev),bnd l.length (hi.map S.ev) with
   | some a,some b=>chk (decide (0<=a)&&decide (a<=b)&&decide (b<=l.length)) (k (.v false [.sl ty ((l.take b.toNat).drop a.toNat)]))
   | _,_=>none)
   else none
  | some (.slice e),.v false [.row j]=>match look M.rows j with
   | some q=>if q.fz&&okT X.P e&&Nat.beq (bI X.P e) q.t.size then
    (match bnd 0 (lo.map S.ev),bnd q.l.length (hi.map S.ev) with
    | some a,some b=>chk (decide (0<=a)&&decide (a<=b)&&decide (b<=q.l.length)) (k (.v false [.sl q.t ((q.l.take b.toNat).drop a.toNat)]))
    | _,_=>none)
    else none
   | none=>none
  | _,_=>none
 | .makeFunc (.func g) first caps=>match allRefs (caps.toList.map S.ev) with
  | some ks=>if first.isEmpty then k (.v false [.fn g ks]) else none
  | none=>none
 | .lookup t x ix ok=>match X.P.underlying t,S.ev x with
  | some (.map kt et),.v false [.mp j]=>match look M.objs j with
   | some (.map kk vv l)=>match gf M [] kk (S.ev ix),zl X.P et vv with
    | some key,some z=>if eX X.P kt kk then
     (if ok then k (.tup [C1 vv ((iX l key).getD z),(false,[.bool (iX l key).isSome])]) else k (kS vv ((iX l key).getD z))) else none
    | _,_=>none
   | _=>none
  | _,_=>none
 | .call c=>match c.callee with
  | .builtin b=>OQ X.P b c S M k
  | _=>none
 | _=>none
end Go.Dn
namespace Go.Dn
variable {β:Type}
structure Del where
 sv:SV
 box:Option (List CV)
 row:Option jk
 obj:Option lz
def St.app (S:St) (d:Option Tmp) (x:Del):St:=
 match d with
 | none=>S
 | some d=>
  { tmps:=S.tmps.set d x.sv,
    boxes:=match x.box with | some c=>(d,c)::S.boxes | none=>S.boxes,
    rows:=match x.row with | some r=>(d,r)::S.rows | none=>S.rows,
    objs:=match x.obj with | some r=>(d,r)::S.objs | none=>S.objs }
def Co:SV->Option (Option Nat)
 | .v false [.row j]=>some (some j)
 | .v false [.nils]=>some none
 | _=>none
def fL:SV->Option Nat
 | .v false [.ref k o]=>if Nat.beq o 0 then some k else none
 | _=>none
def Cn:SV->Option Nat
 | .v false [.mp j]=>some j
 | _=>none
def fZ (S:St) (e:TypeId) (t:Ty):CV->Option (List t.den)
 | .row j=>match look S.rows j with
  | some q=>if q.fz|| !Nat.beq q.e e then none else ki (b:=t) q.l
  | none=>none
 | .nils=>some []
 | _=>none
def jZ (S:St) (k v:Ty):CV->Option (List (k.den×v.den))
 | .mp j=>match look S.objs j with
  | some (.map _ _ l)=>NB l
  | _=>none
 | _=>none
def mO:SV->Option CV
 | .v false [c]=>some c
 | _=>none
def gX (S:St):(l:List OT)->List CV->Option (iH l)
 | [],[]=>some ()
 | [],_::_=>none
 | .val t::r,cs=>match pack S t cs with
  | some (x,cs')=>match gX S r cs' with
   | some y=>some (x,y)
   | none=>none
  | none=>none
 | .row e t::r,c::cs=>match fZ S e t c with
  | some x=>match gX S r cs with
   | some y=>some (x,y)
   | none=>none
  | none=>none
 | .row _ _::_,[]=>none
 | .map k v::r,c::cs=>match jZ S k v c with
  | some x=>match gX S r cs with
   | some y=>some (x,y)
   | none=>none
  | none=>none
 | .map _ _::_,[]=>none
def oO (S:St) (fz:Bool) (t:Ty):Option (List t.den):=
 match look S.objs bf with
 | some (.ar f _ l)=>if f&& !fz then none else ki (b:=t) l
 | _=>none
def ju (S:St) (fb:List Nat) (p:PM) (s:SV):Option p.den:=
 match p with
 | .val t=>gf S fb t s
 | .row e t=>match mO s with | some c=>fZ S e t c | none=>none
 | .mrow e t=>match mO s with | some c=>fZ S e t c | none=>none
 | .map k v=>match mO s with | some c=>jZ S k v c | none=>none
 | .box l=>match fL s with
  | some k=>match look S.boxes k with
   | some cs=>gX S l cs
   | none=>none
  | none=>none
 | .ar t=>oO S false t
 | .arR t=>oO S true t
def cy (S:St) (fb:List Nat):(ps:List PM)->List SV->Option (eU ps)
 | [],[]=>some ()
 | [],_::_=>none
 | p::r,l=>match (bif p.arg then l.head? else some (.v false [.any])) with
  | some s=>match ju S fb p s with
   | some x=>match cy S fb r (bif p.arg then l.tail else l) with
    | some y=>some (x,y)
    | none=>none
   | none=>none
  | none=>none
def PM.isVal:PM->Bool
 | .val _=>true
 | .arR _=>true
 | _=>false
def og:List RM->Bool
 | []=>true
 | .val _::r=>og r
 | _=>false
def Dm (ps:List PM):(rs:List RM)->cJ ps rs->List (Bool×List CV)
 | [],_=>[]
 | .val t::r,x=>C1 t x.1::Dm ps r x.2
 | .row _ _::r,x=>(false,[.any])::Dm ps r x.2
 | .map _ _::r,x=>(false,[.any])::Dm ps r x.2
 | .box _::r,x=>(false,[.any])::Dm ps r x.2
def sM:List (Bool×List CV)->SV
 | [p]=> .v p.1 p.2
 | []=> .v false [.any]
 | l=> .tup l
def cQ (S:St) (c:Call):Option (Nat×List SV):=
 match c.callee with
 | .value f=>match S.ev f with
  | .v false [.fn g ks]=>some (g,c.args.toList.map S.ev++ks.map fun k=> .v false [.ref k 0])
  | .v false [.clo g t x]=>some (g,c.args.toList.map S.ev++(unpack t x).map fun c=> .v false [c])
  | _=>none
 | _=>none
def pe:List SV->List Nat
 | []=>[]
 | .v _ cs::r=>(cs.flatMap fun | .ref k _=>[k] | .fn _ ks=>ks | _=>[])++pe r
 | .tup _::r=>pe r
def fo (cs:List CV):List Nat:=cs.filterMap fun | .row j=>some j | _=>none
def xH:List SV->List Nat
 | []=>[]
 | .v _ cs::r=>fo cs++xH r
 | .tup _::r=>xH r
def qo (S:St):List Nat->List Nat
 | []=>[]
 | k::r=>(match look S.boxes k with | some cs=>fo cs | none=>[])++qo S r
def FK (S:St):List Nat->List Nat
 | []=>[]
 | k::r=>(match look S.boxes k with | some cs=>pe [.v false cs] | none=>[])++FK S r
def fC (S:St) (args:List SV):List Nat:=pe args++FK S (pe args)
def dI (S:St) (args:List SV):List Nat:=xH args++qo S (fC S args)
def ay (S:St) (js:List Nat):St:=
 { S with rows:=js.foldl (fun rs j=>match look rs j with | some q=>(j,{ q with fz:=true })::rs | none=>rs) S.rows }
def yJ (S:St) (args:List SV):Bool:=(fC S args).isEmpty&&((xH args).all fun j=>match look S.rows j with | some q=>q.fz | none=>true)
def yQ:List RM->Bool
 | []=>true
 | .val t::r=>t.flat&&yQ r
 | _=>false
def MR (sp:aq) (M:St) (args:List SV) (k:SV->Option β):Option β:=
 if sp.ps.all PM.isVal&&og sp.rs&&(yQ sp.rs||(yJ M args&&sp.ps.all PM.arg)) then
  match cy (ay M (dI M args)) (fC M args) sp.ps args with
  | some x=>(sp.m x).bind fun y=>k (sM (Dm sp.ps sp.rs y))
  | none=>none
 else none
def vm (S:St) (t:Ty):List SV->Option (List t.den)
 | []=>some []
 | s::r=>match gf S [] t s with
  | some x=>match vm S t r with
   | some l=>some (x::l)
   | none=>none
  | none=>none
def P2 (d:Nat) (ps:List PM):(rs:List RM)->cJ ps rs->(Del->Option β)->Option β
 | [.row e t],x,k=>k ⟨.v false [.row d],none,some ⟨false,e,t,x.1⟩,none⟩
 | [.row e t,.map kk vv],x,k=>k ⟨.tup [(false,[.row d]),(false,[.mp d])],none,some ⟨false,e,t,x.1⟩,some (.map kk vv x.2.1)⟩
 | [.row e t,.val t2],x,k=>k ⟨.tup [(false,[.row d]),C1 t2 x.2.1],none,some ⟨false,e,t,x.1⟩,none⟩
 | _,_,_=>none
def SX:List RM->Bool
 | [.row _ _]=>true
 | [.row _ _,.map _ _]=>true
 | [.row _ _,.val _]=>true
 | _=>false
def lf:List RM->Bool
 | [.row _ t]=>t.flat
 | [.row _ t,.map kk vv]=>t.flat&&(kk.flat&&vv.flat)
 | [.row _ t,.val t2]=>t.flat&&t2.flat
 | _=>false
def Hj (sp:aq) (S M:St) (args:List SV) (d:Nat) (k:Del->Option β):Option β:=
 if sp.ps.all PM.isVal&&(lf sp.rs||(yJ M args&&sp.ps.all PM.arg))&& !S.aP d&&Nat.blt d 2000&& !S.bg d&& !S.aV d then
  match cy (ay M (dI M args)) (fC M args) sp.ps args with
  | some x=>(sp.m x).bind fun y=>P2 d sp.ps sp.rs y k
  | none=>none
 else none
def Gt (X:Cx) (o:Oper) (t:TypeId) (len:Nat) (parts:Array (Nat×Operand)) (S M:St) (k:Del->Option β):Option β:=
 match X.P.underlying t,o.dst with
 | some (.slice e),some d=>match Ay X.P 9 e,zeroCells X.P e with
  | some ty,some _=>
   if S.aP d|| !Nat.blt d 2000|| !Nat.beq parts.size len|| !((parts.toList.map (·.1))==List.range len)|| !Nat.beq (bI X.P e) ty.size||Nat.beq ty.size 0|| !Nat.ble (len*ty.size) 16777216 then none else
   match vm M ty (parts.toList.map fun p=>S.ev p.2) with
   | some l=>k ⟨.v false [.row d],none,some ⟨false,e,ty,l⟩,none⟩
   | none=>none
  | _,_=>none
 | _,_=>none
def Pm (X:Cx) (o:Oper):Bool:=match o.dst with
 | some d=>(match look X.keys (100000+d) with | some .own=>true | _=>false)
 | none=>false
def K3 (X:Cx) (S M:St) (f:Nat) (args:List SV) (d:Option Tmp) (k:Del->Option β):Option β:=
 match look X.keys f with
 | some (.mk g)=>match args with
  | [.v false [.mp j]]=>k ⟨.v false [.kseq g j],none,none,none⟩
  | _=>none
 | some (.srt g _ e)=>match args,d with
  | [.v false [.kseq g' j]],some d=>match look M.objs j with
   | some (.map (.int .i64) _ l)=>if Nat.beq g g'&& !S.aP d&&Nat.blt d 2000 then chk (Pf l) (k ⟨.v false [.row d],none,some ⟨false,e,.int .i64,J3 l⟩,none⟩) else none
   | _=>none
  | _,_=>none
 | some (.srt2 g _ e cl cf)=>match args,d with
  | [.v false [.kseq g' j],.v false [.fn cl' []]],some d=>match look M.objs j with
   | some (.map (.st (.pair .str .str)) _ l)=>if Nat.beq g g'&&Nat.beq cl cl'&& !S.aP d&&Nat.blt d 2000 then chk (M4 cf l) (k ⟨.v false [.row d],none,some ⟨false,e,.st (.pair .str .str),zS cf l⟩,none⟩) else none
   | _=>none
  | _,_=>none
 | some (.cop sz lo b e t)=>match args,d with
  | [.v true cs],some d=>match cs[lo]? with
   | some (.sl t' l)=>match ki (b:=t) (show List t'.den from l) with
    | some l=>if !Nat.beq cs.length sz||(S.aP d||(cs.any (CV.aP d)||(!Nat.blt d 2000|| !cs.all CV.ok))) then none else
     chk (decide (l.length*b<=140737488355328)&&decide (l.length<=maxLen)) (k ⟨.v true (cs.set lo (.row d)),none,some ⟨false,e,t,l⟩,none⟩)
    | none=>none
   | _=>none
  | _,_=>none
 | _=>none
def dw (X:Cx) (o:Oper) (S M:St) (k:Del->Option β):Option β:=
 match o.op with
 | .alloc t=>match zeroCells X.P t,o.dst with
  | some z,some d=>if S.bE d||z.any (CV.bE d)|| !Nat.blt d 2000 then none else k ⟨.v false [.ref d 0],some z,none,none⟩
  | _,_=>none
 | .box t x=>match S.ev x,o.dst with
  | .v a cs,some d=>if S.bE d||cs.any (CV.bE d)|| !Nat.blt d 2000|| !Nat.beq cs.length (bI X.P t)||(a != l7 X.P t)|| !cs.all CV.ok then none else k ⟨.v false [.ref d 0],some cs,none,none⟩
  | _,_=>none
 | .buildSlice t len parts=>if Pm X o then Gt X o t len parts S M k else match X.P.underlying t with
  | some (.slice e)=>match Ay X.P 9 e,zeroCells X.P e with
   | some ty,some _=>
    if !Nat.beq parts.size len|| !((parts.toList.map (·.1))==List.range len)|| !Nat.beq (bI X.P e) ty.size||Nat.beq ty.size 0|| !Nat.ble (len*ty.size) 16777216 then none else
    match vm M ty (parts.toList.map fun p=>S.ev p.2) with
    | some l=>k ⟨.v false [.sl ty l],none,none,none⟩
    | none=>none
   | _,_=>none
  | _=>none
 | .makeSlice t l c=>match X.P.underlying t,o.dst,S.ev l,S.ev c with
  | some (.slice e),some d,.v false [.int _ l],.v false [.int _ c]=>match Ay X.P 9 e with
   | some ty=>match zl X.P e ty with
    | some z=>
     if S.aP d|| !Nat.blt d 2000|| !Nat.beq (bI X.P e) ty.size||Nat.beq ty.size 0 then none else
     chk (decide (0<=l)&&decide (l<=c)&&decide (((((X.P.info? e).map (·.bytes)).getD 0:Nat):Int)*c<=281474976710656)&&decide (c<=9223372036854775807)) (k ⟨.v false [.row d],none,some ⟨false,e,ty,List.replicate l.toNat z⟩,none⟩)
    | _=>none
   | _=>none
  | _,_,_,_=>none
 | .makeMap t none=>match X.P.underlying t,o.dst with
  | some (.map kt et),some d=>match Ay X.P 9 kt,Ay X.P 9 et with
   | some kk,some vv=>if S.bg d||S.aV d|| !eX X.P kt kk|| !Nat.blt d 2000 then none else k ⟨.v false [.mp d],none,none,some (.map kk vv [])⟩
   | _,_=>none
  | _,_=>none
 | .call c=>match cQ S c with
  | some (f,args)=>match look X.specs f with
   | some sp=>if SX sp.rs then (match o.dst with | some d=>Hj sp S M args d k | none=>none) else MR sp M args fun s=>k ⟨s,none,none,none⟩
   | none=>K3 X S M f args o.dst k
  | none=>cG X o S M fun s=>k ⟨s,none,none,none⟩
 | _=>cG X o S M fun s=>k ⟨s,none,none,none⟩
def aM.beq:aM->aM->Bool
 | .inl a,.inl b=>Nat.beq a b
 | .inr a,.inr b=>Nat.beq a b
 | .ob a,.ob b=>Nat.beq a b
 | _,_=>false
def br:List (aM×Nat)->aM->Option Nat
 | [],_=>none
 | (o,n)::r,x=>bif aM.beq o x then some n else br r x
def qJ:List (aM×Nat)->Bool
 | []=>false
 | (o,_)::r=>(br r o).isSome||qJ r
def jK (n:Nat):CV->List (aM×Nat)
 | .row j=>[(.inr j,n)]
 | .mp j=>[(.ob j,n)]
 | _=>[]
def iB (n:Nat):List OT->List CV->List (aM×Nat)
 | .val t::r,cs=>iB (n+1) r (cs.drop t.size)
 | .row _ _::r,c::cs=>jK n c++iB (n+1) r cs
 | .map _ _::r,c::cs=>jK n c++iB (n+1) r cs
 | _,_=>[]
def fM (S:St) (i:Nat) (p:PM) (s:SV):List (aM×Nat):=
 match p with
 | .row _ _=>match mO s with | some c=>jK (64*i) c | none=>[]
 | .mrow _ _=>match mO s with | some c=>jK (64*i) c | none=>[]
 | .map _ _=>match mO s with | some c=>jK (64*i) c | none=>[]
 | .box l=>match fL s with
  | some k=>(.inl k,64*i)::(match look S.boxes k with | some cs=>iB (64*i+1) l cs | none=>[])
  | none=>[]
 | .ar _=>[(.ob bf,64*i)]
 | _=>[]
def dF (S:St):Nat->List PM->List SV->List (aM×Nat)
 | _,[],_=>[]
 | i,p::r,l=>(match (bif p.arg then l.head? else some (.v false [.any])) with
  | some s=>fM S i p s
  | none=>[])++dF S (i+1) r (bif p.arg then l.tail else l)
def de:List PM->List SV->List SV
 | .val _::r,s::q=>s::de r q
 | .ar _::r,q=>de r q
 | .arR _::r,q=>de r q
 | _::r,_::q=>de r q
 | _,_=>[]
def jG:List OT->Bool
 | []=>true
 | .val t::r=>t.flat&&jG r
 | .row _ t::r=>t.flat&&jG r
 | .map k v::r=>k.flat&&v.flat&&jG r
def eo:List PM->Bool
 | []=>true
 | .mrow _ t::r=>t.flat&&eo r
 | .map k v::r=>k.flat&&v.flat&&eo r
 | .box l::r=>jG l&&eo r
 | .ar t::r=>t.flat&&eo r
 | _::r=>eo r
def dX:List RM->Bool
 | []=>true
 | .val t::r=>t.flat&&dX r
 | .row _ t::r=>t.flat&&dX r
 | .map k v::r=>k.flat&&v.flat&&dX r
 | .box l::r=>jG l&&dX r
def dup:List Nat->Bool
 | []=>false
 | x::r=>r.any (Nat.beq x)||dup r
def nid (d i c:Nat):Nat:=10000+2048*d+64*i+c
def z8 (d i:Nat):Nat->(l:List OT)->iH l->List CV
 | _,[],_=>[]
 | c,.val t::r,x=>unpack t x.1++z8 d i (c+1) r x.2
 | c,.row _ _::r,x=> .row (nid d i c)::z8 d i (c+1) r x.2
 | c,.map _ _::r,x=> .mp (nid d i c)::z8 d i (c+1) r x.2
def jH (d i:Nat):Nat->(l:List OT)->iH l->List (Nat×jk)
 | _,[],_=>[]
 | c,.val _::r,x=>jH d i (c+1) r x.2
 | c,.row e t::r,x=>(nid d i c,⟨false,e,t,x.1⟩)::jH d i (c+1) r x.2
 | c,.map _ _::r,x=>jH d i (c+1) r x.2
def gW (d i:Nat):Nat->(l:List OT)->iH l->List (Nat×lz)
 | _,[],_=>[]
 | c,.val _::r,x=>gW d i (c+1) r x.2
 | c,.row _ _::r,x=>gW d i (c+1) r x.2
 | c,.map k v::r,x=>(nid d i c,.map k v x.1)::gW d i (c+1) r x.2
def oN (ps:List PM) (d:Nat):(rs:List RM)->Nat->cJ ps rs->List (Bool×List CV)
 | [],_,_=>[]
 | .val t::r,c,x=>C1 t x.1::oN ps d r (c+1) x.2
 | .row _ _::r,c,x=>(false,[.row (nid d (24+c) 0)])::oN ps d r (c+1) x.2
 | .map _ _::r,c,x=>(false,[.mp (nid d (24+c) 0)])::oN ps d r (c+1) x.2
 | .box _::r,c,x=>(false,[.ref d 0])::oN ps d r (c+1) x.2
def jJ (ps:List PM) (d:Nat):(rs:List RM)->Nat->cJ ps rs->List (Nat×jk)
 | [],_,_=>[]
 | .val _::r,c,x=>jJ ps d r (c+1) x.2
 | .row e t::r,c,x=>(nid d (24+c) 0,⟨false,e,t,x.1⟩)::jJ ps d r (c+1) x.2
 | .map _ _::r,c,x=>jJ ps d r (c+1) x.2
 | .box l::r,c,x=>jH d (24+c) 1 l x.1++jJ ps d r (c+1) x.2
def gF (ps:List PM) (d:Nat):(rs:List RM)->Nat->cJ ps rs->List (Nat×lz)
 | [],_,_=>[]
 | .val _::r,c,x=>gF ps d r (c+1) x.2
 | .row _ _::r,c,x=>gF ps d r (c+1) x.2
 | .map k v::r,c,x=>(nid d (24+c) 0,.map k v x.1)::gF ps d r (c+1) x.2
 | .box l::r,c,x=>gW d (24+c) 1 l x.1++gF ps d r (c+1) x.2
def jI (ps:List PM) (d:Nat):(rs:List RM)->Nat->cJ ps rs->List (Nat×List CV)
 | [],_,_=>[]
 | .val _::r,c,x=>jI ps d r (c+1) x.2
 | .row _ _::r,c,x=>jI ps d r (c+1) x.2
 | .map _ _::r,c,x=>jI ps d r (c+1) x.2
 | .box l::r,c,x=>(d,z8 d (24+c) 1 l x.1)::jI ps d r (c+1) x.2
def q8 (ps:List PM):(rs:List RM)->cJ ps rs->dh ps
 | [],x=>x
 | _::r,x=>q8 ps r x.2
def sA:List RM->Nat
 | []=>0
 | .box _::r=>sA r+1
 | _::r=>sA r
def cg (d:Nat):Nat->(ps:List PM)->List SV->dh ps->List (Nat×List CV)
 | _,[],_,_=>[]
 | i,.box l::r,s::q,x=>(match fL s with | some k=>[(k,z8 d i 1 l x.1)] | none=>[])++cg d (i+1) r q x.2
 | i,.mrow _ _::r,_::q,x=>cg d (i+1) r q x.2
 | i,.map _ _::r,_::q,x=>cg d (i+1) r q x.2
 | i,.ar _::r,q,x=>cg d (i+1) r q x.2
 | i,.val _::r,_::q,x=>cg d (i+1) r q x
 | i,.row _ _::r,_::q,x=>cg d (i+1) r q x
 | i,.arR _::r,q,x=>cg d (i+1) r q x
 | _,_::_,[],_=>[]
def dR (d:Nat):Nat->(ps:List PM)->List SV->dh ps->List (Nat×jk)
 | _,[],_,_=>[]
 | i,.box l::r,s::q,x=>(match fL s with | some _=>jH d i 1 l x.1 | none=>[])++dR d (i+1) r q x.2
 | i,.mrow e t::r,s::q,x=>(match Co s with | some (some j)=>[(j,⟨false,e,t,x.1⟩)] | _=>[])++dR d (i+1) r q x.2
 | i,.map _ _::r,_::q,x=>dR d (i+1) r q x.2
 | i,.ar _::r,q,x=>dR d (i+1) r q x.2
 | i,.val _::r,_::q,x=>dR d (i+1) r q x
 | i,.row _ _::r,_::q,x=>dR d (i+1) r q x
 | i,.arR _::r,q,x=>dR d (i+1) r q x
 | _,_::_,[],_=>[]
def cC (d:Nat):Nat->(ps:List PM)->List SV->dh ps->List (Nat×lz)
 | _,[],_,_=>[]
 | i,.box l::r,s::q,x=>(match fL s with | some _=>gW d i 1 l x.1 | none=>[])++cC d (i+1) r q x.2
 | i,.mrow _ _::r,_::q,x=>cC d (i+1) r q x.2
 | i,.map k v::r,s::q,x=>(match Cn s with | some j=>[(j,.map k v x.1)] | _=>[])++cC d (i+1) r q x.2
 | i,.ar t::r,q,x=>(bf,.ar false t x.1)::cC d (i+1) r q x.2
 | i,.val _::r,_::q,x=>cC d (i+1) r q x
 | i,.row _ _::r,_::q,x=>cC d (i+1) r q x
 | i,.arR _::r,q,x=>cC d (i+1) r q x
 | _,_::_,[],_=>[]
def CV.er (a b:Nat):CV->Bool
 | .row j=>Nat.ble a j&&Nat.blt j b
 | .rp j _ _ _=>Nat.ble a j&&Nat.blt j b
 | .mp j=>Nat.ble a j&&Nat.blt j b
 | .stp j _=>Nat.ble a j&&Nat.blt j b
 | .kseq _ j=>Nat.ble a j&&Nat.blt j b
 | _=>false
def SV.er (a b:Nat):SV->Bool
 | .v _ cs=>cs.any (CV.er a b)
 | .tup l=>l.any fun p=>p.2.any (CV.er a b)
def St.er (a b:Nat) (S:St):Bool:=S.tmps.any (SV.er a b)||S.boxes.any fun p=>p.2.any (CV.er a b)
def mZ (d:Nat) (S:St):Bool:= !S.er (nid d 0 0) (nid (d+1) 0 0)
def dD (d i:Nat):Nat->List OT->List (aM×Nat)
 | _,[]=>[]
 | c,.val _::r=>dD d i (c+1) r
 | c,.row _ _::r=>(.inr (nid d i c),64*i+c)::dD d i (c+1) r
 | c,.map _ _::r=>(.ob (nid d i c),64*i+c)::dD d i (c+1) r
def bM (d:Nat):Nat->List PM->List SV->List (aM×Nat)
 | _,[],_=>[]
 | i,.box l::r,s::q=>(match fL s with | some k=>(.inl k,64*i)::dD d i 1 l | none=>[])++bM d (i+1) r q
 | i,.mrow _ _::r,s::q=>(match Co s with | some (some j)=>[(.inr j,64*i)] | _=>[])++bM d (i+1) r q
 | i,.map _ _::r,s::q=>(match Cn s with | some j=>[(.ob j,64*i)] | _=>[])++bM d (i+1) r q
 | i,.ar _::r,q=>(.ob bf,64*i)::bM d (i+1) r q
 | i,.val _::r,_::q=>bM d (i+1) r q
 | i,.row _ _::r,_::q=>bM d (i+1) r q
 | i,.arR _::r,q=>bM d (i+1) r q
 | _,_::_,[]=>[]
def cX (d:Nat):Nat->List RM->List (aM×Nat)
 | _,[]=>[]
 | c,.val _::r=>cX d (c+1) r
 | c,.row _ _::r=>(.inr (nid d (24+c) 0),64*(24+c))::cX d (c+1) r
 | c,.map _ _::r=>(.ob (nid d (24+c) 0),64*(24+c))::cX d (c+1) r
 | c,.box l::r=>((.inl d,64*(24+c))::dD d (24+c) 1 l)++cX d (c+1) r
def qM:List PM->Bool
 | []=>false
 | .arR _::_=>true
 | _::r=>qM r
def EV (S:St) (l:List (aM×Nat)):Bool:=l.all fun p=>match p.1 with | .ob j=> !S.aV j | _=>true
def N5 (d:Nat) (l:List (aM×Nat)):Bool:=l.all fun p=>match p.1 with
 | .inr j=> !(Nat.ble (nid d 0 0) j&&Nat.blt j (nid (d+1) 0 0))
 | .ob j=> !(Nat.ble (nid d 0 0) j&&Nat.blt j (nid (d+1) 0 0))
 | .inl _=>true
def gu (sp:aq) (S:St) (args:List SV) (d:Option Tmp) (k:St->Option β):Option β:=
 let va:=de sp.ps args
 let js:=dI S va
 let V:=ay S js
 let ow:=dF S 0 sp.ps args
 let fb:=fC S va
 let dd:=d.getD 0
 let fl:=dX sp.rs&&eo sp.ps
 let its:=bM dd 0 sp.ps args++cX dd 0 sp.rs
 if qJ ow||qJ its||dup (its.map (·.2))|| !(its.all fun p=>Nat.blt p.2 2048)||(fb.any fun k=>(br ow (.inl k)).isSome)||(js.any fun j=>(br ow (.inr j)).isSome)||(qM sp.ps&&(br ow (.ob bf)).isSome)|| !mZ dd S|| !N5 dd ow|| !EV S its||
  !(fl||(fb.isEmpty&& !qM sp.ps))||(Nat.blt 0 (sA sp.rs)&&(S.bE dd||d.isNone))|| !Nat.blt dd 2000 then none else
 match cy V fb sp.ps args with
 | some x=>(sp.m x).bind fun y=>
  let R:=if fl then S else V
  let b:=q8 sp.ps sp.rs y
  k { tmps:=match d with | some d=>S.tmps.set d (sM (oN sp.ps dd sp.rs 0 y)) | none=>S.tmps,
      boxes:=jI sp.ps dd sp.rs 0 y++(cg dd 0 sp.ps args b++S.boxes.filter fun p=>(br ow (.inl p.1)).isNone),
      rows:=jJ sp.ps dd sp.rs 0 y++(dR dd 0 sp.ps args b++R.rows.filter fun p=>(br ow (.inr p.1)).isNone),
      objs:=gF sp.ps dd sp.rs 0 y++(cC dd 0 sp.ps args b++S.objs.filter fun p=>(br ow (.ob p.1)).isNone) }
 | none=>none
def SW {α:Type} (a:Option α) (k:α->Option β) (e:Option β):Option β:=
 match a with
 | some y=>k y
 | none=>e
def Ez (sp:aq) (S:St) (args:List SV) (d:Option Tmp) (k:St->Option β) (e:Option β):Option β:=
 let va:=de sp.ps args
 let js:=dI S va
 let V:=ay S js
 let ow:=dF S 0 sp.ps args
 let fb:=fC S va
 let dd:=d.getD 0
 let fl:=dX sp.rs&&eo sp.ps
 let its:=bM dd 0 sp.ps args++cX dd 0 sp.rs
 if qJ ow||qJ its||dup (its.map (·.2))|| !(its.all fun p=>Nat.blt p.2 2048)||(fb.any fun k=>(br ow (.inl k)).isSome)||(js.any fun j=>(br ow (.inr j)).isSome)||(qM sp.ps&&(br ow (.ob bf)).isSome)|| !mZ dd S|| !N5 dd ow|| !EV S its||
  !(fl||(fb.isEmpty&& !qM sp.ps))||(Nat.blt 0 (sA sp.rs)&&(S.bE dd||d.isNone))|| !Nat.blt dd 2000 then none else
 match cy V fb sp.ps args with
 | some x=>SW (sp.m x) (fun y=>
  let R:=if fl then S else V
  let b:=q8 sp.ps sp.rs y
  k { tmps:=match d with | some d=>S.tmps.set d (sM (oN sp.ps dd sp.rs 0 y)) | none=>S.tmps,
      boxes:=jI sp.ps dd sp.rs 0 y++(cg dd 0 sp.ps args b++S.boxes.filter fun p=>(br ow (.inl p.1)).isNone),
      rows:=jJ sp.ps dd sp.rs 0 y++(dR dd 0 sp.ps args b++R.rows.filter fun p=>(br ow (.inr p.1)).isNone),
      objs:=gF sp.ps dd sp.rs 0 y++(cC dd 0 sp.ps args b++S.objs.filter fun p=>(br ow (.ob p.1)).isNone) }) e
 | none=>none
def kI {α:Type}:List (Nat×α)->Nat->List α
 | [],_=>[]
 | (j,x)::r,k=>bif Nat.beq j k then x::kI r k else kI r k
def mV (S:St) (args:List SV) (d:Option Tmp) (k:St->Option β):List aq->Option β
 | []=>none
 | [sp]=>gu sp S args d k
 | sp::sp'::r=>Ez sp S args d k (mV S args d k (sp'::r))
def Fl (S:St) (e:TypeId) (ty:Ty):CV->Option (List ty.den×Option Nat)
 | .nils=>some ([],none)
 | .row j=>match look S.rows j with
  | some q=>if q.fz|| !Nat.beq q.e e then none else (match ki (b:=ty) q.l with | some l=>some (l,some j) | none=>none)
  | none=>none
 | _=>none
def Bl (S:St) (ty:Ty):CV->Option (List ty.den)
 | .nils=>some []
 | .sl _ l=>ki (b:=ty) l
 | .row j=>match look S.rows j with
  | some q=>ki (b:=ty) q.l
  | none=>none
 | _=>none
def nF (P:Program) (t:TypeId) (S:St) (b off:Nat) (cs:List CV) (k:St->Option β):Option β:=
 match look S.boxes b with
 | some l=>if okT P t&&Nat.beq cs.length (bI P t)&&cs.all CV.ok then (match setAt l off cs with
  | some l=>k { S with boxes:=(b,l)::S.boxes }
  | none=>none) else none
 | none=>none
def sL (P:Program) (t:TypeId) (S:St) (j sz i off:Nat) (cs:List CV) (k:St->Option β):Option β:=
 match look S.rows j with
 | some q=>if q.fz|| !Nat.beq sz q.t.size|| !okT P t|| !Nat.beq cs.length (bI P t)|| !cs.all CV.ok then none else
  (q.l[i]?).bind fun y=>match setAt (unpack q.t y) off cs with
  | some cs=>match fN (pack S q.t cs) with
   | some y=>k { S with rows:=(j,{ q with l:=q.l.set i y })::S.rows }
   | none=>none
  | none=>none
 | none=>none
def vq (P:Program) (t:TypeId) (S:St) (h off:Nat) (cs:List CV) (k:St->Option β):Option β:=
 match look S.objs bf with
 | some (.ar false ty l)=>if !okT P t|| !Nat.beq cs.length (bI P t)|| !cs.all CV.ok then none else
  (l[h]?).bind fun y=>match setAt (unpack ty y) off cs with
  | some cs=>match fN (pack S ty cs) with
   | some y=>k { S with objs:=(bf,.ar false ty (l.set h y))::S.objs }
   | none=>none
  | none=>none
 | _=>none
def CV.pN (k h:Nat):CV->CV
 | .ref j o=>bif Nat.beq j k then .hnd (some h) o else .ref j o
 | c=>c
def SV.pN (k h:Nat):SV->SV
 | .v a cs=> .v a (cs.map (CV.pN k h))
 | .tup l=> .tup (l.map fun p=>(p.1,p.2.map (CV.pN k h)))
def CV.zL (k:Nat):CV->Bool
 | .fn _ ks=>ks.any (Nat.beq · k)
 | _=>false
def SV.zL (k:Nat):SV->Bool
 | .v _ cs=>cs.any (CV.zL k)
 | .tup l=>l.any fun p=>p.2.any (CV.zL k)
def St.zL (k:Nat) (S:St):Bool:=S.tmps.any (SV.zL k)||S.boxes.any fun p=>p.2.any (CV.zL k)
def vj (S0:St) (k:Nat):St:=
 match look S0.objs bf,look S0.boxes k with
 | some (.ar false t l),some cs=>
  let S:=ay S0 (fo cs)
  if S.zL k|| !Nat.blt k 2000 then S0 else
  match fN (pack S t cs) with
  | some x=>
   { tmps:=S.tmps.map (SV.pN k l.length),boxes:=(S.boxes.filter fun p=> !Nat.beq p.1 k).map (fun p=>(p.1,p.2.map (CV.pN k l.length))),rows:=S.rows,objs:=(bf,.ar false t (l++[x]))::S.objs }
  | none=>S0
 | _,_=>S0
def PY (cs:List CV):List Nat:=cs.filterMap fun | .ref k o=>(if Nat.beq o 0 then some k else none) | _=>none
def gw (S:St):List SV->St
 | []=>S
 | .v _ cs::r=>gw ((PY cs).foldl vj S) r
 | .tup _::r=>gw S r
def si (S:St) (d:Option Tmp):St:=
 match d with
 | some d=>(match S.tmps.getD d (.v false [.any]) with
  | .v false [.ref k _]=>bif Nat.beq k d then { S with tmps:=S.tmps.set d (.v false [.any]) } else S
  | _=>S)
 | none=>S
def C9 (E:Be) (S:St) (args:List SV) (d:Option Tmp) (k:St->Option β):Option β:=
 match E with
 | .elt lo nb tb te m=>match args with
  | [.v false [.ref kb o],.v false [.rp j sz i off]]=>
   if !Nat.beq o 0|| !Nat.beq off 0 then none else
   match look S.boxes kb,look S.rows j with
   | some cs,some q=>
    if q.fz|| !Nat.beq sz te.size|| !Nat.beq cs.length nb then none else
    match cs[lo]? with
    | some (.sl _ l)=>match ki (b:=tb) l,ki (b:=te) q.l with
     | some l,some ql=>(m l ql i).bind fun ql'=>k ((⟨S.tmps,(kb,cs)::S.boxes,(j,⟨false,q.e,te,ql'⟩)::S.rows,S.objs⟩:St).put d (.v false [.any]))
     | _,_=>none
    | _=>none
   | _,_=>none
  | _=>none
 | .nest p sp=>match args[p]? with
  | some (.v false [.ref km o])=>
   if !Nat.beq o 0|| !S.bE km then none else
   match look S.boxes km with
   | some [.ref kk o2]=>
    if !Nat.beq o2 0||inL (fC S (de sp.ps (args.set p (.v false [.ref kk 0])))) km||(br (dF S 0 sp.ps (args.set p (.v false [.ref kk 0]))) (.inl km)).isSome then none else
    gu sp S (args.set p (.v false [.ref kk 0])) d fun S'=>match look S'.boxes km with
     | some [.ref k' o']=>if Nat.beq k' kk&&Nat.beq o' 0&&S.bE kk then k S' else none
     | _=>none
   | _=>none
  | _=>none
 | _=>none
def Be.Rj:Be->Bool
 | .elt _ _ _ _ _=>true
 | .nest _ _=>true
 | _=>false
def bY (X:Cx) (o:Oper) (S:St) (k:St->Option β):Option β:=
 match o.op with
 | .store t a x=>if o.dst.isSome then none else match S.ev a,S.ev x with
  | .v false [.ref b off],.v _ cs=>nF X.P t S b off cs k
  | .v false [.rp j sz i off],.v _ cs=>sL X.P t (ay S (fo cs)) j sz i off cs k
  | .v false [.hnd (some h) off],.v _ cs=>vq X.P t (ay S (fo cs)) h off cs k
  | _,_=>none
 | .mapUpdate t m kx x=>if o.dst.isSome then none else
  let S:=gw (ay S (xH [S.ev x])) [S.ev x]
  match X.P.underlying t,S.ev m with
  | some (.map kt _),.v false [.mp j]=>match look S.objs j with
   | some (.map kk vv l)=>match gf S [] kk (S.ev kx),gf S [] vv (S.ev x) with
    | some key,some y=>if eX X.P kt kk&& !S.aV j then k { S with objs:=(j,.map kk vv (sw l key y))::S.objs } else none
    | _,_=>none
   | _=>none
  | _,_=>none
 | .slice _ x _ _ _=>
  let S:=ay S (xH [S.ev x])
  dw X o S S fun x=>k (S.app o.dst x)
 | .alloc _=>dw X o (si S o.dst) (si S o.dst) fun x=>k ((si S o.dst).app o.dst x)
 | .call { callee:= .builtin .append,args,argTypes }=>match args.toList.map S.ev,argTypes.toList,o.dst with
  | [.v false [s],.v false [x]],[t,t'],some d=>match X.P.underlying t with
   | some (.slice e)=>match Ay X.P 9 e,zeroCells X.P e with
    | some ty,some zc=>
     if S.aP d|| !Nat.blt d 2000|| !Nat.beq t t'|| !Nat.beq (bI X.P e) ty.size||Nat.beq ty.size 0|| !Nat.beq zc.length ty.size then none else
     match Fl S e ty s,Bl S ty x with
     | some (l,j),some l'=>
      chk (decide ((l.length+l'.length)*(((X.P.info? e).map (·.bytes)).getD 0)<=140737488355328)&&decide (l.length+l'.length<=maxLen))
       (k { tmps:=S.tmps.set d (.v false [.row d]),boxes:=S.boxes,rows:=(d,⟨false,e,ty,l++l'⟩)::(match j with | some j=>S.rows.filter (fun p=> !Nat.beq p.1 j) | none=>S.rows),objs:=S.objs })
     | _,_=>none
    | _,_=>none
   | _=>none
  | _,_,_=>none
 | .buildSlice t len parts=>
  let S:=gw (ay S (xH (parts.toList.map fun p=>S.ev p.2))) (parts.toList.map fun p=>S.ev p.2)
  Gt X o t len parts S S fun x=>k (S.app o.dst x)
 | .call c=>match cQ S c with
  | some (f,args)=>match look X.keys f with
   | some kf=>if kf.Rj then C9 kf S args o.dst k else dw X o S S fun x=>k (S.app o.dst x)
   | none=>mV S args o.dst k (kI X.specs f)
  | none=>dw X o S S fun x=>k (S.app o.dst x)
 | _=>dw X o S S fun x=>k (S.app o.dst x)
def guardOf (ops:List Oper) (o:Oper) (S:St):Option (Option (Nat×Bool×Bool)):=
 match o.guard with
 | none=>some none
 | some (j,want)=>match ops[j]? with
  | some g=>match g.dst with
   | some d=>match S.ev (.tmp d) with
    | .v false [.bool b]=>some (some (d,b,want))
    | _=>none
   | none=>none
  | none=>none
def ji (ops:List Oper) (o:Oper) (S:St):Bool:=
 match o.guard with
 | none=>false
 | some (j,_)=>match ops[j]? with
  | some g=>match g.dst with
   | some d=>match S.ev (.tmp d) with
    | .tup []=>true
    | _=>false
   | none=>false
  | none=>false
def ku:SV:= .tup []
def fork (S:St) (d:Nat) (b want:Bool) (yes no:St->Option β):Option β:=
 bif want then (bif b then yes (S.put (some d) (.v false [.bool true])) else no (S.put (some d) (.v false [.bool false])))
 else (bif b then no (S.put (some d) (.v false [.bool true])) else yes (S.put (some d) (.v false [.bool false])))
def ja (X:Cx) (ops:List Oper):List Oper->St->(St->Option β)->Option β
 | [],S,k=>k S
 | o::rest,S,k=>match guardOf ops o S with
  | none=>bif ji ops o S then ja X ops rest (S.put o.dst ku) k else none
  | some none=>bY X o S fun S=>ja X ops rest S k
  | some (some (d,b,want))=>fork S d b want (fun S=>bY X o S fun S=>ja X ops rest S k)
   fun S=>ja X ops rest (S.put o.dst ku) k
def Ig (S:St) (t:Ty):Option (List t.den):=
 match look S.objs bf with
 | some (.ar true _ l)=>ki (b:=t) l
 | _=>none
def aU (S:St):(cs:List CK)->List CV->Option (cB cs)
 | [],[]=>some ()
 | [],_::_=>none
 | .val t::r,cvs=>match pack S t cvs with
  | some (x,q)=>match aU S r q with
   | some y=>some (x,y)
   | none=>none
  | none=>none
 | .own e t::r,c::q=>match fZ S e t c,aU S r q with
  | some l,some y=>some (l,y)
  | _,_=>none
 | .own _ _::_,[]=>none
 | .map kk vv::r,c::q=>match jZ S kk vv c,aU S r q with
  | some l,some y=>some (l,y)
  | _,_=>none
 | .map _ _::_,[]=>none
 | .ref k off::r,c::q=>match c with
  | .ref k' off'=>if Nat.beq k k'&&Nat.beq off off' then aU S r q else none
  | _=>none
 | .ref _ _::_,[]=>none
 | .fn g ks::r,c::q=>match c with
  | .fn g' ks'=>if Nat.beq g g'&&ks==ks' then aU S r q else none
  | _=>none
 | .fn _ _::_,[]=>none
 | .ar t::r,q=>match oO S false t,aU S r q with
  | some l,some y=>some (l,y)
  | _,_=>none
 | .arF t::r,q=>match Ig S t,aU S r q with
  | some l,some y=>some (l,y)
  | _,_=>none
 | .rowR j::r,c::q=>match c with
  | .row j'=>if Nat.beq j j' then aU S r q else none
  | _=>none
 | .rowR _::_,[]=>none
 | .rpR j sz::r,c::q=>match c with
  | .rp j' sz' i off=>if Nat.beq j j'&&(Nat.beq sz sz'&&Nat.beq off 0) then (match aU S r q with
   | some y=>some (i,y)
   | none=>none) else none
  | _=>none
 | .rpR _ _::_,[]=>none
 | .mapR j::r,c::q=>match c with
  | .mp j'=>if Nat.beq j j' then aU S r q else none
  | _=>none
 | .mapR _::_,[]=>none
 | .rowC j e t::r,q=>match fZ S e t (.row j),aU S r q with
  | some l,some y=>some (l,y)
  | _,_=>none
 | .mapC j k v::r,q=>match jZ S k v (.mp j),aU S r q with
  | some l,some y=>some (l,y)
  | _,_=>none
def CK.agg:CK->Bool
 | .val (.st _)=>true
 | _=>false
def CS (S:St):List (Nat×CK)->Option (List CV)
 | []=>some []
 | p::r=>match S.tmps.getD p.1 (.v false [.any]) with
  | .v a cs=>match CS S r with
   | some l=>if (a==p.2.agg)&&(Nat.beq cs.length p.2.size&&(a||Nat.beq p.2.size 1)) then some (cs++l) else none
   | none=>none
  | _=>none
def Br (S:St):List (Nat×List CK)->Option (List CV)
 | []=>some []
 | p::r=>match look S.boxes p.1 with
  | some cs=>if Nat.beq cs.length (jC p.2) then (match Br S r with
   | some l=>some (cs++l)
   | none=>none) else none
  | none=>none
def St.places (S:St) (A:Ann):Option (List CV):=
 match CS S A.tmps,Br S A.boxes with
 | some a,some b=>some (a++b)
 | _,_=>none
def carried (base:Nat):List CK->List CV->List (aM×Nat)
 | .val t::r,cvs=>carried base r (cvs.drop t.size)
 | .own _ _::r,c::q=>jK base c++carried (base+1) r q
 | .map _ _::r,c::q=>jK base c++carried (base+1) r q
 | .ref _ _::r,_::q=>carried base r q
 | .fn _ _::r,_::q=>carried base r q
 | .ar _::r,q=>(.ob bf,bf)::carried base r q
 | .arF _::r,q=>carried base r q
 | .rowR _::r,_::q=>carried base r q
 | .rpR _ _::r,_::q=>carried base r q
 | .mapR _::r,_::q=>carried base r q
 | .rowC j _ _::r,q=>(.inr j,j)::carried base r q
 | .mapC j _ _::r,q=>(.ob j,j)::carried base r q
 | _,_=>[]
def dc:Nat:=4000
def jm:List CK->Nat
 | []=>0
 | .own _ _::r=>jm r+1
 | .map _ _::r=>jm r+1
 | _::r=>jm r
def CK.mL (n:Nat):CK->Bool
 | .rowR j=>Nat.blt j dc||Nat.ble (dc+n) j
 | .rpR j _=>Nat.blt j dc||Nat.ble (dc+n) j
 | .rowC j _ _=>Nat.blt j dc||Nat.ble (dc+n) j
 | .mapR j=>Nat.blt j dc||Nat.ble (dc+n) j
 | .mapC j _ _=>Nat.blt j dc||Nat.ble (dc+n) j
 | _=>true
def Kr (A:Ann) (S:St):Option (cB A.cks):=
 match S.places A with
 | some cvs=>if !A.cks.all (CK.mL (jm A.cks))|| !Nat.blt A.cks.length 1000||qJ (carried dc A.cks cvs)||dup ((carried dc A.cks cvs).map (·.2)) then none else aU S A.cks cvs
 | none=>none
def B1:List CK->List CV->List Nat
 | .val t::r,cvs=>fo (cvs.take t.size)++B1 r (cvs.drop t.size)
 | .ar _::r,q=>B1 r q
 | .arF _::r,q=>B1 r q
 | .rowC _ _ _::r,q=>B1 r q
 | .mapC _ _ _::r,q=>B1 r q
 | _::r,_::q=>B1 r q
 | _,_=>[]
def carry (A:Ann) (S:St):Option (cB A.cks):=
 match S.places A with
 | some cvs=>Kr A (ay S (B1 A.cks cvs))
 | none=>none
def iS (base:Nat):(cs:List CK)->cB cs->List CV
 | [],_=>[]
 | .val t::r,x=>unpack t x.1++iS base r x.2
 | .own _ _::r,x=> .row base::iS (base+1) r x.2
 | .map _ _::r,x=> .mp base::iS (base+1) r x.2
 | .ref k off::r,x=> .ref k off::iS base r x
 | .fn g ks::r,x=> .fn g ks::iS base r x
 | .ar _::r,x=>iS base r x.2
 | .arF _::r,x=>iS base r x.2
 | .rowR j::r,x=> .row j::iS base r x
 | .rpR j sz::r,x=> .rp j sz x.1 0::iS base r x.2
 | .mapR j::r,x=> .mp j::iS base r x
 | .rowC _ _ _::r,x=>iS base r x.2
 | .mapC _ _ _::r,x=>iS base r x.2
def eG (base:Nat):(cs:List CK)->cB cs->List (Nat×jk)
 | [],_=>[]
 | .val _::r,x=>eG base r x.2
 | .own e t::r,x=>(base,⟨false,e,t,x.1⟩)::eG (base+1) r x.2
 | .map _ _::r,x=>eG (base+1) r x.2
 | .ref _ _::r,x=>eG base r x
 | .fn _ _::r,x=>eG base r x
 | .ar _::r,x=>eG base r x.2
 | .arF _::r,x=>eG base r x.2
 | .rowR _::r,x=>eG base r x
 | .rpR _ _::r,x=>eG base r x.2
 | .mapR _::r,x=>eG base r x
 | .rowC j e t::r,x=>(j,⟨false,e,t,x.1⟩)::eG base r x.2
 | .mapC _ _ _::r,x=>eG base r x.2
def cL (base:Nat):(cs:List CK)->cB cs->List (Nat×lz)
 | [],_=>[]
 | .val _::r,x=>cL base r x.2
 | .own _ _::r,x=>cL (base+1) r x.2
 | .map k v::r,x=>(base,.map k v x.1)::cL (base+1) r x.2
 | .ref _ _::r,x=>cL base r x
 | .fn _ _::r,x=>cL base r x
 | .ar t::r,x=>(bf,.ar false t x.1)::cL base r x.2
 | .arF t::r,x=>(bf,.ar true t x.1)::cL base r x.2
 | .rowR _::r,x=>cL base r x
 | .rpR _ _::r,x=>cL base r x.2
 | .mapR _::r,x=>cL base r x
 | .rowC _ _ _::r,x=>cL base r x.2
 | .mapC j k v::r,x=>(j,.map k v x.1)::cL base r x.2
def tX:List (Nat×CK)->List CV->List SV->List SV
 | p::r,q,tmps=>tX r (q.drop p.2.size) (tmps.set p.1 (.v p.2.agg (q.take p.2.size)))
 | [],_,tmps=>tmps
def Bq:List (Nat×List CK)->List CV->List (Nat×List CV)
 | p::r,cs=>(p.1,cs.take (jC p.2))::Bq r (cs.drop (jC p.2))
 | [],_=>[]
def head (A:Ann) (n:Nat) (x:cB A.cks):St:=
 let cvs:=iS dc A.cks x
 { tmps:=tX A.tmps cvs (List.replicate n (.v false [.any])),
   boxes:=Bq A.boxes (cvs.drop (jC (A.tmps.map (·.2)))),
   rows:=eG dc A.cks x,
   objs:=cL dc A.cks x }
inductive Ex where
 | normal
 | exit (id:Nat)
 | ret
def gJ:Code->Nat
 | .region id _ _=>id
 | .seq a _=>gJ a
 | .block _ c=>gJ c
 | .loop c=>gJ c
 | .scope c=>gJ c
 | .cond _ a _=>gJ a
 | _=>0
structure Msk where
 m:Nat
def inM (s:Msk) (j:Nat):Bool:=Nat.beq (Nat.land (Nat.shiftRight s.m j) 1) 1
def m0:Msk:=⟨0⟩
instance:Membership Nat Msk:=⟨fun s j=>inM s j=true⟩
def jD (acc:List Msk) (es:List Edge):Msk:=
 match es with
 | []=>m0
 | e::r=>bif Region.binds .any e then ⟨Nat.lor (Nat.lor (Nat.shiftLeft 1 e.on) (acc.getD e.on m0).m) (jD acc r).m⟩ else jD acc r
def lZ:List Oper->List Msk->List Msk
 | [],acc=>acc
 | o::r,acc=>lZ r (acc++[jD acc o.after.toList])
def deps (ops:List Oper):List Msk:=lZ ops []
def qd (ds:List Msk) (k:Nat):Bool:=(List.range k).all fun j=>inM (ds.getD k m0) j
def sK (ds:List Msk):Nat->Nat
 | 0=>0
 | k+1=>if qd ds k then sK ds k else k+1
def mask (n N:Nat):Array Bool:=(List.replicate n true++List.replicate (N - n) false).toArray
def bD (ops:List Oper) (j:Nat):Option Nat:=match ops[j]? with | some p=>p.dst | none=>none
def FT (t:Nat) (m:Msk):List (Option Nat)->Nat->Bool
 | [],_=>true
 | d::r,j=>((match d with | some d=> !Nat.beq d t | none=>true)||inM m j)&&FT t m r (j+1)
def yz (t i:Nat) (m:Msk) (ds:List Msk):List (Option Nat)->Nat->Bool
 | [],_=>true
 | d::r,j=>((match d with | some d=> !Nat.beq d t | none=>true)||(inM m j||inM (ds.getD j m0) i))&&yz t i m ds r (j+1)
def yE (ops:List Oper) (ds:List Msk) (n:Nat):Bool:=
 let dl:=(ops.take n).map (·.dst)
 !dup ((ops.take n).filterMap (·.dst))&&(List.range n).all fun i=>match ops[i]? with
  | some o=>o.dst.isSome&&((o.looksAt ops.toArray).all fun t=>FT t (ds.getD i m0) dl 0)
  | none=>false
def fI (ops:List Oper):Bool:=(List.range ops.length).all fun i=>match ops[i]? with
 | some o=>o.after.toList.all fun e=> !Region.binds .any e||Nat.blt e.on i
 | none=>true
def vg (ops:List Oper) (n:Nat):Bool:=
 let ds:=deps ops
 Nat.ble n ops.length&&yE ops ds n&&((List.range ops.length).all fun k=>Nat.blt k n||qd ds k)&&fI ops&&Region.seqB .any ops.toArray (ops.length - n) n (mask n ops.length)
def CV.cI (d:Nat) (c:CV):Bool:=c.bE d||(c.aP d||(c.bg d||c.aV d))
def SV.cI (d:Nat):SV->Bool
 | .v _ cs=>cs.any (CV.cI d)
 | .tup l=>l.any fun p=>p.2.any (CV.cI d)
def St.cI (d:Nat) (S:St):Bool:=S.tmps.any (SV.cI d)||S.boxes.any fun p=>p.2.any (CV.cI d)
def Ir (Sn:St) (d dj:Nat):Bool:=
 (Sn.tmps.getD dj (.v false [.any])).cI d||(match look Sn.boxes dj with | some cs=>cs.any (CV.cI d) | none=>false)
def NT:CV->List Nat
 | .ref j _=>[j]
 | .fn _ ks=>ks
 | .row j=>[j]
 | .rp j _ _ _=>[j]
 | .mp j=>[j]
 | .stp j _=>[j]
 | .kseq _ j=>[j]
 | _=>[]
def vL:List CV->List Nat
 | []=>[]
 | c::r=>NT c++vL r
def J1:List (Bool×List CV)->List Nat
 | []=>[]
 | c::r=>vL c.2++J1 r
def NU:SV->List Nat
 | .v _ cs=>vL cs
 | .tup l=>J1 l
def F2:List SV->List Nat
 | []=>[]
 | c::r=>NU c++F2 r
def J0:List (Nat×List CV)->List Nat
 | []=>[]
 | c::r=>c.1::(vL c.2++J0 r)
def F8 {α:Type}:List (Nat×α)->List Nat
 | []=>[]
 | c::r=>c.1::F8 r
def St.ids (S:St):List Nat:=F2 S.tmps++(J0 S.boxes++(F8 S.rows++F8 S.objs))
def JZ (Sn:St) (dj:Nat):List Nat:=NU (Sn.tmps.getD dj (.v false [.any]))++(match look Sn.boxes dj with | some cs=>vL cs | none=>[])
def tP (ops:List Oper) (n:Nat) (S Sn:St):Bool:=
 let ds:=deps ops
 let hs:=S.ids
 ((ops.take n).all fun o=>match o.dst with | some d=> !inL hs d | none=>false)&&
 (List.range n).all fun j=>match bD ops j with
   | some dj=>(JZ Sn dj).all fun a=>(List.range n).all fun i=>Nat.beq i j||(inM (ds.getD j m0) i||(match bD ops i with | some d=> !Nat.beq d a | none=>true))
   | none=>true
def mD (X:Cx) (ops:List Oper) (M:St):List Oper->St->(St->Option β)->Option β
 | [],S,k=>k S
 | o::rest,S,k=>match guardOf ops o S with
  | none=>bif ji ops o S then mD X ops M rest (S.put o.dst ku) k else none
  | some none=>dw X o S M fun x=>mD X ops M rest (S.app o.dst x) k
  | some (some (d,b,want))=>fork S d b want (fun S=>dw X o S M fun x=>mD X ops M rest (S.app o.dst x) k)
   fun S=>mD X ops M rest (S.put o.dst ku) k
def Dd:Op->Bool
 | .store _ _ _=>true
 | _=>false
def qn:Op->Bool
 | .move _=>true
 | .assign _=>true
 | .binOp _ _ _ _ _=>true
 | _=>false
def nc:Op->Bool
 | .makeSlice _ _ _=>true
 | _=>false
def nk:St:=⟨[],[],[],[]⟩
def Pj (ops:List Oper) (ds:List Msk) (m:Nat):Bool:=match ops[m]? with
 | some o=>Dd o.op&&o.guard.isNone&&o.dst.isNone&&((List.range m).all fun i=>inM (ds.getD m m0) i||(match ops[i]? with | some p=>qn p.op&&p.guard.isNone | none=>false))&&
  ((o.looksAt ops.toArray).all fun t=>(List.range m).all fun j=>if bD ops j==some t then inM (ds.getD m m0) j else true)
 | none=>false
def EI (ops:List Oper) (m:Nat):Bool:=
 let ds:=deps ops
 Nat.ble (m+1) ops.length&&yE ops ds m&&((List.range ops.length).all fun k=>Nat.blt k (m+1)||qd ds k)&&fI ops&&Region.seqB .any ops.toArray (ops.length - (m+1)) (m+1) (mask (m+1) ops.length)&&Pj ops ds m
def M5 (ops:List Oper) (ds:List Msk) (m:Nat):Bool:=match ops[m]? with
 | some o=>Dd o.op&&o.guard.isNone&&o.dst.isNone&&((List.range m).all fun i=>inM (ds.getD m m0) i||(match ops[i]? with | some p=>(qn p.op||nc p.op)&&p.guard.isNone | none=>false))&&
  ((o.looksAt ops.toArray).all fun t=>(List.range m).all fun j=>if bD ops j==some t then inM (ds.getD m m0) j else true)
 | none=>false
def EJ (ops:List Oper) (m:Nat):Bool:=
 let ds:=deps ops
 Nat.ble (m+1) ops.length&&yE ops ds m&&((List.range ops.length).all fun k=>Nat.blt k (m+1)||qd ds k)&&fI ops&&Region.seqB .any ops.toArray (ops.length - (m+1)) (m+1) (mask (m+1) ops.length)&&M5 ops ds m
def Ce (ops:List Oper) (m:Nat):List Nat:=(List.range m).filterMap fun i=>match ops[i]? with
 | some p=>if nc p.op&& !inM ((deps ops).getD m m0) i then p.dst else none
 | none=>none
def pW:Op->Bool
 | .call { callee:= .builtin .append, .. }=>true
 | _=>false
def gM:List PM->Bool
 | []=>true
 | .val _::r=>gM r
 | .row _ _::r=>gM r
 | _=>false
def N1:List RM->Bool
 | [.row _ _]=>true
 | _=>false
def yH (X:Cx):Op->Bool
 | .call c=>match c.callee with
  | .value (.func g)=>(match look X.keys g with
   | none=>(match kI X.specs g with
    | [sp]=>gM sp.ps&&(!sp.ps.all PM.isVal&&N1 sp.rs)
    | _=>false)
   | some _=>false)
  | _=>false
 | _=>false
def J8:Ty->Bool
 | .int _=>true
 | .bool=>true
 | .str=>true
 | _=>false
def mc:List OT->Bool
 | []=>true
 | .val t::r=>J8 t&&mc r
 | _=>false
def jN:List PM->Bool
 | []=>true
 | .val t::r=>J8 t&&jN r
 | _=>false
def uU:List PM->Bool
 | .box l::r=>mc l&&jN r
 | _=>false
def vM (X:Cx):Op->Bool
 | .call c=>match c.callee with
  | .value (.func g)=>(match look X.keys g with
   | none=>(match kI X.specs g with
    | [sp]=>uU sp.ps&&(og sp.rs&&dX sp.rs)
    | _=>false)
   | some _=>false)
  | _=>false
 | _=>false
def Sa (X:Cx) (op:Op):Option Operand:=bif vM X op then (match op with
 | .call c=>c.args.toList.head?
 | _=>none) else none
def isApp (X:Cx) (op:Op):Bool:=pW op||(yH X op||vM X op)
def vh (hs:List Nat) (d:Nat):Bool:=hs.all fun j=> !(Nat.ble (nid d 0 0) j&&Nat.blt j (nid (d+1) 0 0))
def lE (A:Op->Bool):List Oper->Nat
 | []=>0
 | o::r=>bif Dd o.op||A o.op then 0 else Nat.succ (lE A r)
def SP:Op->Bool
 | .assign _=>true
 | _=>false
def so:List Oper->Nat
 | []=>0
 | o::r=>bif SP o.op then 0 else Nat.succ (so r)
def Sl (ops:List Oper) (t:Nat):Option Oper:=ops.find? (fun o=>match o.dst with | some d=>Nat.beq d t | none=>false)
def Fe (ops:List Oper):Nat->Operand->Bool
 | 0,_=>false
 | f+1,.tmp t=>match Sl ops t with
  | some o=>(match o.op with | .indexAddr _ _ _=>true | .fieldAddr _ x _=>Fe ops f x | .nilCheck x=>Fe ops f x | .move x=>Fe ops f x | _=>false)
  | none=>false
 | _+1,_=>false
def x9 (ops:List Oper) (S:St):Nat->Operand->Option Nat
 | 0,_=>none
 | f+1,.tmp t=>match Sl ops t with
  | some o=>(match o.op with | .fieldAddr _ x _=>x9 ops S f x | .nilCheck x=>x9 ops S f x | .move x=>x9 ops S f x | .alloc _=>some t | _=>none)
  | none=>(match S.ev (.tmp t) with | .v false [.ref b _]=>some b | _=>none)
 | _+1,_=>none
def Qk:Op->Option Operand
 | .store _ a _=>some a
 | _=>none
def adX (X:Cx) (op:Op):Option Operand:=match Qk op with
 | some a=>some a
 | none=>Sa X op
structure Touch where
 rt:Bool
 bs:Option (List Nat)
def ck (X:Cx) (ops:List Oper) (S:St):List Oper->Touch
 | []=>⟨false,some []⟩
 | o::r=>match adX X o.op with
  | some a=>bif Fe ops 9 a then ⟨true,(ck X ops S r).bs⟩ else (match x9 ops S 9 a with
   | some b=>⟨(ck X ops S r).rt,(match (ck X ops S r).bs with | some l=>some (b::l) | none=>none)⟩
   | none=>⟨true,none⟩)
  | none=>bif isApp X o.op then ⟨true,(ck X ops S r).bs⟩ else ck X ops S r
def gz (t:Touch) (k:Nat):Bool:=match t.bs with
 | some l=> !inL l k
 | none=>false
def Dc:Op->Bool
 | .binOp _ _ _ _ _=>true
 | _=>false
def yA (ops:List Oper) (ds:List Msk) (m j:Nat):Bool:=match ops[j]? with
 | some o=>Dc o.op&&(Nat.blt m j&&(o.guard.isNone&&((o.after.toList.all fun e=> !Region.binds .any e||(Nat.beq (e.on+1) j||inM (ds.getD (j - 1) m0) e.on))&&
  (Region.noSelect ops.toArray&&Region.free .any ops.toArray ((List.range ops.length).map fun k=>inM (ds.getD j m0) k).toArray j))))
 | none=>false
def J9 (ds:List Msk) (m n:Nat):Bool:=(List.range n).all fun i=>Nat.blt i m||(List.range i).all fun j=>Nat.blt j m||inM (ds.getD i m0) j
def Nn (ops:List Oper) (ds:List Msk) (m n:Nat):Bool:=
 let dl:=(ops.take n).map (·.dst)
 !dup ((ops.take n).filterMap (·.dst))&&((List.range n).all fun i=>match ops[i]? with
  | some o=>((o.looksAt ops.toArray).all fun t=>yz t i (ds.getD i m0) ds dl 0)&&((Nat.blt i m||o.guard.isNone)&&(Nat.blt i m||(List.range i).all fun j=>Nat.blt j m||(inM (ds.getD i m0) j||yA ops ds m j)))
  | none=>false)
def se (ops:List Oper) (m n:Nat):Bool:=
 let ds:=deps ops
 Nat.blt m n&&(Nat.ble n ops.length&&(yE ops ds m&&(((List.range ops.length).all fun k=>Nat.blt k n||qd ds k)&&(fI ops&&(Region.seqB .any ops.toArray (ops.length - n) n (mask n ops.length)&&Nn ops ds m n)))))
def cP (t:Touch) (S:St):St:=⟨[],S.boxes.filter (fun p=>gz t p.1),bif t.rt then [] else S.rows,bif t.rt then [] else S.objs⟩
def s8 (x:Del):Bool:=x.box.isNone&&(x.row.isNone&&x.obj.isNone)
def zM:Op->Bool
 | .alloc _=>true
 | _=>false
def qS (lb:Bool) (op:Op) (x:Del):Bool:=bif lb&&zM op then x.row.isNone&&x.obj.isNone else s8 x
def F9 (ops:List Oper) (m:Nat):List (Nat×List Nat):=(List.range m).filterMap fun i=>match ops[i]? with
 | some o=>bif zM o.op&& !inM ((deps ops).getD m m0) i then (match o.dst with
  | some d=>some (d,(List.range m).filterMap fun j=>bif Nat.beq j i||inM ((deps ops).getD j m0) i then bD ops j else none)
  | none=>none) else none
 | none=>none
def inU (sd:List (Nat×List Nat)) (k:Nat):Bool:=sd.any fun p=>Nat.beq p.1 k
def noB (sd:List (Nat×List Nat)) (S:St):St:={ S with boxes:=S.boxes.filter fun p=> !inU sd p.1 }
def w7 (sd:List (Nat×List Nat)) (S:St):Bool:=sd.all fun q=>(S.boxes.all fun p=> !p.2.any (CV.bE q.1))&&
 (List.range S.tmps.length).all fun t=>inL q.2 t|| !(S.tmps.getD t (.v false [.any])).bE q.1
def NQ (t:Touch) (sd:List (Nat×List Nat)):Bool:=sd.all fun q=>gz t q.1
def K6 (ops:List Oper) (m n i:Nat):List Oper:=(List.range n).filterMap fun j=>if Nat.ble m j&& !inM ((deps ops).getD j m0) i then ops[j]? else none
def fG (X:Cx) (ops:List Oper) (M:St) (Mr:Nat->St) (dm:Msk) (lb:Bool):Nat->List Oper->St->(St->Option β)->Option β
 | _,[],S,k=>k S
 | i,o::rest,S,k=>match guardOf ops o S with
  | none=>bif ji ops o S then fG X ops M Mr dm lb (i+1) rest (S.put o.dst ku) k else none
  | some none=>bif inM dm i then dw X o S M fun x=>fG X ops M Mr dm lb (i+1) rest (S.app o.dst x) k
   else dw X o S (Mr i) fun x=>bif qS lb o.op x then fG X ops M Mr dm lb (i+1) rest (S.app o.dst x) k else none
  | some (some (d,b,want))=>fork S d b want (fun S=>bif inM dm i then dw X o S M fun x=>fG X ops M Mr dm lb (i+1) rest (S.app o.dst x) k
   else dw X o S (Mr i) fun x=>bif qS lb o.op x then fG X ops M Mr dm lb (i+1) rest (S.app o.dst x) k else none)
   fun S=>fG X ops M Mr dm lb (i+1) rest (S.put o.dst ku) k
def G8 (t:Touch):SV->Bool
 | .v false [.ref b _]=> !gz t b
 | _=>t.rt
def B7 (S:St):Op->Bool
 | .binOp .add _ x y _=>match S.ev x,S.ev y with
  | .v false [.int _ _],.v false [.int _ _]=>true
  | _,_=>false
 | _=>false
def Q7 (S:St) (hs:List Nat) (d:Option Nat) (x:Del):Bool:=x.box.isNone&&(x.obj.isNone&&(match d with
 | some d=> !inL hs d&&(look S.rows d).isNone
 | none=>false))
def Gc (sd:List (Nat×List Nat)) (hs:List Nat) (t:Touch) (o:Oper) (S:St):Bool:=match o.op with
 | .call c=>match c.args.toList.map S.ev with
  | .v false [.ref b _]::q=> !gz t b&&(!inU sd b&&((pe q).isEmpty&&vh hs (o.dst.getD 0)))
  | _=>false
 | _=>false
def jb (X:Cx) (ops:List Oper) (S0:St) (hs:List Nat) (sd:List (Nat×List Nat)) (e:Bool):List Oper->St->(St->Option β)->Option β
 | [],S,k=>bif w7 sd S then k S else none
 | o::rest,S,k=>bif w7 sd S then (match Qk o.op with
  | some a=>bif sd.isEmpty&&G8 (ck X ops S0 [o]) (S.ev a) then bY X o S fun S=>jb X ops S0 hs sd e rest S k else none
  | none=>bif pW o.op
   then (bif sd.isEmpty&&((ck X ops S0 [o]).rt&&(match o.dst with | some d=> !inL hs d | none=>false)) then bY X o S fun S=>jb X ops S0 hs sd e rest S k else none)
   else bif yH X o.op
   then (bif sd.isEmpty&&((ck X ops S0 [o]).rt&&(match o.dst with | some d=>vh hs d | none=>false)) then bY X o S fun S=>jb X ops S0 hs sd e rest S k else none)
   else bif vM X o.op
   then (bif Gc sd hs (ck X ops S0 [o]) o S then bY X o S fun S=>jb X ops S0 hs sd e rest S k else none)
   else bif e&&(Dc o.op&& !B7 S o.op) then none
   else dw X o S (noB sd S) fun x=>bif s8 x||Q7 S hs o.dst x then jb X ops S0 hs sd e rest (S.app o.dst x) k else none) else none
def As (X:Cx) (ops:List Oper) (S:St) (k:St->Option β) (m n:Nat):Option β:=
 let sd:=F9 ops m
 bif NQ (ck X ops S ((ops.take n).drop m)) sd then
 fG X ops S (fun i=>cP (ck X ops S (K6 ops m n i)) S) ((deps ops).getD m m0) true 0 (ops.take m) S fun Sn=>if tP ops m S Sn then jb X ops S S.ids sd (!J9 (deps ops) m n) ((ops.take n).drop m) Sn fun S=>ja X ops (ops.drop n) S k else none
 else none
def runM (X:Cx) (ops:List Oper) (m:Nat) (S:St) (k:St->Option β):Option β:=match ops[m]? with
 | some o=>match o.op with
  | .store _ a _=>match S.ev a with
   | .v false [.ref _ _]=>bY X o S fun S'=>bif (Ce ops m).all fun d=> !S'.boxes.any fun p=>p.2.any (CV.aP d) then k S' else none
   | _=>none
  | _=>none
 | none=>none
def p8 (X:Cx) (ops:List Oper) (S:St) (k:St->Option β) (els:Option β):Option β:=
 let n:=sK (deps ops) ops.length
 if vg ops n&& !(ops.take n).any (fun o=>isApp X o.op) then mD X ops S (ops.take n) S fun Sn=>if tP ops n S Sn then ja X ops (ops.drop n) Sn k else none
 else if EI ops (n - 1)&& !(ops.take (n - 1)).any (fun o=>isApp X o.op) then mD X ops S (ops.take (n - 1)) S fun Sn=>if tP ops (n - 1) S Sn then ja X ops (ops.drop (n - 1)) Sn k else none
 else if EJ ops (n - 1)&& !(ops.take (n - 1)).any (fun o=>isApp X o.op) then mD X ops S (ops.take (n - 1)) S fun Sn=>if tP ops (n - 1) S Sn then runM X ops (n - 1) Sn fun S'=>ja X ops (ops.drop (n - 1+1)) S' k else none
 else if se ops (lE (isApp X) ops) n then As X ops S k (lE (isApp X) ops) n
 else if se ops (so ops) n&& !(ops.take (so ops)).any (fun o=>isApp X o.op) then As X ops S k (so ops) n
 else els
def Sd (X:Cx) (ops:List Oper):Bool:=
 let n:=sK (deps ops) ops.length
 (vg ops n&& !(ops.take n).any (fun o=>isApp X o.op))||((EI ops (n - 1)&& !(ops.take (n - 1)).any (fun o=>isApp X o.op))||((EJ ops (n - 1)&& !(ops.take (n - 1)).any (fun o=>isApp X o.op))||
   (se ops (lE (isApp X) ops) n||(se ops (so ops) n&& !(ops.take (so ops)).any (fun o=>isApp X o.op)))))
def Dt (σ:Nat->Nat) (o:Oper):Oper:={ o with after:=o.after.map fun e=>{ e with on:=σ e.on } }
def HU (A:Op->Bool) (ds:List Msk):Nat->List Oper->List Nat->List Nat->List Nat
 | _,[],sp,fl=>fl++sp
 | i,o::r,sp,fl=>bif Dd o.op||(A o.op||sp.any fun j=>inM (ds.getD i m0) j) then HU A ds (i+1) r (sp++[i]) fl else HU A ds (i+1) r sp (fl++[i])
def lF (A:Op->Bool) (ops:List Oper):List Nat:=List.range (lE A ops)++HU A (deps ops) (lE A ops) (ops.drop (lE A ops)) [] []
def posOf:List Nat->Nat->Nat
 | [],_=>0
 | x::r,i=>bif Nat.beq x i then 0 else Nat.succ (posOf r i)
def qx (ops:List Oper) (p:List Nat):List Oper:=match ops with
 | []=>[]
 | o0::_=>p.map fun i=>Dt (posOf p) (ops.getD i o0)
def vo (ops:List Oper) (p:List Nat):Bool:=
 Nat.beq p.length ops.length&&(((List.range ops.length).all fun i=>Nat.blt (posOf p i) ops.length&&Nat.beq (p.getD (posOf p i) ops.length) i)&&
  (((List.range ops.length).all fun j=>Nat.blt (p.getD j ops.length) ops.length&&Nat.beq (posOf p (p.getD j ops.length)) j)&&
    ops.all fun o=>o.guard.isNone&&o.after.toList.all fun e=>Nat.blt e.on ops.length))
def Pp (e:Edge):Bool:=match e.ground with
 | .phase=>true
 | .chain=>true
 | _=>false
def qU (o:Oper):Oper:=match o.op with
 | .fieldAddr _ _ _=>{ o with after:=(o.after.toList.filter fun e=> !Pp e).toArray }
 | _=>o
def iw (ops:List Oper):List Oper:=ops.map qU
def rW (o:Oper):Oper:={ o with after:=o.after.push ⟨0,.phase⟩ }
def Di:List Oper->List Oper
 | []=>[]
 | o::r=>o::r.map rW
def N2 (ops:List Oper):Bool:=match ops with
 | []=>false
 | o::_=>(match o.op with | .move _=>true | _=>false)&&(ops.all (fun p=>p.guard.isNone)&&(o.after.isEmpty&&(o.dst.isSome&&(Region.noSelect ops.toArray&&Region.free .any ops.toArray (Array.replicate ops.length false) 0))))
def s6 (ops:List Oper) (mask:Array Bool) (may:List Nat):Bool:=
 !(Region.ready .any ops.toArray mask).isEmpty&&(Region.ready .any ops.toArray mask).all (inL may)
def Se (ops:List Oper):Bool:=
 let A:=ops.toArray
 (Region.noSelect A&&ops.all fun o=>o.guard.isNone)&&
 ((Region.free .any A #[false,false,false,false,false,false,false,false] 0&&(Region.ready .any A #[false,false,false,false,false,false,false,false]).contains 0)&&
 ((Region.free .any A #[true,false,false,false,false,false,false,false] 3&&(Region.ready .any A #[true,false,false,false,false,false,false,false]).contains 3)&&
 (s6 ops #[true,false,false,true,false,false,false,false] [1]&&
 (s6 ops #[true,true,false,true,false,false,false,false] [2,5]&&
 (s6 ops #[true,true,true,true,false,false,false,false] [4,5]&&
 (s6 ops #[true,true,true,true,true,false,false,false] [5]&&
 (s6 ops #[true,true,false,true,false,true,false,false] [2,6]&&
 (s6 ops #[true,true,true,true,false,true,false,false] [4,6]&&
 (s6 ops #[true,true,true,true,true,true,false,false] [6]&&
 (s6 ops #[true,true,false,true,false,true,true,false] [2]&&
 (s6 ops #[true,true,true,true,false,true,true,false] [4]&&
 s6 ops #[true,true,true,true,true,true,true,false] [7])))))))))))
def Iq (X:Cx) (ops:List Oper) (S:St) (k:St->Option β):Option β:=
 if ops.any (Pm X)&&N2 ops then p8 X (Di ops) S k none
 else p8 X ops S k (if vo ops (lF (isApp X) ops) then (
  if Sd X (qx ops (lF (isApp X) ops)) then p8 X (qx ops (lF (isApp X) ops)) S k none
  else if fI ops&&vo (iw ops) (lF (isApp X) (iw ops)) then p8 X (qx (iw ops) (lF (isApp X) (iw ops))) S k none else none) else none)
def aF {β γ:Type}:Option (β ⊕ γ)->(γ->Option β)->Option β
 | none,_=>none
 | some (.inl r),_=>some r
 | some (.inr v),f=>f v
def B6 {β γ:Type}:Option β->Option (β ⊕ γ)
 | some r=>some (.inl r)
 | none=>none
def meet {β:Type} (A:Ann) (n:Nat) (S:St):Option (β ⊕ cB A.cks):=
 match carry A S with
 | some v=>bif Nat.beq S.tmps.length n then some (.inr v) else none
 | none=>none
def Rx (x y:Code):Nat:=100000+max (gJ x) (gJ y)
def Qo (c:Code):Nat:=200000+gJ c
noncomputable def both {β:Type} (a b:Option β):Option β:=open Classical in if a=b then a else none
def mw:Touch:=⟨false,some []⟩
def Om (X:Cx) (ops:List Oper) (S:St) (k:St->Option β):Option β:=fG X ops S (fun _=>cP mw S) m0 false 0 ops S k
def Oj (X:Cx) (ops:List Oper) (dr:Bool) (S:St) (k:St->Option β):Option β:=
 bif dr then (bif vg ops ops.length&& !(ops.any fun o=>pW o.op) then Om X ops S fun Sn=>bif tP ops ops.length S Sn then k Sn else none else none)
 else Om X ops S k
def jL (A:Ann):List (Nat×Ty):=A.tmps.filterMap fun | (i,.val t)=>some (i,t) | _=>none
def HZ:List (Nat×Ty)->Type
 | []=>Unit
 | p::r=>p.2.den×HZ r
def F6 (S:St):(l:List (Nat×Ty))->Option (HZ l)
 | []=>some ()
 | p::r=>match gf S [] p.2 (S.tmps.getD p.1 (.v false [.any])) with
  | some x=>match F6 S r with
   | some y=>some (x,y)
   | none=>none
  | none=>none
def zQ:(l:List (Nat×Ty))->HZ l->List SV->List SV
 | [],_,T=>T
 | p::r,v,T=>(zQ r v.2 T).set p.1 (kS p.2 v.1)
def nR:List Oper->List SV->List SV
 | [],T=>T
 | o::r,T=>nR r (match o.dst with | some d=>T.set d (.v false [.any]) | none=>T)
noncomputable def den (X:Cx) (anns:List (Nat×Ann)):Code->(β:Type)->St->(Ex->St->Option β)->Option β
 | .skip,_,S,K=>K .normal S
 | .region id ops dr,_,S,K=>match look anns (300000+id) with
  | some A=>(Oj X ops.toList dr S fun S'=>F6 S' (jL A)).bind fun v=>K .normal { S with tmps:=zQ (jL A) v (nR ops.toList S.tmps) }
  | none=>bif dr then Iq X ops.toList S (K .normal) else ja X ops.toList ops.toList S (K .normal)
 | .seq a b,β,S,K=>den X anns a β S fun e S=>match e with
  | .normal=>den X anns b β S K
  | .exit j=>K (.exit j) S
  | .ret=>K .ret S
 | .cond c x y,β,S,K=>match S.ev c with
  | .v false [.bool b]=>match look anns (Rx x y) with
   | some A=>aF (bif b
    then den X anns x (β ⊕ cB A.cks) S (fun e S'=>match e with
     | .normal=>meet A S.tmps.length S'
     | .exit j=>B6 (K (.exit j) S')
     | .ret=>B6 (K .ret S'))
    else den X anns y (β ⊕ cB A.cks) S (fun e S'=>match e with
     | .normal=>meet A S.tmps.length S'
     | .exit j=>B6 (K (.exit j) S')
     | .ret=>B6 (K .ret S'))) fun v=>K .normal (head A S.tmps.length v)
   | none=>bif b then den X anns x β S K else den X anns y β S K
  | .v false [.nb b]=>bif b then both (den X anns x β S K) (den X anns y β S K) else den X anns y β S K
  | _=>none
 | .block id c,β,S,K=>match look anns (Qo c) with
  | some A=>aF (den X anns c (β ⊕ cB A.cks) S fun e S'=>match e with
   | .normal=>meet A S.tmps.length S'
   | .exit j=>if Nat.beq j id then meet A S.tmps.length S' else B6 (K (.exit j) S')
   | .ret=>B6 (K .ret S')) fun v=>K .normal (head A S.tmps.length v)
  | none=>den X anns c β S fun e S'=>match e with
   | .normal=>K .normal S'
   | .exit j=>if Nat.beq j id then K .normal S' else K (.exit j) S'
   | .ret=>K .ret S'
 | .loop c,β,S,K=>match look anns (gJ c) with
  | some A=>match carry A S with
   | some x=>iter (A.fuel x) x fun x again=>den X anns c β (head A S.tmps.length x) fun e S'=>match e with
    | .normal=>match carry A S' with
     | some y=>bif Nat.beq S'.tmps.length S.tmps.length then again y else none
     | none=>none
    | .exit j=>K (.exit j) S'
    | .ret=>K .ret S'
   | none=>none
  | none=>none
 | .exit id,_,S,K=>K (.exit id) S
 | .ret,_,S,K=>K .ret S
 | _,_,_,_=>none
def pD:Nat:=5000
def pid (i c:Nat):Nat:=nid pD i c
def gY (i:Nat):(ps:List PM)->eU ps->List SV
 | [],_=>[]
 | .val t::r,x=>kS t x.1::gY (i+1) r x.2
 | .row _ _::r,x=> .v false [.row (pid i 0)]::gY (i+1) r x.2
 | .mrow _ _::r,x=> .v false [.row (pid i 0)]::gY (i+1) r x.2
 | .map _ _::r,x=> .v false [.mp (pid i 0)]::gY (i+1) r x.2
 | .box _::r,x=> .v false [.ref (2000+i) 0]::gY (i+1) r x.2
 | .ar _::r,x=>gY (i+1) r x.2
 | .arR _::r,x=>gY (i+1) r x.2
def lI (i:Nat):(ps:List PM)->eU ps->List (Nat×List CV)
 | [],_=>[]
 | .box l::r,x=>(2000+i,z8 pD i 1 l x.1)::lI (i+1) r x.2
 | .val _::r,x=>lI (i+1) r x.2
 | .row _ _::r,x=>lI (i+1) r x.2
 | .mrow _ _::r,x=>lI (i+1) r x.2
 | .map _ _::r,x=>lI (i+1) r x.2
 | .ar _::r,x=>lI (i+1) r x.2
 | .arR _::r,x=>lI (i+1) r x.2
def kN (i:Nat):(ps:List PM)->eU ps->List (Nat×jk)
 | [],_=>[]
 | .row e t::r,x=>(pid i 0,⟨false,e,t,x.1⟩)::kN (i+1) r x.2
 | .mrow e t::r,x=>(pid i 0,⟨false,e,t,x.1⟩)::kN (i+1) r x.2
 | .box l::r,x=>jH pD i 1 l x.1++kN (i+1) r x.2
 | .val _::r,x=>kN (i+1) r x.2
 | .map _ _::r,x=>kN (i+1) r x.2
 | .ar _::r,x=>kN (i+1) r x.2
 | .arR _::r,x=>kN (i+1) r x.2
def fh (i:Nat):(ps:List PM)->eU ps->List (Nat×lz)
 | [],_=>[]
 | .map k v::r,x=>(pid i 0,.map k v x.1)::fh (i+1) r x.2
 | .box l::r,x=>gW pD i 1 l x.1++fh (i+1) r x.2
 | .ar t::r,x=>(bf,.ar false t x.1)::fh (i+1) r x.2
 | .arR t::r,x=>(bf,.ar true t x.1)::fh (i+1) r x.2
 | .val _::r,x=>fh (i+1) r x.2
 | .row _ _::r,x=>fh (i+1) r x.2
 | .mrow _ _::r,x=>fh (i+1) r x.2
def cR:Nat->List PM->List (aM×Nat)
 | _,[]=>[]
 | i,.row _ _::r=>(.inr (pid i 0),64*i)::cR (i+1) r
 | i,.mrow _ _::r=>(.inr (pid i 0),64*i)::cR (i+1) r
 | i,.map _ _::r=>(.ob (pid i 0),64*i)::cR (i+1) r
 | i,.box l::r=>(.inl (2000+i),64*i)::(dD pD i 1 l++cR (i+1) r)
 | i,.ar _::r=>(.ob bf,64*i)::cR (i+1) r
 | i,.val _::r=>cR (i+1) r
 | i,.arR _::r=>cR (i+1) r
def qV:List PM->Nat
 | []=>0
 | p::r=>(bif p.arg then 1 else 0)+qV r
def B5 (n:Nat) (ar:Option Ty) (ps:List PM) (x:eU ps):St:=
 { tmps:=gY 0 ps x++List.replicate (n - qV ps) (.v false [.any]),boxes:=lI 0 ps x,rows:=kN 0 ps x,
   objs:=match ar with | some t=>(bf,.ar false t [])::fh 0 ps x | none=>fh 0 ps x }
def J7 (X:Cx) (S:St):ResultVar->Option SV
 | .tmp t=>some (S.tmps.getD t (.v false [.any]))
 | .cell a T=>match S.tmps.getD a (.v false [.any]) with
  | .v false [.ref b off]=>match look S.boxes b with
   | some l=>iW X.P T l off some
   | none=>none
  | _=>none
def yP (X:Cx) (S:St):List ResultVar->Option (List SV)
 | []=>some []
 | v::r=>match J7 X S v with
  | some s=>match yP X S r with
   | some l=>some (s::l)
   | none=>none
  | none=>none
def Dv:List RM->List SV->List SV
 | .val _::r,s::q=>s::Dv r q
 | _::r,_::q=>Dv r q
 | _,_=>[]
def Lj:List OT->List CV->List Nat
 | .val t::r,cs=>fo (cs.take t.size)++Lj r (cs.drop t.size)
 | .row _ _::r,_::cs=>Lj r cs
 | .map _ _::r,_::cs=>Lj r cs
 | _,_=>[]
def J5 (S:St) (i:Nat):List PM->List Nat
 | []=>[]
 | .box l::r=>(match look S.boxes (2000+i) with | some cs=>Lj l cs | none=>[])++J5 S (i+1) r
 | _::r=>J5 S (i+1) r
def J6 (S:St):List RM->List SV->List Nat
 | .box l::r,s::q=>(match fL s with | some k=>(match look S.boxes k with | some cs=>Lj l cs | none=>[]) | none=>[])++J6 S r q
 | _::r,_::q=>J6 S r q
 | _,_=>[]
def vn (S:St) (p:RM) (s:SV):Option p.den:=
 match p with
 | .val t=>gf S [] t s
 | .row e t=>match mO s with | some c=>fZ S e t c | none=>none
 | .map k v=>match mO s with | some c=>jZ S k v c | none=>none
 | .box l=>match fL s with
  | some k=>match look S.boxes k with
   | some cs=>gX S l cs
   | none=>none
  | none=>none
def sE (S:St) (ps:List PM) (bx:Option (dh ps)):(rs:List RM)->List SV->Option (cJ ps rs)
 | [],[]=>bx
 | [],_::_=>none
 | p::r,s::q=>match vn S p s with
  | some x=>match sE S ps bx r q with
   | some y=>some (x,y)
   | none=>none
  | none=>none
 | _::_,[]=>none
def kM (S:St):Nat->(ps:List PM)->Option (dh ps)
 | _,[]=>some ()
 | i,.mrow e t::r=>match fZ S e t (.row (pid i 0)),kM S (i+1) r with
  | some x,some y=>some (x,y)
  | _,_=>none
 | i,.map k v::r=>match jZ S k v (.mp (pid i 0)),kM S (i+1) r with
  | some x,some y=>some (x,y)
  | _,_=>none
 | i,.box l::r=>match look S.boxes (2000+i) with
  | some cs=>match gX S l cs,kM S (i+1) r with
   | some x,some y=>some (x,y)
   | _,_=>none
  | none=>none
 | i,.ar t::r=>match oO S false t,kM S (i+1) r with
  | some x,some y=>some (x,y)
  | _,_=>none
 | i,.val _::r=>kM S (i+1) r
 | i,.row _ _::r=>kM S (i+1) r
 | i,.arR _::r=>kM S (i+1) r
def jt (S:St) (c:Nat):List RM->List SV->List (aM×Nat)
 | .row _ _::r,s::q=>(match mO s with | some v=>jK (64*(24+c)) v | none=>[])++jt S (c+1) r q
 | .map _ _::r,s::q=>(match mO s with | some v=>jK (64*(24+c)) v | none=>[])++jt S (c+1) r q
 | .box l::r,s::q=>(match fL s with
  | some k=>(.inl k,64*(24+c))::(match look S.boxes k with | some cs=>iB (64*(24+c)+1) l cs | none=>[])
  | none=>[])++jt S (c+1) r q
 | .val _::r,_::q=>jt S (c+1) r q
 | _,_=>[]
def iA (S:St):Nat->List PM->List (aM×Nat)
 | _,[]=>[]
 | i,.mrow _ _::r=>(.inr (pid i 0),64*i)::iA S (i+1) r
 | i,.map _ _::r=>(.ob (pid i 0),64*i)::iA S (i+1) r
 | i,.box l::r=>(.inl (2000+i),64*i)::(match look S.boxes (2000+i) with | some cs=>iB (64*i+1) l cs | none=>[])++iA S (i+1) r
 | i,.ar _::r=>(.ob bf,64*i)::iA S (i+1) r
 | i,_::r=>iA S (i+1) r
def HX:List RM->List SV->List SV
 | .val .hnd::r,s::q=>s::HX r q
 | _::r,_::q=>HX r q
 | _,_=>[]
def wU (X:Cx) (fn:Func) (rs:List RM) (S:St):St:=
 match yP X S fn.results.toList with
 | some l=>gw S (HX rs l)
 | none=>S
def Rg (X:Cx) (fn:Func) (sp:aq) (S:St):Option (cJ sp.ps sp.rs):=
 match yP X S fn.results.toList with
 | some l=>
  let js:=xH (Dv sp.rs l)++(J6 S sp.rs l++J5 S 0 sp.ps)
  let V:=ay S js
  let ow:=jt V 0 sp.rs l++iA V 0 sp.ps
  if qJ ow then none else sE V sp.ps (kM V 0 sp.ps) sp.rs l
 | none=>none
def ends (X:Cx) (fn:Func) (sp:aq) (S:St):Option (cJ sp.ps sp.rs):=Rg X fn sp (wU X fn sp.rs S)
def cS:List PM->Bool
 | []=>true
 | .val t::r=>t.aL&&cS r
 | .row _ t::r=>t.aL&&cS r
 | .mrow _ t::r=>t.aL&&cS r
 | .map k v::r=>k.aL&&v.aL&&cS r
 | .box l::r=>(l.all fun | .val t=>t.aL | .row _ t=>t.aL | .map k v=>k.aL&&v.aL)&&cS r
 | _=>false
def mC:List RM->Bool
 | []=>true
 | .val t::r=>t.aL&&mC r
 | .row _ t::r=>t.aL&&mC r
 | .map k v::r=>k.aL&&v.aL&&mC r
 | .box l::r=>(l.all fun | .val t=>t.aL | .row _ t=>t.aL | .map k v=>k.aL&&v.aL)&&mC r
noncomputable def BN (X:Cx) (anns:List (Nat×Ann)) (ar:Option Ty) (fn:Func) (sp:aq) (x:eU sp.ps):Option (cJ sp.ps sp.rs):=
 if qJ (cR 0 sp.ps)||dup ((cR 0 sp.ps).map (·.2))||(ar.isSome&& !(cS sp.ps&&mC sp.rs)) then none else
 match fn.body with
 | some c=>den X anns c (cJ sp.ps sp.rs) (B5 fn.ntmps ar sp.ps x) fun e S=>match e with
  | .ret=>ends X fn sp S
  | .normal=>ends X fn sp S
  | .exit _=>none
 | none=>none
end Go.Dn
namespace Go.Dn
theorem Ro (s:ByteArray):bs s.data.toList=s:=by
 cases s;simp[bs]
theorem OP (l:List UInt8):(bs l).data.toList=l:=by simp[bs]
theorem C7 (G:Gh) (ρ:Env) (v:Value):aJ G ρ (BA v) v:=by
 unfold BA
 split
 case h_3 s=>show _=_;rw[Ro]
 all_goals first | rfl | trivial | skip
 split
 ·rename_i g f c h
  simp only[Tr,Array.isEmpty_iff] at h
  obtain⟨rfl,rfl⟩:=h
  rfl
 ·trivial
theorem uv {α β:Type} {R:β->α->Prop} (f:α->β) (h:∀ x,R (f x) x):∀ l:List α,aB R (l.map f) l
 | []=>rfl
 | x::l=>⟨x,l,rfl,h x,uv f h l⟩
theorem GO (G:Gh) (ρ:Env) (v:Value):aR G ρ (Du v) v:=by
 unfold Du
 split
 ·rename_i cs
  exact⟨cs.toList,by simp,uv BA (C7 G ρ) cs.toList⟩
 ·exact C7 G ρ v
theorem eW.ev {G:Gh} {ρ:Env} {S:St} {a:Act} (h:eW G ρ S a) (x:Operand):aR G ρ (S.ev x) (a.eval x):=by
 cases x with
 | tmp t=>
  simp only[St.ev,Act.eval]
  rw[Ul]
  cases hs:S.tmps[t]? with
  | none=>exact trivial
  | some s=>exact h.2 t s hs
 | const v=>exact GO G ρ v
 | global g=>exact trivial
 | func f=>rfl
theorem eL {G:Gh} (ρ:Env):∀ {t:Ty} {x:t.den} {cs:List Value},an G t x cs->aB (aJ G ρ) (unpack t x) cs
 | .int _,_,_,h=>by cases h;exact⟨_,_,rfl,rfl,rfl⟩
 | .bool,_,_,h=>by cases h;exact⟨_,_,rfl,rfl,rfl⟩
 | .str,_,_,h=>by cases h;exact⟨_,_,rfl,rfl,rfl⟩
 | .unit,_,_,h=>h
 | .pair a b,(x,y),_,⟨c,r,e,hx,hy⟩=>by subst e;exact (eL ρ hx).append (eL ρ hy)
 | .st t,x,cs,h=>eL (t:=t) (x:=x) ρ h
 | .slice t,_,_,⟨v,e,h⟩=>by subst e;exact⟨_,_,rfl,h,rfl⟩
 | .ptr t,x,_,⟨b,off,c,T,fz,e,hb,hs,hl⟩=>by subst e;exact⟨_,_,rfl,⟨b,off,c,T,fz,rfl,hb,hs,hl⟩,rfl⟩
 | .clo _ t,x,_,⟨caps,e,h⟩=>by subst e;exact⟨_,_,rfl,⟨caps,rfl,h⟩,rfl⟩
 | .hnd,none,_,h=>by cases h;exact⟨_,_,rfl,⟨rfl,rfl⟩,rfl⟩
 | .hnd,some _,_,⟨b,hb,e⟩=>by subst e;exact⟨_,_,rfl,⟨b,hb,rfl⟩,rfl⟩
theorem sP {G:Gh} (ρ:Env) {t:Ty} {x:t.den} {v:Value} (h:bK G t x v):iG G ρ (C1 t x).1 (C1 t x).2 v:=by
 cases t with
 | st t=>obtain⟨vs,e,hv⟩:=h;exact⟨vs,e,eL ρ hv⟩
 | int _=>cases h;rfl
 | bool=>cases h;rfl
 | str=>cases h;rfl
 | unit=>cases h
 | slice t=>obtain⟨v',e,h⟩:=h;cases e;exact h
 | ptr t=>obtain⟨b,off,c,T,fz,e,hb,hs,hl⟩:=h;cases e;exact⟨b,off,c,T,fz,rfl,hb,hs,hl⟩
 | clo g t=>obtain⟨caps,e,h⟩:=h;cases e;exact⟨caps,rfl,h⟩
 | hnd=>
  cases x with
  | none=>cases h;exact⟨rfl,rfl⟩
  | some i=>obtain⟨b,hb,e⟩:=h;cases e;exact⟨b,hb,rfl⟩
 | pair a b=>
  have hl:=h.len
  have hu:=eL ρ h
  obtain⟨c,hc⟩:∃ c,unpack (.pair a b) x=[c]:=by
   have:=hu.len
   match hq:unpack (.pair a b) x with
   | [c]=>exact⟨c,rfl⟩
   | []=>rw[hq] at this;simp at this
   | _::_::_=>rw[hq] at this;simp at this
  show iG G ρ false (unpack (.pair a b) x) v
  rw[hc] at hu ⊢
  obtain⟨y,e,hy⟩:=hu.single
  cases e
  exact hy
theorem zg {G:Gh} (ρ:Env) {t:Ty} {x:t.den} {v:Value} (h:bK G t x v):aR G ρ (kS t x) v:=by
 have:=sP ρ h
 cases t<;>exact this
theorem fA {a b:Ty} {l:List a.den} {l':List b.den} (h:ki l=some l'):∃ e:a=b,e ▸ l=l':=by
 unfold ki at h
 split at h
 ·rename_i e;exact⟨e,by simpa using h⟩
 ·cases h
theorem Fp {a b:Ty} {x:a.den} {x':b.den} (h:JY x=some x'):∃ e:a=b,e ▸ x=x':=by
 unfold JY at h
 split at h
 ·rename_i e;exact⟨e,by simpa using h⟩
 ·cases h
def fQ (G:Gh) (ρ:Env) (S:St):Prop:=∀ j r,look S.rows j=some r->r.fz=true->cW G r.t.size (an G r.t) r.l (ρ.rw j)
theorem Mem.frozen {P0:Program} {C:Fr P0} {G:Gh} {ρ:Env} {S:St} {w:World} (h:Mem C G ρ S w):fQ G ρ S:=fun j r hj hf=>by
 have:=h.rows j r hj
 unfold b8 at this
 rw[V7 hf] at this
 exact this
theorem nt {G:Gh} {ρ:Env} {t:Ty} {f:CV->Option t.den} (hf:∀ c x v,f c=some x->aJ G ρ c v->an G t x [v]) {cs:List CV} {x:t.den} {r:List CV} {vs:List Value} (h:nr f cs=some (x,r)) (hv:aB (aJ G ρ) cs vs):∃ a b,vs=a++b/\an G t x a/\aB (aJ G ρ) r b:=by
 cases cs with
 | nil=>cases h
 | cons c q=>
  obtain⟨y,s,e,hy,hs⟩:=hv
  simp only[nr] at h
  split at h
  ·rename_i z hz
   cases h
   subst e
   exact⟨[y],s,rfl,hf _ _ _ hz hy,hs⟩
  ·cases h
theorem PK {G:Gh} {ρ:Env} {S:St} (hF:fQ G ρ S) {t:Ty} (c:CV) (l:List t.den) (v:Value) (h:Gl S t c=some l) (hv:aJ G ρ c v):an G (.slice t) l [v]:=by
 cases c<;>simp only[Gl] at h
 case sl t' l'=>
  obtain⟨et,el⟩:=fA h
  subst et;subst el
  exact⟨v,rfl,hv⟩
 case nils=>
  cases h
  exact⟨v,rfl,none,0,hv,Vu _,VI _,.inl rfl⟩
 case row j=>
  split at h
  ·rename_i u hu
   split at h
   ·rename_i hfz
    obtain⟨et,el⟩:=fA h
    have hrow:=hF j u hu hfz
    obtain⟨ufz,ue,ut,ul⟩:=u
    dsimp only at et el hrow
    subst et
    subst el
    exact⟨v,rfl,by rw[hv.1];exact hrow⟩
   ·cases h
  ·cases h
 all_goals cases h
theorem zx {k v k' v':Ty} {l:List (k.den×v.den)} {l':List (k'.den×v'.den)} (h:NB l=some l'):∃ (e1:k=k') (e2:v=v'),e1 ▸ e2 ▸ l=l':=by
 unfold NB at h
 split at h
 ·rename_i e;exact⟨e.1,e.2,by simpa using h⟩
 ·cases h
def iP (G:Gh) (ρ:Env) (S:St) (fb:List Nat):Prop:=∀ k cs,inL fb k=true->look S.boxes k=some cs->∃ vs T fz,G (ρ.bx k)=some (.cells (List.toArray vs) T fz)/\aB (aJ G ρ) cs vs
theorem iP.nil (G:Gh) (ρ:Env) (S:St):iP G ρ S []:=fun k cs h=>by simp[inL] at h
theorem sD {α:Type} {x:Option (α×List CV)} {y:α} (h:fN x=some y):x=some (y,[]):=by
 unfold fN at h
 split at h
 ·cases h;rfl
 ·cases h
theorem pZ {G:Gh} {ρ:Env} {S:St} {fb:List Nat} (hF:fQ G ρ S) (hL:iP G ρ S fb):∀ (t:Ty) (cs:List CV) (x:t.den) (r:List CV) (vs:List Value),eE S fb t cs=some (x,r)->aB (aJ G ρ) cs vs-> ∃ a b,vs=a++b/\an G t x a/\aB (aJ G ρ) r b
 | .int k,cs,x,r,vs,h,hv=>nt (t:= .int k) (fun c x v hc hv=>by
  cases c<;>simp only[Nd] at hc
  case int k' n=>
   split at hc
   ·rename_i ek;subst ek;cases hc;rw[hv];rfl
   ·cases hc
  all_goals cases hc) h hv
 | .bool,cs,x,r,vs,h,hv=>nt (t:= .bool) (fun c x v hc hv=>by
  cases c<;>simp only[Ll] at hc
  case bool b=>cases hc;rw[hv];rfl
  all_goals cases hc) h hv
 | .str,cs,x,r,vs,h,hv=>nt (t:= .str) (fun c x v hc hv=>by
  cases c<;>simp only[Nf] at hc
  case str b=>cases hc;rw[hv];rfl
  all_goals cases hc) h hv
 | .unit,cs,x,r,vs,h,hv=>by
  simp only[eE] at h;cases h;exact⟨[],vs,rfl,rfl,hv⟩
 | .pair a b,cs,x,r,vs,h,hv=>by
  simp only[eE] at h
  split at h
  ·rename_i y q h1
   split at h
   ·rename_i z q' h2
    cases h
    obtain⟨c1,c2,e1,r1,r2⟩:=pZ hF hL a cs y q vs h1 hv
    obtain⟨d1,d2,e2,s1,s2⟩:=pZ hF hL b q z r c2 h2 r2
    exact⟨c1++d1,d2,by rw[e1,e2,T4],⟨c1,d1,rfl,r1,s1⟩,s2⟩
   ·cases h
  ·cases h
 | .st t,cs,x,r,vs,h,hv=>pZ hF hL t cs x r vs h hv
 | .slice t,cs,x,r,vs,h,hv=>nt (t:= .slice t) (fun c x v hc hv=>PK hF c x v hc hv) h hv
 | .ptr t,cs,x,r,vs,h,hv=>nt (t:= .ptr t) (fun c x v hc hv=>by
  cases c<;>simp only[Ih] at hc
  case cp t' y o=>
   split at hc
   ·rename_i ho
    have:=Vq ho
    subst this
    obtain⟨et,el⟩:=Fp hc
    subst et;subst el
    obtain⟨b,off,c,T,fz,e,hb,hs',hl⟩:=hv
    exact⟨b,off,c,T,fz,by rw[e];rfl,hb,hs',hl⟩
   ·cases hc
  case ref k o=>
   split at hc
   ·rename_i ho
    simp only[Tr] at ho
    have:=Vq ho.1
    subst this
    split at hc
    ·rename_i cs hcs
     have hp:=sD hc
     obtain⟨ws,T,fz,hg,hw⟩:=hL k cs ho.2 hcs
     obtain⟨a,b,e,h1,h2⟩:=pZ hF hL t cs x [] ws hp hw
     cases h2
     have hrep:an G t x ws:=by simpa [e] using h1
     have hlen:=hrep.len
     refine⟨ρ.bx k,0,ws.toArray,T,fz,by rw[hv],hg,by simp;omega, ?_⟩
     have e2:(List.drop 0 ws.toArray.toList).take t.size=ws:=by simp[<- hlen]
     rw[e2];exact hrep
    ·cases hc
   ·cases hc
  all_goals cases hc) h hv
 | .clo g t,cs,x,r,vs,h,hv=>nt (t:= .clo g t) (fun c x v hc hv=>by
  cases c<;>simp only[Nb] at hc
  case clo g' t' y=>
   split at hc
   ·rename_i ho
    have:=Vq ho
    subst this
    obtain⟨et,el⟩:=Fp hc
    subst et;subst el
    obtain⟨caps,e,hc⟩:=hv
    exact⟨caps,by rw[e],hc⟩
   ·cases hc
  case fn g' ks=>
   split at hc
   ·rename_i ho
    have:=Vq ho
    subst this
    have hp:=sD hc
    have hk:∀ l:List Nat,aB (aJ G ρ) (l.map fun k=> .ref k 0) (l.map fun k=>Value.pointer (some ⟨ρ.bx k,0,none⟩)):=fun l=>by
     induction l with
     | nil=>rfl
     | cons k l ih=>exact⟨_,_,rfl,rfl,ih⟩
    obtain⟨a,b,e,h1,h2⟩:=pZ hF hL t _ x [] _ hp (hk ks)
    cases h2
    refine⟨ks.map fun k=>Value.pointer (some ⟨ρ.bx k,0,none⟩),by rw[hv], ?_⟩
    rw[e];simpa using h1
   ·cases hc
  all_goals cases hc) h hv
 | .hnd,cs,x,r,vs,h,hv=>nt (t:= .hnd) (fun c x v hc hv=>by
  cases c<;>simp only[Nc] at hc
  case hnd o k=>
   split at hc
   ·rename_i ho
    have:=Vq ho
    subst this
    cases hc
    cases x with
    | none=>rw[hv.1];rfl
    | some i=>obtain⟨b,hb,e⟩:=hv;exact⟨b,hb,by rw[e]⟩
   ·cases hc
  case nilp=>cases hc;rw[hv];rfl
  all_goals cases hc) h hv
theorem Ng {G:Gh} {ρ:Env} {S:St} (hF:fQ G ρ S) (t:Ty) (cs:List CV) (x:t.den) (r:List CV) (vs:List Value) (h:pack S t cs=some (x,r)) (hv:aB (aJ G ρ) cs vs): ∃ a b,vs=a++b/\an G t x a/\aB (aJ G ρ) r b:=pZ hF (iP.nil G ρ S) t cs x r vs h hv
theorem Ct {G:Gh} {ρ:Env} {S:St} {fb:List Nat} (hF:fQ G ρ S) (hL:iP G ρ S fb) {t:Ty} {cs:List CV} {x:t.den} {vs:List Value} (h:fN (eE S fb t cs)=some x) (hv:aB (aJ G ρ) cs vs):an G t x vs:=by
 obtain⟨a,b,e,h1,h2⟩:=pZ hF hL t cs x [] vs (sD h) hv
 cases h2
 simpa [e] using h1
theorem E1 {G:Gh} {ρ:Env} {S:St} (hF:fQ G ρ S) {t:Ty} {cs:List CV} {x:t.den} {vs:List Value} (h:fN (pack S t cs)=some x) (hv:aB (aJ G ρ) cs vs):an G t x vs:=Ct hF (iP.nil G ρ S) h hv
theorem iJ {G:Gh} {ρ:Env} {S:St} {fb:List Nat} (hF:fQ G ρ S) (hL:iP G ρ S fb) {t:Ty} {s:SV} {x:t.den} {v:Value} (h:gf S fb t s=some x) (hv:aR G ρ s v):bK G t x v:=by
 unfold gf at h
 split at h
 ·rename_i t cs
  obtain⟨vs,e,hl⟩:=hv
  exact⟨vs,e,Ct hF hL h hl⟩
 ·cases h
 ·rename_i t' s' cs hne
  have hl:an G t x [v]:=by
   match cs,hv,h with
   | [c],hv,hp=>exact Ct hF hL hp ⟨v,[],rfl,hv,rfl⟩
  cases t with
  | st t=>exact absurd rfl (hne t)
  | _=>exact hl
 ·cases h
end Go.Dn
namespace Go.Dn
structure ux {P0:Program} (C:Fr P0) (G:Gh) (ρ:Env) (S:St) (w:World) (x:Option aM):Prop where
 agr:Agr G w
 le0:C.G0.le G
 old:∀ b,b<C.n0->¬ C.B b->G b=C.G0 b
 frame:∀ b,b<C.n0->¬ C.B b->w.heap[b]? =C.w0.heap[b]?
 size:C.n0<=w.heap.size
 os:w.os=C.w0.os
 output:w.output=C.w0.output
 pin:∀ k,2000<=k->ρ.bx k=C.pin k
 pinR:∀ k,10000000<=k->ρ.rw k=C.pinR k/\ρ.ob k=C.pinR k
 owned:∀ b o,ρ.own b=some o->G b=none/\b<w.heap.size/\(C.n0<=b\/C.B b)
 boxes:∀ k cs,look S.boxes k=some cs->some (.inl k)≠x->ρ.own (ρ.bx k)=some (.inl k)/\
  ∃ vs T,w.heap[ρ.bx k]? =some (.cells (List.toArray vs) T (0,0))/\aB (aJ G ρ) cs vs
 rows:∀ j r,look S.rows j=some r->some (.inr j)≠x->b8 G ρ w j r
 objs:∀ j r,look S.objs j=some r->some (.ob j)≠x->jx G ρ w j r
 hndI:C.noAr->G.hnd=C.G0.hnd/\∀ t l,look S.objs bf≠some (.ar false t l)
variable {P0:Program} {C:Fr P0} {G:Gh} {ρ:Env} {S:St} {w:World}
theorem Mem.toX (h:Mem C G ρ S w) (x:Option aM):ux C G ρ S w x:=
 ⟨h.agr,h.le0,h.old,h.frame,h.size,h.os,h.output,h.pin,h.pinR,h.owned,fun k cs hk _=>h.boxes k cs hk,fun j r hj _=>h.rows j r hj,fun j r hj _=>h.objs j r hj,h.hndI⟩
theorem ux.toMem {x:Option aM} (h:ux C G ρ S w x) (hb:∀ k cs,look S.boxes k=some cs->some (.inl k)=x->ρ.own (ρ.bx k)=some (.inl k)/\∃ vs T,w.heap[ρ.bx k]? =some (.cells (List.toArray vs) T (0,0))/\aB (aJ G ρ) cs vs) (hr:∀ j r,look S.rows j=some r->some (.inr j)=x->b8 G ρ w j r) (hob:∀ j r,look S.objs j=some r->some (.ob j)=x->jx G ρ w j r):Mem C G ρ S w:=
 ⟨h.agr,h.le0,h.old,h.frame,h.size,h.os,h.output,h.pin,h.pinR,h.owned,fun k cs hk=>by
   by_cases e:some (.inl k)=x
   ·exact hb k cs hk e
   ·exact h.boxes k cs hk e,fun j r hj=>by
   by_cases e:some (.inr j)=x
   ·exact hr j r hj e
   ·exact h.rows j r hj e,fun j r hj=>by
   by_cases e:some (.ob j)=x
   ·exact hob j r hj e
   ·exact h.objs j r hj e,h.hndI⟩
theorem ux.state {S':St} {x:Option aM} (h:ux C G ρ S w x) (hb:∀ k cs,look S'.boxes k=some cs->some (.inl k)≠x->look S.boxes k=some cs) (hr:∀ j r,look S'.rows j=some r->some (.inr j)≠x->look S.rows j=some r) (hob:∀ j r,look S'.objs j=some r->some (.ob j)≠x->look S.objs j=some r) (hna:∀ t l,look S'.objs bf=some (.ar false t l)->∃ t l,look S.objs bf=some (.ar false t l)):ux C G ρ S' w x:=
 { h with hndI:=fun hn=>⟨(h.hndI hn).1,fun t l hl=>by obtain⟨t',l',h'⟩:=hna t l hl;exact (h.hndI hn).2 t' l' h'⟩,boxes:=fun k cs hk e=>h.boxes k cs (hb k cs hk e) e,rows:=fun j r hj e=>h.rows j r (hr j r hj e) e,objs:=fun j r hj e=>h.objs j r (hob j r hj e) e }
theorem ux.grow {w':World} {x:Option aM} {blk:Option Nat} (h:ux C G ρ S w x) (hg:Grow ρ w w' blk) (hx:∀ b,blk=some b->∃ o,x=some o/\ρ.own b=some o):ux C G ρ S w' x where
 agr:=fun b o hb=>by
  have hl:=h.agr b o hb
  rw[hg.block b (bJ hl) (fun e=>by
   obtain⟨o',_,ho⟩:=hx b e.symm
   have:=(h.owned b o' ho).1
   rw[hb] at this;cases this)]
  exact hl
 le0:=h.le0
 old:=h.old
 frame:=fun b hb hB=>by
  rw[hg.block b (Vw hb h.size) (fun e=>by
   obtain⟨o',_,ho⟩:=hx b e.symm
   rcases (h.owned b o' ho).2.2 with h1 | h1
   ·omega
   ·exact hB h1)]
  exact h.frame b hb hB
 size:=Vv h.size hg.size
 os:=hg.os.trans h.os
 output:=hg.output.trans h.output
 pin:=h.pin
 pinR:=h.pinR
 owned:=fun b o ho=>⟨(h.owned b o ho).1,Vw (h.owned b o ho).2.1 hg.size,(h.owned b o ho).2.2⟩
 boxes:=fun k cs hk hne=>by
  obtain⟨h1,vs,T,h2,h3⟩:=h.boxes k cs hk hne
  refine⟨h1,vs,T, ?_,h3⟩
  rw[hg.block _ (bJ h2) (fun e=>by
   obtain⟨o',hx',ho⟩:=hx _ e.symm
   rw[h1] at ho
   cases ho
   exact hne hx'.symm)]
  exact h2
 rows:=fun j r hj hne=>(h.rows j r hj hne).kept hg (fun b e ho=>by
  obtain⟨o',hx',ho'⟩:=hx b e
  rw[ho] at ho'
  cases ho'
  exact hne hx'.symm)
 objs:=fun j r hj hne=>(h.objs j r hj hne).kept hg (fun b e=>by
  obtain⟨o',_,ho'⟩:=hx b e
  exact (h.owned b o' ho').1) (fun b e ho=>by
  obtain⟨o',hx',ho'⟩:=hx b e
  rw[ho] at ho'
  cases ho'
  exact hne hx'.symm)
 hndI:=h.hndI
theorem ux.change {G':Gh} {ρ':Env} {x:Option aM} (h:ux C G ρ S w x) (hG:G.le G') (hh:G'.hnd=G.hnd) (hagr:Agr G' w) (hold:∀ b,b<C.n0->¬ C.B b->G' b=C.G0 b) (hpin:∀ k,2000<=k->ρ'.bx k=ρ.bx k) (hpinR:∀ k,10000000<=k->ρ'.rw k=ρ.rw k/\ρ'.ob k=ρ.ob k) (hs:∀ p,p∈S.boxes->∀ c,c∈p.2->c.bW ρ ρ') (howned:∀ b o,ρ'.own b=some o->G' b=none/\b<w.heap.size/\(C.n0<=b\/C.B b)) (hbx:∀ k cs,look S.boxes k=some cs->some (.inl k)≠x->ρ'.bx k=ρ.bx k/\(ρ.own (ρ.bx k)=some (.inl k)->ρ'.own (ρ.bx k)=some (.inl k))) (hrw:∀ j r,look S.rows j=some r->some (.inr j)≠x->ρ'.rw j=ρ.rw j/\∀ b,ρ.own b=some (.inr j)->ρ'.own b=some (.inr j)) (hob:∀ j r,look S.objs j=some r->some (.ob j)≠x->ρ'.ob j=ρ.ob j/\ρ'.st j=ρ.st j/\∀ b,ρ.own b=some (.ob j)->ρ'.own b=some (.ob j)):ux C G' ρ' S w x where
 agr:=hagr
 le0:=Gh.le_trans h.le0 hG
 old:=hold
 frame:=h.frame
 size:=h.size
 os:=h.os
 output:=h.output
 pin:=fun k hk=>(hpin k hk).trans (h.pin k hk)
 pinR:=fun k hk=>⟨(hpinR k hk).1.trans (h.pinR k hk).1,(hpinR k hk).2.trans (h.pinR k hk).2⟩
 owned:=howned
 boxes:=fun k cs hk hne=>by
  obtain⟨h1,vs,T,h2,h3⟩:=h.boxes k cs hk hne
  obtain⟨e1,e2⟩:=hbx k cs hk hne
  rw[e1]
  exact⟨e2 h1,vs,T,h2,aB.pX (fun c hc y=>aJ.congr hG (hs (k,cs) (jX hk) c hc)) h3⟩
 rows:=fun j r hj hne=>by
  obtain⟨e1,e2⟩:=hrw j r hj hne
  exact (h.rows j r hj hne).congr hG e1 e2
 objs:=fun j r hj hne=>by
  obtain⟨e1,e2,e3⟩:=hob j r hj hne
  exact (h.objs j r hj hne).congr hG hh e1 e2 e3
 hndI:=fun hn=>⟨hh.trans (h.hndI hn).1,(h.hndI hn).2⟩
theorem Na (h:Mem C G ρ S w):ρ.own w.heap.size=none:=by
 cases ho:ρ.own w.heap.size with
 | none=>rfl
 | some o=>have:=(h.owned _ o ho).2.1;omega
theorem B2 (h:Mem C G ρ S w):G w.heap.size=none:=by
 cases ho:G w.heap.size with
 | none=>rfl
 | some o=>have:=bJ (h.agr _ o ho);omega
theorem Grow.alloc (ρ:Env) (w:World) (o:Obj):Grow ρ w (w.alloc o) none:=
 ⟨rfl,rfl,by simp,fun b hb _=>heap_alloc_old w o b hb⟩
def Env.gU (ρ:Env) (d b:Nat):Env:=⟨fun i=>if i=d then b else ρ.bx i,ρ.rw,fun i=>if i=b then some (.inl d) else ρ.own i,ρ.ob,ρ.st⟩
theorem Js {ρ:Env} {k b:Nat} (own:Nat->Option aM) {c:CV} (hc:c.bE k=false):c.bW ρ ⟨fun i=>if i=k then b else ρ.bx i,ρ.rw,own,ρ.ob,ρ.st⟩:=
 ⟨fun i hi=>by
   show (if i=k then b else ρ.bx i)=ρ.bx i
   by_cases e:i=k
   ·subst e;rw[hc] at hi;cases hi
   ·simp[e],fun _ _=>rfl,fun _ _=>rfl,fun _ _=>rfl⟩
theorem Mod.gU {a:Act} {d:Nat} {cs:List CV} {vs:List Value} {T:TypeId} (h:Mod C G ρ S w a) (hd:d<2000) (hn:S.bE d=false) (hcs:∀ c,c∈cs->c.bE d=false) (hv:aB (aJ G ρ) cs vs): Mod C G (ρ.gU d w.heap.size) { tmps:=S.tmps.set d (.v false [.ref d 0]),boxes:=(d,cs)::S.boxes,rows:=S.rows,objs:=S.objs } (w.alloc (.cells vs.toArray T)) (a.put (some d) (.pointer (some ⟨w.heap.size,0,none⟩))):=by
 have hown:=Na h.toMem
 have hgh:=B2 h.toMem
 have hsame:S.bW ρ (ρ.gU d w.heap.size):=JQ _ hn
 have hX:=((h.toMem.toX (some (.inl d))).grow (Grow.alloc ρ w (.cells vs.toArray T)) (by simp)).change (G':=G) (ρ':=ρ.gU d w.heap.size) (Gh.le_refl G) rfl
  (fun b o hb=>by rw[heap_alloc_old _ _ _ (bJ (h.agr b o hb))];exact h.agr b o hb) h.old (fun k hk=>by simp[Env.gU,show ¬ k=d by omega]) (fun _ _=>⟨rfl,rfl⟩) hsame.boxes
  (fun b o ho=>by
    simp only[Env.gU] at ho
    by_cases e:b=w.heap.size
    ·subst e;exact⟨hgh,by simp,.inl h.size⟩
    ·rw[V6 e] at ho;exact⟨(h.owned b o ho).1,by have:=(h.owned b o ho).2.1;simp;omega,(h.owned b o ho).2.2⟩)
  (fun k cs' hk hne=>by
    have hkd:k≠d:=fun e=>hne (by rw[e])
    refine⟨by simp[Env.gU,hkd],fun ho=> ?_⟩
    have:ρ.bx k≠w.heap.size:=fun e=>by rw[e,hown] at ho;cases ho
    simp[Env.gU,this,ho])
  (fun j r hj _=>⟨rfl,fun b ho=>by
    have:b≠w.heap.size:=fun e=>by rw[e,hown] at ho;cases ho
    simp[Env.gU,this,ho]⟩)
  (fun j r hj _=>⟨rfl,rfl,fun b ho=>by
    have:b≠w.heap.size:=fun e=>by rw[e,hown] at ho;cases ho
    simp[Env.gU,this,ho]⟩)
 have hX':=hX.state (S':={ tmps:=S.tmps.set d (.v false [.ref d 0]),boxes:=(d,cs)::S.boxes,rows:=S.rows,objs:=S.objs })
  (fun k cs' hk hne=>by
    have hkd:d≠k:=fun e=>hne (by rw[e])
    simpa [ai,hkd] using hk) (fun j r hj _=>hj) (fun j r hj _=>hj) (fun t l h=>⟨t,l,h⟩)
 have hM:=hX'.toMem (fun k cs' hk e=>by
  cases e
  simp only[ai,V8,Option.some.injEq] at hk
  subst hk
  refine⟨by simp[Env.gU],vs,T,by simp only[Env.gU,V8];exact heap_alloc_new w _, ?_⟩
  exact aB.pX (fun c hc y=>aJ.congr (Gh.le_refl G) (Js _ (hcs c hc))) hv) (fun j r hj e=>by cases e) (fun j r hj e=>by cases e)
 exact { hM with
  tmps:=(h.tmps.congr (Gh.le_refl G) hsame).put (some d) (fun _ _=>by show _=_;simp[Env.gU])
  defers:=h.defers }
theorem yp {ρ':Env} (hb:ρ'.bx=ρ.bx) (hr:ρ'.rw=ρ.rw) (ho:ρ'.ob=ρ.ob) (hs:ρ'.st=ρ.st) (c:CV):c.bW ρ ρ':=⟨fun k _=>by rw[hb],fun k _=>by rw[hr],fun k _=>by rw[ho],fun k _=>by rw[hs]⟩
theorem iG.same {ρ':Env} (hb:ρ'.bx=ρ.bx) (hr:ρ'.rw=ρ.rw) (ho:ρ'.ob=ρ.ob) (hs:ρ'.st=ρ.st) {s:SV}:s.bW ρ ρ':=by
 cases s with
 | v a cs=>exact fun c _=>yp hb hr ho hs c
 | tup l=>exact fun p _ c _=>yp hb hr ho hs c
theorem fK {α:Type} (l:List (Nat×α)) (d i:Nat):look (l.filter fun p=> !Nat.beq p.1 d) i=if i=d then none else look l i:=by
 induction l with
 | nil=>simp[look]
 | cons p r ih=>
  obtain⟨j,y⟩:=p
  by_cases e:j=d
  ·subst e
   have:(List.filter (fun p:Nat×α=> !Nat.beq p.1 j) ((j,y)::r))=r.filter fun p=> !Nat.beq p.1 j:=by simp
   rw[this,ih,ai]
   by_cases e':i=j
   ·simp[e']
   ·have:¬ j=i:=fun h=>e' h.symm
    simp[e',this]
  ·have hb:Nat.beq j d=false:=by
    cases hb:Nat.beq j d with
    | false=>rfl
    | true=>exact absurd (Vq hb) e
   have:(List.filter (fun p:Nat×α=> !Nat.beq p.1 d) ((j,y)::r))=(j,y)::r.filter fun p=> !Nat.beq p.1 d:=by simp[hb]
   rw[this,ai,ai,ih]
   by_cases e':j=i
   ·subst e';simp[e]
   ·simp[e']
def Env.putRow (ρ:Env) (d:Nat) (v:Value):Env:=⟨ρ.bx,fun i=>if i=d then v else ρ.rw i,fun b=>if v.ownBlock=some b then some (.inr d) else ρ.own b,ρ.ob,ρ.st⟩
theorem Mod.putRow {a:Act} {w':World} {blk jo:Option Nat} {d:Nat} {v:Value} {r:jk} {R:List (Nat×jk)} (h:Mod C G ρ S w a) (hg:Grow ρ w w' blk) (hblk:∀ b,blk=some b->∃ j,jo=some j/\ρ.own b=some (.inr j)) (hR:∀ i q,look R i=some q->look S.rows i=some q/\jo≠some i) (hd2:d<2000) (hd:S.aP d=false) (hf:r.fz=false) (xs:List Value) (hown:w'.ownsRow 0 r.e r.t.size v r.l.length xs) (hrep:bF (an G r.t) r.l xs) (hnew:∀ b,v.ownBlock=some b->(w.heap.size<=b/\b<w'.heap.size)\/blk=some b): Mod C G (ρ.putRow d v) { tmps:=S.tmps.set d (.v false [.row d]),boxes:=S.boxes,rows:=(d,r)::R,objs:=S.objs } w' (a.put (some d) v):=by
 have hsame:S.bW ρ (ρ.putRow d v):=AL _ hd
 have hfree:∀ b,v.ownBlock=some b->ρ.own b=none\/∃ j,jo=some j/\ρ.own b=some (.inr j):=fun b hb=>by
  rcases hnew b hb with ⟨h1,_⟩ | h1
  ·left
   cases ho:ρ.own b with
   | none=>rfl
   | some o=>have:=(h.owned b o ho).2.1;omega
  ·exact .inr (hblk b h1)
 have hghost:∀ b,v.ownBlock=some b->G b=none/\b<w'.heap.size/\(C.n0<=b\/C.B b):=fun b hb=>by
  rcases hnew b hb with ⟨h1,h2⟩ | h1
  ·refine⟨?_,h2,.inl (Vv h.size h1)⟩
   cases hG:G b with
   | none=>rfl
   | some o=>have:=bJ (h.agr b o hG);omega
  ·obtain⟨j,_,ho⟩:=hblk b h1
   have:=h.owned b _ ho
   exact⟨this.1,Vw this.2.1 hg.size,this.2.2⟩
 have hX0:=(h.toMem.toX (jo.map .inr)).grow hg (fun b hb=>by
  obtain⟨j,e,ho⟩:=hblk b hb
  exact⟨.inr j,by rw[e];rfl,ho⟩)
 have hX1:=hX0.state (S':={ tmps:=S.tmps,boxes:=S.boxes,rows:=R.filter fun p=> !Nat.beq p.1 d,objs:=S.objs }) (fun k cs hk _=>hk) (fun j q hj _=>by
  simp only[fK] at hj
  split at hj
  ·cases hj
  ·exact (hR j q hj).1) (fun j q hj _=>hj) (fun t l h=>⟨t,l,h⟩)
 have hX2:=hX1.change (G':=G) (ρ':=ρ.putRow d v) (Gh.le_refl G) rfl hX0.agr hX0.old (fun _ _=>rfl) (fun k hk=>⟨by simp[Env.putRow,show ¬ k=d by omega],rfl⟩) hsame.boxes
  (fun b o ho=>by
    simp only[Env.putRow] at ho
    by_cases e:v.ownBlock=some b
    ·exact hghost b e
    ·rw[V6 e] at ho;exact hX0.owned b o ho)
  (fun k cs hk _=>⟨rfl,fun ho=>by
    have:v.ownBlock≠some (ρ.bx k):=fun e=>by
     rcases hfree _ e with h1 | ⟨j,_,h1⟩
     ·rw[ho] at h1;cases h1
     ·rw[ho] at h1;cases h1
    simp[Env.putRow,this,ho]⟩)
  (fun j q hj _=>by
    simp only[fK] at hj
    split at hj
    ·cases hj
    ·rename_i hjd
     obtain⟨hj1,hj2⟩:=hR j q hj
     refine⟨by simp[Env.putRow,hjd],fun b ho=> ?_⟩
     have:v.ownBlock≠some b:=fun e=>by
      rcases hfree _ e with h1 | ⟨i,e1,h1⟩
      ·rw[ho] at h1;cases h1
      ·rw[ho] at h1;cases h1;exact hj2 e1
     simp[Env.putRow,this,ho])
  (fun j q hj _=>⟨rfl,rfl,fun b ho=>by
    have:v.ownBlock≠some b:=fun e=>by
     rcases hfree _ e with h1 | ⟨i,_,h1⟩
     ·rw[ho] at h1;cases h1
     ·rw[ho] at h1;cases h1
    simp[Env.putRow,this,ho]⟩)
 refine { agr:=hX2.agr,le0:=hX2.le0,old:=hX2.old,frame:=hX2.frame,size:=hX2.size,os:=hX2.os,output:=hX2.output,pin:=hX2.pin,pinR:=hX2.pinR,owned:=hX2.owned,boxes:= ?_,rows:= ?_,objs:=fun j q hj=>hX2.objs j q hj (by cases jo<;>simp),hndI:=hX2.hndI,tmps:= ?_,defers:=h.defers }
 ·intro k cs hk
  exact hX2.boxes k cs hk (by cases jo<;>simp)
 ·intro j q hj
  simp only[ai] at hj
  split at hj
  ·rename_i e
   subst e
   cases hj
   unfold b8
   rw[V6 (by simp[hf])]
   refine⟨xs,by simpa [Env.putRow] using hown,hrep,fun b hb=> ?_⟩
   simp only[Env.putRow,V8] at hb ⊢
   rw[V7 hb]
  ·rename_i e
   have hjd:¬ j=d:=fun h=>e h.symm
   exact hX2.rows j q (by simp only[fK,V6 hjd];exact hj) (by
    have:=(hR j q hj).2
    cases jo with
    | none=>simp
    | some i=>simp only[VO,ne_eq,Option.some.injEq,aM.inr.injEq];exact fun e=>this (by rw[e]))
 ·exact (h.tmps.congr (Gh.le_refl G) hsame).put (some d) (fun _ _=>⟨by simp[Env.putRow],by
   rcases hown.2 with ⟨e,_⟩ | ⟨g,cap,cur,e,_⟩
   ·exact⟨_,_,_,e⟩
   ·exact⟨_,_,_,e⟩⟩)
theorem Mod.LB {a:Act} {w':World} {k:Nat} {cs:List CV} {vs:List Value} {T:TypeId} (h:Mod C G ρ S w a) (hk:∃ l,look S.boxes k=some l) (hg:Grow ρ w w' (some (ρ.bx k))) (hw:w'.heap[ρ.bx k]? =some (.cells vs.toArray T (0,0))) (hv:aB (aJ G ρ) cs vs):Mod C G ρ { S with boxes:=(k,cs)::S.boxes } w' a:=by
 obtain⟨l,hl⟩:=hk
 have ho:=(h.boxes k l hl).1
 have hX:=((h.toMem.toX (some (.inl k))).grow hg (fun b hb=>by cases hb;exact⟨.inl k,rfl,ho⟩)).state (S':={ S with boxes:=(k,cs)::S.boxes })
  (fun i c hi hne=>by
    have:¬ k=i:=fun e=>hne (by rw[e])
    simpa [ai,this] using hi) (fun j r hj _=>hj) (fun j r hj _=>hj) (fun t l h=>⟨t,l,h⟩)
 have hM:=hX.toMem (fun i c hi e=>by
  cases e
  simp only[ai,V8,Option.some.injEq] at hi
  subst hi
  exact⟨ho,vs,T,hw,hv⟩) (fun j r hj e=>by cases e) (fun j r hj e=>by cases e)
 exact { hM with tmps:=h.tmps,defers:=h.defers }
theorem Mod.setRow {a:Act} {w':World} {j:Nat} {q r:jk} (h:Mod C G ρ S w a) (hj:look S.rows j=some q) (hq:q.fz=false) (hr:r.fz=false) {b:Nat} (hb:(ρ.rw j).ownBlock=some b) (hg:Grow ρ w w' (some b)) (xs:List Value) (hown:w'.ownsRow 0 r.e r.t.size (ρ.rw j) r.l.length xs) (hrep:bF (an G r.t) r.l xs):Mod C G ρ { S with rows:=(j,r)::S.rows } w' a:=by
 have hrow:=h.rows j q hj
 unfold b8 at hrow
 rw[V6 (by simp[hq])] at hrow
 obtain⟨_,_,_,ho⟩:=hrow
 have hX:=((h.toMem.toX (some (.inr j))).grow hg (fun b' hb'=>by cases hb';exact⟨.inr j,rfl,ho b hb⟩)).state (S':={ S with rows:=(j,r)::S.rows }) (fun k cs hk _=>hk)
  (fun i c hi hne=>by
    have:¬ j=i:=fun e=>hne (by rw[e])
    simpa [ai,this] using hi) (fun j r hj _=>hj) (fun t l h=>⟨t,l,h⟩)
 have hM:=hX.toMem (fun k cs hk e=>by cases e) (fun i c hi e=>by
  cases e
  simp only[ai,V8,Option.some.injEq] at hi
  subst hi
  unfold b8
  rw[V6 (by simp[hr])]
  exact⟨xs,hown,hrep,ho⟩) (fun j r hj e=>by cases e)
 exact { hM with tmps:=h.tmps,defers:=h.defers }
structure Fz (G G':Gh) (ρ ρ':Env):Prop where
 le:G.le G'
 bx:ρ'.bx=ρ.bx
 rw:ρ'.rw=ρ.rw
 ob:ρ'.ob=ρ.ob
 st:ρ'.st=ρ.st
 hnd:G'.hnd=G.hnd
 own:∀ b o,ρ'.own b=some o->ρ.own b=some o
 new:∀ b,G' b≠G b->∃ j,ρ.own b=some (.inr j)
theorem Fz.refl (G:Gh) (ρ:Env):Fz G G ρ ρ:=⟨Gh.le_refl G,rfl,rfl,rfl,rfl,rfl,fun _ _ h=>h,fun _ h=>absurd rfl h⟩
theorem Fz.trans {G1 G2 G3:Gh} {r1 r2 r3:Env} (h:Fz G1 G2 r1 r2) (k:Fz G2 G3 r2 r3):Fz G1 G3 r1 r3:=
 ⟨Gh.le_trans h.le k.le,k.bx.trans h.bx,k.rw.trans h.rw,k.ob.trans h.ob,k.st.trans h.st,k.hnd.trans h.hnd,fun b o x=>h.own b o (k.own b o x),fun b hb=>by
   by_cases e:G3 b=G2 b
   ·exact h.new b (fun e'=>hb (e.trans e'))
   ·obtain⟨j,hj⟩:=k.new b e;exact⟨j,h.own b _ hj⟩⟩
def qp (rs:List (Nat×jk)) (j:Nat):List (Nat×jk):=match look rs j with | some q=>(j,{ q with fz:=true })::rs | none=>rs
theorem Mod.qp {a:Act} (h:Mod C G ρ S w a) (j:Nat):∃ G' ρ',Fz G G' ρ ρ'/\Mod C G' ρ' { S with rows:=qp S.rows j } w a:=by
 unfold Dn.qp
 cases hj:look S.rows j with
 | none=>exact⟨G,ρ,Fz.refl G ρ,{ h.toMem.Dl (S':={ S with rows:=S.rows }) rfl rfl rfl with tmps:=h.tmps,defers:=h.defers }⟩
 | some q=>
  have hrow:=h.rows j q hj
  have same:cW G q.t.size (an G q.t) q.l (ρ.rw j)->∃ G' ρ',Fz G G' ρ ρ'/\Mod C G' ρ' { S with rows:=(j,{ q with fz:=true })::S.rows } w a:=fun hs=>by
   refine⟨G,ρ,Fz.refl G ρ,{ h with rows:= ?_,tmps:=h.tmps }⟩
   intro i r hi
   simp only[ai] at hi
   split at hi
   ·rename_i e;subst e;cases hi;unfold b8;simpa using hs
   ·exact h.rows i r hi
  by_cases hf:q.fz=true
  ·apply same
   unfold b8 at hrow;rw[V7 hf] at hrow;exact hrow
  ·have hf':q.fz=false:=by simpa using hf
   unfold b8 at hrow
   rw[V6 hf] at hrow
   obtain⟨xs,⟨hlen,hn | ⟨g,cap,cur,hv,_,hg,hnc,hcm,hcs,htake⟩⟩,hl,ho⟩:=hrow
   ·apply same
    have:q.l=[]:=Uh hn.2
    exact⟨none,0,by rw[hn.1,this];rfl,by rw[this];simp,VI _,.inl this⟩
   ·have hog:=ho g (by rw[hv];rfl)
    have hgn:=h.owned g _ hog
    let G':Gh:=⟨fun b=>if b=g then w.heap[g]? else G b,G.hnd⟩
    let ρ':Env:=⟨ρ.bx,ρ.rw,fun b=>if b=g then none else ρ.own b,ρ.ob,ρ.st⟩
    have hle:G.le G':=⟨fun b o hb=>by
     show (if b=g then w.heap[g]? else G b)=some o
     by_cases e:b=g
     ·subst e;rw[hgn.1] at hb;cases hb
     ·rw[V6 e];exact hb,fun _ _ h=>h⟩
    have hfz:Fz G G' ρ ρ':=⟨hle,rfl,rfl,rfl,rfl,rfl,fun b o ho'=>by
     simp only[ρ'] at ho'
     by_cases e:b=g
     ·simp[e] at ho'
     ·simpa [e] using ho',fun b hb=>by
     by_cases e:b=g
     ·exact⟨j,by rw[e];exact hog⟩
     ·simp[G',e] at hb⟩
    have hX:=(h.toMem.toX (some (.inr j))).change (G':=G') (ρ':=ρ') hle rfl
     (fun b o hb=>by
       simp only[G'] at hb
       by_cases e:b=g
       ·subst e;simpa using hb
       ·rw[V6 e] at hb;exact h.agr b o hb)
     (fun b hb hB=>by
       have e:b≠g:=fun e=>by
        subst e
        rcases hgn.2.2 with h1 | h1
        ·omega
        ·exact hB h1
       simp only[G',V6 e];exact h.old b hb hB)
     (fun _ _=>rfl) (fun _ _=>⟨rfl,rfl⟩) (fun p _ c _=>yp (ρ:=ρ) (ρ':=ρ') rfl rfl rfl rfl c)
     (fun b o ho'=>by
       have e:b≠g:=fun e=>by simp[ρ',e] at ho'
       have:=h.owned b o (hfz.own b o ho')
       exact⟨by simp only[G',V6 e];exact this.1,this.2⟩)
     (fun k cs hk _=>⟨rfl,fun ho'=>by
       have e:ρ.bx k≠g:=fun e=>by rw[e,hog] at ho';cases ho'
       simp only[ρ',V6 e];exact ho'⟩)
     (fun i r hi hne=>⟨rfl,fun b ho'=>by
       have e:b≠g:=fun e=>by rw[e,hog] at ho';cases ho';exact hne rfl
       simp only[ρ',V6 e];exact ho'⟩)
     (fun i r hi hne=>⟨rfl,rfl,fun b ho'=>by
       have e:b≠g:=fun e=>by rw[e,hog] at ho';cases ho'
       simp only[ρ',V6 e];exact ho'⟩)
    refine⟨G',ρ',hfz, ?_⟩
    have hX':=hX.state (S':={ S with rows:=(j,{ q with fz:=true })::S.rows }) (fun k cs hk _=>hk) (fun i c hi hne=>by
     have:¬ j=i:=fun e=>hne (by rw[e])
     simpa [ai,this] using hi) (fun j r hj _=>hj) (fun t l h=>⟨t,l,h⟩)
    have hM:=hX'.toMem (fun k cs hk e=>by cases e) (fun i c hi e=>by
     cases e
     simp only[ai,V8,Option.some.injEq] at hi
     subst hi
     unfold b8
     rw[V7 rfl]
     refine⟨some ⟨g,0,none⟩,cap,hv,hnc,hcm,.inr ⟨g,0,cur,q.e,(0,0),rfl,by simp[G',hg], ?_, ?_⟩⟩
     ·simp only[VH];rw[hcs];exact VC _ hnc
     ·simp only[Uf];rw[htake];exact hl.mono (an.mono hle q.t)) (fun j r hj e=>by cases e)
    exact { hM with tmps:=h.tmps.congr hle ⟨fun s _=>iG.same (ρ:=ρ) (ρ':=ρ') rfl rfl rfl rfl,fun p _ c _=>yp (ρ:=ρ) (ρ':=ρ') rfl rfl rfl rfl c⟩,defers:=h.defers }
theorem AJ (S:St) (js:List Nat):ay S js={ S with rows:=js.foldl qp S.rows }:=rfl
theorem Mod.freeze {a:Act}:∀ (js:List Nat) {G:Gh} {ρ:Env} {S:St},Mod C G ρ S w a->∃ G' ρ',Fz G G' ρ ρ'/\Mod C G' ρ' (ay S js) w a
 | [],G,ρ,S,h=>⟨G,ρ,Fz.refl G ρ,h⟩
 | j::js,G,ρ,S,h=>by
  obtain⟨G1,ρ1,f1,h1⟩:=h.qp j
  obtain⟨G2,ρ2,f2,h2⟩:=Mod.freeze js h1
  exact⟨G2,ρ2,f1.trans f2,h2⟩
end Go.Dn
namespace Go.Dn
theorem fE {β:Type} {b:Bool} {x:Option β} {r:β} (h:chk b x=some r):b=true/\x=some r:=by
 cases b with
 | true=>exact⟨rfl,h⟩
 | false=>cases h
theorem bind_some {α β:Type} {x:Option α} {f:α->Option β} {r:β} (h:x.bind f=some r):∃ y,x=some y/\f y=some r:=by
 cases x with
 | none=>cases h
 | some y=>exact⟨y,rfl,h⟩
variable {P:Program} {G:Gh} {ρ:Env} {w:World} {β:Type}
theorem OH {op:BinOp} {ka kb:IntKind} {x y:Int} {k:CV->Option β} {r:β} (h:Fo op ka x kb y k=some r): ∃ c,k c=some r/\∀ (P:Program) (G:Gh) (ρ:Env) (w:World) (t:TypeId),∃ v,(binOp op t (.int ka x) (.int kb y)).run P w= .ok v w/\aJ G ρ c v:=by
 unfold Fo at h
 cases op
 case shl=>
  obtain⟨h1,h2⟩:=fE h
  exact⟨_,h2,fun P G ρ w t=>⟨_,by simp only[V0] at h1;simp[binOp,Op.shift,show ¬ y<0 by omega],rfl⟩⟩
 case shr=>
  obtain⟨h1,h2⟩:=fE h
  exact⟨_,h2,fun P G ρ w t=>⟨_,by simp only[V0] at h1;simp[binOp,Op.shift,show ¬ y<0 by omega],rfl⟩⟩
 all_goals
  simp only at h
  split at h
  ·cases h
  ·rename_i hk
   have hk':ka=kb:=by simpa using hk
   subst hk'
   first
    | cases h
    | exact⟨_,h,fun P G ρ w t=>⟨_,by simp[binOp,Op.intArith,Op.intCmp,Op.intBits],rfl⟩⟩
    | (obtain⟨h1,h2⟩:=fE h
       exact⟨_,h2,fun P G ρ w t=>⟨_,by simp only[bne_iff_ne,ne_eq] at h1;simp[binOp,Op.intDiv,h1],rfl⟩⟩)
theorem Ko (l:List UInt8):(bs l).toList=l:=by rw[ByteArray.toList_eq,OP]
theorem yh (l:List UInt8):(bs l).size=l.length:=by simp[bs,ByteArray.size]
theorem Sc (a b:List UInt8):bs a++bs b=bs (a++b):=by
 apply ByteArray.ext
 apply Array.ext'
 simp[bs]
theorem OI {op:BinOp} {x y:List UInt8} {k:CV->Option β} {r:β} (h:Km op x y k=some r): ∃ c,k c=some r/\∀ (P:Program) (G:Gh) (ρ:Env) (w:World) (t:TypeId),∃ v,(binOp op t (.string (bs x)) (.string (bs y))).run P w= .ok v w/\aJ G ρ c v:=by
 unfold Km at h
 cases op
 case add=>
  obtain⟨h1,h2⟩:=fE h
  refine⟨_,h2,fun P G ρ w t=>⟨_, ?_,rfl⟩⟩
  simp only[V0] at h1
  have:¬ ((((bs x).size+(bs y).size:Nat):Int)>IntKind.i64.max):=by
   simp only[maxLen] at h1
   rw[yh,yh]
   simp[IntKind.max,IntKind.signed,IntKind.bits]
   omega
  simp only[binOp,Op.stringOp,this,V5,Sc]
  rfl
 all_goals first
  | cases h
  | exact⟨_,h,fun P G ρ w t=>⟨_,by simp only[binOp,Op.stringOp,Ko];rfl,rfl⟩⟩
theorem D1 {op:BinOp} {t:TypeId} {x y:Operand} {k:IntKind} {n:Int} {v:Value}:(eqGuard op t x y (.int k n) v).run P w= .ok () w:=by
 cases op<;>cases v<;>rfl
theorem Ma {op:BinOp} {t:TypeId} {x y:Operand} {s:ByteArray} {v:Value}:(eqGuard op t x y (.string s) v).run P w= .ok () w:=by
 cases op<;>cases v<;>rfl
theorem lg {t:TypeId} {d:TypeDesc} (h:P.underlying t=some d):(isAgg t).run P w= .ok (l7 P t) w:=by
 simp only[isAgg,Sem.run_bind,run_underlying h,Result.andThen_ok,l7,h]
 cases d<;>rfl
theorem run_sizeOf {t:TypeId} {i:TypeInfo} (h:P.info? t=some i):(sizeOf t).run P w= .ok (bI P t) w:=by
 simp[sizeOf,typeInfo,h,bI]
theorem Ks {b off:Nat} {c:Array Value} {T:TypeId} {fz:Nat×Nat} (hb:w.heap[b]? =some (.cells c T fz)) (n:Nat):∀ j v,((c.toList.drop off).take n)[j]? =some v->w.cell? ((⟨b,off,none⟩:Addr).add j)=some v:=by
 intro j v hj
 rw[Uz] at hj
 split at hj
 ·rw[Uq] at hj
  have hadd:(⟨b,off,none⟩:Addr).add j=⟨b,off+j,none⟩:=by unfold Addr.add;split<;>simp_all
  rw[hadd,cell_of_row w b _ c T fz hb]
  simpa using hj
 ·cases hj
theorem yS {t:TypeId} {d:TypeDesc} {i:TypeInfo} (hu:P.underlying t=some d) (hi:P.info? t=some i) {b off:Nat} {vs:List Value} (hl:vs.length=bI P t) (h:∀ j v,vs[j]? =some v->w.cell? ((⟨b,off,none⟩:Addr).add j)=some v): (l7 P t=true->(loadVar t ⟨b,off,none⟩).run P w= .ok (.agg vs.toArray) w)/\(l7 P t=false->∀ v,vs=[v]->(loadVar t ⟨b,off,none⟩).run P w= .ok v w):=by
 constructor
 ·intro ha
  simp only[loadVar,Sem.run_bind,lg hu,Result.andThen_ok,ha,V8,run_sizeOf hi, <- hl]
  rw[run_loadCells_list w ⟨b,off,none⟩ vs h]
  rfl
 ·intro ha v hv
  subst hv
  have h0:=h 0 v rfl
  simp only[loadVar,Sem.run_bind,lg hu,Result.andThen_ok,ha]
  have:(⟨b,off,none⟩:Addr).add 0=⟨b,off,none⟩:=rfl
  rw[this] at h0
  simp[h0]
theorem Rw {t:TypeId} {d:TypeDesc} (h:P.underlying t=some d):∃ i,P.info? t=some i:=by
 unfold Program.underlying at h
 cases hi:P.info? t with
 | none=>rw[hi] at h;cases h
 | some i=>exact⟨i,rfl⟩
theorem fY {t:TypeId} (h:okT P t=true):∃ d i,P.underlying t=some d/\P.info? t=some i:=by
 obtain⟨d,hd⟩:=VM.1 h
 obtain⟨i,hi⟩:=Rw hd
 exact⟨d,i,hd,hi⟩
theorem vA {l cs:List CV} {off n:Nat} (h:C5 l off n=some cs):cs=(l.drop off).take n/\cs.length=n:=by
 unfold C5 at h
 simp only at h
 split at h
 ·rename_i hb;cases h;exact⟨rfl,Vq hb⟩
 ·cases h
theorem tO {T:TypeId} {l:List CV} {off:Nat} {k:SV->Option β} {r:β} (h:iW P T l off k=some r): ∃ s,k s=some r/\∀ (G:Gh) (ρ:Env) (w:World) (b base:Nat) (vs:List Value),aB (aJ G ρ) l vs->(∀ j v,vs[j]? =some v->w.cell? ((⟨b,base,none⟩:Addr).add j)=some v)-> ∃ v,(loadVar T ⟨b,base+off,none⟩).run P w= .ok v w/\aR G ρ s v:=by
 unfold iW at h
 split at h
 ·rename_i hok
  obtain⟨d,i,hd,hi⟩:=fY hok
  split at h
  ·rename_i cs hc
   obtain⟨e,hlen⟩:=vA hc
   have key:∀ (G:Gh) (ρ:Env) (w:World) (b base:Nat) (vs:List Value),aB (aJ G ρ) l vs->(∀ j v,vs[j]? =some v->w.cell? ((⟨b,base,none⟩:Addr).add j)=some v)->
    ∃ us:List Value,us.length=bI P T/\aB (aJ G ρ) cs us/\∀ j v,us[j]? =some v->w.cell? ((⟨b,base+off,none⟩:Addr).add j)=some v:=by
    intro G ρ w b base vs hv hcell
    refine⟨(vs.drop off).take (bI P T), ?_,by rw[e];exact (hv.drop off).take _, ?_⟩
    ·have:=((hv.drop off).take (bI P T)).len
     rw[this, <- e,hlen]
    ·intro j v hj
     rw[Uz] at hj
     split at hj
     ·rw[Uq] at hj
      have:=hcell (off+j) v hj
      have e1:(⟨b,base,none⟩:Addr).add (off+j)=⟨b,base+off+j,none⟩:=by unfold Addr.add;split<;>simp_all [Vl]
      have e2:(⟨b,base+off,none⟩:Addr).add j=⟨b,base+off+j,none⟩:=by unfold Addr.add;split<;>simp_all
      rw[e2, <- e1];exact this
     ·cases hj
   split at h
   ·rename_i ha
    refine⟨_,h,fun G ρ w b base vs hv hcell=> ?_⟩
    obtain⟨us,hl,hus,hc'⟩:=key G ρ w b base vs hv hcell
    exact⟨_,(yS hd hi hl hc').1 ha,us,rfl,hus⟩
   ·rename_i ha
    split at h
    ·rename_i c
     refine⟨_,h,fun G ρ w b base vs hv hcell=> ?_⟩
     obtain⟨us,hl,hus,hc'⟩:=key G ρ w b base vs hv hcell
     obtain⟨y,ey,hy⟩:=hus.single
     exact⟨y,(yS hd hi hl hc').2 (by simpa using ha) y ey,hy⟩
    ·cases h
  ·cases h
 ·cases h
theorem EU {α:Type} {l:List α} {i:Int} {x:α} (h:idx l i=some x):0<=i/\i<l.length/\l[i.toNat]? =some x:=by
 unfold idx at h
 split at h
 ·rename_i h0
  refine⟨h0, ?_,h⟩
  have:=(Ut.1 h).1
  omega
 ·cases h
theorem run_indexAt_slice {t e:TypeId} (ht:P.underlying t=some (.slice e)) (hok:okT P e=true) {ik:IntKind} {i:Int} {b off len cap:Nat} (h0:0<=i) (h1:i<len): (Instr.indexAt t (.slice (some ⟨b,off,none⟩) len cap) (.int ik i)).run P w= .ok (.pointer (some ⟨b,off+i.toNat*bI P e,none⟩)) w:=by
 obtain⟨d,inf,hd,hi⟩:=fY hok
 have hadd:(⟨b,off,none⟩:Addr).add (i.toNat*bI P e)=⟨b,off+i.toNat*bI P e,none⟩:=by unfold Addr.add;split<;>simp_all
 simp only[Instr.indexAt,asIntOf,Sem.run_bind,Sem.run_pure,Result.andThen_ok,run_underlying ht,h0,h1,VQ,V8,run_sizeOf hi,hadd]
theorem cW.at {t:Ty} {l:List t.den} {v:Value} (h:cW G t.size (an G t) l v) {i:Nat} {x:t.den} (hx:l[i]? =some x): ∃ b off c T fz cap,v= .slice (some ⟨b,off,none⟩) l.length cap/\G b=some (.cells c T fz)/\off+i*t.size+t.size<=c.size/\an G t x ((c.toList.drop (off+i*t.size)).take t.size):=by
 obtain⟨a,cap,hv,h1,h2,h3⟩:=h
 have hlt:=(Ut.1 hx).1
 rcases h3 with rfl | ⟨b,off,c,T,fz,ha,hb,hs,hl⟩
 ·simp at hx
 ·refine⟨b,off,c,T,fz,cap,by rw[hv,ha],hb, ?_, ?_⟩
  ·have:i*t.size+t.size<=l.length*t.size:=by rw[<- Nat.succ_mul];exact VC _ hlt
   omega
  ·have:=hl.get (fun x cs hr=>an.len hr) hx
   rw[List.drop_take,Vk,Ua] at this
   have e:min t.size (l.length*t.size - i*t.size)=t.size:=by
    have:i*t.size+t.size<=l.length*t.size:=by rw[<- Nat.succ_mul];exact VC _ hlt
    omega
   rw[e] at this
   exact this
end Go.Dn
namespace Go.Dn
variable {β:Type}
def fk (P:Program) (o:Oper) (S M:St) (s:SV):Prop:=
 ∀ (C:Fr P) (G:Gh) (ρ:Env) (w:World) (a:Act),Mem C G ρ M w->(∀ x,x∈o.op.operands->aR G ρ (S.ev x) (a.eval x))->
  ∃ v,(execOp a.eval o).run P w= .ok (.value v) w/\aR G ρ s v
theorem aO {G:Gh} {ρ:Env} {s:SV} {c:CV} {v:Value} (h:aR G ρ s v) (e:s= .v false [c]):aJ G ρ c v:=by subst e;exact h
theorem IC {G:Gh} {ρ:Env} {n:Nat} {c c':CV} {v:Value} (h:Ff n c=some c') (hv:aJ G ρ c v):∃ b off,v= .pointer (some ⟨b,off,none⟩)/\aJ G ρ c' (.pointer (some ⟨b,off+n,none⟩)):=by
 cases c<;>simp only[Ff] at h<;>try cases h
 case ref k o=>exact⟨_,_,hv,rfl⟩
 case cp t x o=>
  obtain⟨b,off,c,T,fz,e,hb,hs,hl⟩:=hv
  exact⟨_,_,e,b,off,c,T,fz,by rw[Vl],hb,hs,hl⟩
 case rp j sz i o=>
  obtain⟨b,len,cap,e1,e2⟩:=hv
  exact⟨_,_,e2,b,len,cap,e1,by rw[Vl]⟩
 case hnd o k=>
  cases o with
  | none=>cases h
  | some i=>
   cases h
   obtain⟨b,hb,e⟩:=hv
   exact⟨_,_,e,b,hb,rfl⟩
theorem yo {G:Gh} {ρ:Env} {c:CV} {v:Value} (h:aJ G ρ c v) (hok:c.ok=true):v.oneCell'=true/\v.cells= #[v]:=by
 cases c
 case any=>cases hok
 case opq u=>cases hok
 case sl t l=>obtain⟨a,cap,e,_⟩:=h;subst e;exact⟨rfl,rfl⟩
 case cp t x o=>obtain⟨b,off,c,T,fz,e,_⟩:=h;subst e;exact⟨rfl,rfl⟩
 case clo g t x=>obtain⟨caps,e,_⟩:=h;subst e;exact⟨rfl,rfl⟩
 case rp j sz i o=>obtain⟨b,len,cap,_,e⟩:=h;subst e;exact⟨rfl,rfl⟩
 case row j=>obtain⟨_,a,n,c,e⟩:=h;subst e;exact⟨rfl,rfl⟩
 case mp j=>obtain⟨_,b,e⟩:=h;subst e;exact⟨rfl,rfl⟩
 case kseq g j=>obtain⟨b,T,fz,e,_⟩:=h;subst e;exact⟨rfl,rfl⟩
 case nb b=>obtain⟨c,e,_⟩:=h;subst e;exact⟨rfl,rfl⟩
 case hnd o k=>
  cases o with
  | none=>obtain⟨e,_⟩:=h;subst e;exact⟨rfl,rfl⟩
  | some i=>obtain⟨b,_,e⟩:=h;subst e;exact⟨rfl,rfl⟩
 all_goals (have e:v=_:=h;subst e;exact⟨rfl,rfl⟩)
section
variable {X:Cx} {o:Oper} {S M:St} {k:SV->Option β} {r:β}
theorem Nh {P:Program} {T:TypeId} {l:List CV} {off:Nat} {s:SV} (h:iW P T l off some=some s): ∀ (G:Gh) (ρ:Env) (w:World) (vs:List Value),aB (aJ G ρ) l vs->∃ v,(part T vs.toArray off).run P w= .ok v w/\aR G ρ s v:=by
 unfold iW at h
 split at h
 ·rename_i hok
  obtain⟨d,i,hd,hi⟩:=fY hok
  split at h
  ·rename_i cs' hc
   obtain⟨e,hlen⟩:=vA hc
   split at h
   ·rename_i ha
    cases h
    intro G ρ w vs hl
    refine⟨.agg ((vs.drop off).take (bI P T)).toArray, ?_,_,rfl,by rw[e];exact (hl.drop _).take _⟩
    simp only[Sem.run_bind,Result.andThen_ok,Sem.run_pure,part,lg hd,ha,V8,run_sizeOf hi]
    congr 2
    simp
   ·rename_i ha
    split at h
    ·rename_i c
     cases h
     intro G ρ w vs hl
     have hsub:=(hl.drop off).take (bI P T)
     rw[<- e] at hsub
     obtain⟨y,ey,hy⟩:=hsub.single
     have hy0:vs[off]? =some y:=by
      have:((vs.drop off).take (bI P T))[0]? =some y:=by rw[ey];rfl
      rw[Uz] at this
      split at this
      ·simpa using this
      ·cases this
     refine⟨y, ?_,hy⟩
     simp[part,lg hd,ha,hy0]
    ·cases h
  ·cases h
 ·cases h
theorem MU {P:Program} {g:TypeId->SV->SV->Option Bool} {d:Nat} (hg:∀ t x y r,g t x y=some r->∀ (G:Gh) (ρ:Env) (w:World) vx vy,aR G ρ x vx->aR G ρ y vy->(Op.equalIn d t vx vy).run P w= .ok r w) {xs ys:List CV}: ∀ {fs:List Field} {r:Bool},BP P g xs ys fs=some r->∀ (G:Gh) (ρ:Env) (w:World) vs us,aB (aJ G ρ) xs vs->aB (aJ G ρ) ys us->(Op.eqFields d vs.toArray us.toArray fs).run P w= .ok r w
 | [],r,h,G,ρ,w,vs,us,hv,hu=>by simp only[BP,Option.some.injEq] at h;subst h;rfl
 | f::fs,r,h,G,ρ,w,vs,us,hv,hu=>by
  simp only[BP] at h
  split at h
  ·cases h
  ·rename_i hn
   split at h
   ·rename_i a b ha hb
    split at h
    ·rename_i r1 hr1
     split at h
     ·rename_i q hq
      cases h
      obtain⟨x,hx1,hx2⟩:=Nh ha G ρ w vs hv
      obtain⟨y,hy1,hy2⟩:=Nh hb G ρ w us hu
      have h1:=hg _ _ _ _ hr1 G ρ w x y hx2 hy2
      have h2:=MU hg hq G ρ w vs us hv hu
      simp only[Op.eqFields,V7 hn,Sem.run_bind,hx1,hy1,h1,Result.andThen_ok,Sem.run_ite,Sem.run_pure,h2]
      cases r1<;>simp
     ·cases h
    ·cases h
   ·cases h
theorem zP {G:Gh} {ρ:Env} {c:CV} {v:Value} (h:c.J2=true) (hv:aJ G ρ c v):∃ a,v= .pointer (some a):=by
 cases c<;>simp only[CV.J2] at h<;>try cases h
 case ref k o=>exact⟨_,hv⟩
 case cp t x o=>obtain⟨b,off,c,T,fz,e,_⟩:=hv;exact⟨_,e⟩
 case rp j sz i o=>obtain⟨b,len,cap,_,e⟩:=hv;exact⟨_,e⟩
theorem Hz {P:Program}:∀ {d:Nat} {t:TypeId} {x y:SV} {r:Bool},ou P d t x y=some r->∀ (d':Nat),d<=d'->∀ (G:Gh) (ρ:Env) (w:World) vx vy,aR G ρ x vx->aR G ρ y vy->(Op.equalIn d' t vx vy).run P w= .ok r w
 | 0,t,x,y,r,h=>by simp[ou] at h
 | d+1,t,x,y,r,h=>by
  intro d' hd' G ρ w vx vy hx hy
  obtain⟨e,rfl⟩:∃ e,d'=e+1:=⟨d' - 1,by omega⟩
  simp only[ou] at h
  split at h
  ·rename_i k0 ht
   split at h
   ·rename_i k a k' b
    split at h
    ·rename_i hk
     cases h
     subst hk
     have e1:vx= .int k a:=hx
     have e2:vy= .int k b:=hy
     subst e1;subst e2
     exact run_equalIn_int w e t k k0 a b ht
    ·cases h
   ·cases h
  ·rename_i ht
   split at h
   ·rename_i a b
    cases h
    have e1:vx= .bool a:=hx
    have e2:vy= .bool b:=hy
    subst e1;subst e2
    exact run_equalIn_bool w e t a b ht
   ·cases h
  ·rename_i ht
   split at h
   ·rename_i a b
    cases h
    have e1:vx= .string (bs a):=hx
    have e2:vy= .string (bs b):=hy
    subst e1;subst e2
    have:=run_equalIn_string w e t (bs a) (bs b) ht
    rw[Ko,Ko] at this
    exact this
   ·cases h
  ·rename_i el ht
   split at h
   ·cases h
    have e1:vx= .pointer none:=hx
    have e2:vy= .pointer none:=hy
    subst e1;subst e2
    simp[Op.equalIn,run_underlying ht]
   ·rename_i o k
    cases h
    have e1:vx= .pointer none:=hx
    subst e1
    cases o with
    | none=>obtain⟨e2,_⟩:=hy;subst e2;simp[Op.equalIn,run_underlying ht]
    | some i=>obtain⟨b,_,e2⟩:=hy;subst e2;simp[Op.equalIn,run_underlying ht]
   ·rename_i o k
    cases h
    have e1:vy= .pointer none:=hy
    subst e1
    cases o with
    | none=>obtain⟨e2,_⟩:=hx;subst e2;simp[Op.equalIn,run_underlying ht]
    | some i=>obtain⟨b,_,e2⟩:=hx;subst e2;simp[Op.equalIn,run_underlying ht]
   ·rename_i c _ _
    split at h
    ·rename_i hp
     cases h
     have e1:vx= .pointer none:=hx
     obtain⟨a,e2⟩:=zP hp (show aJ G ρ c vy from hy)
     subst e1;subst e2
     simp[Op.equalIn,run_underlying ht]
    ·cases h
   ·rename_i c _ _
    split at h
    ·rename_i hp
     cases h
     have e2:vy= .pointer none:=hy
     obtain⟨a,e1⟩:=zP hp (show aJ G ρ c vx from hx)
     subst e1;subst e2
     simp[Op.equalIn,run_underlying ht]
    ·cases h
   ·cases h
  ·rename_i fs ht
   split at h
   ·rename_i xs ys
    split at h
    ·cases h
    ·rename_i hst
     obtain⟨vs,e1,hvs⟩:=hx
     obtain⟨us,e2,hus⟩:=hy
     subst e1;subst e2
     have hf:P.fieldsOf t=fs:=by simp[Program.fieldsOf,ht]
     rw[run_equalIn_struct w e t vs.toArray us.toArray (by rw[hf];exact ht) (by simpa using hst),hf]
     exact MU (fun t x y r hr G ρ w vx vy hvx hvy=>Hz hr e (by omega) G ρ w vx vy hvx hvy) h G ρ w vs us hvs hus
   ·cases h
  ·cases h
theorem D2 {P:Program} {op:BinOp} {t:TypeId} {x y:Operand} {vx vy:Value} {w:World} (h:P.eqGuardType P.depth t=false) (hx:vx≠ .nilIface):(eqGuard op t x y vx vy).run P w= .ok () w:=by
 unfold eqGuard
 cases op<;>first
  | rfl
  | (cases vx<;>cases vy<;>first | rfl | exact absurd rfl hx | simp[run_program,h])
def SH (t:TypeId) (vx vy:Value):Prop:=vx≠ .nilIface/\binOp .eql t vx vy=(do pure (.bool (<- Op.equal t vx vy)))/\binOp .neq t vx vy=(do pure (.bool (!(<- Op.equal t vx vy))))
theorem NL {P:Program} {d:Nat} {t:TypeId} {x y:SV} {q:Bool} (hq:ou P (d+1) t x y=some q): (∃ ka a kb b,x= .v false [.int ka a]/\y= .v false [.int kb b])\/(∃ a b,x= .v false [.str a]/\y= .v false [.str b])\/ ∀ (G:Gh) (ρ:Env) (vx vy:Value),aR G ρ x vx->aR G ρ y vy->SH t vx vy:=by
 simp only[ou] at hq
 split at hq
 ·split at hq
  ·exact .inl ⟨_,_,_,_,rfl,rfl⟩
  ·cases hq
 ·split at hq
  ·rename_i a b
   refine .inr (.inr fun G ρ vx vy hvx hvy=> ?_)
   have e1:vx= .bool a:=hvx
   have e2:vy= .bool b:=hvy
   subst e1;subst e2
   exact⟨by simp,rfl,rfl⟩
  ·cases hq
 ·split at hq
  ·exact .inr (.inl ⟨_,_,rfl,rfl⟩)
  ·cases hq
 ·refine .inr (.inr fun G ρ vx vy hvx hvy=> ?_)
  have hp:(∃ p,vx= .pointer p)/\∃ p,vy= .pointer p:=by
   split at hq
   ·exact⟨⟨_,hvx⟩,⟨_,hvy⟩⟩
   ·rename_i o k
    refine⟨⟨_,hvx⟩, ?_⟩
    cases o with
    | none=>exact⟨_,hvy.1⟩
    | some i=>obtain⟨b,_,e⟩:=hvy;exact⟨_,e⟩
   ·rename_i o k
    refine⟨?_,⟨_,hvy⟩⟩
    cases o with
    | none=>exact⟨_,hvx.1⟩
    | some i=>obtain⟨b,_,e⟩:=hvx;exact⟨_,e⟩
   ·rename_i c _ _
    split at hq
    ·rename_i hp
     obtain⟨a,e⟩:=zP hp (show aJ G ρ c vy from hvy)
     exact⟨⟨_,hvx⟩,⟨_,e⟩⟩
    ·cases hq
   ·rename_i c _ _
    split at hq
    ·rename_i hp
     obtain⟨a,e⟩:=zP hp (show aJ G ρ c vx from hvx)
     exact⟨⟨_,e⟩,⟨_,hvy⟩⟩
    ·cases hq
   ·cases hq
  obtain⟨⟨p,rfl⟩,⟨q',rfl⟩⟩:=hp
  exact⟨by simp,rfl,rfl⟩
 ·split at hq
  ·refine .inr (.inr fun G ρ vx vy hvx hvy=> ?_)
   obtain⟨vs,e1,hvs⟩:=hvx
   obtain⟨us,e2,hus⟩:=hvy
   subst e1;subst e2
   exact⟨by simp,rfl,rfl⟩
  ·cases hq
 ·cases hq
theorem Sp {op:BinOp} {t u:TypeId} {x y:Operand} (ho:o.op= .binOp op t x y u) (hi:∀ ka a kb b,S.ev x= .v false [.int ka a]->S.ev y= .v false [.int kb b]->False) (hs:∀ a b,S.ev x= .v false [.str a]->S.ev y= .v false [.str b]->False) (h:Qy X.P op t (S.ev x) (S.ev y) k=some r):∃ s,k s=some r/\fk X.P o S M s:=by
 unfold Qy at h
 split at h
 ·cases h
 ·rename_i hgd
  have hgd':X.P.eqGuardType X.P.depth t=false:=by simpa using hgd
  have key:∀ q,ou X.P 9 t (S.ev x) (S.ev y)=some q->∀ (G:Gh) (ρ:Env) (w:World) (vx vy:Value),aR G ρ (S.ev x) vx->aR G ρ (S.ev y) vy->
   (eqGuard op t x y vx vy).run X.P w= .ok () w/\(binOp .eql t vx vy).run X.P w= .ok (.bool q) w/\(binOp .neq t vx vy).run X.P w= .ok (.bool !q) w:=by
   intro q hq G ρ w vx vy hvx hvy
   have heq':(Op.equal t vx vy).run X.P w= .ok q w:=Hz hq Op.maxDepth (by decide) G ρ w vx vy hvx hvy
   rcases NL hq with ⟨ka,a,kb,b,e1,e2⟩ | ⟨a,b,e1,e2⟩ | hB
   ·exact (hi _ _ _ _ e1 e2).elim
   ·exact (hs _ _ e1 e2).elim
   ·obtain⟨h1,h2,h3⟩:=hB G ρ vx vy hvx hvy
    refine⟨D2 hgd' h1, ?_, ?_⟩
    ·rw[h2];simp[heq']
    ·rw[h3];simp[heq']
  clear hi hs
  split at h
  ·split at h
   ·rename_i q hq
    refine⟨_,h,fun C G ρ w a hM hop=>⟨.bool q, ?_,rfl⟩⟩
    obtain⟨h1,h2,_⟩:=key q hq G ρ w _ _ (hop x (by simp[ho,Op.operands])) (hop y (by simp[ho,Op.operands]))
    simp only[execOp,ho,Sem.run_bind,h1,Result.andThen_ok,h2,Sem.run_pure]
   ·split at h
    ·rename_i e b ht hb
     refine⟨_,h,fun C G ρ w a hM hop=> ?_⟩
     have hvx:=hop x (by simp[ho,Op.operands])
     have hvy:=hop y (by simp[ho,Op.operands])
     generalize S.ev x=sx at hb hvx
     generalize S.ev y=sy at hb hvy
     unfold Rh at hb
     split at hb
     ·rename_i ty l
      cases hb
      obtain⟨p,cap,e1,_,_,hl⟩:=(hvx:cW G _ _ l _)
      have e2:a.eval y= .slice none 0 0:=hvy
      refine⟨.bool p.isNone, ?_,p.isNone,rfl,fun he=> ?_⟩
      ·have h1:(eqGuard .eql t x y (a.eval x) (a.eval y)).run X.P w= .ok () w:=D2 hgd' (by rw[e1];simp)
       have h2:(binOp .eql t (a.eval x) (a.eval y)).run X.P w= .ok (.bool p.isNone) w:=by
        rw[e1,e2]
        have h3:(Op.equal t (.slice p l.length cap) (.slice none 0 0)).run X.P w= .ok p.isNone w:=by
         unfold Op.equal
         obtain⟨dd,hd⟩:∃ dd,Op.maxDepth=dd+1:=⟨9999,rfl⟩
         rw[hd]
         cases p<;>simp[Op.equalIn,run_underlying ht]
        have h4:binOp .eql t (.slice p l.length cap) (.slice none 0 0)=(do pure (.bool (<- Op.equal t (.slice p l.length cap) (.slice none 0 0)))):=rfl
        rw[h4];simp[h3]
       simp only[execOp,ho,Sem.run_bind,h1,Result.andThen_ok,h2,Sem.run_pure]
      ·rcases hl with hl | ⟨_,_,_,_,_,e3,_⟩
       ·subst hl;cases he
       ·rw[e3];rfl
     ·cases hb
    ·cases h
  ·split at h
   ·rename_i q hq
    refine⟨_,h,fun C G ρ w a hM hop=>⟨.bool !q, ?_,rfl⟩⟩
    obtain⟨h1,_,h2⟩:=key q hq G ρ w _ _ (hop x (by simp[ho,Op.operands])) (hop y (by simp[ho,Op.operands]))
    simp only[execOp,ho,Sem.run_bind,h1,Result.andThen_ok,h2,Sem.run_pure]
   ·cases h
  ·cases h
theorem RL {op:BinOp} {t u:TypeId} {x y:Operand} (ho:o.op= .binOp op t x y u) (h:cG X o S M k=some r):∃ s,k s=some r/\fk X.P o S M s:=by
 unfold cG at h
 rw[ho] at h
 simp only[Nx] at h
 split at h
 ·rename_i ka n kb m hx hy
  obtain⟨c,hk,hc⟩:=OH h
  refine⟨_,hk,fun C G ρ w a hM hop=> ?_⟩
  have h1:=aO (hop x (by simp[ho,Op.operands])) hx
  have h2:=aO (hop y (by simp[ho,Op.operands])) hy
  obtain⟨v,hr,hv⟩:=hc X.P G ρ w t
  refine⟨v, ?_,hv⟩
  simp only[execOp,ho,Sem.run_bind,show a.eval x= .int ka n from h1,show a.eval y= .int kb m from h2,D1,Result.andThen_ok,hr,Sem.run_pure]
 ·rename_i n m hx hy
  obtain⟨c,hk,hc⟩:=OI h
  refine⟨_,hk,fun C G ρ w a hM hop=> ?_⟩
  have h1:=aO (hop x (by simp[ho,Op.operands])) hx
  have h2:=aO (hop y (by simp[ho,Op.operands])) hy
  obtain⟨v,hr,hv⟩:=hc X.P G ρ w t
  refine⟨v, ?_,hv⟩
  simp only[execOp,ho,Sem.run_bind,show a.eval x= .string (bs n) from h1,show a.eval y= .string (bs m) from h2,Ma,Result.andThen_ok,hr,Sem.run_pure]
 ·rename_i hni hns
  exact Sp ho hni hns h
theorem Ss {op:UnOp} {t:TypeId} {x:Operand} (ho:o.op= .unOp op t x) (h:cG X o S M k=some r):∃ s,k s=some r/\fk X.P o S M s:=by
 unfold cG at h
 rw[ho] at h
 simp only at h
 split at h
 ·rename_i b hx
  refine⟨_,h,fun C G ρ w a hM hop=> ?_⟩
  have h1:=aO (hop x (by simp[ho,Op.operands])) hx
  exact⟨.bool !b,by simp only[execOp,ho,show a.eval x= .bool b from h1,Op.unary];rfl,rfl⟩
 ·rename_i ik n hx
  refine⟨_,h,fun C G ρ w a hM hop=> ?_⟩
  have h1:=aO (hop x (by simp[ho,Op.operands])) hx
  exact⟨_,by simp only[execOp,ho,show a.eval x= .int ik n from h1,Op.unary,Op.intArith];rfl,rfl⟩
 ·cases h
theorem I8 {G:Gh}:∀ {l:List Int} {vs:List Value},bF (an G (.int .u8)) l vs->vs=l.map (Value.int .u8)
 | [],vs,h=>h
 | x::r,vs,h=>by
  obtain⟨a,b,e,h1,h2⟩:=h
  have h1:a=[.int .u8 x]:=h1
  rw[e,h1,I8 h2]
  rfl
theorem fold_push:∀ (ns:List Int) (s:ByteArray),ns.foldl (fun r n=>r.push (UInt8.ofNat n.toNat)) s=⟨(s.data.toList++ns.map fun n=>UInt8.ofNat n.toNat).toArray⟩
 | [],s=>by simp
 | n::r,s=>by
  rw[Uk,fold_push r]
  simp[ByteArray.push]
theorem LX {P:Program} (w:World) {t u e e':TypeId} (hd:P.underlying t=some (.slice e)) (he:P.underlying e=some (.int .u8)) (hu:P.underlying u=some .string) (v:Value) (ql:List Int) {xs:List Value} (hown:w.ownsRow 0 e' 1 v ql.length xs) (hxs:xs=ql.map (Value.int .u8)):(convert t u v).run P w= .ok (.string (bs (ql.map fun n=>UInt8.ofNat n.toNat))) w:=by
 obtain⟨hlen,hv⟩:=hown
 rcases hv with ⟨hv,h0⟩ | ⟨g,cap,cur,hv,_,hheap,hle,sr,hsz,htake⟩
 ·have:ql=[]:=UJ.1 h0
  subst this
  rw[hv,run_convert_bytes_string w t u e none 0 0 hd he hu]
  rfl
 ·have hcell:∀ i v,(ql.map (Value.int .u8))[i]? =some v->w.cell? ((⟨g,0,none⟩:Addr).add i)=some v:=fun i v hi=>by
   rw[<- hxs, <- htake] at hi
   have hlt:i<ql.length*1:=by
    have:=(Ut.1 hi).1
    rw[UP] at this
    exact Vw this (Nat.min_le_left _ _)
   rw[UA hlt] at hi
   have hi:cur[i]? =some v:=by simpa using hi
   by_cases h0:i=0
   ·subst h0;simp[World.cell?,Addr.add,hheap,hi]
   ·simp[World.cell?,Addr.add,h0,hheap,hi]
  have h:=run_loadCells_list (P:=P) (w:=w) ⟨g,0,none⟩ (ql.map (Value.int .u8)) hcell
  rw[UK] at h
  rw[hv,run_convert_bytes_string w t u e _ _ _ hd he hu,run_bytesToString w _ _ _ ql h,fold_push]
  rfl
theorem PL {t u:TypeId} {x:Operand} (ho:o.op= .convert t u x) (h:cG X o S M k=some r):∃ s,k s=some r/\fk X.P o S M s:=by
 unfold cG at h
 rw[ho] at h
 simp only at h
 split at h
 ·rename_i d ik ik' n hd hu hx
  refine⟨_,h,fun C G ρ w a hM hop=> ?_⟩
  have h1:=aO (hop x (by simp[ho,Op.operands])) hx
  refine⟨.int ik (ik.wrap n), ?_,rfl⟩
  simp only[execOp,ho,show a.eval x= .int ik' n from h1,convert,Sem.run_bind,run_underlying hd,run_underlying hu,Result.andThen_ok,Conv.intToInt,Sem.run_pure]
 ·rename_i d s hd hu hx
  refine⟨_,h,fun C G ρ w a hM hop=> ?_⟩
  have h1:=aO (hop x (by simp[ho,Op.operands])) hx
  refine⟨.string (bs s), ?_,rfl⟩
  simp only[execOp,ho,show a.eval x= .string (bs s) from h1,convert,Sem.run_bind,run_underlying hd,run_underlying hu,Result.andThen_ok,Sem.run_pure]
 ·rename_i d ik n hd hu hx
  obtain⟨hc,h⟩:=fE h
  simp only[Tr,V0] at hc
  refine⟨_,h,fun C G ρ w a hM hop=> ?_⟩
  have h1:=aO (hop x (by simp[ho,Op.operands])) hx
  have he:Utf8.encode n=bs [UInt8.ofNat n.toNat]:=by
   have hv:Utf8.valid n=true:=by
    unfold Utf8.valid
    rw[TI,Tr,V0,V0]
    exact .inl ⟨hc.1,by omega⟩
   unfold Utf8.encode
   rw[hv]
   simp only[V8]
   rw[V7 (show n.toNat<128 by omega)]
   rfl
  refine⟨.string (bs [UInt8.ofNat n.toNat]), ?_,rfl⟩
  simp only[execOp,ho,show a.eval x= .int ik n from h1,convert,Sem.run_bind,run_underlying hd,run_underlying hu,Result.andThen_ok,Conv.intToString,Sem.run_pure,he]
 ·rename_i d e j hd hu hx
  split at h
  ·rename_i q he hq
   split at h
   ·cases h
   ·rename_i hfz
    cases hc:ki (b:= .int .u8) q.l with
    | none=>rw[hc] at h;cases h
    | some l=>
     rw[hc] at h
     simp only at h
     refine⟨_,h,fun C G ρ w a hM hop=> ?_⟩
     have h1:a.eval x=ρ.rw j:=by
      exact (aO (hop x (by simp[ho,Op.operands])) hx).1
     have hr:=hM.rows j q hq
     obtain⟨fz,e',t',ql⟩:=q
     obtain⟨et,hl⟩:=fA hc
     simp only at et hl hfz
     subst et
     subst hl
     unfold b8 at hr
     simp only at hr
     rw[V6 hfz] at hr
     obtain⟨xs,⟨hlen,hv⟩,hrep,_⟩:=hr
     have hxs:=I8 hrep
     have hrun:(convert t u (a.eval x)).run X.P w= .ok (.string (bs (ql.map fun n=>UInt8.ofNat n.toNat))) w:=by
      rw[h1]
      exact LX w hd he hu _ ql ⟨hlen,hv⟩ hxs
     exact⟨_,by simp only[execOp,ho,Sem.run_bind,hrun,Result.andThen_ok,Sem.run_pure],rfl⟩
  ·cases h
 ·cases h
theorem PO {x:Operand} (ho:o.op= .move x\/o.op= .assign x) (h:cG X o S M k=some r):∃ s,k s=some r/\fk X.P o S M s:=by
 unfold cG at h
 rcases ho with ho | ho<;>rw[ho] at h<;>simp only at h
 all_goals exact⟨_,h,fun C G ρ w a hM hop=>⟨a.eval x,by simp only[execOp,ho,Sem.run_pure],hop x (by simp[ho,Op.operands])⟩⟩
theorem Sr {c x y:Operand} (ho:o.op= .pick c x y) (h:cG X o S M k=some r):∃ s,k s=some r/\fk X.P o S M s:=by
 unfold cG at h
 rw[ho] at h
 simp only at h
 split at h
 ·rename_i t hc
  cases t with
  | true=>
   refine⟨_,h,fun C G ρ w a hM hop=>⟨a.eval x, ?_,hop x (by simp[ho,Op.operands])⟩⟩
   have h1:=aO (hop c (by simp[ho,Op.operands])) hc
   simp only[execOp,ho,show a.eval c= .bool true from h1,asBool,Sem.run_bind,Sem.run_pure,Result.andThen_ok,V8]
  | false=>
   refine⟨_,h,fun C G ρ w a hM hop=>⟨a.eval y, ?_,hop y (by simp[ho,Op.operands])⟩⟩
   have h1:=aO (hop c (by simp[ho,Op.operands])) hc
   simp[execOp,ho,show a.eval c= .bool false from h1,asBool]
 ·cases h
theorem Oe {x:Operand} (ho:o.op= .nilCheck x) (h:cG X o S M k=some r):∃ s,k s=some r/\fk X.P o S M s:=by
 unfold cG at h
 rw[ho] at h
 simp only at h
 split at h
 ·rename_i i j hx
  refine⟨_,h,fun C G ρ w a hM hop=> ?_⟩
  have h1:=aO (hop x (by simp[ho,Op.operands])) hx
  exact⟨_,by simp only[execOp,ho,show a.eval x=_ from h1];rfl,rfl⟩
 ·rename_i t y j hx
  refine⟨_,h,fun C G ρ w a hM hop=> ?_⟩
  have h1:=aO (hop x (by simp[ho,Op.operands])) hx
  obtain⟨b,off,c,T,fz,e,rest⟩:=h1
  exact⟨_,by simp only[execOp,ho,e];rfl,b,off,c,T,fz,rfl,rest⟩
 ·rename_i i sz j l hx
  refine⟨_,h,fun C G ρ w a hM hop=> ?_⟩
  have h1:=aO (hop x (by simp[ho,Op.operands])) hx
  obtain⟨b,len,cap,e1,e2⟩:=h1
  exact⟨_,by simp only[execOp,ho,e2];rfl,b,len,cap,e1,rfl⟩
 ·rename_i g t y hx
  refine⟨_,h,fun C G ρ w a hM hop=> ?_⟩
  have h1:=aO (hop x (by simp[ho,Op.operands])) hx
  obtain⟨caps,e,hc⟩:=h1
  exact⟨_,by simp only[execOp,ho,e];rfl,caps,rfl,hc⟩
 ·rename_i g ks hx
  refine⟨_,h,fun C G ρ w a hM hop=> ?_⟩
  have h1:=aO (hop x (by simp[ho,Op.operands])) hx
  exact⟨_,by simp only[execOp,ho,show a.eval x=_ from h1];rfl,rfl⟩
 ·rename_i oh j hx
  obtain⟨i,hi,h⟩:=bind_some h
  subst hi
  refine⟨_,h,fun C G ρ w a hM hop=> ?_⟩
  have h1:=aO (hop x (by simp[ho,Op.operands])) hx
  obtain⟨b,hb,e⟩:=h1
  exact⟨_,by simp only[execOp,ho,e];rfl,b,hb,rfl⟩
 ·cases h
theorem My {t:TypeId} {x:Operand} {f:Nat} (ho:o.op= .fieldAddr t x f) (h:cG X o S M k=some r):∃ s,k s=some r/\fk X.P o S M s:=by
 unfold cG at h
 rw[ho] at h
 simp only at h
 split at h
 ·rename_i fs c ht hx
  split at h
  ·rename_i fd hf
   split at h
   ·rename_i hok
    simp only[Tr,TE] at hok
    obtain⟨d,i,hd,hi⟩:=fY hok.1
    split at h
    ·rename_i c' hc
     refine⟨_,h,fun C G ρ w a hM hop=> ?_⟩
     have h1:=aO (hop x (by simp[ho,Op.operands])) hx
     obtain⟨b,off,e,hc'⟩:=IC hc h1
     have hadd:(⟨b,off,none⟩:Addr).add fd.offset=⟨b,off+fd.offset,none⟩:=by unfold Addr.add;split<;>simp_all
     have hz:bI X.P fd.type≠0:=fun e0=>by rw[e0] at hok;simp at hok
     refine⟨_, ?_,hc'⟩
     simp only[execOp,ho,e,Instr.fieldAt,Sem.run_bind,run_underlying ht,Result.andThen_ok,hf,Instr.sureAddr,Sem.run_pure,fieldPlace,run_sizeOf hi,hz,V5,hadd]
    ·cases h
   ·cases h
  ·cases h
 ·cases h
theorem Sq {t:TypeId} {x:Operand} (ho:o.op= .load t x) (h:cG X o S M k=some r):∃ s,k s=some r/\fk X.P o S M s:=by
 unfold cG at h
 rw[ho] at h
 simp only at h
 split at h
 ·rename_i bk off hx
  split at h
  ·rename_i l hl
   obtain⟨s,hs,hld⟩:=tO h
   refine⟨s,hs,fun C G ρ w a hM hop=> ?_⟩
   have h1:=aO (hop x (by simp[ho,Op.operands])) hx
   obtain⟨_,vs,T,hw,hv⟩:=hM.boxes bk l hl
   obtain⟨v,hr,hsv⟩:=hld G ρ w (ρ.bx bk) 0 vs hv (fun j v hj=>by
    have hadd:(⟨ρ.bx bk,0,none⟩:Addr).add j=⟨ρ.bx bk,j,none⟩:=by unfold Addr.add;split<;>simp_all
    rw[hadd,cell_of_row w _ j _ T (0,0) hw];simpa using hj)
   refine⟨v, ?_,hsv⟩
   simp only[VH] at hr
   simp only[execOp,ho,show a.eval x=_ from h1,Instr.loadAt,Instr.sureAddr,Sem.run_bind,Sem.run_pure,Result.andThen_ok,hr]
  ·cases h
 ·rename_i ty y off hx
  obtain⟨s,hs,hld⟩:=tO h
  refine⟨s,hs,fun C G ρ w a hM hop=> ?_⟩
  have h1:=aO (hop x (by simp[ho,Op.operands])) hx
  obtain⟨b,base,c,T,fz,e,hb,hsz,hl⟩:=h1
  obtain⟨v,hr,hsv⟩:=hld G ρ w b base _ (eL ρ hl) (Ks (hM.agr b _ hb) _)
  refine⟨v, ?_,hsv⟩
  simp only[execOp,ho,e,Instr.loadAt,Instr.sureAddr,Sem.run_bind,Sem.run_pure,Result.andThen_ok,hr]
 ·rename_i j sz i off hx
  split at h
  ·rename_i q hq
   obtain⟨y,hy,h⟩:=bind_some h
   split at h
   ·rename_i hcond
    simp only[Tr,TE] at hcond
    obtain⟨s,hs,hld⟩:=tO h
    refine⟨s,hs,fun C G ρ w a hM hop=> ?_⟩
    have h1:=aO (hop x (by simp[ho,Op.operands])) hx
    obtain⟨b,len,cap,e1,e2⟩:=h1
    have hrow:=hM.rows j q hq
    unfold b8 at hrow
    rw[V6 (by simp[hcond.1])] at hrow
    obtain⟨xs,⟨hlen,hn | ⟨g,cap',cur,hv,_,hg,hnc,hcm,hcs,htake⟩⟩,hl,hown⟩:=hrow
    ·have:q.l=[]:=Uh hn.2
     rw[this] at hy;simp at hy
    ·rw[e1] at hv
     cases hv
     have hyr:=hl.get (fun x cs hr=>an.len hr) hy
     have hsz:=Vq hcond.2
     obtain⟨v,hr,hsv⟩:=hld G ρ w b (i*sz) _ (eL ρ hyr) (fun n u hu=>by
      rw[Uz] at hu
      split at hu
      ·rw[Uq, <- htake,Uz] at hu
       split at hu
       ·have hadd:(⟨b,i*sz,none⟩:Addr).add n=⟨b,i*sz+n,none⟩:=by unfold Addr.add;split<;>simp_all
        rw[hadd,cell_of_row w _ _ _ _ _ hg,hsz];simpa using hu
       ·cases hu
      ·cases hu)
     refine⟨v, ?_,hsv⟩
     simp only[execOp,ho,e2,Instr.loadAt,Instr.sureAddr,Sem.run_bind,Sem.run_pure,Result.andThen_ok,hr]
   ·cases h
  ·cases h
 ·rename_i i off hx
  split at h
  ·rename_i fz ty l hl
   obtain⟨y,hy,h⟩:=bind_some h
   obtain⟨s,hs,hld⟩:=tO h
   refine⟨s,hs,fun C G ρ w a hM hop=> ?_⟩
   have h1:=aO (hop x (by simp[ho,Op.operands])) hx
   obtain⟨b,hb,e⟩:=h1
   obtain⟨b',vs,T,hb',_,_,hw,hrep⟩:=(hM.objs bf _ hl).2.2.2 i y hy
   rw[hb] at hb'
   cases hb'
   obtain⟨v,hr,hsv⟩:=hld G ρ w b 0 vs (eL ρ hrep) (fun j v hj=>by
    have hadd:(⟨b,0,none⟩:Addr).add j=⟨b,j,none⟩:=by unfold Addr.add;split<;>simp_all
    rw[hadd,cell_of_row w _ j _ T (0,0) hw];simpa using hj)
   refine⟨v, ?_,hsv⟩
   simp only[VH] at hr
   simp only[execOp,ho,e,Instr.loadAt,Instr.sureAddr,Sem.run_bind,Sem.run_pure,Result.andThen_ok,hr]
  ·cases h
 ·cases h
theorem F4 {ik:IntKind}:∀ {cs:List CV} {l:List Int} {i:Nat} {m:Int},B8 ik cs=some l->l[i]? =some m->cs[i]? =some (.int ik m)
 | [],l,i,m,h,hg=>by simp only[B8,Option.some.injEq] at h;subst h;simp at hg
 | c::cs,l,i,m,h,hg=>by
  cases c<;>simp only[B8] at h<;>try cases h
  split at h
  ·rename_i k n hk
   subst hk
   split at h
   ·rename_i l' hl'
    cases h
    cases i with
    | zero=>simp at hg;subst hg;rfl
    | succ i=>simp at hg ⊢;exact F4 hl' hg
   ·cases h
  ·cases h
theorem Mz {t:TypeId} {x ix:Operand} (ho:o.op= .indexAddr t x ix) (h:cG X o S M k=some r):∃ s,k s=some r/\fk X.P o S M s:=by
 unfold cG at h
 rw[ho] at h
 simp only at h
 split at h
 ·rename_i e ty l ik i ht hx hix
  split at h
  ·rename_i hok
   simp only[Tr] at hok
   obtain⟨y,hy,h⟩:=bind_some h
   obtain⟨h0,h1,hget⟩:=EU hy
   refine⟨_,h,fun C G ρ w a hM hop=> ?_⟩
   have hv1:=aO (hop x (by simp[ho,Op.operands])) hx
   have hv2:=aO (hop ix (by simp[ho,Op.operands])) hix
   obtain⟨b,off,c,T,fz,cap,ev,hb,hs,hrep⟩:=cW.at hv1 hget
   have hsz:=Vq hok.2
   refine⟨_, ?_,b,off+i.toNat*ty.size,c,T,fz,rfl,hb,hs,hrep⟩
   simp only[execOp,ho,ev,show a.eval ix= .int ik i from hv2,Sem.run_bind,run_indexAt_slice ht hok.1 h0 h1,Result.andThen_ok,Sem.run_pure,hsz,Vn]
  ·cases h
 ·rename_i e j ik i ht hx hix
  split at h
  ·rename_i q hq
   split at h
   ·rename_i hok
    simp only[Tr] at hok
    have hsz:=Vq hok.2
    split at h
    ·rename_i hfz
     obtain⟨y,hy,h⟩:=bind_some h
     obtain⟨h0,h1,hget⟩:=EU hy
     refine⟨_,h,fun C G ρ w a hM hop=> ?_⟩
     have hv1:=aO (hop x (by simp[ho,Op.operands])) hx
     have hv2:=aO (hop ix (by simp[ho,Op.operands])) hix
     have hrow:=hM.frozen j q hq hfz
     obtain⟨b,off,c,T,fz,cap,ev,hb,hs,hrep⟩:=cW.at hrow hget
     refine⟨_, ?_,b,off+i.toNat*q.t.size,c,T,fz,rfl,hb,hs,hrep⟩
     simp only[execOp,ho,show a.eval x=ρ.rw j from hv1.1,ev,show a.eval ix= .int ik i from hv2,Sem.run_bind,run_indexAt_slice ht hok.1 h0 h1,Result.andThen_ok,Sem.run_pure,hsz,Vn]
    ·rename_i hfz
     obtain⟨hc,h⟩:=fE h
     simp only[Tr,V0] at hc
     refine⟨_,h,fun C G ρ w a hM hop=> ?_⟩
     have hv1:=aO (hop x (by simp[ho,Op.operands])) hx
     have hv2:=aO (hop ix (by simp[ho,Op.operands])) hix
     have hrow:=hM.rows j q hq
     unfold b8 at hrow
     rw[V6 hfz] at hrow
     obtain⟨xs,⟨hlen,hn | ⟨g,cap',cur,hv,_,hg,_⟩⟩,hl,hown⟩:=hrow
     ·omega
     ·refine⟨_, ?_,g,q.l.length,cap',hv,rfl⟩
      simp only[execOp,ho,show a.eval x=ρ.rw j from hv1.1,hv,show a.eval ix= .int ik i from hv2,Sem.run_bind,run_indexAt_slice ht hok.1 hc.1 hc.2,Result.andThen_ok,Sem.run_pure,hsz,VH,Vn]
   ·cases h
  ·cases h
 ·rename_i n e c ik i ht hx hix
  split at h
  ·rename_i hok
   obtain⟨m,rfl,hlt,h⟩:=Gn h
   rw[VH] at hlt
   split at h
   ·rename_i c' hc
    refine⟨_,h,fun C G ρ w a hM hop=> ?_⟩
    have h1:=aO (hop x (by simp[ho,Op.operands])) hx
    have hv2:=aO (hop ix (by simp[ho,Op.operands])) hix
    obtain⟨b,off,e1,hc'⟩:=IC hc h1
    obtain⟨d,j,hd,hj⟩:=fY hok
    have hadd:(⟨b,off,none⟩:Addr).add (m*bI X.P e)=⟨b,off+m*bI X.P e,none⟩:=by unfold Addr.add;split<;>simp_all
    refine⟨_, ?_,hc'⟩
    have h0:(0:Int)<=(m:Int)/\(m:Int)<(n:Int):=⟨Int.natCast_nonneg m,Int.ofNat_lt.2 hlt⟩
    simp only[execOp,ho,e1,show a.eval ix= .int ik (m:Int) from hv2,Instr.indexAt,asIntOf,Instr.sureAddr,Sem.run_bind,Sem.run_pure,run_underlying ht,Result.andThen_ok,V7 h0,run_sizeOf hj,show ((m:Int)).toNat=m from rfl,hadd]
   ·cases h
  ·cases h
 ·cases h
theorem RP {t:TypeId} {x ix:Operand} (ho:o.op= .index t x ix) (h:cG X o S M k=some r):∃ s,k s=some r/\fk X.P o S M s:=by
 unfold cG at h
 rw[ho] at h
 simp only at h
 split at h
 ·rename_i s ik i ht hx hix
  obtain⟨b,hb,h⟩:=bind_some h
  refine⟨_,h,fun C G ρ w a hM hop=> ?_⟩
  have hv1:=aO (hop x (by simp[ho,Op.operands])) hx
  have hv2:=aO (hop ix (by simp[ho,Op.operands])) hix
  unfold fP at hb
  split at hb
  ·rename_i h0
   refine⟨.int .u8 b.toNat, ?_,rfl⟩
   have hb':(bs s)[i.toNat]? =some b:=by
    obtain⟨hlt,he⟩:=Ut.1 hb
    rw[getElem?_pos (bs s) i.toNat (by rw[yh];exact hlt)]
    simp only[bs,Option.some.injEq]
    rw[<- he];rfl
   simp only[execOp,ho,show a.eval x= .string (bs s) from hv1,show a.eval ix= .int ik i from hv2,Instr.index,asIntOf,Sem.run_bind,Sem.run_pure,Result.andThen_ok,run_underlying ht,h0,V8,hb']
  ·cases hb
 ·rename_i n e cs ik i ht hx hix
  split at h
  ·rename_i ek he
   split at h
   ·rename_i l hl
    split at h
    ·rename_i hc
     simp only[Tr,TE] at hc
     obtain⟨⟨⟨c1,c2⟩,c3⟩,c4⟩:=hc
     obtain⟨d,j,hd,hj⟩:=fY c1
     have hsz:=Vq c2
     have hln:=Vq c4
     obtain⟨m,hm,h⟩:=bind_some h
     obtain⟨h0,h1,hget⟩:=EU hm
     refine⟨_,h,fun C G ρ w a hM hop=> ?_⟩
     have hv:=hop x (by simp[ho,Op.operands])
     rw[hx] at hv
     obtain⟨vs,ev,hall⟩:=hv
     have hv2:=aO (hop ix (by simp[ho,Op.operands])) hix
     have hcell:=F4 hl hget
     obtain⟨v,hv3,hv4⟩:=hall.get hcell
     refine⟨v, ?_,hv4⟩
     have hb:0<=i/\i<(n:Int):=⟨h0,by rw[<- hln];exact h1⟩
     simp only[execOp,ho,ev,show a.eval ix= .int ik i from hv2,Instr.index,asIntOf,Sem.run_bind,Sem.run_pure,Result.andThen_ok,run_underlying ht,V7 hb,run_sizeOf hj,hsz,VD,part,lg hd,c3,Tz,V5]
     simp[hv3]
    ·cases h
   ·cases h
  ·cases h
 ·cases h
theorem PN {x:Operand} {i:Nat} (ho:o.op= .extract x i) (h:cG X o S M k=some r):∃ s,k s=some r/\fk X.P o S M s:=by
 unfold cG at h
 rw[ho] at h
 simp only at h
 split at h
 ·rename_i l hx
  split at h
  ·rename_i p hp
   refine⟨_,h,fun C G ρ w a hM hop=> ?_⟩
   have hv1:=hop x (by simp[ho,Op.operands])
   rw[hx] at hv1
   obtain⟨vs,e,hl⟩:=hv1
   obtain⟨v,hv,hsv⟩:=hl.get hp
   refine⟨v, ?_,hsv⟩
   simp[execOp,ho,e,Instr.extract,hv]
  ·cases h
 ·cases h
end
end Go.Dn
namespace Go.Dn
variable {P:Program} {G:Gh} {w:World}
theorem OO (a b:List UInt8):(bs a==bs b)=(a==b):=by
 have h:(bs a==bs b)=((bs a).data==(bs b).data):=rfl
 rw[h]
 simp[bs]
theorem tN {t:TypeId} {k:Ty} (h:eX P t k=true) (hn:∀ s,k≠ .st s):bB P t k=true:=by
 cases k with
 | st s=>exact absurd rfl (hn s)
 | _=>exact h
theorem xU {t:TypeId} {k:Ty} (h:bB P t k=true) (d:Nat) (a b:k.den):∃ c1 c2,unpack k a=[c1]/\unpack k b=[c2]/\ou P (d+1) t (.v false [c1]) (.v false [c2])=some (k.beq a b)/\kS k a= .v false [c1]/\kS k b= .v false [c2]:=by
 cases k with
 | int kk=>
  simp only[bB] at h
  split at h
  ·rename_i hu
   exact⟨_,_,rfl,rfl,by simp[ou,hu,Ty.beq,NR],rfl,rfl⟩
  ·cases h
 | bool=>
  simp only[bB] at h
  split at h
  ·rename_i hu
   exact⟨_,_,rfl,rfl,by simp[ou,hu,Ty.beq,Nw],rfl,rfl⟩
  ·cases h
 | str=>
  simp only[bB] at h
  split at h
  ·rename_i hu
   exact⟨_,_,rfl,rfl,by simp[ou,hu,Ty.beq,SB],rfl,rfl⟩
  ·cases h
 | _=>simp[bB] at h
theorem oQ {t:TypeId} {k:Ty} (h:bB P t k=true):okT P t=true/\l7 P t=false/\k.size=1:=by
 cases k with
 | int kk=>
  simp only[bB] at h
  split at h
  ·rename_i hu;exact⟨by simp[okT,hu],by simp[l7,hu],rfl⟩
  ·cases h
 | bool=>
  simp only[bB] at h
  split at h
  ·rename_i hu;exact⟨by simp[okT,hu],by simp[l7,hu],rfl⟩
  ·cases h
 | str=>
  simp only[bB] at h
  split at h
  ·rename_i hu;exact⟨by simp[okT,hu],by simp[l7,hu],rfl⟩
  ·cases h
 | _=>simp[bB] at h
theorem zV {T:TypeId} (hok:okT P T=true) (hag:l7 P T=false) (hsz:bI P T=1) {l:List CV} {n:Nat} {c:CV} {r:List CV} (h:l.drop n=c::r):iW P T l n some=some (.v false [c]):=by
 have:(l.drop n).take 1=[c]:=by rw[h];rfl
 simp[iW,hok,C5,hsz,this,hag]
theorem IM {l:List CV} {n:Nat} {c:CV} {r:List CV} (h:l.drop n=c::r):l.drop (n+1)=r:=by
 have:l.drop (n+1)=(l.drop n).drop 1:=by rw[Ua]
 rw[this,h];rfl
theorem IP {d:Nat} {xs ys:List CV}:∀ {fs:List Field} {n:Nat} {t:Ty} {a b:t.den},bR P fs n t=true->xs.drop n=unpack t a->ys.drop n=unpack t b->BP P (ou P (d+1)) xs ys fs=some (t.beq a b)
 | [],n,t,a,b,h,_,_=>by simp[bR] at h
 | [f],n,t,a,b,h,hx,hy=>by
  simp only[bR,Tr,V0] at h
  obtain⟨⟨⟨h1,h2⟩,h3⟩,h4⟩:=h
  have e2:=Vq h2
  have e3:=Vq h3
  obtain⟨k1,k2,k3⟩:=oQ h4
  obtain⟨c1,c2,u1,u2,he,_,_⟩:=xU h4 d a b
  simp only[BP,V6 h1,e2]
  rw[zV k1 k2 e3 (hx.trans u1),zV k1 k2 e3 (hy.trans u2)]
  simp only[he,Tv]
 | f::g::r,n,t,a,b,h,hx,hy=>by
  cases t with
  | pair s t=>
   simp only[bR,Tr,V0] at h
   obtain⟨⟨⟨⟨h1,h2⟩,h3⟩,h4⟩,h5⟩:=h
   have e2:=Vq h2
   have e3:=Vq h3
   obtain⟨k1,k2,k3⟩:=oQ h4
   obtain⟨c1,c2,u1,u2,he,_,_⟩:=xU h4 d a.1 b.1
   simp only[unpack,u1,u2,Vb] at hx hy
   have ih:=IP (d:=d) h5 (IM hx) (IM hy)
   rw[BP,V6 h1,e2]
   rw[zV k1 k2 e3 hx,zV k1 k2 e3 hy]
   simp only[he,ih,Ty.beq]
  | _=>simp[bR] at h
theorem QF {t:TypeId} {k:Ty} (h:eX P t k=true) (a b:k.den):ou P 9 t (kS k a) (kS k b)=some (k.beq a b):=by
 cases k with
 | st s=>
  simp only[eX] at h
  split at h
  ·rename_i fs hu
   simp only[Tr,TE] at h
   simp only[kS,ou,hu,h.1,Tz,V5]
   exact IP (t:=s) (a:=a) (b:=b) (d:=7) (n:=0) h.2 (by simp) (by simp)
  ·cases h
 | _=>
  obtain⟨c1,c2,u1,u2,he,e1,e2⟩:=xU (P:=P) (t:=t) (tN h (by intro s e;cases e)) 8 a b
  rw[e1,e2]
  exact he
theorem IV {t:TypeId} {k:Ty} (h:eX P t k=true) {a b:k.den} {va vb:Value} (ha:bK G k a va) (hb:bK G k b vb) (w:World):(Op.equal t va vb).run P w= .ok (k.beq a b) w:=by
 let ρ:Env:=⟨fun _=>0,fun _=> .nilFunc,fun _=>none,fun _=> .nilFunc,fun _ _=>0⟩
 exact Hz (QF h a b) Op.maxDepth (by decide) G ρ w va vb (zg ρ ha) (zg ρ hb)
theorem Pd {t:TypeId} {k:Ty} (h:eX P t k=true) {a b:k.den} (e:k.beq a b=true):a=b:=by
 have sc:∀ {t:TypeId} {k:Ty},bB P t k=true->∀ {a b:k.den},k.beq a b=true->a=b:=by
  intro t k h a b e
  cases k with
  | int kk=>exact eq_of_beq (α:=Int) (a:=a) (b:=b) e
  | bool=>exact eq_of_beq (α:=Bool) (a:=a) (b:=b) e
  | str=>exact eq_of_beq (α:=List UInt8) (a:=a) (b:=b) e
  | _=>simp[bB] at h
 have fc:∀ (fs:List Field) (n:Nat) (t:Ty) (a b:t.den),bR P fs n t=true->t.beq a b=true->a=b:=by
  intro fs
  induction fs with
  | nil=>intro n t a b h;simp[bR] at h
  | cons f r ih=>
   intro n t a b h e
   cases r with
   | nil=>
    simp only[bR,Tr] at h
    exact sc h.2 e
   | cons g r=>
    cases t with
    | pair s t=>
     simp only[bR,Tr] at h
     simp only[Ty.beq,Tr] at e
     exact Prod.ext (sc h.1.2 (a:=a.1) (b:=b.1) e.1) (ih (n+1) t a.2 b.2 h.2 e.2)
    | _=>simp[bR] at h
 cases k with
 | st s=>
  simp only[eX] at h
  split at h
  ·rename_i fs hu
   simp only[Tr] at h
   exact fc fs.toList 0 s a b h.2 e
  ·cases h
 | _=>exact sc (t:=t) (a:=a) (b:=b) (tN h (by intro s e;cases e)) e
theorem MH {t:TypeId} {k:Ty} (h:eX P t k=true) {a:k.den} {va vb:Value} (ha:bK G k a va) (hb:bK G k a vb):va=vb:=by
 have sc:∀ {t:TypeId} {k:Ty},bB P t k=true->∀ {a:k.den} {u v:List Value},an G k a u->an G k a v->u=v:=by
  intro t k h a u v hu hv
  cases k with
  | int kk=>exact hu.trans hv.symm
  | bool=>exact hu.trans hv.symm
  | str=>exact hu.trans hv.symm
  | _=>simp[bB] at h
 have fc:∀ (fs:List Field) (n:Nat) (t:Ty) (a:t.den) (u v:List Value),bR P fs n t=true->an G t a u->an G t a v->u=v:=by
  intro fs
  induction fs with
  | nil=>intro n t a u v h;simp[bR] at h
  | cons f r ih=>
   intro n t a u v h hu hv
   cases r with
   | nil=>
    simp only[bR,Tr] at h
    exact sc h.2 hu hv
   | cons g r=>
    cases t with
    | pair s t=>
     simp only[bR,Tr] at h
     obtain⟨c1,r1,e1,p1,q1⟩:=hu
     obtain⟨c2,r2,e2,p2,q2⟩:=hv
     rw[e1,e2,sc h.1.2 p1 p2,ih (n+1) t a.2 r1 r2 h.2 q1 q2]
    | _=>simp[bR] at h
 cases k with
 | st s=>
  simp only[eX] at h
  split at h
  ·rename_i fs hu
   simp only[Tr] at h
   obtain⟨us,e1,h1⟩:=ha
   obtain⟨vs,e2,h2⟩:=hb
   rw[e1,e2,fc fs.toList 0 s a us vs h.2 h1 h2]
  ·cases h
 | _=>
  have:=sc (t:=t) (a:=a) (tN h (by intro s e;cases e)) ha hb
  simpa using this
theorem sameBits_self {t:TypeId} {k:Ty} (h:eX P t k=true) {a:k.den} {v:Value} (hv:bK G k a v):Instr.sameBits 10000 v v=true:=by
 have sc:∀ {t:TypeId} {k:Ty},bB P t k=true->∀ {a:k.den} {cs:List Value},an G k a cs->∀ n u,u∈cs->Instr.sameBits n u u=true:=by
  intro t k h a cs hc n u hu
  cases k with
  | int kk=>
   have e:cs=[_]:=hc
   rw[e] at hu
   rcases U7.1 hu with rfl
   exact (fun x:Int=>by cases n<;>simp[Instr.sameBits]:∀ x:Int,Instr.sameBits n (.int kk x) (.int kk x)=true) a
  | bool=>
   have e:cs=[_]:=hc
   rw[e] at hu
   rcases U7.1 hu with rfl
   exact (fun x:Bool=>by cases n<;>simp[Instr.sameBits]:∀ x:Bool,Instr.sameBits n (.bool x) (.bool x)=true) a
  | str=>
   have e:cs=[_]:=hc
   rw[e] at hu
   rcases U7.1 hu with rfl
   exact (fun x:List UInt8=>by cases n<;>simp[Instr.sameBits,OO]:∀ x:List UInt8,Instr.sameBits n (.string (bs x)) (.string (bs x))=true) a
  | _=>simp[bB] at h
 have fc:∀ (fs:List Field) (n:Nat) (t:Ty) (a:t.den) (cs:List Value),bR P fs n t=true->an G t a cs->∀ m u,u∈cs->Instr.sameBits m u u=true:=by
  intro fs
  induction fs with
  | nil=>intro n t a cs h;simp[bR] at h
  | cons f r ih=>
   intro n t a cs h hc m u hu
   cases r with
   | nil=>
    simp only[bR,Tr] at h
    exact sc h.2 hc m u hu
   | cons g r=>
    cases t with
    | pair s t=>
     simp only[bR,Tr] at h
     obtain⟨c1,r1,e1,p1,q1⟩:=hc
     rw[e1,UT] at hu
     rcases hu with hu | hu
     ·exact sc h.1.2 p1 m u hu
     ·exact ih (n+1) t a.2 r1 h.2 q1 m u hu
    | _=>simp[bR] at h
 cases k with
 | st s=>
  simp only[eX] at h
  split at h
  ·rename_i fs hu
   simp only[Tr] at h
   obtain⟨us,e1,h1⟩:=hv
   rw[e1]
   have key:=fc fs.toList 0 s a us h.2 h1
   have:∀ (l:List Value),(∀ u,u∈l->Instr.sameBits 9999 u u=true)->((l.zip l).all fun p=>Instr.sameBits 9999 p.1 p.2)=true:=by
    intro l hl
    induction l with
    | nil=>rfl
    | cons x l ih=>simp only[List.zip_cons_cons,TX,Tr];exact⟨hl x (by simp),ih fun u hu=>hl u (by simp[hu])⟩
   show Instr.sameBits (9999+1) _ _=true
   simp only[Instr.sameBits,VT,TJ]
   exact this us fun u hu=>key 9999 u hu
  ·cases h
 | _=>exact sc (t:=t) (a:=a) (tN h (by intro s e;cases e)) hv 10000 v (by simp)
inductive uT {k v:Ty} (a:k.den) (l:List (k.den×v.den)) (es:List MapEntry):Option (Nat×Value)->Prop
 | no (h:∀ p,p∈l->k.beq a p.1=false):uT a l es none
 | yes (i:Nat) (p:k.den×v.den) (e:MapEntry) (hp:l[i]? =some p) (he:es[i]? =some e) (hb:k.beq a p.1=true) (hn:∀ j q,j<i->l[j]? =some q->k.beq a q.1=false):uT a l es (some (i,e.val))
theorem AI {t:TypeId} {k v:Ty} (h:eX P t k=true) {a:k.den} {va:Value} (ha:bK G k a va):∀ {l:List (k.den×v.den)} {es:List MapEntry} (n:Nat),aB (qF G k v) l es-> ∃ r,(Instr.findAsking t va es n).run P w= .ok (r.map fun p:Nat×Value=>(n+p.1,p.2)) w/\uT a l es r
 | [],es,n,he=>by cases he;exact⟨none,rfl,.no (by simp)⟩
 | p::l,_,n,⟨e,es,ee,hp,hl⟩=>by
  subst ee
  obtain⟨r,hr,hf⟩:=AI h ha (n+1) hl
  cases hb:k.beq a p.1 with
  | true=>
   refine⟨some (0,e.val), ?_,.yes 0 p e rfl rfl hb (fun j q hj=>by omega)⟩
   simp[Instr.findAsking,IV h ha hp.1 w,hb]
  | false=>
   refine⟨r.map fun q=>(q.1+1,q.2), ?_, ?_⟩
   ·simp only[Instr.findAsking,Sem.run_bind,IV h ha hp.1 w,hb,Result.andThen_ok,Tz,V5,hr,VN]
    congr 1
    cases r<;>simp;omega
   ·cases hf with
    | no hn=>
     refine .no fun q hq=> ?_
     rcases UX.1 hq with rfl | hq
     ·exact hb
     ·exact hn q hq
    | yes i q e' h1 h2 h3 h4=>
     refine .yes (i+1) q e' (by simpa using h1) (by simpa using h2) h3 (fun j q' hj hq=> ?_)
     cases j with
     | zero=>simp only[Up,Option.some.injEq] at hq;subst hq;exact hb
     | succ j=>exact h4 j q' (by omega) (by simpa using hq)
theorem FY {t:TypeId} {k v:Ty} (h:bB P t k=true) {dsc:TypeDesc} (hd:P.underlying t=some dsc) {a:k.den} {va:Value} (ha:bK G k a va):∀ {l:List (k.den×v.den)} {es:List MapEntry} (n:Nat),aB (qF G k v) l es-> ∃ r,Instr.findNow dsc va es n=some (r.map fun p:Nat×Value=>(n+p.1,p.2))/\uT a l es r
 | [],es,n,he=>by cases he;exact⟨none,rfl,.no (by simp)⟩
 | p::l,_,n,⟨e,es,ee,hp,hl⟩=>by
  subst ee
  obtain⟨r,hr,hf⟩:=FY h hd ha (n+1) hl
  have hs:Instr.sameNow dsc va e.key=some (k.beq a p.1):=by
   obtain⟨p1,p2⟩:=p
   have hp1:=hp.1
   dsimp only at hp1 ⊢
   cases k with
   | int kk=>
    have e1:va= .int kk a:=by simpa [bK,an] using ha
    have e2:e.key= .int kk p1:=by simpa [bK,an] using hp1
    simp only[bB,hd] at h
    cases dsc<;>simp at h
    rw[e1,e2];exact (fun x y:Int=>by simp[Instr.sameNow,NR]:∀ x y:Int,Instr.sameNow (.int _) (.int kk x) (.int kk y)=some (NR x y)) a p1
   | bool=>
    have e1:va= .bool a:=by simpa [bK,an] using ha
    have e2:e.key= .bool p1:=by simpa [bK,an] using hp1
    simp only[bB,hd] at h
    cases dsc<;>simp at h
    rw[e1,e2];exact (fun x y:Bool=>by simp[Instr.sameNow,Nw]:∀ x y:Bool,Instr.sameNow .bool (.bool x) (.bool y)=some (Nw x y)) a p1
   | str=>
    have e1:va= .string (bs a):=by simpa [bK,an] using ha
    have e2:e.key= .string (bs p1):=by simpa [bK,an] using hp1
    simp only[bB,hd] at h
    cases dsc<;>simp at h
    rw[e1,e2]
    exact congrArg some (OO a p1)
   | _=>simp[bB] at h
  cases hb:k.beq a p.1 with
  | true=>
   refine⟨some (0,e.val), ?_,.yes 0 p e rfl rfl hb (fun j q hj=>by omega)⟩
   simp[Instr.findNow,hs,hb]
  | false=>
   refine⟨r.map fun q=>(q.1+1,q.2), ?_, ?_⟩
   ·simp only[Instr.findNow,hs,hb,hr,VN]
    congr 1
    cases r<;>simp;omega
   ·cases hf with
    | no hn=>
     refine .no fun q hq=> ?_
     rcases UX.1 hq with rfl | hq
     ·exact hb
     ·exact hn q hq
    | yes i q e' h1 h2 h3 h4=>
     refine .yes (i+1) q e' (by simpa using h1) (by simpa using h2) h3 (fun j q' hj hq=> ?_)
     cases j with
     | zero=>simp only[Up,Option.some.injEq] at hq;subst hq;exact hb
     | succ j=>exact h4 j q' (by omega) (by simpa using hq)
theorem FX {t:TypeId} {k v:Ty} (h:eX P t k=true) {a:k.den} {va:Value} (ha:bK G k a va) {l:List (k.den×v.den)} {es:List MapEntry} (he:aB (qF G k v) l es): ∃ r,(Instr.findKey t va es).run P w= .ok r w/\uT a l es r:=by
 by_cases hst:∃ s,k= .st s
 ·obtain⟨s,rfl⟩:=hst
  have h0:=h
  simp only[eX] at h
  split at h
  ·rename_i fs hu
   obtain⟨us,eu,_⟩:=ha
   have ha':bK G (.st s) a va:=⟨us,eu,by assumption⟩
   obtain⟨r,hr,hf⟩:=AI (w:=w) h0 ha' 0 he
   have hid:(r.map fun p:Nat×Value=>(0+p.1,p.2))=r:=by cases r<;>simp
   rw[hid] at hr
   cases es with
   | nil=>
    refine⟨none,by simp[Instr.findKey,run_underlying hu,Instr.findNow], ?_⟩
    have:l=[]:=by
     cases l with
     | nil=>rfl
     | cons p l=>obtain⟨y,s',e,_⟩:=he;cases e
    subst this
    exact .no (by simp)
   | cons e es=>
    refine⟨r, ?_,hf⟩
    have hn:Instr.findNow (.struct fs) va (e::es) 0=none:=by simp[Instr.findNow,Instr.sameNow]
    simp only[Instr.findKey,Sem.run_bind,run_underlying hu,Result.andThen_ok,hn,hr]
  ·cases h
 ·have hs:bB P t k=true:=by
   cases k with
   | st s=>exact absurd ⟨s,rfl⟩ hst
   | _=>exact h
  obtain⟨d,i,hd,_⟩:=fY (oQ hs).1
  obtain⟨r,hr,hf⟩:=FY hs hd ha 0 he
  have hid:(r.map fun p:Nat×Value=>(0+p.1,p.2))=r:=by cases r<;>simp
  rw[hid] at hr
  exact⟨r,by simp[Instr.findKey,run_underlying hd,hr],hf⟩
theorem uT.get {k v:Ty} {a:k.den} {l:List (k.den×v.den)} {es:List MapEntry} {r:Option (Nat×Value)} (h:uT a l es r):match r with
 | none=>iX l a=none
 | some (i,u)=>∃ p e,l[i]? =some p/\es[i]? =some e/\u=e.val/\iX l a=some p.2:=by
 cases h with
 | no hn=>
  simp only[iX]
  have:l.find? (fun p=>k.beq a p.1)=none:=by
   rw[List.find?_eq_none];intro p hp;simp[hn p hp]
  rw[this]
 | yes i p e h1 h2 h3 h4=>
  refine⟨p,e,h1,h2,rfl, ?_⟩
  have:l.find? (fun p=>k.beq a p.1)=some p:=by
   rw[List.find?_eq_some_iff_getElem]
   obtain⟨hlt,hp⟩:=Ut.1 h1
   exact⟨h3,i,hlt,hp,fun j hj=>by simp[h4 j l[j] hj (Ur (by omega))]⟩
  simp[iX,this]
theorem uT.set {k v:Ty} {a:k.den} (y:v.den) {l:List (k.den×v.den)} {es:List MapEntry} {r:Option (Nat×Value)} (h:uT a l es r):match r with
 | none=>sw l a y=l++[(a,y)]
 | some (i,_)=>sw l a y=l.set i (a,y):=by
 cases h with
 | no hn=>
  simp only
  clear es
  induction l with
  | nil=>rfl
  | cons p l ih=>
   simp only[sw,hn p (by simp),VV,T7]
   rw[ih fun q hq=>hn q (by simp[hq])]
 | yes i p e h1 h2 h3 h4=>
  simp only
  clear h2
  induction l generalizing i with
  | nil=>simp at h1
  | cons q l ih=>
   cases i with
   | zero=>
    simp only[Up,Option.some.injEq] at h1
    subst h1
    simp[sw,h3]
   | succ i=>
    have hq:=h4 0 q (by omega) rfl
    simp only[sw,hq,VV,List.set_cons_succ]
    rw[ih i (by simpa using h1) (fun j q' hj hq'=>h4 (j+1) q' (by omega) (by simpa using hq'))]
theorem wM {b:Bool} {t:TypeId} {k:Ty} (h:bB P t k=true) {u:Value} (n:Nat):(Instr.checkKey b (n+1) t u).run P w= .ok () w:=by
 cases k with
 | int kk=>
  simp only[bB] at h
  split at h
  ·rename_i hu;simp[Instr.checkKey,run_underlying hu]
  ·cases h
 | bool=>
  simp only[bB] at h
  split at h
  ·rename_i hu;simp[Instr.checkKey,run_underlying hu]
  ·cases h
 | str=>
  simp only[bB] at h
  split at h
  ·rename_i hu;simp[Instr.checkKey,run_underlying hu]
  ·cases h
 | _=>simp[bB] at h
def Fs (b:Bool) (n:Nat) (us:List Value) (f:Field) (_:PUnit):Sem (ForInStep PUnit):=
 if f.name≠ "_" then do
  let x <- part f.type us.toArray f.offset
  Instr.checkKey b (n+1) f.type x
  pure (ForInStep.yield PUnit.unit)
 else pure (ForInStep.yield PUnit.unit)
theorem OV {b:Bool} {n m:Nat} {us pre c1 rest:List Value} {f:Field} {t1:Ty} {x1:t1.den} (q1:f.name≠ "_") (q2:f.offset=m) (q4:bB P f.type t1=true) (q5:an G t1 x1 c1) (hpre:pre.length=m) (q6:us=pre++(c1++rest)): (Fs b n us f PUnit.unit).run P w= .ok (.yield PUnit.unit) w:=by
 obtain⟨k1,k2,k3⟩:=oQ q4
 obtain⟨d,i,hd,_⟩:=fY k1
 have hl1:c1.length=1:=by rw[q5.len,k3]
 obtain⟨u,rfl⟩:∃ u,c1=[u]:=by
  match c1,hl1 with
  | [u],_=>exact⟨u,rfl⟩
 have hget:us[m]? =some u:=by rw[q6,Un (by omega),hpre];simp
 have hp:(part f.type us.toArray f.offset).run P w= .ok u w:=by
  simp[part,lg hd,k2,q2,hget]
 simp only[Fs,V7 q1,Sem.run_bind,hp,Result.andThen_ok,wM q4 n,Sem.run_pure]
theorem OU {b:Bool} {n:Nat} {us:List Value}:∀ (l:List Field) (m:Nat) (t:Ty) (x:t.den) (pre c:List Value),bR P l m t=true->us=pre++c->pre.length=m->an G t x c-> (forIn l PUnit.unit (Fs b n us)).run P w= .ok PUnit.unit w
 | [],m,t,x,pre,c,h,_,_,_=>by simp[bR] at h
 | [f],m,t,x,pre,c,h,hus,hpre,hc=>by
  simp only[bR,Tr,V0] at h
  have:=OV (P:=P) (w:=w) (b:=b) (n:=n) (rest:=[]) h.1.1.1 (Vq h.1.1.2) h.2 hc hpre (by simpa using hus)
  rw[List.forIn_cons,Sem.run_bind,this]
  rfl
 | f::g::r,m,t,x,pre,c,h,hus,hpre,hc=>by
  cases t with
  | pair s t=>
   simp only[bR,Tr,V0] at h
   obtain⟨c1,r1,e1,p1,q1⟩:=hc
   obtain⟨⟨⟨⟨f1,f2⟩,f3⟩,f4⟩,f5⟩:=h
   have o1:=OV (P:=P) (w:=w) (b:=b) (n:=n) (us:=us) (rest:=r1) f1 (Vq f2) f4 p1 hpre (by rw[hus,e1])
   have hl1:c1.length=1:=by rw[p1.len,(oQ f4).2.2]
   have o2:=OU (b:=b) (n:=n) (us:=us) (g::r) (m+1) t x.2 (pre++c1) r1 f5 (by rw[hus,e1];simp) (by simp;omega) q1
   rw[List.forIn_cons,Sem.run_bind,o1]
   exact o2
  | _=>simp[bR] at h
theorem Kt {t:TypeId} {k:Ty} (h:eX P t k=true) {a:k.den} {v:Value} (hv:bK G k a v) (b:Bool) (n:Nat):(Instr.checkKey b (n+1+1) t v).run P w= .ok () w:=by
 cases k with
 | st s=>
  simp only[eX] at h
  split at h
  ·rename_i fs hu
   simp only[Tr] at h
   obtain⟨us,e1,h1⟩:=hv
   subst e1
   have:=OU (P:=P) (w:=w) (b:=b) (n:=n) (us:=us) fs.toList 0 s a [] us h.2 rfl rfl h1
   rw[Array.forIn_toList] at this
   rw[Instr.checkKey]
   simp only[Sem.run_bind,run_underlying hu,Result.andThen_ok]
   have e2:∀ (X:Sem PUnit),X=forIn fs PUnit.unit (Fs b n us)->(X.run P w).andThen (fun _ w'=>Sem.run P (pure ()) w')= .ok () w:=by
    intro X hX;rw[hX,this];rfl
   exact e2 _ rfl
  ·cases h
 | _=>exact wM (tN h (by intro s e;cases e)) (n+1)
theorem sU {t:TypeId} {k:Ty} (h:eX P t k=true) {a:k.den} {v:Value} (hv:bK G k a v) (b:Bool):(Instr.checkKey b 10000 t v).run P w= .ok () w:=
 Kt h hv b 9998
end Go.Dn
