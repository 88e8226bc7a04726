/-
  An executor of Go code on plain data, proved sound against the model: values, states, operations. No condition.
-/
import Derived.Laws.AppendOwn
import Derived.Orders
import Derived.Below
import Derived.KernelRfl
import Derived.StillTail
import Derived.Laws.Cells
import Derived.Laws.Strings
import Derived.Great.BuildSlice
import Derived.Laws.StructEq
set_option linter.all false
namespace Go.Dn
abbrev S5:= @Bool.and_true
abbrev S6:= @Bool.false_eq_true
abbrev S7:= @Bool.false_ne_true
abbrev S8:= @Bool.false_or
abbrev S9:= @Bool.not_eq_false'
abbrev SC:= @Array.getD_eq_getD_getElem?
abbrev SD:= @Array.getElem?_eq_getElem
abbrev SE:= @Array.getElem?_eq_none
abbrev SF:= @Array.getElem?_eq_some_iff
abbrev SG:= @Array.getElem?_modify
abbrev SH:= @Array.getElem?_replicate
abbrev SJ:= @Array.getElem?_setIfInBounds_ne
abbrev SK:= @Array.getElem?_setIfInBounds_self_of_lt
abbrev SL:= @Array.getElem?_toList
abbrev SM:= @Array.length_toList
abbrev SN:= @Array.mem_toList_iff
abbrev SO:= @Array.size_append
abbrev SQ:= @Array.toArray_toList
abbrev SR:= @Array.toList_push
abbrev SS:= @BitVec.ofInt_natCast
abbrev SU:= @BitVec.toNat_ofNat
abbrev SX:= @Bool.and_eq_true
abbrev SY:= @Bool.and_false
abbrev SZ:= @Bool.and_self
abbrev T0:= @List.getElem?_take
abbrev T3:= @List.getElem?_take_of_lt
abbrev T4:= @List.getElem?_toArray
abbrev T6:= @List.getElem_mem
abbrev T7:= @List.length_append
abbrev T8:= @List.length_cons
abbrev T9:= @List.length_drop
abbrev TA:= @List.countP_pos_iff
abbrev TB:= @List.drop_drop
abbrev TC:= @List.drop_eq_getElem_cons
abbrev TD:= @List.drop_left
abbrev TE:= @List.drop_of_length_le
abbrev TF:= @List.drop_succ_cons
abbrev TG:= @List.drop_zero
abbrev TH:= @List.eq_nil_iff_forall_not_mem
abbrev TI:= @List.eq_nil_of_length_eq_zero
abbrev TJ:= @List.ext_getElem?
abbrev TK:= @List.flatMap_cons
abbrev TL:= @List.getD_eq_getElem?_getD
abbrev TM:= @List.getElem?_append
abbrev TN:= @List.getElem?_append_left
abbrev TO:= @List.getElem?_append_right
abbrev TP:= @List.getElem?_cons_succ
abbrev TQ:= @List.getElem?_cons_zero
abbrev TR:= @List.getElem?_drop
abbrev TS:= @List.getElem?_eq_getElem
abbrev TT:= @List.getElem?_eq_none
abbrev TU:= @List.getElem?_eq_some_iff
abbrev TV:= @List.getElem?_map
abbrev TW:= @List.getElem?_range
abbrev TX:= @List.getElem?_set
abbrev TY:= @List.getElem?_set_ne
abbrev TZ:= @List.getElem?_set_self
abbrev Ta:= @Bool.not_eq_true
abbrev Tb:= @Bool.not_eq_true'
abbrev Tc:= @Bool.not_false
abbrev Td:= @Bool.not_true
abbrev Te:= @Bool.or_eq_false_iff
abbrev Tf:= @Bool.or_eq_true
abbrev Tg:= @Bool.true_and
abbrev Th:= @Int.fdiv_eq_ediv_of_nonneg
abbrev Ti:= @Int.le_refl
abbrev Tj:= @Int.mul_add
abbrev Tk:= @Int.mul_assoc
abbrev Tl:= @Int.mul_le_mul_of_nonneg_left
abbrev Tm:= @Int.mul_nonneg
abbrev Tn:= @Int.pow_succ
abbrev To:= @Int.toNat_natCast
abbrev Tp:= @List.all_cons
abbrev Tq:= @List.all_eq_true
abbrev Tr:= @List.any_eq_false
abbrev Tt:= @List.any_eq_true
abbrev Tu:= @List.append_assoc
abbrev Tv:= @List.append_nil
abbrev Tx:= @List.cons_append
abbrev Tz:= @List.countP_eq_zero
abbrev U0:= @Nat.le_refl
abbrev U1:= @Nat.le_trans
abbrev U2:= @Nat.lt_add_left
abbrev U3:= @Nat.lt_of_le_of_lt
abbrev U4:= @Nat.lt_of_lt_of_le
abbrev U5:= @Nat.lt_or_ge
abbrev U6:= @Nat.lt_succ_iff_lt_or_eq
abbrev U7:= @Nat.lt_succ_self
abbrev U8:= @Nat.lt_trichotomy
abbrev U9:= @Nat.min_eq_left
abbrev UA:= @List.pairwise_cons
abbrev UB:= @List.pairwise_iff_getElem
abbrev UC:= @List.pairwise_map
abbrev UD:= @List.pairwise_mergeSort
abbrev UE:= @List.replicate_succ
abbrev UF:= @List.set_comm
abbrev UG:= @List.set_getElem_self
abbrev UH:= @List.set_set
abbrev UI:= @List.size_toArray
abbrev UJ:= @List.sum_cons
abbrev UK:= @List.take_append_drop
abbrev UL:= @List.take_append_of_le_length
abbrev UM:= @List.take_left
abbrev UN:= @List.take_of_length_le
abbrev UO:= @List.take_succ_cons
abbrev UP:= @List.take_take
abbrev UQ:= @Nat.add_assoc
abbrev UR:= @Nat.add_mul
abbrev US:= @Nat.add_zero
abbrev UT:= @Nat.div_eq_of_lt
abbrev UU:= @Nat.div_lt_self
abbrev UW:= @Nat.eq_of_beq_eq_true
abbrev UX:= @Nat.eq_zero_or_pos
abbrev UY:= @Nat.le_of_ble_eq_true
abbrev UZ:= @Nat.le_of_lt
abbrev Ua:= @List.length_map
abbrev Ub:= @List.length_nil
abbrev Uc:= @List.length_set
abbrev Ud:= @List.length_take
abbrev Ue:= @List.map_congr_left
abbrev Uf:= @List.map_cons
abbrev Ug:= @List.map_map
abbrev Uh:= @List.mem_append
abbrev Ui:= @List.mem_append_left
abbrev Uj:= @List.mem_append_right
abbrev Uk:= @List.mem_cons
abbrev Ul:= @List.mem_cons_of_mem
abbrev Um:= @List.mem_cons_self
abbrev Un:= @List.mem_filterMap
abbrev Uo:= @List.mem_iff_getElem?
abbrev Up:= @List.mem_map
abbrev Uq:= @List.mem_of_getElem?
abbrev Ur:= @List.mem_of_mem_drop
abbrev Us:= @List.mem_of_mem_take
abbrev Ut:= @List.mem_or_eq_of_mem_set
abbrev Uu:= @List.mem_range
abbrev Uv:= @List.mem_singleton
abbrev Uw:= @List.mergeSort_perm
abbrev Ux:= @List.nil_append
abbrev Uy:= @List.nodup_cons
abbrev Uz:= @List.pairwise_append
abbrev VA:= @decide_eq_true
abbrev VB:= @decide_eq_true_eq
abbrev VC:= @false_and
abbrev VD:= @false_or
abbrev VE:= @getElem!_pos
abbrev VF:= @if_false
abbrev VG:= @if_neg
abbrev VH:= @if_pos
abbrev VI:= @if_true
abbrev VJ:= @not_and
abbrev VK:= @not_exists
abbrev VL:= @not_or
abbrev VM:= @of_decide_eq_true
abbrev Va:= @Nat.mod_eq_of_lt
abbrev Vb:= @Nat.mul_comm
abbrev Vc:= @Nat.mul_le_mul_right
abbrev Vd:= @Nat.not_lt_zero
abbrev Ve:= @Nat.one_mul
abbrev Vf:= @Nat.pow_add
abbrev Vg:= @Nat.pow_le_pow_right
abbrev Vh:= @Nat.pow_succ
abbrev Vi:= @Nat.sub_mul
abbrev Vj:= @Nat.zero_add
abbrev Vk:= @Nat.zero_le
abbrev Vl:= @Option.bind_some
abbrev Vm:= @Option.getD_some
abbrev Vn:= @Option.isNone_iff_eq_none
abbrev Vo:= @Option.isSome_iff_exists
abbrev Vp:= @Option.map_map
abbrev Vq:= @Option.map_some
abbrev Vr:= @UInt8.not_lt
abbrev Vs:= @and_true
abbrev Vt:= @beq_eq_false_iff_ne
abbrev Vu:= @beq_self_eq_true
abbrev Vv:= @bne_self_eq_false
abbrev Vw:= @cond_false
abbrev Vx:= @cond_true
abbrev Vy:= @decide_eq_false
abbrev Vz:= @decide_eq_false_iff_not
inductive Ty where
 | int (k:IntKind)
 | bool
 | str
 | unit
 | pair (a b:Ty)
 | st (t:Ty)
 | slice (t:Ty)
 | ptr (t:Ty)
 | clo (g:Nat) (t:Ty)
 | hnd
 deriving DecidableEq
def Ty.den:Ty→Type
 | .int _=>Int
 | .bool=>Bool
 | .str=>List UInt8
 | .unit=>Unit
 | .pair a b=>a.den×b.den
 | .st t=>t.den
 | .slice t=>List t.den
 | .ptr t=>t.den
 | .clo _ t=>t.den
 | .hnd=>Option Nat
def Ty.size:Ty→Nat
 | .unit=>0
 | .pair a b=>a.size+b.size
 | .st t=>t.size
 | _=>1
def Ty.flat:Ty→Bool
 | .pair a b=>a.flat&&b.flat
 | .st t=>t.flat
 | .slice _ | .ptr _ | .clo _ _=>false
 | _=>true
def Ty.aH:Ty→Bool
 | .pair a b=>a.aH&&b.aH
 | .st t=>t.aH
 | .slice t=>t.aH
 | .ptr t=>t.aH
 | .clo _ t=>t.aH
 | .hnd=>false
 | _=>true
structure Gh where
 blk:Nat→Option Obj
 hnd:Nat→Option Nat
instance:CoeFun Gh fun _=>Nat→Option Obj:=⟨Gh.blk⟩
structure Gh.le (G G':Gh):Prop where
 blk:∀ b o,G b=some o→G' b=some o
 hnd:∀ h b,G.hnd h=some b→G'.hnd h=some b
instance {G G':Gh}:CoeFun (G.le G') fun _=>∀ b o,G b=some o→G' b=some o:=⟨Gh.le.blk⟩
theorem Gh.le_refl (G:Gh):G.le G:=⟨fun _ _ h=>h,fun _ _ h=>h⟩
theorem Gh.le_trans {A B C:Gh} (h:A.le B) (k:B.le C):A.le C:=⟨fun b o x=>k b o (h b o x),fun b o x=>k.hnd b o (h.hnd b o x)⟩
def bs (l:List UInt8):ByteArray:=⟨l.toArray⟩
def Agr (G:Gh) (w:World):Prop:=∀ b o,G b=some o→w.heap[b]? =some o
def bA {α:Type} (R:α→List Value→Prop):List α→List Value→Prop
 | [],cs=>cs=[]
 | x::l,cs=>∃ c r,cs=c++r∧R x c∧bA R l r
def dM {α:Type} (G:Gh) (sz:Nat) (R:α→List Value→Prop) (l:List α) (v:Value):Prop:=
 ∃ a cap,v= .slice a l.length cap∧l.length≤cap∧cap≤maxLen∧
  (l=[]∨∃ b off c T fz,a=some ⟨b,off,none⟩∧G b=some (.cells c T fz)∧off+l.length*sz≤c.size∧
    bA R l ((c.toList.drop off).take (l.length*sz)))
def aq (G:Gh):(t:Ty)→t.den→List Value→Prop
 | .int k,n,cs=>cs=[.int k n]
 | .bool,b,cs=>cs=[.bool b]
 | .str,s,cs=>cs=[.string (bs s)]
 | .unit,_,cs=>cs=[]
 | .pair a b,(x,y),cs=>∃ c r,cs=c++r∧aq G a x c∧aq G b y r
 | .st t,x,cs=>aq G t x cs
 | .slice t,l,cs=>∃ v,cs=[v]∧dM G t.size (aq G t) l v
 | .ptr t,x,cs=>∃ b off c T fz,cs=[.pointer (some ⟨b,off,none⟩)]∧G b=some (.cells c T fz)∧off+t.size≤c.size∧
  aq G t x ((c.toList.drop off).take t.size)
 | .clo g t,x,cs=>∃ caps:List Value,cs=[.func (.func g) #[] caps.toArray]∧aq G t x caps
 | .hnd,none,cs=>cs=[.pointer none]
 | .hnd,some h,cs=>∃ b,G.hnd h=some b∧cs=[.pointer (some ⟨b,0,none⟩)]
theorem bA.mono {α:Type} {R R':α→List Value→Prop} (h:∀ x cs,R x cs→R' x cs):∀ {l:List α} {cs:List Value},bA R l cs→bA R' l cs
 | [],_,hh=>hh
 | _::_,_,⟨c,r,e,hx,hl⟩=>⟨c,r,e,h _ _ hx,bA.mono h hl⟩
theorem aq.mono {G G':Gh} (hG:G.le G'):∀ (t:Ty) (x:t.den) (cs:List Value),aq G t x cs→aq G' t x cs
 | .int _,_,_,h=>h
 | .bool,_,_,h=>h
 | .str,_,_,h=>h
 | .unit,_,_,h=>h
 | .pair a b,(x,y),_,⟨c,r,e,hx,hy⟩=>⟨c,r,e,aq.mono hG a x c hx,aq.mono hG b y r hy⟩
 | .st t,x,cs,h=>aq.mono hG t x cs h
 | .slice t,_,_,⟨v,e,a,cap,hv,h1,h2,h3⟩=>⟨v,e,a,cap,hv,h1,h2,h3.imp id fun ⟨b,off,c,T,fz,ha,hb,hs,hl⟩=>
  ⟨b,off,c,T,fz,ha,hG _ _ hb,hs,hl.mono (aq.mono hG t)⟩⟩
 | .ptr t,x,_,⟨b,off,c,T,fz,e,hb,hs,hl⟩=>⟨b,off,c,T,fz,e,hG _ _ hb,hs,aq.mono hG t x _ hl⟩
 | .clo _ t,x,_,⟨caps,e,h⟩=>⟨caps,e,aq.mono hG t x _ h⟩
 | .hnd,none,_,h=>h
 | .hnd,some _,_,⟨b,hb,e⟩=>⟨b,hG.hnd _ _ hb,e⟩
theorem dM.mono {G G':Gh} (hG:G.le G') {t:Ty} {l:List t.den} {v:Value} (h:dM G t.size (aq G t) l v):dM G' t.size (aq G' t) l v:=by
 obtain⟨a,cap,hv,h1,h2,h3⟩:=h
 exact⟨a,cap,hv,h1,h2,h3.imp id fun ⟨b,off,c,T,fz,ha,hb,hs,hl⟩=>⟨b,off,c,T,fz,ha,hG _ _ hb,hs,hl.mono (aq.mono hG t)⟩⟩
theorem aq.len {G:Gh}:∀ {t:Ty} {x:t.den} {cs:List Value},aq G t x cs→cs.length=t.size
 | .int _,_,_,h=>by cases h;rfl
 | .bool,_,_,h=>by cases h;rfl
 | .str,_,_,h=>by cases h;rfl
 | .unit,_,_,h=>by cases h;rfl
 | .pair a b,(x,y),_,⟨c,r,e,hx,hy⟩=>by
  subst e;rw[T7,hx.len,hy.len];rfl
 | .st t,x,cs,h=>aq.len (t:=t) (x:=x) h
 | .slice t,_,_,⟨v,e,_⟩=>by subst e;rfl
 | .ptr t,x,_,⟨b,off,c,T,fz,e,_⟩=>by subst e;rfl
 | .clo _ t,x,_,⟨caps,e,h⟩=>by subst e;rfl
 | .hnd,none,_,h=>by cases h;rfl
 | .hnd,some _,_,⟨b,hb,e⟩=>by subst e;rfl
theorem bA.len {α:Type} {R:α→List Value→Prop} {n:Nat} (h:∀ x cs,R x cs→cs.length=n):∀ {l:List α} {cs:List Value},bA R l cs→cs.length=l.length*n
 | [],_,hh=>by cases hh;simp
 | _::l,_,⟨c,r,e,hx,hl⟩=>by
  subst e
  rw[T7,h _ _ hx,hl.len h,T8,UR]
  omega
theorem bA.append {α:Type} {R:α→List Value→Prop}:∀ {l l':List α} {cs cs':List Value},bA R l cs→bA R l' cs'→bA R (l++l') (cs++cs')
 | [],_,_,_,hh,h'=>by cases hh;simpa using h'
 | x::l,_,_,_,⟨c,r,e,hx,hl⟩,h'=>by
  subst e
  exact⟨c,r++_,by simp,hx,hl.append h'⟩
theorem xO {α:Type} (c r:List α) (k:Nat):(c++r).drop (c.length+k)=r.drop k:=by
 rw[List.drop_append,TE (by omega)];simp
theorem DF {α:Type} (c r:List α) (k:Nat):(c++r).take (c.length+k)=c++r.take k:=by
 rw[List.take_append,UN (by omega)];simp
theorem bA.get {α:Type} {R:α→List Value→Prop} {n:Nat} (h:∀ x cs,R x cs→cs.length=n):∀ {l:List α} {cs:List Value},bA R l cs→∀ {i:Nat} {x:α},l[i]? =some x→R x ((cs.drop (i*n)).take n)
 | [],_,_,_,_,hi=>by simp at hi
 | y::l,_,⟨c,r,e,hx,hl⟩,0,x,hi=>by
  subst e
  have hc:=h _ _ hx
  have hy:y=x:=by simpa using hi
  subst hy
  simp only[Nat.zero_mul,TG]
  rw[← hc,UM]
  exact hx
 | y::l,_,⟨c,r,e,hx,hl⟩,i+1,x,hi=>by
  subst e
  have hc:=h _ _ hx
  have:=hl.get h (i:=i) (x:=x) (by simpa using hi)
  rw[show (i+1)*n=c.length+i*n by rw[UR];omega,xO]
  exact this
theorem bA.take {α:Type} {R:α→List Value→Prop} {n:Nat} (h:∀ x cs,R x cs→cs.length=n):∀ {l:List α} {cs:List Value},bA R l cs→∀ (i:Nat),bA R (l.take i) (cs.take (i*n))
 | l,cs,hl,0=>by simp[bA]
 | [],_,hh,i+1=>by cases hh;simp[bA]
 | y::l,_,⟨c,r,e,hx,hl⟩,i+1=>by
  subst e
  have hc:=h _ _ hx
  refine⟨c,r.take (i*n), ?_,hx,hl.take h i⟩
  rw[show (i+1)*n=c.length+i*n by rw[UR];omega,DF]
theorem bA.drop {α:Type} {R:α→List Value→Prop} {n:Nat} (h:∀ x cs,R x cs→cs.length=n):∀ {l:List α} {cs:List Value},bA R l cs→∀ (i:Nat),bA R (l.drop i) (cs.drop (i*n))
 | l,cs,hl,0=>by simpa using hl
 | [],_,hh,i+1=>by cases hh;simp[bA]
 | y::l,_,⟨c,r,e,hx,hl⟩,i+1=>by
  subst e
  have hc:=h _ _ hx
  rw[show (i+1)*n=c.length+i*n by rw[UR];omega,xO]
  exact hl.drop h i
theorem bA.set {α:Type} {R:α→List Value→Prop} {n:Nat} (h:∀ x cs,R x cs→cs.length=n) {y:α} {d:List Value} (hy:R y d):∀ {l:List α} {cs:List Value},bA R l cs→∀ {i:Nat},i<l.length→
 bA R (l.set i y) (cs.take (i*n)++d++cs.drop (i*n+n))
 | [],_,_,_,hi=>by simp at hi
 | x::l,_,⟨c,r,e,hx,hl⟩,0,_=>by
  subst e
  have hc:=h _ _ hx
  exact⟨d,r,by simp[← hc],hy,hl⟩
 | x::l,_,⟨c,r,e,hx,hl⟩,i+1,hi=>by
  subst e
  have hc:=h _ _ hx
  refine⟨c,r.take (i*n)++d++r.drop (i*n+n), ?_,hx,hl.set h hy (by simpa using hi)⟩
  rw[show (i+1)*n=c.length+i*n by rw[UR];omega,UQ,DF,xO]
  simp
theorem aq.aH {G G':Gh} (hG:∀ b o,G b=some o→G' b=some o):∀ (t:Ty) (x:t.den) (cs:List Value),t.aH=true→aq G t x cs→aq G' t x cs
 | .int _,_,_,_,h=>h
 | .bool,_,_,_,h=>h
 | .str,_,_,_,h=>h
 | .unit,_,_,_,h=>h
 | .pair a b,(x,y),_,hn,⟨c,r,e,hx,hy⟩=>by
  simp only[Ty.aH,SX] at hn
  exact⟨c,r,e,aq.aH hG a x c hn.1 hx,aq.aH hG b y r hn.2 hy⟩
 | .st t,x,cs,hn,h=>aq.aH hG t x cs hn h
 | .slice t,_,_,hn,⟨v,e,a,cap,hv,h1,h2,h3⟩=>⟨v,e,a,cap,hv,h1,h2,h3.imp id fun ⟨b,off,c,T,fz,ha,hb,hs,hl⟩=>
  ⟨b,off,c,T,fz,ha,hG _ _ hb,hs,hl.mono fun x cs=>aq.aH hG t x cs hn⟩⟩
 | .ptr t,x,_,hn,⟨b,off,c,T,fz,e,hb,hs,hl⟩=>⟨b,off,c,T,fz,e,hG _ _ hb,hs,aq.aH hG t x _ hn hl⟩
 | .clo _ t,x,_,hn,⟨caps,e,h⟩=>⟨caps,e,aq.aH hG t x _ hn h⟩
 | .hnd,_,_,hn,_=>by cases hn
def bF (G:Gh) (t:Ty) (x:t.den) (v:Value):Prop:=
 match t,x with
 | .st t,x=>∃ vs:List Value,v= .agg vs.toArray∧aq G t x vs
 | t,x=>aq G t x [v]
theorem bF.mono {G G':Gh} (hG:G.le G') {t:Ty} {x:t.den} {v:Value} (h:bF G t x v):bF G' t x v:=by
 cases t with
 | st t=>obtain⟨vs,e,hv⟩:=h;exact⟨vs,e,aq.mono hG _ _ _ hv⟩
 | _=>exact aq.mono hG _ _ _ h
end Go.Dn
namespace Go.Dn
inductive CV where
 | int (k:IntKind) (n:Int)
 | bool (b:Bool)
 | str (s:List UInt8)
 | sl (t:Ty) (l:List t.den)
 | cp (t:Ty) (x:t.den) (off:Nat)
 | clo (g:Nat) (t:Ty) (x:t.den)
 | ref (k off:Nat)
 | row (j:Nat)
 | rp (j sz i off:Nat)
 | fn (g:Nat) (ks:List Nat)
 | nilp
 | nils
 | any
 | mp (j:Nat)
 | hnd (o:Option Nat) (off:Nat)
 | stp (j i:Nat)
 | kseq (g j:Nat)
 | nb (b:Bool)
 | opq (v:Value)
inductive SV where
 | v (agg:Bool) (cs:List CV)
 | tup (l:List (Bool×List CV))
structure kJ where
 fz:Bool
 e:TypeId
 t:Ty
 l:List t.den
inductive mg where
 | map (k v:Ty) (l:List (k.den×v.den))
 | ar (fz:Bool) (t:Ty) (l:List t.den)
structure St where
 tmps:List SV
 boxes:List (Nat×List CV)
 rows:List (Nat×kJ)
 objs:List (Nat×mg)
def look {α:Type}:List (Nat×α)→Nat→Option α
 | [],_=>none
 | (j,x)::r,k=>bif Nat.beq j k then some x else look r k
inductive aU where
 | inl (k:Nat)
 | inr (j:Nat)
 | ob (j:Nat)
 deriving DecidableEq
structure Env where
 bx:Nat→Nat
 rw:Nat→Value
 own:Nat→Option aU
 ob:Nat→Value
 st:Nat→Nat→Int
def ay {α β:Type} (R:α→β→Prop):List α→List β→Prop
 | [],l=>l=[]
 | x::r,l=>∃ y s,l=y::s∧R x y∧ay R r s
def aJ (G:Gh) (ρ:Env):CV→Value→Prop
 | .int k n,v=>v= .int k n
 | .bool b,v=>v= .bool b
 | .str s,v=>v= .string (bs s)
 | .sl t l,v=>dM G t.size (aq G t) l v
 | .cp t x o,v=>∃ b off c T fz,v= .pointer (some ⟨b,off+o,none⟩)∧G b=some (.cells c T fz)∧off+t.size≤c.size∧
  aq G t x ((c.toList.drop off).take t.size)
 | .clo g t x,v=>∃ caps:List Value,v= .func (.func g) #[] caps.toArray∧aq G t x caps
 | .ref k o,v=>v= .pointer (some ⟨ρ.bx k,o,none⟩)
 | .row j,v=>v=ρ.rw j∧∃ a n c,v= .slice a n c
 | .rp j sz i o,v=>∃ b len cap,ρ.rw j= .slice (some ⟨b,0,none⟩) len cap∧v= .pointer (some ⟨b,i*sz+o,none⟩)
 | .fn g ks,v=>v= .func (.func g) #[] (ks.map fun k=>Value.pointer (some ⟨ρ.bx k,0,none⟩)).toArray
 | .nilp,v=>v= .pointer none
 | .nils,v=>v= .slice none 0 0
 | .any,_=>True
 | .mp j,v=>v=ρ.ob j∧∃ b,v= .map (some b)
 | .hnd none o,v=>v= .pointer none∧o=0
 | .hnd (some h) o,v=>∃ b,G.hnd h=some b∧v= .pointer (some ⟨b,o,none⟩)
 | .stp j i,v=>v= .int .i64 (ρ.st j i)
 | .kseq g j,v=>∃ b T fz,v= .func (.func g) #[] #[.pointer (some ⟨b,0,none⟩)]∧G b=some (.cells #[ρ.ob j] T fz)
 | .nb b,v=>∃ c,v= .bool c∧(b=false→c=false)
 | .opq u,v=>v=u
def jr (G:Gh) (ρ:Env):Bool→List CV→Value→Prop
 | true,cs,v=>∃ vs:List Value,v= .agg vs.toArray∧ay (aJ G ρ) cs vs
 | false,[c],v=>aJ G ρ c v
 | false,_,_=>False
def bf (G:Gh) (ρ:Env):SV→Value→Prop
 | .v a cs,v=>jr G ρ a cs v
 | .tup l,v=>∃ vs:List Value,v= .tuple vs.toArray∧ay (fun p=>jr G ρ p.1 p.2) l vs
def ye:List Int:=(List.range 20).map fun i=>((10 ^ i:Nat):Int)
structure mP (P:Program) (G:Gh):Prop where
 pow:∀ g,P.globalNamed "internal/strconv.uint64pow10" =some g→∃ T fz,G g=some (.cells (ye.map fun z=>Value.int .u64 z).toArray T fz)
 maxLen:∀ g,P.globalNamed "internal/bytealg.MaxLen" =some g→∃ n T fz,G g=some (.cells #[Value.int .i64 n] T fz)
theorem mP.mono {P:Program} {G G':Gh} (h:mP P G) (hG:G.le G'):mP P G':=
 ⟨fun g hg=>let ⟨T,fz,e⟩:=h.pow g hg;⟨T,fz,hG.blk _ _ e⟩,fun g hg=>let ⟨n,T,fz,e⟩:=h.maxLen g hg;⟨n,T,fz,hG.blk _ _ e⟩⟩
structure Fr (P:Program) where
 n0:Nat
 pin:Nat→Nat
 pinR:Nat→Value
 B:Nat→Prop
 w0:World
 G0:Gh
 noAr:Prop
 tab:mP P G0
def bX (G:Gh) (ρ:Env) (w:World) (j:Nat) (r:kJ):Prop:=
 if r.fz then dM G r.t.size (aq G r.t) r.l (ρ.rw j)
 else ∃ xs,w.ownsRow 0 r.e r.t.size (ρ.rw j) r.l.length xs∧bA (aq G r.t) r.l xs∧∀ b,(ρ.rw j).ownBlock=some b→ρ.own b=some (.inr j)
def mN (G:Gh) (k v:Ty) (p:k.den×v.den) (e:MapEntry):Prop:=bF G k p.1 e.key∧bF G v p.2 e.val
def iW (G:Gh) (w:World) (own:Nat→Prop) (fz:Bool) (t:Ty) (l:List t.den):Prop:=
 (∀ h b,G.hnd h=some b→h<l.length)∧(∀ h h' b,G.hnd h=some b→G.hnd h'=some b→h=h')∧
   ∀ h x,l[h]? =some x→∃ b vs T,G.hnd h=some b∧(fz=true→G b=some (.cells (List.toArray vs) T (0,0)))∧(fz=false→own b)∧w.heap[b]? =some (.cells (List.toArray vs) T (0,0))∧aq G t x vs
def bq:Nat:=9999
def kX (G:Gh) (ρ:Env) (w:World) (j:Nat):mg→Prop
 | .map k v l=>∃ b es clock,ρ.ob j= .map (some b)∧ρ.own b=some (.ob j)∧w.heap[b]? =some (.map es clock)∧ay (mN G k v) l es.toList∧
  (∀ (i:Nat) (e:MapEntry),es.toList[i]? =some e→(e.born:Int)=ρ.st j i∧e.born<clock)∧es.toList.Pairwise (fun a b=>a.born<b.born)
 | .ar fz t l=>j=bq∧iW G w (fun b=>ρ.own b=some (.ob j)) fz t l
structure Mem {P0:Program} (C:Fr P0) (G:Gh) (ρ:Env) (S:St) (w:World):Prop where
 agr:Agr G w
 le0:C.G0.le G
 old:∀ b,b<C.n0→¬ C.B b→G b=C.G0 b
 frame:∀ b,b<C.n0→¬ C.B b→w.heap[b]? =C.w0.heap[b]?
 size:C.n0≤w.heap.size
 os:w.os=C.w0.os
 output:w.output=C.w0.output
 pin:∀ k,2000≤k→ρ.bx k=C.pin k
 pinR:∀ k,10000000≤k→ρ.rw k=C.pinR k∧ρ.ob k=C.pinR k
 owned:∀ b o,ρ.own b=some o→G b=none∧b<w.heap.size∧(C.n0≤b∨C.B b)
 boxes:∀ k cs,look S.boxes k=some cs→ρ.own (ρ.bx k)=some (.inl k)∧
  ∃ vs T,w.heap[ρ.bx k]? =some (.cells (List.toArray vs) T (0,0))∧ay (aJ G ρ) cs vs
 rows:∀ j r,look S.rows j=some r→bX G ρ w j r
 objs:∀ j r,look S.objs j=some r→kX G ρ w j r
 hndI:C.noAr→G.hnd=C.G0.hnd∧∀ t l,look S.objs bq≠some (.ar false t l)
def eX (G:Gh) (ρ:Env) (S:St) (a:Act):Prop:=
 a.tmps.size=S.tmps.length∧∀ (i:Nat) (s:SV),S.tmps[i]? =some s→bf G ρ s (a.tmps.getD i undef)
structure Mod {P0:Program} (C:Fr P0) (G:Gh) (ρ:Env) (S:St) (w:World) (a:Act):Prop extends Mem C G ρ S w where
 tmps:eX G ρ S a
 defers:a.defers=[]
theorem ay.mono {α β:Type} {R R':α→β→Prop} (h:∀ x y,R x y→R' x y):∀ {l:List α} {r:List β},ay R l r→ay R' l r
 | [],_,hh=>hh
 | _::_,_,⟨y,s,e,hx,hl⟩=>⟨y,s,e,h _ _ hx,hl.mono h⟩
theorem ay.rK {α β:Type} {R R':α→β→Prop}:∀ {l:List α} {r:List β},(∀ x,x∈l→∀ y,R x y→R' x y)→ay R l r→ay R' l r
 | [],_,_,hh=>hh
 | x::l,_,h,⟨y,s,e,hx,hl⟩=>⟨y,s,e,h x (by simp) _ hx,ay.rK (fun z hz=>h z (by simp[hz])) hl⟩
theorem ay.len {α β:Type} {R:α→β→Prop}:∀ {l:List α} {r:List β},ay R l r→r.length=l.length
 | [],_,hh=>by cases hh;rfl
 | _::_,_,⟨y,s,e,_,hl⟩=>by subst e;simp[hl.len]
theorem ay.get {α β:Type} {R:α→β→Prop}:∀ {l:List α} {r:List β},ay R l r→∀ {i:Nat} {x:α},l[i]? =some x→∃ y,r[i]? =some y∧R x y
 | [],_,_,_,_,hi=>by simp at hi
 | _::_,_,⟨y,s,e,hx,_⟩,0,x,hi=>by subst e;simp at hi;subst hi;exact⟨y,by simp,hx⟩
 | _::_,_,⟨y,s,e,_,hl⟩,i+1,x,hi=>by
  subst e
  obtain⟨z,hz,hr⟩:=hl.get (i:=i) (x:=x) (by simpa using hi)
  exact⟨z,by simpa using hz,hr⟩
theorem ay.append {α β:Type} {R:α→β→Prop}:∀ {l l':List α} {r r':List β},ay R l r→ay R l' r'→ay R (l++l') (r++r')
 | [],_,_,_,hh,h'=>by cases hh;simpa using h'
 | _::_,_,_,_,⟨y,s,e,hx,hl⟩,h'=>by subst e;exact⟨y,s++_,by simp,hx,hl.append h'⟩
theorem ay.drop {α β:Type} {R:α→β→Prop}:∀ {l:List α} {r:List β},ay R l r→∀ n,ay R (l.drop n) (r.drop n)
 | _,_,h,0=>by simpa using h
 | [],_,hh,n+1=>by cases hh;simp[ay]
 | _::_,_,⟨y,s,e,_,hl⟩,n+1=>by subst e;simpa using hl.drop n
theorem ay.take {α β:Type} {R:α→β→Prop}:∀ {l:List α} {r:List β},ay R l r→∀ n,ay R (l.take n) (r.take n)
 | _,_,_,0=>by simp[ay]
 | [],_,hh,n+1=>by cases hh;simp[ay]
 | _::_,_,⟨y,s,e,hx,hl⟩,n+1=>by subst e;exact⟨y,s.take n,by simp,hx,hl.take n⟩
theorem ay.set {α β:Type} {R:α→β→Prop} {x:α} {y:β} (hxy:R x y):∀ {l:List α} {r:List β},ay R l r→∀ n,ay R (l.set n x) (r.set n y)
 | [],_,hh,n=>by cases hh;simp[ay]
 | _::_,_,⟨z,s,e,_,hl⟩,0=>by subst e;exact⟨y,s,by simp,hxy,hl⟩
 | _::_,_,⟨z,s,e,hx,hl⟩,n+1=>by subst e;exact⟨z,s.set n y,by simp,hx,hl.set hxy n⟩
theorem ay.single {α β:Type} {R:α→β→Prop} {x:α} {r:List β} (h:ay R [x] r):∃ y,r=[y]∧R x y:=by
 obtain⟨y,s,e,hx,hl⟩:=h;cases hl;exact⟨y,e,hx⟩
def CV.bN (k:Nat):CV→Bool
 | .ref j _=>Nat.beq j k
 | .fn _ ks=>ks.any (Nat.beq · k)
 | _=>false
def CV.aT (k:Nat):CV→Bool
 | .row j=>Nat.beq j k
 | .rp j _ _ _=>Nat.beq j k
 | _=>false
def CV.br (k:Nat):CV→Bool
 | .mp j=>Nat.beq j k
 | .kseq _ j=>Nat.beq j k
 | _=>false
def CV.aW (k:Nat):CV→Bool
 | .stp j _=>Nat.beq j k
 | _=>false
def SV.bN (k:Nat):SV→Bool
 | .v _ cs=>cs.any (CV.bN k)
 | .tup l=>l.any fun p=>p.2.any (CV.bN k)
def SV.aT (k:Nat):SV→Bool
 | .v _ cs=>cs.any (CV.aT k)
 | .tup l=>l.any fun p=>p.2.any (CV.aT k)
def SV.br (k:Nat):SV→Bool
 | .v _ cs=>cs.any (CV.br k)
 | .tup l=>l.any fun p=>p.2.any (CV.br k)
def St.br (k:Nat) (S:St):Bool:=S.tmps.any (SV.br k)||S.boxes.any fun p=>p.2.any (CV.br k)
def SV.aW (k:Nat):SV→Bool
 | .v _ cs=>cs.any (CV.aW k)
 | .tup l=>l.any fun p=>p.2.any (CV.aW k)
def St.aW (k:Nat) (S:St):Bool:=S.tmps.any (SV.aW k)||S.boxes.any fun p=>p.2.any (CV.aW k)
def St.bN (k:Nat) (S:St):Bool:=S.tmps.any (SV.bN k)||S.boxes.any fun p=>p.2.any (CV.bN k)
def St.aT (k:Nat) (S:St):Bool:=S.tmps.any (SV.aT k)||S.boxes.any fun p=>p.2.any (CV.aT k)
structure CV.dO (ρ ρ':Env) (c:CV):Prop where
 bx:∀ k,c.bN k=true→ρ'.bx k=ρ.bx k
 rw:∀ k,c.aT k=true→ρ'.rw k=ρ.rw k
 ob:∀ k,c.br k=true→ρ'.ob k=ρ.ob k
 st:∀ k,c.aW k=true→ρ'.st k=ρ.st k
theorem aJ.congr {G G':Gh} (hG:G.le G') {ρ ρ':Env}:∀ {c:CV} {v:Value},c.dO ρ ρ'→aJ G ρ c v→aJ G' ρ' c v
 | .int _ _,_,_,h=>h
 | .bool _,_,_,h=>h
 | .str _,_,_,h=>h
 | .sl _ _,_,_,h=>dM.mono hG h
 | .cp t x _,_,_,⟨b,off,c,T,fz,e,hb,hs,hl⟩=>⟨b,off,c,T,fz,e,hG _ _ hb,hs,aq.mono hG t x _ hl⟩
 | .clo _ t x,_,_,⟨caps,e,h⟩=>⟨caps,e,aq.mono hG t x _ h⟩
 | .ref k _,_,s,h=>by
  have:=s.bx k (by simp[CV.bN]);simp only[aJ] at h ⊢;rw[this];exact h
 | .row j,_,s,h=>by
  have:=s.rw j (by simp[CV.aT]);simp only[aJ] at h ⊢;rw[this];exact h
 | .rp j _ _ _,_,s,h=>by
  have:=s.rw j (by simp[CV.aT]);simp only[aJ] at h ⊢;rw[this];exact h
 | .fn g ks,_,s,h=>by
  simp only[aJ] at h ⊢
  rw[h]
  congr 2
  refine Ue fun k hk=> ?_
  rw[s.bx k (by simp[CV.bN,hk])]
 | .nilp,_,_,h=>h
 | .nils,_,_,h=>h
 | .any,_,_,_=>trivial
 | .nb _,_,_,h=>h
 | .opq _,_,_,h=>h
 | .mp j,_,s,h=>by
  have:=s.ob j (by simp[CV.br]);simp only[aJ] at h ⊢;rw[this];exact h
 | .hnd none _,_,_,h=>h
 | .hnd (some _) _,_,_,⟨b,hb,e⟩=>⟨b,hG.hnd _ _ hb,e⟩
 | .stp j i,_,s,h=>by
  have:=s.st j (by simp[CV.aW]);simp only[aJ] at h ⊢;rw[this];exact h
 | .kseq g j,_,s,h=>by
  have:=s.ob j (by simp[CV.br]);simp only[aJ] at h ⊢;rw[this]
  obtain⟨b,T,fz,e,hb⟩:=h
  exact⟨b,T,fz,e,hG _ _ hb⟩
theorem jr.congr {G G':Gh} (hG:G.le G') {ρ ρ':Env} {a:Bool} {cs:List CV} {v:Value} (hs:∀ c,c∈cs→c.dO ρ ρ') (h:jr G ρ a cs v):jr G' ρ' a cs v:=by
 cases a with
 | true=>obtain⟨vs,e,hl⟩:=h;exact⟨vs,e,ay.rK (fun c hc y=>aJ.congr hG (hs c hc)) hl⟩
 | false=>
  match cs,hs,h with
  | [c],hs,h=>exact aJ.congr hG (hs c (by simp)) h
def SV.dO (ρ ρ':Env):SV→Prop
 | .v _ cs=>∀ c,c∈cs→c.dO ρ ρ'
 | .tup l=>∀ p,p∈l→∀ c,c∈p.2→c.dO ρ ρ'
theorem bf.congr {G G':Gh} (hG:G.le G') {ρ ρ':Env} {s:SV} {v:Value} (hs:s.dO ρ ρ') (h:bf G ρ s v):bf G' ρ' s v:=by
 cases s with
 | v a cs=>exact jr.congr hG hs h
 | tup l=>
  obtain⟨vs,e,hl⟩:=h
  exact⟨vs,e,ay.rK (fun p hp y=>jr.congr hG (hs p hp)) hl⟩
theorem CV.dO.refl (ρ:Env) (c:CV):c.dO ρ ρ:=⟨fun _ _=>rfl,fun _ _=>rfl,fun _ _=>rfl,fun _ _=>rfl⟩
theorem SV.dO.refl (ρ:Env) (s:SV):s.dO ρ ρ:=by
 cases s with
 | v a cs=>exact fun c _=> .refl ρ c
 | tup l=>exact fun p _ c _=> .refl ρ c
theorem lV {α:Type} {l:List (Nat×α)} {k:Nat} {x:α} (h:look l k=some x):(k,x)∈l:=by
 induction l with
 | nil=>simp[look] at h
 | cons p r ih=>
  obtain⟨j,y⟩:=p
  simp only[look] at h
  cases hb:Nat.beq j k with
  | true=>rw[hb] at h;simp only[Vx,Option.some.injEq] at h;subst h;have:=UW hb;subst this;simp
  | false=>rw[hb] at h;simp only[Vw] at h;exact Ul _ (ih h)
theorem ai {α:Type} (l:List (Nat×α)) (j k:Nat) (x:α):look ((j,x)::l) k=if j=k then some x else look l k:=by
 simp only[look]
 by_cases h:j=k
 ·subst h;simp
 ·have:Nat.beq j k=false:=by
   cases hb:Nat.beq j k with
   | false=>rfl
   | true=>exact absurd (UW hb) h
  simp[this,h]
structure St.dO (ρ ρ':Env) (S:St):Prop where
 tmps:∀ s,s∈S.tmps→s.dO ρ ρ'
 boxes:∀ p,p∈S.boxes→∀ c,c∈p.2→c.dO ρ ρ'
theorem Kl {ρ:Env} {k b:Nat} {S:St} (own:Nat→Option aU) (h:S.bN k=false):S.dO ρ ⟨fun i=>if i=k then b else ρ.bx i,ρ.rw,own,ρ.ob,ρ.st⟩:=by
 simp only[St.bN,Te,Tr] at h
 have cv:∀ c:CV,c.bN k=false→c.dO ρ ⟨fun i=>if i=k then b else ρ.bx i,ρ.rw,own,ρ.ob,ρ.st⟩:=fun c hc=>
  ⟨fun i hi=>by
    show (if i=k then b else ρ.bx i)=ρ.bx i
    by_cases e:i=k
    ·subst e;rw[hc] at hi;cases hi
    ·simp[e],fun _ _=>rfl,fun _ _=>rfl,fun _ _=>rfl⟩
 refine⟨fun s hs=> ?_,fun p hp c hc=>cv c ?_⟩
 ·have:=h.1 s hs
  cases s with
  | v a cs=>exact fun c hc=>cv c (by simp only[SV.bN,Tt,VK,VJ] at this;simpa using this c hc)
  | tup l=>exact fun p hp c hc=>cv c (by simp only[SV.bN,Tt,VK,VJ] at this;simpa using this p hp c hc)
 ·have:=h.2 p hp
  simp only[Tt,VK,VJ] at this
  simpa using this c hc
theorem BU {ρ:Env} {k:Nat} {u:Value} {S:St} (own:Nat→Option aU) (h:S.aT k=false):S.dO ρ ⟨ρ.bx,fun i=>if i=k then u else ρ.rw i,own,ρ.ob,ρ.st⟩:=by
 simp only[St.aT,Te,Tr] at h
 have cv:∀ c:CV,c.aT k=false→c.dO ρ ⟨ρ.bx,fun i=>if i=k then u else ρ.rw i,own,ρ.ob,ρ.st⟩:=fun c hc=>
  ⟨fun _ _=>rfl,fun i hi=>by
    show (if i=k then u else ρ.rw i)=ρ.rw i
    by_cases e:i=k
    ·subst e;rw[hc] at hi;cases hi
    ·simp[e],fun _ _=>rfl,fun _ _=>rfl⟩
 refine⟨fun s hs=> ?_,fun p hp c hc=>cv c ?_⟩
 ·have:=h.1 s hs
  cases s with
  | v a cs=>exact fun c hc=>cv c (by simp only[SV.aT,Tt,VK,VJ] at this;simpa using this c hc)
  | tup l=>exact fun p hp c hc=>cv c (by simp only[SV.aT,Tt,VK,VJ] at this;simpa using this p hp c hc)
 ·have:=h.2 p hp
  simp only[Tt,VK,VJ] at this
  simpa using this c hc
theorem Kn {ρ:Env} {k:Nat} {u:Value} {S:St} (own:Nat→Option aU) (h:S.br k=false):S.dO ρ ⟨ρ.bx,ρ.rw,own,fun i=>if i=k then u else ρ.ob i,ρ.st⟩:=by
 simp only[St.br,Te,Tr] at h
 have cv:∀ c:CV,c.br k=false→c.dO ρ ⟨ρ.bx,ρ.rw,own,fun i=>if i=k then u else ρ.ob i,ρ.st⟩:=fun c hc=>
  ⟨fun _ _=>rfl,fun _ _=>rfl,fun i hi=>by
    show (if i=k then u else ρ.ob i)=ρ.ob i
    by_cases e:i=k
    ·subst e;rw[hc] at hi;cases hi
    ·simp[e],fun _ _=>rfl⟩
 refine⟨fun s hs=> ?_,fun p hp c hc=>cv c ?_⟩
 ·have:=h.1 s hs
  cases s with
  | v a cs=>exact fun c hc=>cv c (by simp only[SV.br,Tt,VK,VJ] at this;simpa using this c hc)
  | tup l=>exact fun p hp c hc=>cv c (by simp only[SV.br,Tt,VK,VJ] at this;simpa using this p hp c hc)
 ·have:=h.2 p hp
  simp only[Tt,VK,VJ] at this
  simpa using this c hc
theorem eX.congr {G G':Gh} (hG:G.le G') {ρ ρ':Env} {S:St} {a:Act} (hs:S.dO ρ ρ') (h:eX G ρ S a):eX G' ρ' S a:=
 ⟨h.1,fun i s hi=>bf.congr hG (hs.tmps s (Uq hi)) (h.2 i s hi)⟩
def St.put (S:St) (d:Option Tmp) (s:SV):St:=
 match d with
 | some d=>{ S with tmps:=S.tmps.set d s }
 | none=>S
@[simp] theorem St.Sh (S:St) (d:Option Tmp) (s:SV):(S.put d s).boxes=S.boxes:=by cases d<;>rfl
@[simp] theorem St.Sv (S:St) (d:Option Tmp) (s:SV):(S.put d s).rows=S.rows:=by cases d<;>rfl
@[simp] theorem St.Su (S:St) (d:Option Tmp) (s:SV):(S.put d s).objs=S.objs:=by cases d<;>rfl
theorem eX.put {G:Gh} {ρ:Env} {S:St} {a:Act} (h:eX G ρ S a) (d:Option Tmp) {s:SV} {v:Value} (hv:∀ t,d=some t→bf G ρ s v):eX G ρ (S.put d s) (a.put d v):=by
 cases d with
 | none=>exact h
 | some d=>
  refine⟨by simp[Act.put,St.put,h.1],fun i s' hi=> ?_⟩
  simp only[St.put,TX] at hi
  by_cases e:d=i
  ·subst e
   by_cases hlt:d<S.tmps.length
   ·simp only[VH,hlt,Option.some.injEq] at hi
    subst hi
    simp only[Act.put]
    rw[SC,SK (by rw[h.1];exact hlt)]
    exact hv _ rfl
   ·simp[hlt] at hi
  ·simp only[e,VF] at hi
   have:=h.2 i s' hi
   simp only[Act.put]
   rw[SC,SJ (by omega), ← SC]
   exact this
theorem Mem.Am {P0:Program} {C:Fr P0} {G:Gh} {ρ:Env} {S S':St} {w:World} (h:Mem C G ρ S w) (hb:S'.boxes=S.boxes) (hr:S'.rows=S.rows) (ho:S'.objs=S.objs):Mem C G ρ S' w:=
 { h with boxes:=by rw[hb];exact h.boxes,rows:=by rw[hr];exact h.rows,objs:=by rw[ho];exact h.objs,hndI:=by rw[ho];exact h.hndI }
theorem Mod.put {P0:Program} {C:Fr P0} {G:Gh} {ρ:Env} {S:St} {w:World} {a:Act} (h:Mod C G ρ S w a) (d:Option Tmp) {s:SV} {v:Value} (hv:∀ t,d=some t→bf G ρ s v):Mod C G ρ (S.put d s) w (a.put d v):=
 { h.toMem.Am (S':=S.put d s) (by simp) (by simp) (by simp) with tmps:=h.tmps.put d hv,defers:=by cases d<;>exact h.defers }
theorem bX.of_heap {G:Gh} {ρ:Env} {w w':World} {j:Nat} {r:kJ} (hh:w'.heap=w.heap) (h:bX G ρ w j r):bX G ρ w' j r:=by
 unfold bX at*
 split
 ·rename_i hf;rw[VH hf] at h;exact h
 ·rename_i hf;rw[VG hf] at h
  obtain⟨xs,ho,hl,hb⟩:=h
  exact⟨xs,by simpa [World.ownsRow,hh] using ho,hl,hb⟩
theorem iW.of_heap {G:Gh} {w w':World} {own:Nat→Prop} {fz:Bool} {t:Ty} {l:List t.den} (hh:∀ h b,G.hnd h=some b→w'.heap[b]? =w.heap[b]?) (h:iW G w own fz t l):iW G w' own fz t l:=
 ⟨h.1,h.2.1,fun i x hx=>by
   obtain⟨b,vs,T,h1,h2,h3,h4,h5⟩:=h.2.2 i x hx
   exact⟨b,vs,T,h1,h2,h3,by rw[hh i b h1];exact h4,h5⟩⟩
theorem kX.of_heap {G:Gh} {ρ:Env} {w w':World} {j:Nat} {r:mg} (hh:w'.heap=w.heap) (h:kX G ρ w j r):kX G ρ w' j r:=by
 cases r with
 | map k v l=>obtain⟨b,es,clock,h1,h2,h3,h4,h5⟩:=h;exact⟨b,es,clock,h1,h2,by rw[hh];exact h3,h4,h5⟩
 | ar fz t l=>exact⟨h.1,iW.of_heap (fun _ _ _=>by rw[hh]) h.2⟩
theorem Mem.of_heap {P0:Program} {C:Fr P0} {G:Gh} {ρ:Env} {S:St} {w w':World} (h:Mem C G ρ S w) (hh:w'.heap=w.heap) (ho:w'.os=w.os) (hu:w'.output=w.output):Mem C G ρ S w' where
 agr:=fun b o hb=>by rw[hh];exact h.agr b o hb
 le0:=h.le0
 old:=h.old
 frame:=by rw[hh];exact h.frame
 size:=by rw[hh];exact h.size
 os:=ho.trans h.os
 output:=hu.trans h.output
 pin:=h.pin
 pinR:=h.pinR
 owned:=by rw[hh];exact h.owned
 boxes:=by rw[hh];exact h.boxes
 rows:=fun j r hr=>(h.rows j r hr).of_heap hh
 objs:=fun j r hr=>(h.objs j r hr).of_heap hh
 hndI:=h.hndI
theorem Mod.of_heap {P0:Program} {C:Fr P0} {G:Gh} {ρ:Env} {S:St} {w w':World} {a:Act} (h:Mod C G ρ S w a) (hh:w'.heap=w.heap) (ho:w'.os=w.os) (hu:w'.output=w.output):Mod C G ρ S w' a:=
 { h.toMem.of_heap hh ho hu with tmps:=h.tmps,defers:=h.defers }
structure Grow (ρ:Env) (w w':World) (blk:Option Nat):Prop where
 os:w'.os=w.os
 output:w'.output=w.output
 size:w.heap.size≤w'.heap.size
 block:∀ b,b<w.heap.size→some b≠blk→w'.heap[b]? =w.heap[b]?
theorem bT {w:World} {b:Nat} {o:Obj} (h:w.heap[b]? =some o):b<w.heap.size:=(SF.1 h).1
theorem bX.kept {G:Gh} {ρ:Env} {w w':World} {j:Nat} {r:kJ} {blk:Option Nat} (hg:Grow ρ w w' blk) (hne:∀ b,blk=some b→ρ.own b≠some (.inr j)) (h:bX G ρ w j r):bX G ρ w' j r:=by
 unfold bX at*
 split
 ·rename_i hf;rw[VH hf] at h;exact h
 ·rename_i hf;rw[VG hf] at h
  obtain⟨xs,⟨hlen,ho⟩,hl,hb⟩:=h
  refine⟨xs,⟨hlen, ?_⟩,hl,hb⟩
  rcases ho with hn | ⟨g,cap,cur,hv,h0,hgg,rest⟩
  ·exact .inl hn
  ·refine .inr ⟨g,cap,cur,hv,h0, ?_,rest⟩
   rw[hg.block g (bT hgg) ?_]
   ·exact hgg
   ·intro e
    exact hne g e.symm (hb g (by rw[hv];rfl))
theorem kX.kept {G:Gh} {ρ:Env} {w w':World} {j:Nat} {r:mg} {blk:Option Nat} (hg:Grow ρ w w' blk) (hgn:∀ b,blk=some b→G b=none) (hne:∀ b,blk=some b→ρ.own b≠some (.ob j)) (h:kX G ρ w j r):kX G ρ w' j r:=by
 cases r with
 | map k v l=>
  obtain⟨b,es,clock,h1,h2,h3,h4,h5⟩:=h
  refine⟨b,es,clock,h1,h2, ?_,h4,h5⟩
  rw[hg.block b (bT h3) (fun e=>hne b e.symm h2)];exact h3
 | ar fz t l=>
  obtain⟨hj,h⟩:=h
  refine⟨hj,h.1,h.2.1,fun i x hx=> ?_⟩
  obtain⟨b,vs,T,h1,h2,h3,h4,h5⟩:=h.2.2 i x hx
  refine⟨b,vs,T,h1,h2,h3, ?_,h5⟩
  rw[hg.block b (bT h4) (fun e=> ?_)]
  ·exact h4
  ·cases fz with
   | true=>have:=hgn b e.symm;rw[h2 rfl] at this;cases this
   | false=>exact hne b e.symm (h3 rfl)
theorem mN.mono {G G':Gh} (hG:G.le G') {k v:Ty} {p:k.den×v.den} {e:MapEntry} (h:mN G k v p e):mN G' k v p e:=⟨h.1.mono hG,h.2.mono hG⟩
theorem kX.congr {G G':Gh} (hG:G.le G') (hh:G'.hnd=G.hnd) {ρ ρ':Env} {w:World} {j:Nat} {r:mg} (hr:ρ'.ob j=ρ.ob j) (hst:ρ'.st j=ρ.st j) (ho:∀ b,ρ.own b=some (.ob j)→ρ'.own b=some (.ob j)) (h:kX G ρ w j r):kX G' ρ' w j r:=by
 cases r with
 | map k v l=>
  obtain⟨b,es,clock,h1,h2,h3,h4,h5,h6⟩:=h
  exact⟨b,es,clock,by rw[hr];exact h1,ho b h2,h3,h4.mono fun x y hxy=>hxy.mono hG,by rw[hst];exact h5,h6⟩
 | ar fz t l=>
  obtain⟨hj,h⟩:=h
  refine⟨hj,fun i b hb=>h.1 i b (by rw[← hh];exact hb),fun i i' b hb hb'=>h.2.1 i i' b (by rw[← hh];exact hb) (by rw[← hh];exact hb'),fun i x hx=> ?_⟩
  obtain⟨b,vs,T,h1,h2,h3,h4,h5⟩:=h.2.2 i x hx
  exact⟨b,vs,T,by rw[hh];exact h1,fun e=>hG _ _ (h2 e),fun e=>ho b (h3 e),h4,aq.mono hG t x _ h5⟩
theorem bX.congr {G G':Gh} (hG:G.le G') {ρ ρ':Env} {w:World} {j:Nat} {r:kJ} (hr:ρ'.rw j=ρ.rw j) (ho:∀ b,ρ.own b=some (.inr j)→ρ'.own b=some (.inr j)) (h:bX G ρ w j r):bX G' ρ' w j r:=by
 unfold bX at*
 rw[hr]
 split
 ·rename_i hf;rw[VH hf] at h;exact dM.mono hG h
 ·rename_i hf;rw[VG hf] at h
  obtain⟨xs,hown,hl,hb⟩:=h
  exact⟨xs,hown,hl.mono (aq.mono hG r.t),fun b e=>ho b (hb b e)⟩
end Go.Dn
namespace Go.Dn
def unpack:(t:Ty)→t.den→List CV
 | .int k,n=>[.int k n]
 | .bool,b=>[.bool b]
 | .str,s=>[.str s]
 | .unit,_=>[]
 | .pair a b,p=>unpack a p.1++unpack b p.2
 | .st t,x=>unpack t x
 | .slice t,l=>[.sl t l]
 | .ptr t,x=>[.cp t x 0]
 | .clo g t,x=>[.clo g t x]
 | .hnd,o=>[.hnd o 0]
def dR (t:Ty) (x:t.den):SV:=
 match t,x with
 | .st t,x=> .v true (unpack t x)
 | t,x=> .v false (unpack t x)
def Mg (t:Ty) (x:t.den):Bool×List CV:=
 match t,x with
 | .st t,x=>(true,unpack t x)
 | t,x=>(false,unpack t x)
def ox {a b:Ty} (l:List a.den):Option (List b.den):=if h:a=b then some (h ▸ l) else none
def Kt {a b:Ty} (x:a.den):Option b.den:=if h:a=b then some (h ▸ x) else none
def NC {k v k' v':Ty} (l:List (k.den×v.den)):Option (List (k'.den×v'.den)):=if h:k=k'∧v=v' then some (h.1 ▸ h.2 ▸ l) else none
def Ni (k:IntKind):CV→Option Int
 | .int k' n=>if k=k' then some n else none
 | _=>none
def LV:CV→Option Bool
 | .bool b=>some b
 | _=>none
def Nj:CV→Option (List UInt8)
 | .str s=>some s
 | _=>none
def Hz (S:St) (t:Ty):CV→Option (List t.den)
 | .sl _ l=>ox (b:=t) l
 | .nils=>some []
 | .row j=>match look S.rows j with
  | some q=>if q.fz then ox (b:=t) q.l else none
  | none=>none
 | _=>none
def Nh:CV→Option (Option Nat)
 | .hnd o k=>if Nat.beq k 0 then some o else none
 | .nilp=>some none
 | _=>none
def oZ {α:Type} (f:CV→Option α):List CV→Option (α×List CV)
 | c::r=>match f c with | some x=>some (x,r) | none=>none
 | []=>none
def gh {α:Type}:Option (α×List CV)→Option α
 | some (x,[])=>some x
 | _=>none
def inL (l:List Nat) (j:Nat):Bool:=l.any (Nat.beq j)
def IW (S:St) (fb:List Nat) {t:Ty} (g:List CV→Option (t.den×List CV)):CV→Option t.den
 | .cp _ x o=>if Nat.beq o 0 then Kt (b:=t) x else none
 | .ref k o=>if Nat.beq o 0&&inL fb k then (match look S.boxes k with
  | some cs=>gh (g cs)
  | none=>none) else none
 | _=>none
def Ng {t:Ty} (g:Nat) (p:List CV→Option (t.den×List CV)):CV→Option t.den
 | .clo g' _ x=>if Nat.beq g g' then Kt (b:=t) x else none
 | .fn g' ks=>if Nat.beq g g' then gh (p (ks.map fun k=> .ref k 0)) else none
 | _=>none
def ez (S:St) (fb:List Nat):(t:Ty)→List CV→Option (t.den×List CV)
 | .int k,r=>oZ (Ni k) r
 | .bool,r=>oZ LV r
 | .str,r=>oZ Nj r
 | .unit,r=>some ((),r)
 | .pair a b,r=>match ez S fb a r with
  | some (x,r)=>match ez S fb b r with
   | some (y,r)=>some ((x,y),r)
   | none=>none
  | none=>none
 | .st t,r=>ez S fb t r
 | .slice t,r=>oZ (Hz S t) r
 | .ptr t,r=>oZ (IW S fb (t:=t) (ez S fb t)) r
 | .clo g t,r=>oZ (Ng (t:=t) g (ez S fb t)) r
 | .hnd,r=>oZ Nh r
abbrev pack (S:St) (t:Ty) (cs:List CV):Option (t.den×List CV):=ez S [] t cs
def ig (S:St) (fb:List Nat) (t:Ty) (s:SV):Option t.den:=
 match t,s with
 | .st t,.v true cs=>gh (ez S fb t cs)
 | .st _,_=>none
 | t,.v false cs=>gh (ez S fb t cs)
 | _,_=>none
inductive OT where
 | val (t:Ty)
 | row (e:TypeId) (t:Ty)
 | map (k v:Ty)
def OT.den:OT→Type
 | .val t=>t.den
 | .row _ t=>List t.den
 | .map k v=>List (k.den×v.den)
def kz:List OT→Type
 | []=>Unit
 | o::r=>o.den×kz r
inductive PM where
 | val (t:Ty)
 | row (e:TypeId) (t:Ty)
 | mrow (e:TypeId) (t:Ty)
 | map (k v:Ty)
 | box (l:List OT)
 | ar (t:Ty)
 | arR (t:Ty)
inductive RM where
 | val (t:Ty)
 | row (e:TypeId) (t:Ty)
 | map (k v:Ty)
 | box (l:List OT)
def PM.den:PM→Type
 | .val t=>t.den
 | .row _ t=>List t.den
 | .mrow _ t=>List t.den
 | .map k v=>List (k.den×v.den)
 | .box l=>kz l
 | .ar t=>List t.den
 | .arR t=>List t.den
def RM.den:RM→Type
 | .val t=>t.den
 | .row _ t=>List t.den
 | .map k v=>List (k.den×v.den)
 | .box l=>kz l
def PM.arg:PM→Bool
 | .ar _=>false
 | .arR _=>false
 | _=>true
def ew:List PM→Type
 | []=>Unit
 | p::r=>p.den×ew r
def dP:List PM→Type
 | []=>Unit
 | .mrow _ t::r=>List t.den×dP r
 | .map k v::r=>List (k.den×v.den)×dP r
 | .box l::r=>kz l×dP r
 | .ar t::r=>List t.den×dP r
 | .val _::r=>dP r
 | .row _ _::r=>dP r
 | .arR _::r=>dP r
def cE (ps:List PM):List RM→Type
 | []=>dP ps
 | q::r=>q.den×cE ps r
structure aA where
 ps:List PM
 rs:List RM
 m:ew ps→Option (cE ps rs)
inductive xB where
 | mk (g:Nat)
 | srt (g:Nat) (kt e:TypeId)
 | elt (lo nb:Nat) (tb te:Ty) (m:List tb.den→List te.den→Nat→Option (List te.den))
 | nest (p:Nat) (sp:aA)
 | srt2 (g:Nat) (kt e:TypeId) (cl:Nat) (cf:List UInt8×List UInt8→List UInt8×List UInt8→Int)
 | cop (sz lo b:Nat) (e:TypeId) (t:Ty)
 | own
structure Cx where
 P:Program
 specs:List (Nat×aA)
 keys:List (Nat×xB):=[]
def Ky {α:Type} (l:List (Int×α)):List Int:=(l.map (·.1)).mergeSort fun x y=>decide (x≤y)
def OY {α:Type} (l:List (Int×α)):Bool:=decide (l.length≤1000000)&&((l.all fun p=>decide (-9223372036854775808≤p.1∧p.1≤9223372036854775807))&&decide (l.map (·.1)).Nodup)
def lu {α:Type} (cf:List UInt8×List UInt8→List UInt8×List UInt8→Int) (l:List ((List UInt8×List UInt8)×α)):List (List UInt8×List UInt8):=(l.map (·.1)).mergeSort fun x y=> !decide (cf y x<0)
theorem Dh {α:Type} (cf:List UInt8×List UInt8→List UInt8×List UInt8→Int) (l:List ((List UInt8×List UInt8)×α)):(lu cf l).length=l.length:=by
 unfold lu
 rw[List.length_mergeSort,Ua]
def xm {α:Type} (cf:List UInt8×List UInt8→List UInt8×List UInt8→Int) (l:List ((List UInt8×List UInt8)×α)):Bool:=decide (l.length≤1000000)&&((l.all fun p=>decide (p.1.1.length≤9223372036854775807)&&decide (p.1.2.length≤9223372036854775807))&&(decide (l.map (·.1)).Nodup&&((l.map (·.1)).all fun x=>(l.map (·.1)).all fun y=>decide (cf x y<0)||(decide (cf y x<0)||decide (x=y)))))
inductive CK where
 | val (t:Ty)
 | own (e:TypeId) (t:Ty)
 | map (k v:Ty)
 | ref (k off:Nat)
 | fn (g:Nat) (ks:List Nat)
 | ar (t:Ty)
 | arF (t:Ty)
 | rowR (j:Nat)
 | rpR (j sz:Nat)
 | rowC (j:Nat) (e:TypeId) (t:Ty)
 | mapR (j:Nat)
 | mapC (j:Nat) (k v:Ty)
def b8:List CK→Type
 | []=>Unit
 | .val t::r=>t.den×b8 r
 | .own _ t::r=>List t.den×b8 r
 | .map k v::r=>List (k.den×v.den)×b8 r
 | .ref _ _::r=>b8 r
 | .fn _ _::r=>b8 r
 | .ar t::r=>List t.den×b8 r
 | .arF t::r=>List t.den×b8 r
 | .rowR _::r=>b8 r
 | .rpR _ _::r=>Nat×b8 r
 | .rowC _ _ t::r=>List t.den×b8 r
 | .mapR _::r=>b8 r
 | .mapC _ k v::r=>List (k.den×v.den)×b8 r
def CK.size:CK→Nat
 | .val t=>t.size
 | .ar _=>0
 | .arF _=>0
 | .rowC _ _ _=>0
 | .mapC _ _ _=>0
 | _=>1
def kZ:List CK→Nat
 | []=>0
 | c::r=>c.size+kZ r
def Om (tmps:List (Nat×CK)) (boxes:List (Nat×List CK)) (cts:List CK):List CK:=
 tmps.map (·.2)++(boxes.flatMap (·.2)++cts)
structure Ann where
 tmps:List (Nat×CK)
 boxes:List (Nat×List CK)
 cts:List CK
 fuel:b8 (Om tmps boxes cts)→Nat
def Ann.cks (A:Ann):List CK:=Om A.tmps A.boxes A.cts
def iter {X β:Type}:Nat→X→(X→(X→Option β)→Option β)→Option β
 | 0,_,_=>none
 | n+1,x,f=>f x fun y=>iter n y f
def nL (P:Program) (t:TypeId):Bool:=
 match P.underlying t with
 | some (.struct _) | some (.array _ _)=>true
 | _=>false
def bJ (P:Program) (t:TypeId):Nat:=((P.info? t).map (·.size)).getD 0
def okT (P:Program) (t:TypeId):Bool:=(P.underlying t).isSome
def CL:Value→CV
 | .int k n=> .int k n
 | .bool b=> .bool b
 | .string s=> .str s.data.toList
 | .slice none 0 0=> .nils
 | .pointer none=> .nilp
 | .func (.func g) f c=>if f.isEmpty&&c.isEmpty then .fn g [] else .any
 | _=> .any
def D6:Value→SV
 | .agg cs=> .v true (cs.toList.map CL)
 | v=> .v false [CL v]
def St.ev (S:St):Operand→SV
 | .tmp t=>S.tmps.getD t (.v false [.any])
 | .const v=>D6 v
 | .global _=> .v false [.any]
 | .func f=> .v false [.fn f []]
variable {β:Type}
def chk (b:Bool) (x:Option β):Option β:=bif b then x else none
def idx {α:Type} (l:List α) (i:Int):Option α:=if 0≤i then l[i.toNat]? else none
def wD (s:List UInt8) (i:Int):Option UInt8:=if 0≤i then s[i.toNat]? else none
def KR (op:BinOp) (ka:IntKind) (a:Int) (kb:IntKind) (b:Int) (k:CV→Option β):Option β:=
 match op with
 | .shl=>chk (decide (0≤b)) (k (.int ka (ka.wrap (a*2 ^ (min b.toNat ka.bits)))))
 | .shr=>chk (decide (0≤b)) (k (.int ka (a.fdiv (2 ^ (min b.toNat ka.bits)))))
 | _=>if ka≠kb then none else
  match op with
  | .add=>k (.int ka (ka.wrap (a+b)))
  | .sub=>k (.int ka (ka.wrap (a - b)))
  | .mul=>k (.int ka (ka.wrap (a*b)))
  | .quo=>chk (b != 0) (k (.int ka (ka.wrap (a.tdiv b))))
  | .rem=>chk (b != 0) (k (.int ka (a.tmod b)))
  | .and=>k (.int ka (ka.wrap (BitVec.ofInt ka.bits a &&& BitVec.ofInt ka.bits b).toNat))
  | .or=>k (.int ka (ka.wrap (BitVec.ofInt ka.bits a ||| BitVec.ofInt ka.bits b).toNat))
  | .eql=>k (.bool (a==b))
  | .neq=>k (.bool (a != b))
  | .lss=>k (.bool (decide (a<b)))
  | .leq=>k (.bool (decide (a≤b)))
  | .gtr=>k (.bool (decide (a>b)))
  | .geq=>k (.bool (decide (a≥b)))
  | _=>none
def KS (op:BinOp) (a b:List UInt8) (k:CV→Option β):Option β:=
 match op with
 | .eql=>k (.bool (a==b))
 | .neq=>k (.bool !(a==b))
 | .lss=>k (.bool (Op.bytesLess a b))
 | .leq=>k (.bool (Op.bytesLess a b||a==b))
 | .gtr=>k (.bool !(Op.bytesLess a b||a==b))
 | .geq=>k (.bool !(Op.bytesLess a b))
 | .add=>chk (decide (a.length+b.length≤maxLen)) (k (.str (a++b)))
 | _=>none
def DN (l:List CV) (off n:Nat):Option (List CV):=
 let c:=(l.drop off).take n
 if Nat.beq c.length n then some c else none
def jR (P:Program) (T:TypeId) (l:List CV) (off:Nat) (k:SV→Option β):Option β:=
 if okT P T then
 match DN l off (bJ P T) with
 | some cs=>if nL P T then k (.v true cs) else (match cs with | [c]=>k (.v false [c]) | _=>none)
 | none=>none
 else none
def C5 (P:Program) (g:TypeId→SV→SV→Option Bool) (xs ys:List CV):List Field→Option Bool
 | []=>some true
 | f::fs=>if f.name= "_" then none else
  match jR P f.type xs f.offset some,jR P f.type ys f.offset some with
  | some a,some b=>match g f.type a b with
   | some r=>match C5 P g xs ys fs with
    | some q=>some (r&&q)
    | none=>none
   | none=>none
  | _,_=>none
def CV.Kx:CV→Bool
 | .ref _ _ | .cp _ _ _ | .rp _ _ _ _=>true
 | _=>false
def qo (P:Program):Nat→TypeId→SV→SV→Option Bool
 | 0,_,_,_=>none
 | d+1,t,x,y=>match P.underlying t with
  | some (.int _)=>match x,y with
   | .v false [.int k a],.v false [.int k' b]=>if k=k' then some (a==b) else none
   | _,_=>none
  | some .bool=>match x,y with
   | .v false [.bool a],.v false [.bool b]=>some (a==b)
   | _,_=>none
  | some .string=>match x,y with
   | .v false [.str a],.v false [.str b]=>some (a==b)
   | _,_=>none
  | some (.pointer _)=>match x,y with
   | .v false [.nilp],.v false [.nilp]=>some true
   | .v false [.nilp],.v false [.hnd o _]=>some o.isNone
   | .v false [.hnd o _],.v false [.nilp]=>some o.isNone
   | .v false [.nilp],.v false [c]=>if c.Kx then some false else none
   | .v false [c],.v false [.nilp]=>if c.Kx then some false else none
   | _,_=>none
  | some (.struct fs)=>match x,y with
   | .v true xs,.v true ys=>if P.stoodInHeld t then none else C5 P (qo P d) xs ys fs.toList
   | _,_=>none
  | _=>none
def Qz:SV→SV→Option Bool
 | .v false [.sl _ l],.v false [.nils]=>some l.isEmpty
 | _,_=>none
def PS (P:Program) (op:BinOp) (t:TypeId) (x y:SV) (k:SV→Option β):Option β:=
 if P.eqGuardType P.depth t then none else match op with
 | .eql=>match qo P 9 t x y with
  | some r=>k (.v false [.bool r])
  | none=>match P.underlying t,Qz x y with
   | some (.slice _),some b=>k (.v false [.nb b])
   | _,_=>none
 | .neq=>match qo P 9 t x y with
  | some r=>k (.v false [.bool !r])
  | none=>none
 | _=>none
def Qu (P:Program) (op:BinOp) (t:TypeId) (x y:SV) (k:SV→Option β):Option β:=
 match x,y with
 | .v false [.int ka a],.v false [.int kb b]=>KR op ka a kb b fun c=>k (.v false [c])
 | .v false [.str a],.v false [.str b]=>KS op a b fun c=>k (.v false [c])
 | x,y=>PS P op t x y k
def Gg (n:Nat):CV→Option CV
 | .ref k o=>some (.ref k (o+n))
 | .cp t x o=>some (.cp t x (o+n))
 | .rp j sz i o=>some (.rp j sz i (o+n))
 | .hnd (some h) o=>some (.hnd (some h) (o+n))
 | _=>none
def CV.ok:CV→Bool
 | .any=>false
 | .opq _=>false
 | _=>true
def setAt (l:List CV) (off:Nat) (new:List CV):Option (List CV):=
 if Nat.ble (off+new.length) l.length then some (l.take off++new++l.drop (off+new.length)) else none
def A0 (place:Nat→Option (Nat×Nat)):List CV→List (Nat×SV)→Option (List CV)
 | cells,[]=>some cells
 | cells,(i,.v _ cs)::rest=>
  match place i with
  | none=>none
  | some (off,size)=>if Nat.beq cs.length size&&cs.all CV.ok then (match setAt cells off cs with | some c=>A0 place c rest | none=>none) else none
 | _,_=>none
def zz (P:Program) (fs:Array Field) (i:Nat):Option (Nat×Nat):=match fs[i]? with | some f=>some (f.offset,bJ P f.type) | none=>none
def zeroCells (P:Program) (t:TypeId):Option (List CV):=
 match (P.info? t).bind (·.zero) with
 | some (.agg cs)=>some (cs.toList.map CL)
 | some v=>some [CL v]
 | none=>none
def I8:List Ty→Ty
 | []=> .unit
 | [a]=>a
 | a::b::r=> .pair a (I8 (b::r))
def BB (P:Program):Nat→TypeId→Option Ty
 | 0,_=>none
 | n+1,t=>match P.underlying t with
  | some (.int k)=>some (.int k)
  | some .bool=>some .bool
  | some .string=>some .str
  | some (.slice e)=>(BB P n e).map .slice
  | some (.pointer _)=>some .hnd
  | some (.array m e)=>(BB P n e).map fun t=> .st (I8 (List.replicate m t))
  | some (.struct fs)=>(fs.toList.mapM fun f=>BB P n f.type).map fun l=> .st (I8 l)
  | _=>none
def sF (P:Program) (t:TypeId) (ty:Ty):Option ty.den:=
 match (P.info? t).bind (·.zero) with
 | some v=>ig ⟨[],[],[],[]⟩ [] ty (D6 v)
 | none=>none
def NJ (a b:Int):Bool:=a==b
def NA (a b:Bool):Bool:=a==b
def F6 (a b:List UInt8):Bool:=a==b
def Ty.beq:(t:Ty)→t.den→t.den→Bool
 | .int _,a,b=>NJ a b
 | .bool,a,b=>NA a b
 | .str,a,b=>F6 a b
 | .unit,_,_=>true
 | .pair s t,a,b=>s.beq a.1 b.1&&t.beq a.2 b.2
 | .st t,a,b=>t.beq a b
 | _,_,_=>false
def bE (P:Program) (t:TypeId):Ty→Bool
 | .int _=>match P.underlying t with | some (.int _)=>true | _=>false
 | .bool=>match P.underlying t with | some .bool=>true | _=>false
 | .str=>match P.underlying t with | some .string=>true | _=>false
 | _=>false
def bO (P:Program):List Field→Nat→Ty→Bool
 | [f],n,t=>f.name≠ "_" &&Nat.beq f.offset n&&Nat.beq (bJ P f.type) 1&&bE P f.type t
 | f::g::r,n,.pair a b=>f.name≠ "_" &&Nat.beq f.offset n&&Nat.beq (bJ P f.type) 1&&bE P f.type a&&bO P (g::r) (n+1) b
 | _,_,_=>false
def dQ (P:Program) (t:TypeId):Ty→Bool
 | .st s=>match P.underlying t with | some (.struct fs)=> !P.stoodInHeld t&&bO P fs.toList 0 s | _=>false
 | ty=>bE P t ty
def bW {k v:Ty} (l:List (k.den×v.den)) (x:k.den):Option v.den:=match l.find? (fun p=>k.beq x p.1) with | some p=>some p.2 | none=>none
def iY {k v:Ty} (l:List (k.den×v.den)) (x:k.den) (y:v.den):List (k.den×v.den):=
 match l with
 | []=>[(x,y)]
 | p::r=>bif k.beq x p.1 then (x,y)::r else p::iY r x y
def allRefs:List SV→Option (List Nat)
 | []=>some []
 | .v false [.ref k o]::r=>if Nat.beq o 0 then (match allRefs r with | some l=>some (k::l) | none=>none) else none
 | _=>none
def bnd (d:Int):Option SV→Option Int
 | none=>some d
 | some (.v false [.int _ a])=>some a
 | _=>none
def NR (M:St) (d:TypeDesc):CV→Option Int
 | .str s=>match d with | .string=>some s.length | _=>none
 | .sl _ l=>match d with | .slice _=>some l.length | _=>none
 | .nils=>match d with | .slice _=>some 0 | _=>none
 | .row j=>match d with
  | .slice _=>match look M.rows j with
   | some q=>some q.l.length
   | none=>none
  | _=>none
 | .mp j=>match d with
  | .map _ _=>match look M.objs j with
   | some (.map _ _ l)=>some l.length
   | _=>none
  | _=>none
 | _=>none
def Oy (P:Program) (b:Builtin) (c:Call) (S M:St) (k:SV→Option β):Option β:=
 match b with
 | .len=>match c.args.toList.map S.ev,c.argTypes.toList with
  | [.v false [x]],[t]=>match P.underlying t with
   | some d=>match NR M d x with
    | some n=>k (.v false [.int .i64 n])
    | none=>none
   | none=>none
  | _,_=>none
 | .min=>match c.args.toList.map S.ev with
  | [.v false [.int ik a],.v false [.int _ b]]=>k (.v false [.int ik (if b<a then b else a)])
  | _=>none
 | .max=>match c.args.toList.map S.ev with
  | [.v false [.int ik a],.v false [.int _ b]]=>k (.v false [.int ik (if b>a then b else a)])
  | _=>none
 | _=>none
def HB:Nat→Nat→Int→(Nat→Option β)→Option β
 | 0,_,_,_=>none
 | n+1,j,i,k=>bif i==(j:Int) then k j else HB n (j+1) i k
theorem HC {r:β}:∀ {n j:Nat} {i:Int} {k:Nat→Option β},HB n j i k=some r→∃ m:Nat,i=(m:Int)∧m<j+n∧k m=some r
 | 0,_,_,_,h=>by cases h
 | n+1,j,i,k,h=>by
  unfold HB at h
  cases hb:i==(j:Int) with
  | true=>rw[hb] at h;exact⟨j,by simpa using hb,by omega,h⟩
  | false=>
   rw[hb] at h
   obtain⟨m,h1,h2,h3⟩:=HC (h:HB n (j+1) i k=some r)
   exact⟨m,h1,by omega,h3⟩
def Df (ik:IntKind):List CV→Option (List Int)
 | []=>some []
 | .int k n::r=>if k=ik then (match Df ik r with | some l=>some (n::l) | none=>none) else none
 | _=>none
def cc (X:Cx) (o:Oper) (S M:St) (k:SV→Option β):Option β:=
 match o.op with
 | .move x | .assign x=>k (S.ev x)
 | .pick c a b=>match S.ev c with
  | .v false [.bool t]=>bif t then k (S.ev a) else k (S.ev b)
  | _=>none
 | .binOp op t x y _=>Qu X.P op t (S.ev x) (S.ev y) k
 | .unOp op _ x=>match op,S.ev x with
  | .not,.v false [.bool b]=>k (.v false [.bool !b])
  | .neg,.v false [.int ik n]=>k (.v false [.int ik (ik.wrap (0 - n))])
  | _,_=>none
 | .convert src dst x=>match X.P.underlying src,X.P.underlying dst,S.ev x with
  | some _,some (.int ik),.v false [.int _ n]=>k (.v false [.int ik (ik.wrap n)])
  | some _,some .string,.v false [.str s]=>k (.v false [.str s])
  | some _,some .string,.v false [.int _ n]=>chk (decide (0≤n)&&decide (n<128)) (k (.v false [.str [UInt8.ofNat n.toNat]]))
  | _,_,_=>none
 | .nilCheck x=>match S.ev x with
  | .v false [.ref i j]=>k (.v false [.ref i j])
  | .v false [.cp t y j]=>k (.v false [.cp t y j])
  | .v false [.rp i sz j l]=>k (.v false [.rp i sz j l])
  | .v false [.clo g t y]=>k (.v false [.clo g t y])
  | .v false [.fn g ks]=>k (.v false [.fn g ks])
  | .v false [.hnd o j]=>o.bind fun h=>k (.v false [.hnd (some h) j])
  | _=>none
 | .fieldAddr s x f=>match X.P.underlying s,S.ev x with
  | some (.struct fs),.v false [c]=>match fs[f]? with
   | some fd=>if okT X.P fd.type&& !Nat.beq (bJ X.P fd.type) 0 then (match Gg fd.offset c with
    | some c=>k (.v false [c])
    | none=>none) else none
   | none=>none
  | _,_=>none
 | .field s x f=>match X.P.underlying s,S.ev x with
  | some (.struct fs),.v true cs=>match fs[f]? with
   | some fd=>jR X.P fd.type cs fd.offset k
   | none=>none
  | _,_=>none
 | .load t x=>match S.ev x with
  | .v false [.ref b off]=>match look M.boxes b with
   | some l=>jR X.P t l off k
   | none=>none
  | .v false [.cp ty y off]=>jR X.P t (unpack ty y) off k
  | .v false [.rp j sz i off]=>match look M.rows j with
   | some q=>(q.l[i]?).bind fun y=>if !q.fz&&Nat.beq sz q.t.size then jR X.P t (unpack q.t y) off k else none
   | none=>none
  | .v false [.hnd (some h) off]=>match look M.objs bq with
   | some (.ar _ ty l)=>(l[h]?).bind fun y=>jR X.P t (unpack ty y) off k
   | _=>none
  | _=>none
 | .indexAddr t x ix=>match X.P.underlying t,S.ev x,S.ev ix with
  | some (.slice e),.v false [.sl ty l],.v false [.int _ i]=>
   if okT X.P e&&Nat.beq (bJ X.P e) ty.size then (idx l i).bind fun y=>k (.v false [.cp ty y 0]) else none
  | some (.slice e),.v false [.row j],.v false [.int _ i]=>match look M.rows j with
   | some q=>if okT X.P e&&Nat.beq (bJ X.P e) q.t.size then
    (if q.fz then (idx q.l i).bind fun y=>k (.v false [.cp q.t y 0])
     else chk (decide (0≤i)&&decide (i<q.l.length)) (k (.v false [.rp j q.t.size i.toNat 0]))) else none
   | none=>none
  | some (.array n e),.v false [c],.v false [.int _ i]=>
   if okT X.P e then HB n 0 i fun j=>(match Gg (j*bJ X.P e) c with
    | some c=>k (.v false [c])
    | none=>none) else none
  | _,_,_=>none
 | .index t x ix=>match X.P.underlying t,S.ev x,S.ev ix with
  | some .string,.v false [.str s],.v false [.int _ i]=>(wD s i).bind fun b=>k (.v false [.int .u8 b.toNat])
  | some (.array n e),.v true cs,.v false [.int _ i]=>match X.P.underlying e with
   | some (.int ik)=>match Df ik cs with
    | some l=>if okT X.P e&&Nat.beq (bJ X.P e) 1&& !nL X.P e&&Nat.beq l.length n then (idx l i).bind fun m=>k (.v false [.int ik m]) else none
    | none=>none
   | _=>none
  | _,_,_=>none
 | .extract x i=>match S.ev x with
  | .tup l=>match l[i]? with
   | some p=>k (.v p.1 p.2)
   | none=>none
  | _=>none
 | .build t parts=>match X.P.underlying t,zeroCells X.P t with
  | some (.struct fs),some z=>if !fs.all (fun f=>okT X.P f.type) then none else match A0 (zz X.P fs) z (parts.toList.map fun p=>(p.1,S.ev p.2)) with
   | some cs=>k (.v true cs)
   | none=>none
  | some (.array _ e),some z=>if !okT X.P e then none else match A0 (fun i=>some (i*bJ X.P e,bJ X.P e)) z (parts.toList.map fun p=>(p.1,S.ev p.2)) with
   | some cs=>k (.v true cs)
   | none=>none
  | _,_=>none
 | .slice t x lo hi none=>match X.P.underlying t,S.ev x with
  | some .string,.v false [.str s]=>match bnd 0 (lo.map S.ev),bnd s.length (hi.map S.ev) with
   | some a,some b=>chk (decide (0≤a)&&decide (a≤b)&&decide (b≤s.length)) (k (.v false [.str ((s.take b.toNat).drop a.toNat)]))
   | _,_=>none
  | some (.slice e),.v false [.sl ty l]=>
   if okT X.P e&&Nat.beq (bJ X.P e) ty.size then
   (match bnd 0 (lo.map S.ev),bnd l.length (hi.map S.ev) with
   | some a,some b=>chk (decide (0≤a)&&decide (a≤b)&&decide (b≤l.length)) (k (.v false [.sl ty ((l.take b.toNat).drop a.toNat)]))
   | _,_=>none)
   else none
  | some (.slice e),.v false [.row j]=>match look M.rows j with
   | some q=>if q.fz&&okT X.P e&&Nat.beq (bJ X.P e) q.t.size then
    (match bnd 0 (lo.map S.ev),bnd q.l.length (hi.map S.ev) with
    | some a,some b=>chk (decide (0≤a)&&decide (a≤b)&&decide (b≤q.l.length)) (k (.v false [.sl q.t ((q.l.take b.toNat).drop a.toNat)]))
    | _,_=>none)
    else none
   | none=>none
  | _,_=>none
 | .makeFunc (.func g) first caps=>match allRefs (caps.toList.map S.ev) with
  | some ks=>if first.isEmpty then k (.v false [.fn g ks]) else none
  | none=>none
 | .lookup t x ix ok=>match X.P.underlying t,S.ev x with
  | some (.map kt et),.v false [.mp j]=>match look M.objs j with
   | some (.map kk vv l)=>match ig M [] kk (S.ev ix),sF X.P et vv with
    | some key,some z=>if dQ X.P kt kk then
     (if ok then k (.tup [Mg vv ((bW l key).getD z),(false,[.bool (bW l key).isSome])]) else k (dR vv ((bW l key).getD z))) else none
    | _,_=>none
   | _=>none
  | _,_=>none
 | .call c=>match c.callee with
  | .builtin b=>Oy X.P b c S M k
  | _=>none
 | _=>none
end Go.Dn
namespace Go.Dn
variable {β:Type}
structure Del where
 sv:SV
 box:Option (List CV)
 row:Option kJ
 obj:Option mg
def St.app (S:St) (d:Option Tmp) (x:Del):St:=
 match d with
 | none=>S
 | some d=>
  { tmps:=S.tmps.set d x.sv,
    boxes:=match x.box with | some c=>(d,c)::S.boxes | none=>S.boxes,
    rows:=match x.row with | some r=>(d,r)::S.rows | none=>S.rows,
    objs:=match x.obj with | some r=>(d,r)::S.objs | none=>S.objs }
def Du:SV→Option (Option Nat)
 | .v false [.row j]=>some (some j)
 | .v false [.nils]=>some none
 | _=>none
def mu:SV→Option Nat
 | .v false [.ref k o]=>if Nat.beq o 0 then some k else none
 | _=>none
def Dt:SV→Option Nat
 | .v false [.mp j]=>some j
 | _=>none
def gA (S:St) (e:TypeId) (t:Ty):CV→Option (List t.den)
 | .row j=>match look S.rows j with
  | some q=>if q.fz|| !Nat.beq q.e e then none else ox (b:=t) q.l
  | none=>none
 | .nils=>some []
 | _=>none
def lZ (S:St) (k v:Ty):CV→Option (List (k.den×v.den))
 | .mp j=>match look S.objs j with
  | some (.map _ _ l)=>NC l
  | _=>none
 | _=>none
def oB:SV→Option CV
 | .v false [c]=>some c
 | _=>none
def lC (S:St):(l:List OT)→List CV→Option (kz l)
 | [],[]=>some ()
 | [],_::_=>none
 | .val t::r,cs=>match pack S t cs with
  | some (x,cs')=>match lC S r cs' with
   | some y=>some (x,y)
   | none=>none
  | none=>none
 | .row e t::r,c::cs=>match gA S e t c with
  | some x=>match lC S r cs with
   | some y=>some (x,y)
   | none=>none
  | none=>none
 | .row _ _::_,[]=>none
 | .map k v::r,c::cs=>match lZ S k v c with
  | some x=>match lC S r cs with
   | some y=>some (x,y)
   | none=>none
  | none=>none
 | .map _ _::_,[]=>none
def qO (S:St) (fz:Bool) (t:Ty):Option (List t.den):=
 match look S.objs bq with
 | some (.ar f _ l)=>if f&& !fz then none else ox (b:=t) l
 | _=>none
def sC (S:St) (fb:List Nat) (p:PM) (s:SV):Option p.den:=
 match p with
 | .val t=>ig S fb t s
 | .row e t=>match oB s with | some c=>gA S e t c | none=>none
 | .mrow e t=>match oB s with | some c=>gA S e t c | none=>none
 | .map k v=>match oB s with | some c=>lZ S k v c | none=>none
 | .box l=>match mu s with
  | some k=>match look S.boxes k with
   | some cs=>lC S l cs
   | none=>none
  | none=>none
 | .ar t=>qO S false t
 | .arR t=>qO S true t
def gj (S:St) (fb:List Nat):(ps:List PM)→List SV→Option (ew ps)
 | [],[]=>some ()
 | [],_::_=>none
 | p::r,l=>match (bif p.arg then l.head? else some (.v false [.any])) with
  | some s=>match sC S fb p s with
   | some x=>match gj S fb r (bif p.arg then l.tail else l) with
    | some y=>some (x,y)
    | none=>none
   | none=>none
  | none=>none
def PM.isVal:PM→Bool
 | .val _=>true
 | .arR _=>true
 | _=>false
def Bt:List RM→Bool
 | []=>true
 | .val _::r=>Bt r
 | _=>false
def D1 (ps:List PM):(rs:List RM)→cE ps rs→List (Bool×List CV)
 | [],_=>[]
 | .val t::r,x=>Mg t x.1::D1 ps r x.2
 | .row _ _::r,x=>(false,[.any])::D1 ps r x.2
 | .map _ _::r,x=>(false,[.any])::D1 ps r x.2
 | .box _::r,x=>(false,[.any])::D1 ps r x.2
def AD:List (Bool×List CV)→SV
 | [p]=> .v p.1 p.2
 | []=> .v false [.any]
 | l=> .tup l
def cU (S:St) (c:Call):Option (Nat×List SV):=
 match c.callee with
 | .value f=>match S.ev f with
  | .v false [.fn g ks]=>some (g,c.args.toList.map S.ev++ks.map fun k=> .v false [.ref k 0])
  | .v false [.clo g t x]=>some (g,c.args.toList.map S.ev++(unpack t x).map fun c=> .v false [c])
  | _=>none
 | _=>none
def Hj:List SV→List Nat
 | []=>[]
 | .v _ cs::r=>(cs.flatMap fun | .ref k _=>[k] | .fn _ ks=>ks | _=>[])++Hj r
 | .tup _::r=>Hj r
def fH (cs:List CV):List Nat:=cs.filterMap fun | .row j=>some j | _=>none
def zF:List SV→List Nat
 | []=>[]
 | .v _ cs::r=>fH cs++zF r
 | .tup _::r=>zF r
def sj (S:St):List Nat→List Nat
 | []=>[]
 | k::r=>(match look S.boxes k with | some cs=>fH cs | none=>[])++sj S r
def GA (S:St):List Nat→List Nat
 | []=>[]
 | k::r=>(match look S.boxes k with | some cs=>Hj [.v false cs] | none=>[])++GA S r
def gy (S:St) (args:List SV):List Nat:=Hj args++GA S (Hj args)
def dW (S:St) (args:List SV):List Nat:=zF args++sj S (gy S args)
def aB (S:St) (js:List Nat):St:=
 { S with rows:=js.foldl (fun rs j=>match look rs j with | some q=>(j,{ q with fz:=true })::rs | none=>rs) S.rows }
def Al (S:St) (args:List SV):Bool:=(gy S args).isEmpty&&((zF args).all fun j=>match look S.rows j with | some q=>q.fz | none=>true)
def Ax:List RM→Bool
 | []=>true
 | .val t::r=>t.flat&&Ax r
 | _=>false
def MW (sp:aA) (M:St) (args:List SV) (k:SV→Option β):Option β:=
 if sp.ps.all PM.isVal&&Bt sp.rs&&(Ax sp.rs||(Al M args&&sp.ps.all PM.arg)) then
  match gj (aB M (dW M args)) (gy M args) sp.ps args with
  | some x=>(sp.m x).bind fun y=>k (AD (D1 sp.ps sp.rs y))
  | none=>none
 else none
def xu (S:St) (t:Ty):List SV→Option (List t.den)
 | []=>some []
 | s::r=>match ig S [] t s with
  | some x=>match xu S t r with
   | some l=>some (x::l)
   | none=>none
  | none=>none
def Pv (d:Nat) (ps:List PM):(rs:List RM)→cE ps rs→(Del→Option β)→Option β
 | [.row e t],x,k=>k ⟨.v false [.row d],none,some ⟨false,e,t,x.1⟩,none⟩
 | [.row e t,.map kk vv],x,k=>k ⟨.tup [(false,[.row d]),(false,[.mp d])],none,some ⟨false,e,t,x.1⟩,some (.map kk vv x.2.1)⟩
 | _,_,_=>none
def Se:List RM→Bool
 | [.row _ _]=>true
 | [.row _ _,.map _ _]=>true
 | _=>false
def pn:List RM→Bool
 | [.row _ t]=>t.flat
 | [.row _ t,.map kk vv]=>t.flat&&(kk.flat&&vv.flat)
 | _=>false
def H6 (sp:aA) (S M:St) (args:List SV) (d:Nat) (k:Del→Option β):Option β:=
 if sp.ps.all PM.isVal&&(pn sp.rs||(Al M args&&sp.ps.all PM.arg))&& !S.aT d&&Nat.blt d 2000&& !S.br d&& !S.aW d then
  match gj (aB M (dW M args)) (gy M args) sp.ps args with
  | some x=>(sp.m x).bind fun y=>Pv d sp.ps sp.rs y k
  | none=>none
 else none
def HE (X:Cx) (o:Oper) (t:TypeId) (len:Nat) (parts:Array (Nat×Operand)) (S M:St) (k:Del→Option β):Option β:=
 match X.P.underlying t,o.dst with
 | some (.slice e),some d=>match BB X.P 9 e,zeroCells X.P e with
  | some ty,some _=>
   if S.aT d|| !Nat.blt d 2000|| !Nat.beq parts.size len|| !((parts.toList.map (·.1))==List.range len)|| !Nat.beq (bJ X.P e) ty.size||Nat.beq ty.size 0|| !Nat.ble (len*ty.size) 16777216 then none else
   match xu M ty (parts.toList.map fun p=>S.ev p.2) with
   | some l=>k ⟨.v false [.row d],none,some ⟨false,e,ty,l⟩,none⟩
   | none=>none
  | _,_=>none
 | _,_=>none
def O3 (X:Cx) (o:Oper):Bool:=match o.dst with
 | some d=>(match look X.keys (100000+d) with | some .own=>true | _=>false)
 | none=>false
def Ly (X:Cx) (S M:St) (f:Nat) (args:List SV) (d:Option Tmp) (k:Del→Option β):Option β:=
 match look X.keys f with
 | some (.mk g)=>match args with
  | [.v false [.mp j]]=>k ⟨.v false [.kseq g j],none,none,none⟩
  | _=>none
 | some (.srt g _ e)=>match args,d with
  | [.v false [.kseq g' j]],some d=>match look M.objs j with
   | some (.map (.int .i64) _ l)=>if Nat.beq g g'&& !S.aT d&&Nat.blt d 2000 then chk (OY l) (k ⟨.v false [.row d],none,some ⟨false,e,.int .i64,Ky l⟩,none⟩) else none
   | _=>none
  | _,_=>none
 | some (.srt2 g _ e cl cf)=>match args,d with
  | [.v false [.kseq g' j],.v false [.fn cl' []]],some d=>match look M.objs j with
   | some (.map (.st (.pair .str .str)) _ l)=>if Nat.beq g g'&&Nat.beq cl cl'&& !S.aT d&&Nat.blt d 2000 then chk (xm cf l) (k ⟨.v false [.row d],none,some ⟨false,e,.st (.pair .str .str),lu cf l⟩,none⟩) else none
   | _=>none
  | _,_=>none
 | some (.cop sz lo b e t)=>match args,d with
  | [.v true cs],some d=>match cs[lo]? with
   | some (.sl t' l)=>match ox (b:=t) (show List t'.den from l) with
    | some l=>if !Nat.beq cs.length sz||(S.aT d||(cs.any (CV.aT d)|| !Nat.blt d 2000)) then none else
     chk (decide (l.length*b≤140737488355328)&&decide (l.length≤maxLen)) (k ⟨.v true (cs.set lo (.row d)),none,some ⟨false,e,t,l⟩,none⟩)
    | none=>none
   | _=>none
  | _,_=>none
 | _=>none
def dA (X:Cx) (o:Oper) (S M:St) (k:Del→Option β):Option β:=
 match o.op with
 | .alloc t=>match zeroCells X.P t,o.dst with
  | some z,some d=>if S.bN d||z.any (CV.bN d)|| !Nat.blt d 2000 then none else k ⟨.v false [.ref d 0],some z,none,none⟩
  | _,_=>none
 | .box t x=>match S.ev x,o.dst with
  | .v a cs,some d=>if S.bN d||cs.any (CV.bN d)|| !Nat.blt d 2000|| !Nat.beq cs.length (bJ X.P t)||(a != nL X.P t)|| !cs.all CV.ok then none else k ⟨.v false [.ref d 0],some cs,none,none⟩
  | _,_=>none
 | .buildSlice t len parts=>if O3 X o then HE X o t len parts S M k else match X.P.underlying t with
  | some (.slice e)=>match BB X.P 9 e,zeroCells X.P e with
   | some ty,some _=>
    if !Nat.beq parts.size len|| !((parts.toList.map (·.1))==List.range len)|| !Nat.beq (bJ X.P e) ty.size||Nat.beq ty.size 0|| !Nat.ble (len*ty.size) 16777216 then none else
    match xu M ty (parts.toList.map fun p=>S.ev p.2) with
    | some l=>k ⟨.v false [.sl ty l],none,none,none⟩
    | none=>none
   | _,_=>none
  | _=>none
 | .makeSlice t l c=>match X.P.underlying t,o.dst,S.ev l,S.ev c with
  | some (.slice e),some d,.v false [.int _ l],.v false [.int _ c]=>match BB X.P 9 e with
   | some ty=>match sF X.P e ty with
    | some z=>
     if S.aT d|| !Nat.blt d 2000|| !Nat.beq (bJ X.P e) ty.size||Nat.beq ty.size 0 then none else
     chk (decide (0≤l)&&decide (l≤c)&&decide (((((X.P.info? e).map (·.bytes)).getD 0:Nat):Int)*c≤281474976710656)&&decide (c≤9223372036854775807)) (k ⟨.v false [.row d],none,some ⟨false,e,ty,List.replicate l.toNat z⟩,none⟩)
    | _=>none
   | _=>none
  | _,_,_,_=>none
 | .makeMap t none=>match X.P.underlying t,o.dst with
  | some (.map kt et),some d=>match BB X.P 9 kt,BB X.P 9 et with
   | some kk,some vv=>if S.br d||S.aW d|| !dQ X.P kt kk|| !Nat.blt d 2000 then none else k ⟨.v false [.mp d],none,none,some (.map kk vv [])⟩
   | _,_=>none
  | _,_=>none
 | .call c=>match cU S c with
  | some (f,args)=>match look X.specs f with
   | some sp=>if Se sp.rs then (match o.dst with | some d=>H6 sp S M args d k | none=>none) else MW sp M args fun s=>k ⟨s,none,none,none⟩
   | none=>Ly X S M f args o.dst k
  | none=>cc X o S M fun s=>k ⟨s,none,none,none⟩
 | _=>cc X o S M fun s=>k ⟨s,none,none,none⟩
def aU.beq:aU→aU→Bool
 | .inl a,.inl b=>Nat.beq a b
 | .inr a,.inr b=>Nat.beq a b
 | .ob a,.ob b=>Nat.beq a b
 | _,_=>false
def bH:List (aU×Nat)→aU→Option Nat
 | [],_=>none
 | (o,n)::r,x=>bif aU.beq o x then some n else bH r x
def tY:List (aU×Nat)→Bool
 | []=>false
 | (o,_)::r=>(bH r o).isSome||tY r
def lB (n:Nat):CV→List (aU×Nat)
 | .row j=>[(.inr j,n)]
 | .mp j=>[(.ob j,n)]
 | _=>[]
def mw (n:Nat):List OT→List CV→List (aU×Nat)
 | .val t::r,cs=>mw (n+1) r (cs.drop t.size)
 | .row _ _::r,c::cs=>lB n c++mw (n+1) r cs
 | .map _ _::r,c::cs=>lB n c++mw (n+1) r cs
 | _,_=>[]
def ir (S:St) (i:Nat) (p:PM) (s:SV):List (aU×Nat):=
 match p with
 | .row _ _=>match oB s with | some c=>lB (64*i) c | none=>[]
 | .mrow _ _=>match oB s with | some c=>lB (64*i) c | none=>[]
 | .map _ _=>match oB s with | some c=>lB (64*i) c | none=>[]
 | .box l=>match mu s with
  | some k=>(.inl k,64*i)::(match look S.boxes k with | some cs=>mw (64*i+1) l cs | none=>[])
  | none=>[]
 | .ar _=>[(.ob bq,64*i)]
 | _=>[]
def dX (S:St):Nat→List PM→List SV→List (aU×Nat)
 | _,[],_=>[]
 | i,p::r,l=>(match (bif p.arg then l.head? else some (.v false [.any])) with
  | some s=>ir S i p s
  | none=>[])++dX S (i+1) r (bif p.arg then l.tail else l)
def gL:List PM→List SV→List SV
 | .val _::r,s::q=>s::gL r q
 | .ar _::r,q=>gL r q
 | .arR _::r,q=>gL r q
 | _::r,_::q=>gL r q
 | _,_=>[]
def nN:List OT→Bool
 | []=>true
 | .val t::r=>t.flat&&nN r
 | .row _ t::r=>t.flat&&nN r
 | .map k v::r=>k.flat&&v.flat&&nN r
def fU:List PM→Bool
 | []=>true
 | .mrow _ t::r=>t.flat&&fU r
 | .map k v::r=>k.flat&&v.flat&&fU r
 | .box l::r=>nN l&&fU r
 | .ar t::r=>t.flat&&fU r
 | _::r=>fU r
def gK:List RM→Bool
 | []=>true
 | .val t::r=>t.flat&&gK r
 | .row _ t::r=>t.flat&&gK r
 | .map k v::r=>k.flat&&v.flat&&gK r
 | .box l::r=>nN l&&gK r
def dup:List Nat→Bool
 | []=>false
 | x::r=>r.any (Nat.beq x)||dup r
def nid (d i c:Nat):Nat:=10000+2048*d+64*i+c
def Dv (d i:Nat):Nat→(l:List OT)→kz l→List CV
 | _,[],_=>[]
 | c,.val t::r,x=>unpack t x.1++Dv d i (c+1) r x.2
 | c,.row _ _::r,x=> .row (nid d i c)::Dv d i (c+1) r x.2
 | c,.map _ _::r,x=> .mp (nid d i c)::Dv d i (c+1) r x.2
def nO (d i:Nat):Nat→(l:List OT)→kz l→List (Nat×kJ)
 | _,[],_=>[]
 | c,.val _::r,x=>nO d i (c+1) r x.2
 | c,.row e t::r,x=>(nid d i c,⟨false,e,t,x.1⟩)::nO d i (c+1) r x.2
 | c,.map _ _::r,x=>nO d i (c+1) r x.2
def jT (d i:Nat):Nat→(l:List OT)→kz l→List (Nat×mg)
 | _,[],_=>[]
 | c,.val _::r,x=>jT d i (c+1) r x.2
 | c,.row _ _::r,x=>jT d i (c+1) r x.2
 | c,.map k v::r,x=>(nid d i c,.map k v x.1)::jT d i (c+1) r x.2
def vP (ps:List PM) (d:Nat):(rs:List RM)→Nat→cE ps rs→List (Bool×List CV)
 | [],_,_=>[]
 | .val t::r,c,x=>Mg t x.1::vP ps d r (c+1) x.2
 | .row _ _::r,c,x=>(false,[.row (nid d (24+c) 0)])::vP ps d r (c+1) x.2
 | .map _ _::r,c,x=>(false,[.mp (nid d (24+c) 0)])::vP ps d r (c+1) x.2
 | .box _::r,c,x=>(false,[.ref d 0])::vP ps d r (c+1) x.2
def nQ (ps:List PM) (d:Nat):(rs:List RM)→Nat→cE ps rs→List (Nat×kJ)
 | [],_,_=>[]
 | .val _::r,c,x=>nQ ps d r (c+1) x.2
 | .row e t::r,c,x=>(nid d (24+c) 0,⟨false,e,t,x.1⟩)::nQ ps d r (c+1) x.2
 | .map _ _::r,c,x=>nQ ps d r (c+1) x.2
 | .box l::r,c,x=>nO d (24+c) 1 l x.1++nQ ps d r (c+1) x.2
def ji (ps:List PM) (d:Nat):(rs:List RM)→Nat→cE ps rs→List (Nat×mg)
 | [],_,_=>[]
 | .val _::r,c,x=>ji ps d r (c+1) x.2
 | .row _ _::r,c,x=>ji ps d r (c+1) x.2
 | .map k v::r,c,x=>(nid d (24+c) 0,.map k v x.1)::ji ps d r (c+1) x.2
 | .box l::r,c,x=>jT d (24+c) 1 l x.1++ji ps d r (c+1) x.2
def nP (ps:List PM) (d:Nat):(rs:List RM)→Nat→cE ps rs→List (Nat×List CV)
 | [],_,_=>[]
 | .val _::r,c,x=>nP ps d r (c+1) x.2
 | .row _ _::r,c,x=>nP ps d r (c+1) x.2
 | .map _ _::r,c,x=>nP ps d r (c+1) x.2
 | .box l::r,c,x=>(d,Dv d (24+c) 1 l x.1)::nP ps d r (c+1) x.2
def Bn (ps:List PM):(rs:List RM)→cE ps rs→dP ps
 | [],x=>x
 | _::r,x=>Bn ps r x.2
def x4:List RM→Nat
 | []=>0
 | .box _::r=>x4 r+1
 | _::r=>x4 r
def cZ (d:Nat):Nat→(ps:List PM)→List SV→dP ps→List (Nat×List CV)
 | _,[],_,_=>[]
 | i,.box l::r,s::q,x=>(match mu s with | some k=>[(k,Dv d i 1 l x.1)] | none=>[])++cZ d (i+1) r q x.2
 | i,.mrow _ _::r,_::q,x=>cZ d (i+1) r q x.2
 | i,.map _ _::r,_::q,x=>cZ d (i+1) r q x.2
 | i,.ar _::r,q,x=>cZ d (i+1) r q x.2
 | i,.val _::r,_::q,x=>cZ d (i+1) r q x
 | i,.row _ _::r,_::q,x=>cZ d (i+1) r q x
 | i,.arR _::r,q,x=>cZ d (i+1) r q x
 | _,_::_,[],_=>[]
def fC (d:Nat):Nat→(ps:List PM)→List SV→dP ps→List (Nat×kJ)
 | _,[],_,_=>[]
 | i,.box l::r,s::q,x=>(match mu s with | some _=>nO d i 1 l x.1 | none=>[])++fC d (i+1) r q x.2
 | i,.mrow e t::r,s::q,x=>(match Du s with | some (some j)=>[(j,⟨false,e,t,x.1⟩)] | _=>[])++fC d (i+1) r q x.2
 | i,.map _ _::r,_::q,x=>fC d (i+1) r q x.2
 | i,.ar _::r,q,x=>fC d (i+1) r q x.2
 | i,.val _::r,_::q,x=>fC d (i+1) r q x
 | i,.row _ _::r,_::q,x=>fC d (i+1) r q x
 | i,.arR _::r,q,x=>fC d (i+1) r q x
 | _,_::_,[],_=>[]
def cS (d:Nat):Nat→(ps:List PM)→List SV→dP ps→List (Nat×mg)
 | _,[],_,_=>[]
 | i,.box l::r,s::q,x=>(match mu s with | some _=>jT d i 1 l x.1 | none=>[])++cS d (i+1) r q x.2
 | i,.mrow _ _::r,_::q,x=>cS d (i+1) r q x.2
 | i,.map k v::r,s::q,x=>(match Dt s with | some j=>[(j,.map k v x.1)] | _=>[])++cS d (i+1) r q x.2
 | i,.ar t::r,q,x=>(bq,.ar false t x.1)::cS d (i+1) r q x.2
 | i,.val _::r,_::q,x=>cS d (i+1) r q x
 | i,.row _ _::r,_::q,x=>cS d (i+1) r q x
 | i,.arR _::r,q,x=>cS d (i+1) r q x
 | _,_::_,[],_=>[]
def CV.gT (a b:Nat):CV→Bool
 | .row j=>Nat.ble a j&&Nat.blt j b
 | .rp j _ _ _=>Nat.ble a j&&Nat.blt j b
 | .mp j=>Nat.ble a j&&Nat.blt j b
 | .stp j _=>Nat.ble a j&&Nat.blt j b
 | .kseq _ j=>Nat.ble a j&&Nat.blt j b
 | _=>false
def SV.gT (a b:Nat):SV→Bool
 | .v _ cs=>cs.any (CV.gT a b)
 | .tup l=>l.any fun p=>p.2.any (CV.gT a b)
def St.gT (a b:Nat) (S:St):Bool:=S.tmps.any (SV.gT a b)||S.boxes.any fun p=>p.2.any (CV.gT a b)
def xP (d:Nat) (S:St):Bool:= !S.gT (nid d 0 0) (nid (d+1) 0 0)
def dI (d i:Nat):Nat→List OT→List (aU×Nat)
 | _,[]=>[]
 | c,.val _::r=>dI d i (c+1) r
 | c,.row _ _::r=>(.inr (nid d i c),64*i+c)::dI d i (c+1) r
 | c,.map _ _::r=>(.ob (nid d i c),64*i+c)::dI d i (c+1) r
def bR (d:Nat):Nat→List PM→List SV→List (aU×Nat)
 | _,[],_=>[]
 | i,.box l::r,s::q=>(match mu s with | some k=>(.inl k,64*i)::dI d i 1 l | none=>[])++bR d (i+1) r q
 | i,.mrow _ _::r,s::q=>(match Du s with | some (some j)=>[(.inr j,64*i)] | _=>[])++bR d (i+1) r q
 | i,.map _ _::r,s::q=>(match Dt s with | some j=>[(.ob j,64*i)] | _=>[])++bR d (i+1) r q
 | i,.ar _::r,q=>(.ob bq,64*i)::bR d (i+1) r q
 | i,.val _::r,_::q=>bR d (i+1) r q
 | i,.row _ _::r,_::q=>bR d (i+1) r q
 | i,.arR _::r,q=>bR d (i+1) r q
 | _,_::_,[]=>[]
def dB (d:Nat):Nat→List RM→List (aU×Nat)
 | _,[]=>[]
 | c,.val _::r=>dB d (c+1) r
 | c,.row _ _::r=>(.inr (nid d (24+c) 0),64*(24+c))::dB d (c+1) r
 | c,.map _ _::r=>(.ob (nid d (24+c) 0),64*(24+c))::dB d (c+1) r
 | c,.box l::r=>((.inl d,64*(24+c))::dI d (24+c) 1 l)++dB d (c+1) r
def sU:List PM→Bool
 | []=>false
 | .arR _::_=>true
 | _::r=>sU r
def Lx (S:St) (l:List (aU×Nat)):Bool:=l.all fun p=>match p.1 with | .ob j=> !S.aW j | _=>true
def QF (d:Nat) (l:List (aU×Nat)):Bool:=l.all fun p=>match p.1 with
 | .inr j=> !(Nat.ble (nid d 0 0) j&&Nat.blt j (nid (d+1) 0 0))
 | .ob j=> !(Nat.ble (nid d 0 0) j&&Nat.blt j (nid (d+1) 0 0))
 | .inl _=>true
def mh (sp:aA) (S:St) (args:List SV) (d:Option Tmp) (k:St→Option β):Option β:=
 let va:=gL sp.ps args
 let js:=dW S va
 let V:=aB S js
 let ow:=dX S 0 sp.ps args
 let fb:=gy S va
 let dd:=d.getD 0
 let fl:=gK sp.rs&&fU sp.ps
 let its:=bR dd 0 sp.ps args++dB dd 0 sp.rs
 if tY ow||tY its||dup (its.map (·.2))|| !(its.all fun p=>Nat.blt p.2 2048)||(fb.any fun k=>(bH ow (.inl k)).isSome)||(js.any fun j=>(bH ow (.inr j)).isSome)||(sU sp.ps&&(bH ow (.ob bq)).isSome)|| !xP dd S|| !QF dd ow|| !Lx S its||
  !(fl||(fb.isEmpty&& !sU sp.ps))||(Nat.blt 0 (x4 sp.rs)&&(S.bN dd||d.isNone))|| !Nat.blt dd 2000 then none else
 match gj V fb sp.ps args with
 | some x=>(sp.m x).bind fun y=>
  let R:=if fl then S else V
  let b:=Bn sp.ps sp.rs y
  k { tmps:=match d with | some d=>S.tmps.set d (AD (vP sp.ps dd sp.rs 0 y)) | none=>S.tmps,
      boxes:=nP sp.ps dd sp.rs 0 y++(cZ dd 0 sp.ps args b++S.boxes.filter fun p=>(bH ow (.inl p.1)).isNone),
      rows:=nQ sp.ps dd sp.rs 0 y++(fC dd 0 sp.ps args b++R.rows.filter fun p=>(bH ow (.inr p.1)).isNone),
      objs:=ji sp.ps dd sp.rs 0 y++(cS dd 0 sp.ps args b++S.objs.filter fun p=>(bH ow (.ob p.1)).isNone) }
 | none=>none
def Sc {α:Type} (a:Option α) (k:α→Option β) (e:Option β):Option β:=
 match a with
 | some y=>k y
 | none=>e
def Fg (sp:aA) (S:St) (args:List SV) (d:Option Tmp) (k:St→Option β) (e:Option β):Option β:=
 let va:=gL sp.ps args
 let js:=dW S va
 let V:=aB S js
 let ow:=dX S 0 sp.ps args
 let fb:=gy S va
 let dd:=d.getD 0
 let fl:=gK sp.rs&&fU sp.ps
 let its:=bR dd 0 sp.ps args++dB dd 0 sp.rs
 if tY ow||tY its||dup (its.map (·.2))|| !(its.all fun p=>Nat.blt p.2 2048)||(fb.any fun k=>(bH ow (.inl k)).isSome)||(js.any fun j=>(bH ow (.inr j)).isSome)||(sU sp.ps&&(bH ow (.ob bq)).isSome)|| !xP dd S|| !QF dd ow|| !Lx S its||
  !(fl||(fb.isEmpty&& !sU sp.ps))||(Nat.blt 0 (x4 sp.rs)&&(S.bN dd||d.isNone))|| !Nat.blt dd 2000 then none else
 match gj V fb sp.ps args with
 | some x=>Sc (sp.m x) (fun y=>
  let R:=if fl then S else V
  let b:=Bn sp.ps sp.rs y
  k { tmps:=match d with | some d=>S.tmps.set d (AD (vP sp.ps dd sp.rs 0 y)) | none=>S.tmps,
      boxes:=nP sp.ps dd sp.rs 0 y++(cZ dd 0 sp.ps args b++S.boxes.filter fun p=>(bH ow (.inl p.1)).isNone),
      rows:=nQ sp.ps dd sp.rs 0 y++(fC dd 0 sp.ps args b++R.rows.filter fun p=>(bH ow (.inr p.1)).isNone),
      objs:=ji sp.ps dd sp.rs 0 y++(cS dd 0 sp.ps args b++S.objs.filter fun p=>(bH ow (.ob p.1)).isNone) }) e
 | none=>none
def pZ {α:Type}:List (Nat×α)→Nat→List α
 | [],_=>[]
 | (j,x)::r,k=>bif Nat.beq j k then x::pZ r k else pZ r k
def tO (S:St) (args:List SV) (d:Option Tmp) (k:St→Option β):List aA→Option β
 | []=>none
 | [sp]=>mh sp S args d k
 | sp::sp'::r=>Fg sp S args d k (tO S args d k (sp'::r))
def Gn (S:St) (e:TypeId) (ty:Ty):CV→Option (List ty.den×Option Nat)
 | .nils=>some ([],none)
 | .row j=>match look S.rows j with
  | some q=>if q.fz|| !Nat.beq q.e e then none else (match ox (b:=ty) q.l with | some l=>some (l,some j) | none=>none)
  | none=>none
 | _=>none
def Cw (S:St) (ty:Ty):CV→Option (List ty.den)
 | .nils=>some []
 | .sl _ l=>ox (b:=ty) l
 | .row j=>match look S.rows j with
  | some q=>ox (b:=ty) q.l
  | none=>none
 | _=>none
def pJ (P:Program) (t:TypeId) (S:St) (b off:Nat) (cs:List CV) (k:St→Option β):Option β:=
 match look S.boxes b with
 | some l=>if okT P t&&Nat.beq cs.length (bJ P t)&&cs.all CV.ok then (match setAt l off cs with
  | some l=>k { S with boxes:=(b,l)::S.boxes }
  | none=>none) else none
 | none=>none
def uD (P:Program) (t:TypeId) (S:St) (j sz i off:Nat) (cs:List CV) (k:St→Option β):Option β:=
 match look S.rows j with
 | some q=>if q.fz|| !Nat.beq sz q.t.size|| !okT P t|| !Nat.beq cs.length (bJ P t)|| !cs.all CV.ok then none else
  (q.l[i]?).bind fun y=>match setAt (unpack q.t y) off cs with
  | some cs=>match gh (pack S q.t cs) with
   | some y=>k { S with rows:=(j,{ q with l:=q.l.set i y })::S.rows }
   | none=>none
  | none=>none
 | none=>none
def xy (P:Program) (t:TypeId) (S:St) (h off:Nat) (cs:List CV) (k:St→Option β):Option β:=
 match look S.objs bq with
 | some (.ar false ty l)=>if !okT P t|| !Nat.beq cs.length (bJ P t)|| !cs.all CV.ok then none else
  (l[h]?).bind fun y=>match setAt (unpack ty y) off cs with
  | some cs=>match gh (pack S ty cs) with
   | some y=>k { S with objs:=(bq,.ar false ty (l.set h y))::S.objs }
   | none=>none
  | none=>none
 | _=>none
def CV.ru (k h:Nat):CV→CV
 | .ref j o=>bif Nat.beq j k then .hnd (some h) o else .ref j o
 | c=>c
def SV.ru (k h:Nat):SV→SV
 | .v a cs=> .v a (cs.map (CV.ru k h))
 | .tup l=> .tup (l.map fun p=>(p.1,p.2.map (CV.ru k h)))
def CV.A2 (k:Nat):CV→Bool
 | .fn _ ks=>ks.any (Nat.beq · k)
 | _=>false
def SV.A2 (k:Nat):SV→Bool
 | .v _ cs=>cs.any (CV.A2 k)
 | .tup l=>l.any fun p=>p.2.any (CV.A2 k)
def St.A2 (k:Nat) (S:St):Bool:=S.tmps.any (SV.A2 k)||S.boxes.any fun p=>p.2.any (CV.A2 k)
def xk (S0:St) (k:Nat):St:=
 match look S0.objs bq,look S0.boxes k with
 | some (.ar false t l),some cs=>
  let S:=aB S0 (fH cs)
  if S.A2 k|| !Nat.blt k 2000 then S0 else
  match gh (pack S t cs) with
  | some x=>
   { tmps:=S.tmps.map (SV.ru k l.length),boxes:=(S.boxes.filter fun p=> !Nat.beq p.1 k).map (fun p=>(p.1,p.2.map (CV.ru k l.length))),rows:=S.rows,objs:=(bq,.ar false t (l++[x]))::S.objs }
  | none=>S0
 | _,_=>S0
def Pu (cs:List CV):List Nat:=cs.filterMap fun | .ref k o=>(if Nat.beq o 0 then some k else none) | _=>none
def gN (S:St):List SV→St
 | []=>S
 | .v _ cs::r=>gN ((Pu cs).foldl xk S) r
 | .tup _::r=>gN S r
def tX (S:St) (d:Option Tmp):St:=
 match d with
 | some d=>(match S.tmps.getD d (.v false [.any]) with
  | .v false [.ref k _]=>bif Nat.beq k d then { S with tmps:=S.tmps.set d (.v false [.any]) } else S
  | _=>S)
 | none=>S
def DS (E:xB) (S:St) (args:List SV) (d:Option Tmp) (k:St→Option β):Option β:=
 match E with
 | .elt lo nb tb te m=>match args with
  | [.v false [.ref kb o],.v false [.rp j sz i off]]=>
   if !Nat.beq o 0|| !Nat.beq off 0 then none else
   match look S.boxes kb,look S.rows j with
   | some cs,some q=>
    if q.fz|| !Nat.beq sz te.size|| !Nat.beq cs.length nb then none else
    match cs[lo]? with
    | some (.sl _ l)=>match ox (b:=tb) l,ox (b:=te) q.l with
     | some l,some ql=>(m l ql i).bind fun ql'=>k ((⟨S.tmps,(kb,cs)::S.boxes,(j,⟨false,q.e,te,ql'⟩)::S.rows,S.objs⟩:St).put d (.v false [.any]))
     | _,_=>none
    | _=>none
   | _,_=>none
  | _=>none
 | .nest p sp=>match args[p]? with
  | some (.v false [.ref km o])=>
   if !Nat.beq o 0|| !S.bN km then none else
   match look S.boxes km with
   | some [.ref kk o2]=>
    if !Nat.beq o2 0||inL (gy S (gL sp.ps (args.set p (.v false [.ref kk 0])))) km||(bH (dX S 0 sp.ps (args.set p (.v false [.ref kk 0]))) (.inl km)).isSome then none else
    mh sp S (args.set p (.v false [.ref kk 0])) d fun S'=>match look S'.boxes km with
     | some [.ref k' o']=>if Nat.beq k' kk&&Nat.beq o' 0&&S.bN kk then k S' else none
     | _=>none
   | _=>none
  | _=>none
 | _=>none
def xB.QC:xB→Bool
 | .elt _ _ _ _ _=>true
 | .nest _ _=>true
 | _=>false
def cg (X:Cx) (o:Oper) (S:St) (k:St→Option β):Option β:=
 match o.op with
 | .store t a x=>if o.dst.isSome then none else match S.ev a,S.ev x with
  | .v false [.ref b off],.v _ cs=>pJ X.P t S b off cs k
  | .v false [.rp j sz i off],.v _ cs=>uD X.P t (aB S (fH cs)) j sz i off cs k
  | .v false [.hnd (some h) off],.v _ cs=>xy X.P t (aB S (fH cs)) h off cs k
  | _,_=>none
 | .mapUpdate t m kx x=>if o.dst.isSome then none else
  let S:=gN (aB S (zF [S.ev x])) [S.ev x]
  match X.P.underlying t,S.ev m with
  | some (.map kt _),.v false [.mp j]=>match look S.objs j with
   | some (.map kk vv l)=>match ig S [] kk (S.ev kx),ig S [] vv (S.ev x) with
    | some key,some y=>if dQ X.P kt kk&& !S.aW j then k { S with objs:=(j,.map kk vv (iY l key y))::S.objs } else none
    | _,_=>none
   | _=>none
  | _,_=>none
 | .slice _ x _ _ _=>
  let S:=aB S (zF [S.ev x])
  dA X o S S fun x=>k (S.app o.dst x)
 | .alloc _=>dA X o (tX S o.dst) (tX S o.dst) fun x=>k ((tX S o.dst).app o.dst x)
 | .call { callee:= .builtin .append,args,argTypes }=>match args.toList.map S.ev,argTypes.toList,o.dst with
  | [.v false [s],.v false [x]],[t,t'],some d=>match X.P.underlying t with
   | some (.slice e)=>match BB X.P 9 e,zeroCells X.P e with
    | some ty,some zc=>
     if S.aT d|| !Nat.blt d 2000|| !Nat.beq t t'|| !Nat.beq (bJ X.P e) ty.size||Nat.beq ty.size 0|| !Nat.beq zc.length ty.size then none else
     match Gn S e ty s,Cw S ty x with
     | some (l,j),some l'=>
      chk (decide ((l.length+l'.length)*(((X.P.info? e).map (·.bytes)).getD 0)≤140737488355328)&&decide (l.length+l'.length≤maxLen))
       (k { tmps:=S.tmps.set d (.v false [.row d]),boxes:=S.boxes,rows:=(d,⟨false,e,ty,l++l'⟩)::(match j with | some j=>S.rows.filter (fun p=> !Nat.beq p.1 j) | none=>S.rows),objs:=S.objs })
     | _,_=>none
    | _,_=>none
   | _=>none
  | _,_,_=>none
 | .buildSlice t len parts=>
  let S:=gN (aB S (zF (parts.toList.map fun p=>S.ev p.2))) (parts.toList.map fun p=>S.ev p.2)
  HE X o t len parts S S fun x=>k (S.app o.dst x)
 | .call c=>match cU S c with
  | some (f,args)=>match look X.keys f with
   | some kf=>if kf.QC then DS kf S args o.dst k else dA X o S S fun x=>k (S.app o.dst x)
   | none=>tO S args o.dst k (pZ X.specs f)
  | none=>dA X o S S fun x=>k (S.app o.dst x)
 | _=>dA X o S S fun x=>k (S.app o.dst x)
def guardOf (ops:List Oper) (o:Oper) (S:St):Option (Option (Nat×Bool×Bool)):=
 match o.guard with
 | none=>some none
 | some (j,want)=>match ops[j]? with
  | some g=>match g.dst with
   | some d=>match S.ev (.tmp d) with
    | .v false [.bool b]=>some (some (d,b,want))
    | _=>none
   | none=>none
  | none=>none
def kH (ops:List Oper) (o:Oper) (S:St):Bool:=
 match o.guard with
 | none=>false
 | some (j,_)=>match ops[j]? with
  | some g=>match g.dst with
   | some d=>match S.ev (.tmp d) with
    | .tup []=>true
    | _=>false
   | none=>false
  | none=>false
def nA:SV:= .tup []
def fork (S:St) (d:Nat) (b want:Bool) (yes no:St→Option β):Option β:=
 bif want then (bif b then yes (S.put (some d) (.v false [.bool true])) else no (S.put (some d) (.v false [.bool false])))
 else (bif b then no (S.put (some d) (.v false [.bool true])) else yes (S.put (some d) (.v false [.bool false])))
def jV (X:Cx) (ops:List Oper):List Oper→St→(St→Option β)→Option β
 | [],S,k=>k S
 | o::rest,S,k=>match guardOf ops o S with
  | none=>bif kH ops o S then jV X ops rest (S.put o.dst nA) k else none
  | some none=>cg X o S fun S=>jV X ops rest S k
  | some (some (d,b,want))=>fork S d b want (fun S=>cg X o S fun S=>jV X ops rest S k)
   fun S=>jV X ops rest (S.put o.dst nA) k
def IV (S:St) (t:Ty):Option (List t.den):=
 match look S.objs bq with
 | some (.ar true _ l)=>ox (b:=t) l
 | _=>none
def aY (S:St):(cs:List CK)→List CV→Option (b8 cs)
 | [],[]=>some ()
 | [],_::_=>none
 | .val t::r,cvs=>match pack S t cvs with
  | some (x,q)=>match aY S r q with
   | some y=>some (x,y)
   | none=>none
  | none=>none
 | .own e t::r,c::q=>match gA S e t c,aY S r q with
  | some l,some y=>some (l,y)
  | _,_=>none
 | .own _ _::_,[]=>none
 | .map kk vv::r,c::q=>match lZ S kk vv c,aY S r q with
  | some l,some y=>some (l,y)
  | _,_=>none
 | .map _ _::_,[]=>none
 | .ref k off::r,c::q=>match c with
  | .ref k' off'=>if Nat.beq k k'&&Nat.beq off off' then aY S r q else none
  | _=>none
 | .ref _ _::_,[]=>none
 | .fn g ks::r,c::q=>match c with
  | .fn g' ks'=>if Nat.beq g g'&&ks==ks' then aY S r q else none
  | _=>none
 | .fn _ _::_,[]=>none
 | .ar t::r,q=>match qO S false t,aY S r q with
  | some l,some y=>some (l,y)
  | _,_=>none
 | .arF t::r,q=>match IV S t,aY S r q with
  | some l,some y=>some (l,y)
  | _,_=>none
 | .rowR j::r,c::q=>match c with
  | .row j'=>if Nat.beq j j' then aY S r q else none
  | _=>none
 | .rowR _::_,[]=>none
 | .rpR j sz::r,c::q=>match c with
  | .rp j' sz' i off=>if Nat.beq j j'&&(Nat.beq sz sz'&&Nat.beq off 0) then (match aY S r q with
   | some y=>some (i,y)
   | none=>none) else none
  | _=>none
 | .rpR _ _::_,[]=>none
 | .mapR j::r,c::q=>match c with
  | .mp j'=>if Nat.beq j j' then aY S r q else none
  | _=>none
 | .mapR _::_,[]=>none
 | .rowC j e t::r,q=>match gA S e t (.row j),aY S r q with
  | some l,some y=>some (l,y)
  | _,_=>none
 | .mapC j k v::r,q=>match lZ S k v (.mp j),aY S r q with
  | some l,some y=>some (l,y)
  | _,_=>none
def CK.agg:CK→Bool
 | .val (.st _)=>true
 | _=>false
def DG (S:St):List (Nat×CK)→Option (List CV)
 | []=>some []
 | p::r=>match S.tmps.getD p.1 (.v false [.any]) with
  | .v a cs=>match DG S r with
   | some l=>if (a==p.2.agg)&&(Nat.beq cs.length p.2.size&&(a||Nat.beq p.2.size 1)) then some (cs++l) else none
   | none=>none
  | _=>none
def CD (S:St):List (Nat×List CK)→Option (List CV)
 | []=>some []
 | p::r=>match look S.boxes p.1 with
  | some cs=>if Nat.beq cs.length (kZ p.2) then (match CD S r with
   | some l=>some (cs++l)
   | none=>none) else none
  | none=>none
def St.places (S:St) (A:Ann):Option (List CV):=
 match DG S A.tmps,CD S A.boxes with
 | some a,some b=>some (a++b)
 | _,_=>none
def carried (base:Nat):List CK→List CV→List (aU×Nat)
 | .val t::r,cvs=>carried base r (cvs.drop t.size)
 | .own _ _::r,c::q=>lB base c++carried (base+1) r q
 | .map _ _::r,c::q=>lB base c++carried (base+1) r q
 | .ref _ _::r,_::q=>carried base r q
 | .fn _ _::r,_::q=>carried base r q
 | .ar _::r,q=>(.ob bq,bq)::carried base r q
 | .arF _::r,q=>carried base r q
 | .rowR _::r,_::q=>carried base r q
 | .rpR _ _::r,_::q=>carried base r q
 | .mapR _::r,_::q=>carried base r q
 | .rowC j _ _::r,q=>(.inr j,j)::carried base r q
 | .mapC j _ _::r,q=>(.ob j,j)::carried base r q
 | _,_=>[]
def de:Nat:=4000
def kL:List CK→Nat
 | []=>0
 | .own _ _::r=>kL r+1
 | .map _ _::r=>kL r+1
 | _::r=>kL r
def CK.oy (n:Nat):CK→Bool
 | .rowR j=>Nat.blt j de||Nat.ble (de+n) j
 | .rpR j _=>Nat.blt j de||Nat.ble (de+n) j
 | .rowC j _ _=>Nat.blt j de||Nat.ble (de+n) j
 | .mapR j=>Nat.blt j de||Nat.ble (de+n) j
 | .mapC j _ _=>Nat.blt j de||Nat.ble (de+n) j
 | _=>true
def KW (A:Ann) (S:St):Option (b8 A.cks):=
 match S.places A with
 | some cvs=>if !A.cks.all (CK.oy (kL A.cks))|| !Nat.blt A.cks.length 1000||tY (carried de A.cks cvs)||dup ((carried de A.cks cvs).map (·.2)) then none else aY S A.cks cvs
 | none=>none
def C7:List CK→List CV→List Nat
 | .val t::r,cvs=>fH (cvs.take t.size)++C7 r (cvs.drop t.size)
 | .ar _::r,q=>C7 r q
 | .arF _::r,q=>C7 r q
 | .rowC _ _ _::r,q=>C7 r q
 | .mapC _ _ _::r,q=>C7 r q
 | _::r,_::q=>C7 r q
 | _,_=>[]
def carry (A:Ann) (S:St):Option (b8 A.cks):=
 match S.places A with
 | some cvs=>KW A (aB S (C7 A.cks cvs))
 | none=>none
def jQ (base:Nat):(cs:List CK)→b8 cs→List CV
 | [],_=>[]
 | .val t::r,x=>unpack t x.1++jQ base r x.2
 | .own _ _::r,x=> .row base::jQ (base+1) r x.2
 | .map _ _::r,x=> .mp base::jQ (base+1) r x.2
 | .ref k off::r,x=> .ref k off::jQ base r x
 | .fn g ks::r,x=> .fn g ks::jQ base r x
 | .ar _::r,x=>jQ base r x.2
 | .arF _::r,x=>jQ base r x.2
 | .rowR j::r,x=> .row j::jQ base r x
 | .rpR j sz::r,x=> .rp j sz x.1 0::jQ base r x.2
 | .mapR j::r,x=> .mp j::jQ base r x
 | .rowC _ _ _::r,x=>jQ base r x.2
 | .mapC _ _ _::r,x=>jQ base r x.2
def eE (base:Nat):(cs:List CK)→b8 cs→List (Nat×kJ)
 | [],_=>[]
 | .val _::r,x=>eE base r x.2
 | .own e t::r,x=>(base,⟨false,e,t,x.1⟩)::eE (base+1) r x.2
 | .map _ _::r,x=>eE (base+1) r x.2
 | .ref _ _::r,x=>eE base r x
 | .fn _ _::r,x=>eE base r x
 | .ar _::r,x=>eE base r x.2
 | .arF _::r,x=>eE base r x.2
 | .rowR _::r,x=>eE base r x
 | .rpR _ _::r,x=>eE base r x.2
 | .mapR _::r,x=>eE base r x
 | .rowC j e t::r,x=>(j,⟨false,e,t,x.1⟩)::eE base r x.2
 | .mapC _ _ _::r,x=>eE base r x.2
def cw (base:Nat):(cs:List CK)→b8 cs→List (Nat×mg)
 | [],_=>[]
 | .val _::r,x=>cw base r x.2
 | .own _ _::r,x=>cw (base+1) r x.2
 | .map k v::r,x=>(base,.map k v x.1)::cw (base+1) r x.2
 | .ref _ _::r,x=>cw base r x
 | .fn _ _::r,x=>cw base r x
 | .ar t::r,x=>(bq,.ar false t x.1)::cw base r x.2
 | .arF t::r,x=>(bq,.ar true t x.1)::cw base r x.2
 | .rowR _::r,x=>cw base r x
 | .rpR _ _::r,x=>cw base r x.2
 | .mapR _::r,x=>cw base r x
 | .rowC _ _ _::r,x=>cw base r x.2
 | .mapC j k v::r,x=>(j,.map k v x.1)::cw base r x.2
def vU:List (Nat×CK)→List CV→List SV→List SV
 | p::r,q,tmps=>vU r (q.drop p.2.size) (tmps.set p.1 (.v p.2.agg (q.take p.2.size)))
 | [],_,tmps=>tmps
def CC:List (Nat×List CK)→List CV→List (Nat×List CV)
 | p::r,cs=>(p.1,cs.take (kZ p.2))::CC r (cs.drop (kZ p.2))
 | [],_=>[]
def head (A:Ann) (n:Nat) (x:b8 A.cks):St:=
 let cvs:=jQ de A.cks x
 { tmps:=vU A.tmps cvs (List.replicate n (.v false [.any])),
   boxes:=CC A.boxes (cvs.drop (kZ (A.tmps.map (·.2)))),
   rows:=eE de A.cks x,
   objs:=cw de A.cks x }
inductive Ex where
 | normal
 | exit (id:Nat)
 | ret
def iy:Code→Nat
 | .region id _ _=>id
 | .seq a _=>iy a
 | .block _ c=>iy c
 | .loop c=>iy c
 | .scope c=>iy c
 | .cond _ a _=>iy a
 | _=>0
structure Msk where
 m:Nat
def inM (s:Msk) (j:Nat):Bool:=Nat.beq (Nat.land (Nat.shiftRight s.m j) 1) 1
def m0:Msk:=⟨0⟩
instance:Membership Nat Msk:=⟨fun s j=>inM s j=true⟩
def lp (acc:List Msk) (es:List Edge):Msk:=
 match es with
 | []=>m0
 | e::r=>bif Region.binds .any e then ⟨Nat.lor (Nat.lor (Nat.shiftLeft 1 e.on) (acc.getD e.on m0).m) (lp acc r).m⟩ else lp acc r
def nJ:List Oper→List Msk→List Msk
 | [],acc=>acc
 | o::r,acc=>nJ r (acc++[lp acc o.after.toList])
def deps (ops:List Oper):List Msk:=nJ ops []
def rX (ds:List Msk) (k:Nat):Bool:=(List.range k).all fun j=>inM (ds.getD k m0) j
def yx (ds:List Msk):Nat→Nat
 | 0=>0
 | k+1=>if rX ds k then yx ds k else k+1
def mask (n N:Nat):Array Bool:=(List.replicate n true++List.replicate (N - n) false).toArray
def bI (ops:List Oper) (j:Nat):Option Nat:=match ops[j]? with | some p=>p.dst | none=>none
def GM (t:Nat) (m:Msk):List (Option Nat)→Nat→Bool
 | [],_=>true
 | d::r,j=>((match d with | some d=> !Nat.beq d t | none=>true)||inM m j)&&GM t m r (j+1)
def Af (t i:Nat) (m:Msk) (ds:List Msk):List (Option Nat)→Nat→Bool
 | [],_=>true
 | d::r,j=>((match d with | some d=> !Nat.beq d t | none=>true)||(inM m j||inM (ds.getD j m0) i))&&Af t i m ds r (j+1)
def Aj (ops:List Oper) (ds:List Msk) (n:Nat):Bool:=
 let dl:=(ops.take n).map (·.dst)
 !dup ((ops.take n).filterMap (·.dst))&&(List.range n).all fun i=>match ops[i]? with
  | some o=>o.dst.isSome&&((o.looksAt ops.toArray).all fun t=>GM t (ds.getD i m0) dl 0)
  | none=>false
def iQ (ops:List Oper):Bool:=(List.range ops.length).all fun i=>match ops[i]? with
 | some o=>o.after.toList.all fun e=> !Region.binds .any e||Nat.blt e.on i
 | none=>true
def Ae (ops:List Oper) (n:Nat):Bool:=
 let ds:=deps ops
 Nat.ble n ops.length&&Aj ops ds n&&((List.range ops.length).all fun k=>Nat.blt k n||rX ds k)&&iQ ops&&Region.seqB .any ops.toArray (ops.length - n) n (mask n ops.length)
def CV.cr (d:Nat) (c:CV):Bool:=c.bN d||(c.aT d||(c.br d||c.aW d))
def SV.cr (d:Nat):SV→Bool
 | .v _ cs=>cs.any (CV.cr d)
 | .tup l=>l.any fun p=>p.2.any (CV.cr d)
def St.cr (d:Nat) (S:St):Bool:=S.tmps.any (SV.cr d)||S.boxes.any fun p=>p.2.any (CV.cr d)
def I5 (Sn:St) (d dj:Nat):Bool:=
 (Sn.tmps.getD dj (.v false [.any])).cr d||(match look Sn.boxes dj with | some cs=>cs.any (CV.cr d) | none=>false)
def NL:CV→List Nat
 | .ref j _=>[j]
 | .fn _ ks=>ks
 | .row j=>[j]
 | .rp j _ _ _=>[j]
 | .mp j=>[j]
 | .stp j _=>[j]
 | .kseq _ j=>[j]
 | _=>[]
def xX:List CV→List Nat
 | []=>[]
 | c::r=>NL c++xX r
def Kw:List (Bool×List CV)→List Nat
 | []=>[]
 | c::r=>xX c.2++Kw r
def NM:SV→List Nat
 | .v _ cs=>xX cs
 | .tup l=>Kw l
def G6:List SV→List Nat
 | []=>[]
 | c::r=>NM c++G6 r
def Kv:List (Nat×List CV)→List Nat
 | []=>[]
 | c::r=>c.1::(xX c.2++Kv r)
def Hg {α:Type}:List (Nat×α)→List Nat
 | []=>[]
 | c::r=>c.1::Hg r
def St.ids (S:St):List Nat:=G6 S.tmps++(Kv S.boxes++(Hg S.rows++Hg S.objs))
def Ku (Sn:St) (dj:Nat):List Nat:=NM (Sn.tmps.getD dj (.v false [.any]))++(match look Sn.boxes dj with | some cs=>xX cs | none=>[])
def vC (ops:List Oper) (n:Nat) (S Sn:St):Bool:=
 let ds:=deps ops
 let hs:=S.ids
 ((ops.take n).all fun o=>match o.dst with | some d=> !inL hs d | none=>false)&&
 (List.range n).all fun j=>match bI ops j with
   | some dj=>(Ku Sn dj).all fun a=>(List.range n).all fun i=>Nat.beq i j||(inM (ds.getD j m0) i||(match bI ops i with | some d=> !Nat.beq d a | none=>true))
   | none=>true
def oa (X:Cx) (ops:List Oper) (M:St):List Oper→St→(St→Option β)→Option β
 | [],S,k=>k S
 | o::rest,S,k=>match guardOf ops o S with
  | none=>bif kH ops o S then oa X ops M rest (S.put o.dst nA) k else none
  | some none=>dA X o S M fun x=>oa X ops M rest (S.app o.dst x) k
  | some (some (d,b,want))=>fork S d b want (fun S=>dA X o S M fun x=>oa X ops M rest (S.app o.dst x) k)
   fun S=>oa X ops M rest (S.put o.dst nA) k
def DW:Op→Bool
 | .store _ _ _=>true
 | _=>false
def si:Op→Bool
 | .move _=>true
 | .assign _=>true
 | .binOp _ _ _ _ _=>true
 | _=>false
def oS:Op→Bool
 | .makeSlice _ _ _=>true
 | _=>false
def jh:St:=⟨[],[],[],[]⟩
def O2 (ops:List Oper) (ds:List Msk) (m:Nat):Bool:=match ops[m]? with
 | some o=>DW o.op&&o.guard.isNone&&o.dst.isNone&&((List.range m).all fun i=>inM (ds.getD m m0) i||(match ops[i]? with | some p=>si p.op&&p.guard.isNone | none=>false))&&
  ((o.looksAt ops.toArray).all fun t=>(List.range m).all fun j=>if bI ops j==some t then inM (ds.getD m m0) j else true)
 | none=>false
def Lg (ops:List Oper) (m:Nat):Bool:=
 let ds:=deps ops
 Nat.ble (m+1) ops.length&&Aj ops ds m&&((List.range ops.length).all fun k=>Nat.blt k (m+1)||rX ds k)&&iQ ops&&Region.seqB .any ops.toArray (ops.length - (m+1)) (m+1) (mask (m+1) ops.length)&&O2 ops ds m
def M5 (ops:List Oper) (ds:List Msk) (m:Nat):Bool:=match ops[m]? with
 | some o=>DW o.op&&o.guard.isNone&&o.dst.isNone&&((List.range m).all fun i=>inM (ds.getD m m0) i||(match ops[i]? with | some p=>(si p.op||oS p.op)&&p.guard.isNone | none=>false))&&
  ((o.looksAt ops.toArray).all fun t=>(List.range m).all fun j=>if bI ops j==some t then inM (ds.getD m m0) j else true)
 | none=>false
def Lh (ops:List Oper) (m:Nat):Bool:=
 let ds:=deps ops
 Nat.ble (m+1) ops.length&&Aj ops ds m&&((List.range ops.length).all fun k=>Nat.blt k (m+1)||rX ds k)&&iQ ops&&Region.seqB .any ops.toArray (ops.length - (m+1)) (m+1) (mask (m+1) ops.length)&&M5 ops ds m
def Dl (ops:List Oper) (m:Nat):List Nat:=(List.range m).filterMap fun i=>match ops[i]? with
 | some p=>if oS p.op&& !inM ((deps ops).getD m m0) i then p.dst else none
 | none=>none
def rJ:Op→Bool
 | .call { callee:= .builtin .append, .. }=>true
 | _=>false
def iA:List PM→Bool
 | []=>true
 | .val _::r=>iA r
 | .row _ _::r=>iA r
 | _=>false
def NT:List RM→Bool
 | [.row _ _]=>true
 | _=>false
def Ak (X:Cx):Op→Bool
 | .call c=>match c.callee with
  | .value (.func g)=>(match look X.keys g with
   | none=>(match pZ X.specs g with
    | [sp]=>iA sp.ps&&(!sp.ps.all PM.isVal&&NT sp.rs)
    | _=>false)
   | some _=>false)
  | _=>false
 | _=>false
def isApp (X:Cx) (op:Op):Bool:=rJ op||Ak X op
def DV (hs:List Nat) (d:Nat):Bool:=hs.all fun j=> !(Nat.ble (nid d 0 0) j&&Nat.blt j (nid (d+1) 0 0))
def pT (A:Op→Bool):List Oper→Nat
 | []=>0
 | o::r=>bif DW o.op||A o.op then 0 else Nat.succ (pT A r)
def R7:Op→Bool
 | .assign _=>true
 | _=>false
def A1:List Oper→Nat
 | []=>0
 | o::r=>bif R7 o.op then 0 else Nat.succ (A1 r)
def RL (ops:List Oper) (t:Nat):Option Oper:=ops.find? (fun o=>match o.dst with | some d=>Nat.beq d t | none=>false)
def Gf (ops:List Oper):Nat→Operand→Bool
 | 0,_=>false
 | f+1,.tmp t=>match RL ops t with
  | some o=>(match o.op with | .indexAddr _ _ _=>true | .fieldAddr _ x _=>Gf ops f x | .nilCheck x=>Gf ops f x | .move x=>Gf ops f x | _=>false)
  | none=>false
 | _+1,_=>false
def zU (ops:List Oper) (S:St):Nat→Operand→Option Nat
 | 0,_=>none
 | f+1,.tmp t=>match RL ops t with
  | some o=>(match o.op with | .fieldAddr _ x _=>zU ops S f x | .nilCheck x=>zU ops S f x | .move x=>zU ops S f x | .alloc _=>some t | _=>none)
  | none=>(match S.ev (.tmp t) with | .v false [.ref b _]=>some b | _=>none)
 | _+1,_=>none
def Nz:Op→Option Operand
 | .store _ a _=>some a
 | _=>none
structure Touch where
 rt:Bool
 bs:Option (List Nat)
def cH (A:Op→Bool) (ops:List Oper) (S:St):List Oper→Touch
 | []=>⟨false,some []⟩
 | o::r=>match Nz o.op with
  | some a=>bif Gf ops 9 a then ⟨true,(cH A ops S r).bs⟩ else (match zU ops S 9 a with
   | some b=>⟨(cH A ops S r).rt,(match (cH A ops S r).bs with | some l=>some (b::l) | none=>none)⟩
   | none=>⟨true,none⟩)
  | none=>bif A o.op then ⟨true,(cH A ops S r).bs⟩ else cH A ops S r
def ku (t:Touch) (k:Nat):Bool:=match t.bs with
 | some l=> !inL l k
 | none=>false
def Nq (ops:List Oper) (ds:List Msk) (m n:Nat):Bool:=
 let dl:=(ops.take n).map (·.dst)
 !dup ((ops.take n).filterMap (·.dst))&&((List.range n).all fun i=>match ops[i]? with
  | some o=>((o.looksAt ops.toArray).all fun t=>Af t i (ds.getD i m0) ds dl 0)&&((Nat.blt i m||o.guard.isNone)&&(Nat.blt i m||(List.range i).all fun j=>Nat.blt j m||inM (ds.getD i m0) j))
  | none=>false)
def AY (ops:List Oper) (m n:Nat):Bool:=
 let ds:=deps ops
 Nat.blt m n&&(Nat.ble n ops.length&&(Aj ops ds m&&(((List.range ops.length).all fun k=>Nat.blt k n||rX ds k)&&(iQ ops&&(Region.seqB .any ops.toArray (ops.length - n) n (mask n ops.length)&&Nq ops ds m n)))))
def cG (t:Touch) (S:St):St:=⟨[],S.boxes.filter (fun p=>ku t p.1),bif t.rt then [] else S.rows,bif t.rt then [] else S.objs⟩
def lF (x:Del):Bool:=x.box.isNone&&(x.row.isNone&&x.obj.isNone)
def LD (ops:List Oper) (m n i:Nat):List Oper:=(List.range n).filterMap fun j=>if Nat.ble m j&& !inM ((deps ops).getD j m0) i then ops[j]? else none
def fT (X:Cx) (ops:List Oper) (M:St) (Mr:Nat→St) (dm:Msk):Nat→List Oper→St→(St→Option β)→Option β
 | _,[],S,k=>k S
 | i,o::rest,S,k=>match guardOf ops o S with
  | none=>bif kH ops o S then fT X ops M Mr dm (i+1) rest (S.put o.dst nA) k else none
  | some none=>bif inM dm i then dA X o S M fun x=>fT X ops M Mr dm (i+1) rest (S.app o.dst x) k
   else dA X o S (Mr i) fun x=>bif lF x then fT X ops M Mr dm (i+1) rest (S.app o.dst x) k else none
  | some (some (d,b,want))=>fork S d b want (fun S=>bif inM dm i then dA X o S M fun x=>fT X ops M Mr dm (i+1) rest (S.app o.dst x) k
   else dA X o S (Mr i) fun x=>bif lF x then fT X ops M Mr dm (i+1) rest (S.app o.dst x) k else none)
   fun S=>fT X ops M Mr dm (i+1) rest (S.put o.dst nA) k
def HX (t:Touch):SV→Bool
 | .v false [.ref b _]=> !ku t b
 | _=>t.rt
def pz (X:Cx) (ops:List Oper) (S0:St) (hs:List Nat):List Oper→St→(St→Option β)→Option β
 | [],S,k=>k S
 | o::rest,S,k=>match Nz o.op with
  | some a=>bif HX (cH (isApp X) ops S0 [o]) (S.ev a) then cg X o S fun S=>pz X ops S0 hs rest S k else none
  | none=>bif rJ o.op
   then (bif (cH (isApp X) ops S0 [o]).rt&&(match o.dst with | some d=> !inL hs d | none=>false) then cg X o S fun S=>pz X ops S0 hs rest S k else none)
   else bif Ak X o.op
   then (bif (cH (isApp X) ops S0 [o]).rt&&(match o.dst with | some d=>DV hs d | none=>false) then cg X o S fun S=>pz X ops S0 hs rest S k else none)
   else dA X o S S fun x=>bif lF x then pz X ops S0 hs rest (S.app o.dst x) k else none
def Bu (X:Cx) (ops:List Oper) (S:St) (k:St→Option β) (m n:Nat):Option β:=
 fT X ops S (fun i=>cG (cH (isApp X) ops S (LD ops m n i)) S) ((deps ops).getD m m0) 0 (ops.take m) S fun Sn=>if vC ops m S Sn then pz X ops S S.ids ((ops.take n).drop m) Sn fun S=>jV X ops (ops.drop n) S k else none
def runM (X:Cx) (ops:List Oper) (m:Nat) (S:St) (k:St→Option β):Option β:=match ops[m]? with
 | some o=>match o.op with
  | .store _ a _=>match S.ev a with
   | .v false [.ref _ _]=>cg X o S fun S'=>bif (Dl ops m).all fun d=> !S'.boxes.any fun p=>p.2.any (CV.aT d) then k S' else none
   | _=>none
  | _=>none
 | none=>none
def yh (X:Cx) (ops:List Oper) (S:St) (k:St→Option β) (els:Option β):Option β:=
 let n:=yx (deps ops) ops.length
 if Ae ops n&& !(ops.take n).any (fun o=>isApp X o.op) then oa X ops S (ops.take n) S fun Sn=>if vC ops n S Sn then jV X ops (ops.drop n) Sn k else none
 else if Lg ops (n - 1)&& !(ops.take (n - 1)).any (fun o=>isApp X o.op) then oa X ops S (ops.take (n - 1)) S fun Sn=>if vC ops (n - 1) S Sn then jV X ops (ops.drop (n - 1)) Sn k else none
 else if Lh ops (n - 1)&& !(ops.take (n - 1)).any (fun o=>isApp X o.op) then oa X ops S (ops.take (n - 1)) S fun Sn=>if vC ops (n - 1) S Sn then runM X ops (n - 1) Sn fun S'=>jV X ops (ops.drop (n - 1+1)) S' k else none
 else if AY ops (pT (isApp X) ops) n then Bu X ops S k (pT (isApp X) ops) n
 else if AY ops (A1 ops) n&& !(ops.take (A1 ops)).any (fun o=>isApp X o.op) then Bu X ops S k (A1 ops) n
 else els
def D4 (σ:Nat→Nat) (o:Oper):Oper:={ o with after:=o.after.map fun e=>{ e with on:=σ e.on } }
def Ir (A:Op→Bool) (ds:List Msk):Nat→List Oper→List Nat→List Nat→List Nat
 | _,[],sp,fl=>fl++sp
 | i,o::r,sp,fl=>bif DW o.op||(A o.op||sp.any fun j=>inM (ds.getD i m0) j) then Ir A ds (i+1) r (sp++[i]) fl else Ir A ds (i+1) r sp (fl++[i])
def GR (A:Op→Bool) (ops:List Oper):List Nat:=List.range (pT A ops)++Ir A (deps ops) (pT A ops) (ops.drop (pT A ops)) [] []
def posOf:List Nat→Nat→Nat
 | [],_=>0
 | x::r,i=>bif Nat.beq x i then 0 else Nat.succ (posOf r i)
def Au (ops:List Oper) (p:List Nat):List Oper:=match ops with
 | []=>[]
 | o0::_=>p.map fun i=>D4 (posOf p) (ops.getD i o0)
def I1 (ops:List Oper) (p:List Nat):Bool:=
 Nat.beq p.length ops.length&&(((List.range ops.length).all fun i=>Nat.blt (posOf p i) ops.length&&Nat.beq (p.getD (posOf p i) ops.length) i)&&
  (((List.range ops.length).all fun j=>Nat.blt (p.getD j ops.length) ops.length&&Nat.beq (posOf p (p.getD j ops.length)) j)&&
    ops.all fun o=>o.guard.isNone&&o.after.toList.all fun e=>Nat.blt e.on ops.length))
def tJ (o:Oper):Oper:={ o with after:=o.after.push ⟨0,.phase⟩ }
def DZ:List Oper→List Oper
 | []=>[]
 | o::r=>o::r.map tJ
def NW (ops:List Oper):Bool:=match ops with
 | []=>false
 | o::_=>(match o.op with | .move _=>true | _=>false)&&(ops.all (fun p=>p.guard.isNone)&&(o.after.isEmpty&&(o.dst.isSome&&(Region.noSelect ops.toArray&&Region.free .any ops.toArray (Array.replicate ops.length false) 0))))
def NX:Op→Option Operand
 | .move x=>some x
 | _=>none
def Ru:Op→Bool
 | .binOp _ _ _ _ _=>true
 | _=>false
def P7:Op→Option (TypeId×Nat×Nat)
 | .lookup t (.tmp m) (.tmp x) false=>some (t,m,x)
 | _=>none
def NF:Op→Option (TypeId×Nat×Nat)
 | .mapEntry t (.tmp m) (.tmp x)=>some (t,m,x)
 | _=>none
def PT:Op→Option Nat
 | .extract (.tmp e) i=>if Nat.beq i 1 then some e else none
 | _=>none
def stOp:Op→Option (Nat×Nat×Nat)
 | .entryStore _ (.tmp m) (.tmp s) (.tmp v)=>some (m,s,v)
 | _=>none
def Pf (d:Nat) (o:Oper):Bool:=o.op.operands.toList.all fun | .tmp t=> !Nat.beq t d | _=>true
def ri (ops:List Oper) (mask:Array Bool) (may:List Nat):Bool:=
 !(Region.ready .any ops.toArray mask).isEmpty&&(Region.ready .any ops.toArray mask).all (inL may)
def Ry (ops:List Oper):Bool:=match ops with
 | [_,_,_,_,_,o5,_,_]=>(NF o5.op).isSome
 | _=>false
def GO (ops:List Oper):Bool:=
 let A:=ops.toArray
 (Region.noSelect A&&ops.all fun o=>o.guard.isNone)&&
 ((Region.free .any A #[false,false,false,false,false,false,false,false] 0&&(Region.ready .any A #[false,false,false,false,false,false,false,false]).contains 0)&&
 ((Region.free .any A #[true,false,false,false,false,false,false,false] 3&&(Region.ready .any A #[true,false,false,false,false,false,false,false]).contains 3)&&
 (ri ops #[true,false,false,true,false,false,false,false] [1]&&
 (ri ops #[true,true,false,true,false,false,false,false] [2,5]&&
 (ri ops #[true,true,true,true,false,false,false,false] [4,5]&&
 (ri ops #[true,true,true,true,true,false,false,false] [5]&&
 (ri ops #[true,true,false,true,false,true,false,false] [2,6]&&
 (ri ops #[true,true,true,true,false,true,false,false] [4,6]&&
 (ri ops #[true,true,true,true,true,true,false,false] [6]&&
 (ri ops #[true,true,false,true,false,true,true,false] [2]&&
 (ri ops #[true,true,true,true,false,true,true,false] [4]&&
 ri ops #[true,true,true,true,true,true,true,false] [7])))))))))))
def OJ (X:Cx) (o4:Oper) (d2 d4 v j:Nat) (kk vv:Ty) (l:List (kk.den×vv.den)) (key:kk.den) (z:vv.den) (S:St) (k:St→Option β):Option β:=
 let S2:=S.put (some d2) (dR vv ((bW l key).getD z))
 cc X o4 S2 jh fun s4=>
 let S4:=S2.put (some d4) s4
 if S.aW j||(S2.aW j||(S4.aW j|| !Nat.beq v d4)) then none else
 match ig S4 [] vv (S4.ev (.tmp d4)) with
 | some y=>k { S4 with objs:=(j,.map kk vv (iY l key y))::S4.objs }
 | none=>none
def OK (X:Cx) (o4:Oper) (t:TypeId) (m x d2 d4 d5 d6 v:Nat) (S3:St) (k:St→Option β):Option β:=
 let S:=(S3.put (some d5) (.v false [.any])).put (some d6) (.v false [.any])
 if !Nat.blt d5 S.tmps.length|| !Nat.blt d6 S.tmps.length then none else
 match X.P.underlying t,S.ev (.tmp m) with
 | some (.map kt et),.v false [.mp j]=>match look S.objs j with
  | some (.map kk vv l)=>match ig S [] kk (S.ev (.tmp x)),sF X.P et vv with
   | some key,some z=>if dQ X.P kt kk then OJ X o4 d2 d4 v j kk vv l key z S k else none
   | _,_=>none
  | _=>none
 | _,_=>none
def L3 (X:Cx) (ops:List Oper) (S:St) (k:St→Option β):Option β:=
 match ops with
 | [o0,o1,o2,o3,o4,o5,o6,o7]=>
  match NX o0.op,P7 o2.op,NX o3.op,NF o5.op,PT o6.op,stOp o7.op with
  | some x0,some (t,m,x),some x3,some (t',m',x'),some e,some (m'',s,v)=>
   match o0.dst,o2.dst,o3.dst,o4.dst,o5.dst,o6.dst,o7.dst with
   | some d0,some d2,some d3,some d4,some d5,some d6,none=>
    if !GO [o0,o1,o2,o3,o4,o5,o6,o7]||(!Ru o4.op||(!Nat.beq t t'||(!Nat.beq m m'||(!Nat.beq m m''||(!Nat.beq x x'||(!Nat.beq e d5||(!Nat.beq s d6||(dup [d2,d4,d5,d6]||(inL [d2,d4,d5,d6] m||(inL [d2,d4,d5,d6] x||(!Pf d5 o4|| !Pf d6 o4))))))))))) then none else
    let S:=(S.put (some d0) (S.ev x0))
    let S:=(S.put (some d3) (S.ev x3))
    dA X o1 S S fun x1=>OK X o4 t m x d2 d4 d5 d6 v (S.app o1.dst x1) k
   | _,_,_,_,_,_,_=>none
  | _,_,_,_,_,_=>none
 | _=>none
def I3 (X:Cx) (ops:List Oper) (S:St) (k:St→Option β):Option β:=
 if Ry ops then L3 X ops S k
 else if ops.any (O3 X)&&NW ops then yh X (DZ ops) S k none
 else yh X ops S k (if I1 ops (GR (isApp X) ops) then yh X (Au ops (GR (isApp X) ops)) S k none else none)
def bu {β γ:Type}:Option (β ⊕ γ)→(γ→Option β)→Option β
 | none,_=>none
 | some (.inl r),_=>some r
 | some (.inr v),f=>f v
def Dd {β γ:Type}:Option β→Option (β ⊕ γ)
 | some r=>some (.inl r)
 | none=>none
def meet {β:Type} (A:Ann) (n:Nat) (S:St):Option (β ⊕ b8 A.cks):=
 match carry A S with
 | some v=>bif Nat.beq S.tmps.length n then some (.inr v) else none
 | none=>none
def QY (x y:Code):Nat:=100000+max (iy x) (iy y)
def PN (c:Code):Nat:=200000+iy c
noncomputable def both {β:Type} (a b:Option β):Option β:=open Classical in if a=b then a else none
def nX:Touch:=⟨false,some []⟩
def Oc (X:Cx) (ops:List Oper) (S:St) (k:St→Option β):Option β:=fT X ops S (fun _=>cG nX S) m0 0 ops S k
def N8 (X:Cx) (ops:List Oper) (dr:Bool) (S:St) (k:St→Option β):Option β:=
 bif dr then (bif Ae ops ops.length&& !(ops.any fun o=>rJ o.op) then Oc X ops S fun Sn=>bif vC ops ops.length S Sn then k Sn else none else none)
 else Oc X ops S k
def jL (A:Ann):List (Nat×Ty):=A.tmps.filterMap fun | (i,.val t)=>some (i,t) | _=>none
def IE:List (Nat×Ty)→Type
 | []=>Unit
 | p::r=>p.2.den×IE r
def He (S:St):(l:List (Nat×Ty))→Option (IE l)
 | []=>some ()
 | p::r=>match ig S [] p.2 (S.tmps.getD p.1 (.v false [.any])) with
  | some x=>match He S r with
   | some y=>some (x,y)
   | none=>none
  | none=>none
def A8:(l:List (Nat×Ty))→IE l→List SV→List SV
 | [],_,T=>T
 | p::r,v,T=>(A8 r v.2 T).set p.1 (dR p.2 v.1)
def pS:List Oper→List SV→List SV
 | [],T=>T
 | o::r,T=>pS r (match o.dst with | some d=>T.set d (.v false [.any]) | none=>T)
noncomputable def den (X:Cx) (anns:List (Nat×Ann)):Code→(β:Type)→St→(Ex→St→Option β)→Option β
 | .skip,_,S,K=>K .normal S
 | .region id ops dr,_,S,K=>match look anns (300000+id) with
  | some A=>(N8 X ops.toList dr S fun S'=>He S' (jL A)).bind fun v=>K .normal { S with tmps:=A8 (jL A) v (pS ops.toList S.tmps) }
  | none=>bif dr then I3 X ops.toList S (K .normal) else jV X ops.toList ops.toList S (K .normal)
 | .seq a b,β,S,K=>den X anns a β S fun e S=>match e with
  | .normal=>den X anns b β S K
  | .exit j=>K (.exit j) S
  | .ret=>K .ret S
 | .cond c x y,β,S,K=>match S.ev c with
  | .v false [.bool b]=>match look anns (QY x y) with
   | some A=>bu (bif b
    then den X anns x (β ⊕ b8 A.cks) S (fun e S'=>match e with
     | .normal=>meet A S.tmps.length S'
     | .exit j=>Dd (K (.exit j) S')
     | .ret=>Dd (K .ret S'))
    else den X anns y (β ⊕ b8 A.cks) S (fun e S'=>match e with
     | .normal=>meet A S.tmps.length S'
     | .exit j=>Dd (K (.exit j) S')
     | .ret=>Dd (K .ret S'))) fun v=>K .normal (head A S.tmps.length v)
   | none=>bif b then den X anns x β S K else den X anns y β S K
  | .v false [.nb b]=>bif b then both (den X anns x β S K) (den X anns y β S K) else den X anns y β S K
  | _=>none
 | .block id c,β,S,K=>match look anns (PN c) with
  | some A=>bu (den X anns c (β ⊕ b8 A.cks) S fun e S'=>match e with
   | .normal=>meet A S.tmps.length S'
   | .exit j=>if Nat.beq j id then meet A S.tmps.length S' else Dd (K (.exit j) S')
   | .ret=>Dd (K .ret S')) fun v=>K .normal (head A S.tmps.length v)
  | none=>den X anns c β S fun e S'=>match e with
   | .normal=>K .normal S'
   | .exit j=>if Nat.beq j id then K .normal S' else K (.exit j) S'
   | .ret=>K .ret S'
 | .loop c,β,S,K=>match look anns (iy c) with
  | some A=>match carry A S with
   | some x=>iter (A.fuel x) x fun x again=>den X anns c β (head A S.tmps.length x) fun e S'=>match e with
    | .normal=>match carry A S' with
     | some y=>bif Nat.beq S'.tmps.length S.tmps.length then again y else none
     | none=>none
    | .exit j=>K (.exit j) S'
    | .ret=>K .ret S'
   | none=>none
  | none=>none
 | .exit id,_,S,K=>K (.exit id) S
 | .ret,_,S,K=>K .ret S
 | _,_,_,_=>none
def pD:Nat:=5000
def pid (i c:Nat):Nat:=nid pD i c
def iK (i:Nat):(ps:List PM)→ew ps→List SV
 | [],_=>[]
 | .val t::r,x=>dR t x.1::iK (i+1) r x.2
 | .row _ _::r,x=> .v false [.row (pid i 0)]::iK (i+1) r x.2
 | .mrow _ _::r,x=> .v false [.row (pid i 0)]::iK (i+1) r x.2
 | .map _ _::r,x=> .v false [.mp (pid i 0)]::iK (i+1) r x.2
 | .box _::r,x=> .v false [.ref (2000+i) 0]::iK (i+1) r x.2
 | .ar _::r,x=>iK (i+1) r x.2
 | .arR _::r,x=>iK (i+1) r x.2
def nc (i:Nat):(ps:List PM)→ew ps→List (Nat×List CV)
 | [],_=>[]
 | .box l::r,x=>(2000+i,Dv pD i 1 l x.1)::nc (i+1) r x.2
 | .val _::r,x=>nc (i+1) r x.2
 | .row _ _::r,x=>nc (i+1) r x.2
 | .mrow _ _::r,x=>nc (i+1) r x.2
 | .map _ _::r,x=>nc (i+1) r x.2
 | .ar _::r,x=>nc (i+1) r x.2
 | .arR _::r,x=>nc (i+1) r x.2
def mA (i:Nat):(ps:List PM)→ew ps→List (Nat×kJ)
 | [],_=>[]
 | .row e t::r,x=>(pid i 0,⟨false,e,t,x.1⟩)::mA (i+1) r x.2
 | .mrow e t::r,x=>(pid i 0,⟨false,e,t,x.1⟩)::mA (i+1) r x.2
 | .box l::r,x=>nO pD i 1 l x.1++mA (i+1) r x.2
 | .val _::r,x=>mA (i+1) r x.2
 | .map _ _::r,x=>mA (i+1) r x.2
 | .ar _::r,x=>mA (i+1) r x.2
 | .arR _::r,x=>mA (i+1) r x.2
def fm (i:Nat):(ps:List PM)→ew ps→List (Nat×mg)
 | [],_=>[]
 | .map k v::r,x=>(pid i 0,.map k v x.1)::fm (i+1) r x.2
 | .box l::r,x=>jT pD i 1 l x.1++fm (i+1) r x.2
 | .ar t::r,x=>(bq,.ar false t x.1)::fm (i+1) r x.2
 | .arR t::r,x=>(bq,.ar true t x.1)::fm (i+1) r x.2
 | .val _::r,x=>fm (i+1) r x.2
 | .row _ _::r,x=>fm (i+1) r x.2
 | .mrow _ _::r,x=>fm (i+1) r x.2
def cM:Nat→List PM→List (aU×Nat)
 | _,[]=>[]
 | i,.row _ _::r=>(.inr (pid i 0),64*i)::cM (i+1) r
 | i,.mrow _ _::r=>(.inr (pid i 0),64*i)::cM (i+1) r
 | i,.map _ _::r=>(.ob (pid i 0),64*i)::cM (i+1) r
 | i,.box l::r=>(.inl (2000+i),64*i)::(dI pD i 1 l++cM (i+1) r)
 | i,.ar _::r=>(.ob bq,64*i)::cM (i+1) r
 | i,.val _::r=>cM (i+1) r
 | i,.arR _::r=>cM (i+1) r
def sX:List PM→Nat
 | []=>0
 | p::r=>(bif p.arg then 1 else 0)+sX r
def Dc (n:Nat) (ar:Option Ty) (ps:List PM) (x:ew ps):St:=
 { tmps:=iK 0 ps x++List.replicate (n - sX ps) (.v false [.any]),boxes:=nc 0 ps x,rows:=mA 0 ps x,
   objs:=match ar with | some t=>(bq,.ar false t [])::fm 0 ps x | none=>fm 0 ps x }
def KE (X:Cx) (S:St):ResultVar→Option SV
 | .tmp t=>some (S.tmps.getD t (.v false [.any]))
 | .cell a T=>match S.tmps.getD a (.v false [.any]) with
  | .v false [.ref b off]=>match look S.boxes b with
   | some l=>jR X.P T l off some
   | none=>none
  | _=>none
def Av (X:Cx) (S:St):List ResultVar→Option (List SV)
 | []=>some []
 | v::r=>match KE X S v with
  | some s=>match Av X S r with
   | some l=>some (s::l)
   | none=>none
  | none=>none
def D8:List RM→List SV→List SV
 | .val _::r,s::q=>s::D8 r q
 | _::r,_::q=>D8 r q
 | _,_=>[]
def LS:List OT→List CV→List Nat
 | .val t::r,cs=>fH (cs.take t.size)++LS r (cs.drop t.size)
 | .row _ _::r,_::cs=>LS r cs
 | .map _ _::r,_::cs=>LS r cs
 | _,_=>[]
def KB (S:St) (i:Nat):List PM→List Nat
 | []=>[]
 | .box l::r=>(match look S.boxes (2000+i) with | some cs=>LS l cs | none=>[])++KB S (i+1) r
 | _::r=>KB S (i+1) r
def KD (S:St):List RM→List SV→List Nat
 | .box l::r,s::q=>(match mu s with | some k=>(match look S.boxes k with | some cs=>LS l cs | none=>[]) | none=>[])++KD S r q
 | _::r,_::q=>KD S r q
 | _,_=>[]
def xw (S:St) (p:RM) (s:SV):Option p.den:=
 match p with
 | .val t=>ig S [] t s
 | .row e t=>match oB s with | some c=>gA S e t c | none=>none
 | .map k v=>match oB s with | some c=>lZ S k v c | none=>none
 | .box l=>match mu s with
  | some k=>match look S.boxes k with
   | some cs=>lC S l cs
   | none=>none
  | none=>none
def uk (S:St) (ps:List PM) (bx:Option (dP ps)):(rs:List RM)→List SV→Option (cE ps rs)
 | [],[]=>bx
 | [],_::_=>none
 | p::r,s::q=>match xw S p s with
  | some x=>match uk S ps bx r q with
   | some y=>some (x,y)
   | none=>none
  | none=>none
 | _::_,[]=>none
def mz (S:St):Nat→(ps:List PM)→Option (dP ps)
 | _,[]=>some ()
 | i,.mrow e t::r=>match gA S e t (.row (pid i 0)),mz S (i+1) r with
  | some x,some y=>some (x,y)
  | _,_=>none
 | i,.map k v::r=>match lZ S k v (.mp (pid i 0)),mz S (i+1) r with
  | some x,some y=>some (x,y)
  | _,_=>none
 | i,.box l::r=>match look S.boxes (2000+i) with
  | some cs=>match lC S l cs,mz S (i+1) r with
   | some x,some y=>some (x,y)
   | _,_=>none
  | none=>none
 | i,.ar t::r=>match qO S false t,mz S (i+1) r with
  | some x,some y=>some (x,y)
  | _,_=>none
 | i,.val _::r=>mz S (i+1) r
 | i,.row _ _::r=>mz S (i+1) r
 | i,.arR _::r=>mz S (i+1) r
def kU (S:St) (c:Nat):List RM→List SV→List (aU×Nat)
 | .row _ _::r,s::q=>(match oB s with | some v=>lB (64*(24+c)) v | none=>[])++kU S (c+1) r q
 | .map _ _::r,s::q=>(match oB s with | some v=>lB (64*(24+c)) v | none=>[])++kU S (c+1) r q
 | .box l::r,s::q=>(match mu s with
  | some k=>(.inl k,64*(24+c))::(match look S.boxes k with | some cs=>mw (64*(24+c)+1) l cs | none=>[])
  | none=>[])++kU S (c+1) r q
 | .val _::r,_::q=>kU S (c+1) r q
 | _,_=>[]
def jj (S:St):Nat→List PM→List (aU×Nat)
 | _,[]=>[]
 | i,.mrow _ _::r=>(.inr (pid i 0),64*i)::jj S (i+1) r
 | i,.map _ _::r=>(.ob (pid i 0),64*i)::jj S (i+1) r
 | i,.box l::r=>(.inl (2000+i),64*i)::(match look S.boxes (2000+i) with | some cs=>mw (64*i+1) l cs | none=>[])++jj S (i+1) r
 | i,.ar _::r=>(.ob bq,64*i)::jj S (i+1) r
 | i,_::r=>jj S (i+1) r
def IA:List RM→List SV→List SV
 | .val .hnd::r,s::q=>s::IA r q
 | _::r,_::q=>IA r q
 | _,_=>[]
def yY (X:Cx) (fn:Func) (rs:List RM) (S:St):St:=
 match Av X S fn.results.toList with
 | some l=>gN S (IA rs l)
 | none=>S
def Qy (X:Cx) (fn:Func) (sp:aA) (S:St):Option (cE sp.ps sp.rs):=
 match Av X S fn.results.toList with
 | some l=>
  let js:=zF (D8 sp.rs l)++(KD S sp.rs l++KB S 0 sp.ps)
  let V:=aB S js
  let ow:=kU V 0 sp.rs l++jj V 0 sp.ps
  if tY ow then none else uk V sp.ps (mz V 0 sp.ps) sp.rs l
 | none=>none
def ends (X:Cx) (fn:Func) (sp:aA) (S:St):Option (cE sp.ps sp.rs):=Qy X fn sp (yY X fn sp.rs S)
def cO:List PM→Bool
 | []=>true
 | .val t::r=>t.aH&&cO r
 | .row _ t::r=>t.aH&&cO r
 | .mrow _ t::r=>t.aH&&cO r
 | .map k v::r=>k.aH&&v.aH&&cO r
 | .box l::r=>(l.all fun | .val t=>t.aH | .row _ t=>t.aH | .map k v=>k.aH&&v.aH)&&cO r
 | _=>false
def n9:List RM→Bool
 | []=>true
 | .val t::r=>t.aH&&n9 r
 | .row _ t::r=>t.aH&&n9 r
 | .map k v::r=>k.aH&&v.aH&&n9 r
 | .box l::r=>(l.all fun | .val t=>t.aH | .row _ t=>t.aH | .map k v=>k.aH&&v.aH)&&n9 r
noncomputable def K9 (X:Cx) (anns:List (Nat×Ann)) (ar:Option Ty) (fn:Func) (sp:aA) (x:ew sp.ps):Option (cE sp.ps sp.rs):=
 if tY (cM 0 sp.ps)||dup ((cM 0 sp.ps).map (·.2))||(ar.isSome&& !(cO sp.ps&&n9 sp.rs)) then none else
 match fn.body with
 | some c=>den X anns c (cE sp.ps sp.rs) (Dc fn.ntmps ar sp.ps x) fun e S=>match e with
  | .ret=>ends X fn sp S
  | .normal=>ends X fn sp S
  | .exit _=>none
 | none=>none
end Go.Dn
namespace Go.Dn
theorem QK (s:ByteArray):bs s.data.toList=s:=by
 cases s;simp[bs]
theorem Ow (l:List UInt8):(bs l).data.toList=l:=by simp[bs]
theorem DQ (G:Gh) (ρ:Env) (v:Value):aJ G ρ (CL v) v:=by
 unfold CL
 split
 case h_3 s=>show _=_;rw[QK]
 all_goals first | rfl | trivial | skip
 split
 ·rename_i g f c h
  simp only[SX,Array.isEmpty_iff] at h
  obtain⟨rfl,rfl⟩:=h
  rfl
 ·trivial
theorem vZ {α β:Type} {R:β→α→Prop} (f:α→β) (h:∀ x,R (f x) x):∀ l:List α,ay R (l.map f) l
 | []=>rfl
 | x::l=>⟨x,l,rfl,h x,vZ f h l⟩
theorem HN (G:Gh) (ρ:Env) (v:Value):bf G ρ (D6 v) v:=by
 unfold D6
 split
 ·rename_i cs
  exact⟨cs.toList,by simp,vZ CL (DQ G ρ) cs.toList⟩
 ·exact DQ G ρ v
theorem eX.ev {G:Gh} {ρ:Env} {S:St} {a:Act} (h:eX G ρ S a) (x:Operand):bf G ρ (S.ev x) (a.eval x):=by
 cases x with
 | tmp t=>
  simp only[St.ev,Act.eval]
  rw[TL]
  cases hs:S.tmps[t]? with
  | none=>exact trivial
  | some s=>exact h.2 t s hs
 | const v=>exact HN G ρ v
 | global g=>exact trivial
 | func f=>rfl
theorem eM {G:Gh} (ρ:Env):∀ {t:Ty} {x:t.den} {cs:List Value},aq G t x cs→ay (aJ G ρ) (unpack t x) cs
 | .int _,_,_,h=>by cases h;exact⟨_,_,rfl,rfl,rfl⟩
 | .bool,_,_,h=>by cases h;exact⟨_,_,rfl,rfl,rfl⟩
 | .str,_,_,h=>by cases h;exact⟨_,_,rfl,rfl,rfl⟩
 | .unit,_,_,h=>h
 | .pair a b,(x,y),_,⟨c,r,e,hx,hy⟩=>by subst e;exact (eM ρ hx).append (eM ρ hy)
 | .st t,x,cs,h=>eM (t:=t) (x:=x) ρ h
 | .slice t,_,_,⟨v,e,h⟩=>by subst e;exact⟨_,_,rfl,h,rfl⟩
 | .ptr t,x,_,⟨b,off,c,T,fz,e,hb,hs,hl⟩=>by subst e;exact⟨_,_,rfl,⟨b,off,c,T,fz,rfl,hb,hs,hl⟩,rfl⟩
 | .clo _ t,x,_,⟨caps,e,h⟩=>by subst e;exact⟨_,_,rfl,⟨caps,rfl,h⟩,rfl⟩
 | .hnd,none,_,h=>by cases h;exact⟨_,_,rfl,⟨rfl,rfl⟩,rfl⟩
 | .hnd,some _,_,⟨b,hb,e⟩=>by subst e;exact⟨_,_,rfl,⟨b,hb,rfl⟩,rfl⟩
theorem xA {G:Gh} (ρ:Env) {t:Ty} {x:t.den} {v:Value} (h:bF G t x v):jr G ρ (Mg t x).1 (Mg t x).2 v:=by
 cases t with
 | st t=>obtain⟨vs,e,hv⟩:=h;exact⟨vs,e,eM ρ hv⟩
 | int _=>cases h;rfl
 | bool=>cases h;rfl
 | str=>cases h;rfl
 | unit=>cases h
 | slice t=>obtain⟨v',e,h⟩:=h;cases e;exact h
 | ptr t=>obtain⟨b,off,c,T,fz,e,hb,hs,hl⟩:=h;cases e;exact⟨b,off,c,T,fz,rfl,hb,hs,hl⟩
 | clo g t=>obtain⟨caps,e,h⟩:=h;cases e;exact⟨caps,rfl,h⟩
 | hnd=>
  cases x with
  | none=>cases h;exact⟨rfl,rfl⟩
  | some i=>obtain⟨b,hb,e⟩:=h;cases e;exact⟨b,hb,rfl⟩
 | pair a b=>
  have hl:=h.len
  have hu:=eM ρ h
  obtain⟨c,hc⟩:∃ c,unpack (.pair a b) x=[c]:=by
   have:=hu.len
   match hq:unpack (.pair a b) x with
   | [c]=>exact⟨c,rfl⟩
   | []=>rw[hq] at this;simp at this
   | _::_::_=>rw[hq] at this;simp at this
  show jr G ρ false (unpack (.pair a b) x) v
  rw[hc] at hu ⊢
  obtain⟨y,e,hy⟩:=hu.single
  cases e
  exact hy
theorem uH {G:Gh} (ρ:Env) {t:Ty} {x:t.den} {v:Value} (h:bF G t x v):bf G ρ (dR t x) v:=by
 have:=xA ρ h
 cases t<;>exact this
theorem gw {a b:Ty} {l:List a.den} {l':List b.den} (h:ox l=some l'):∃ e:a=b,e ▸ l=l':=by
 unfold ox at h
 split at h
 ·rename_i e;exact⟨e,by simpa using h⟩
 ·cases h
theorem Gq {a b:Ty} {x:a.den} {x':b.den} (h:Kt x=some x'):∃ e:a=b,e ▸ x=x':=by
 unfold Kt at h
 split at h
 ·rename_i e;exact⟨e,by simpa using h⟩
 ·cases h
def gv (G:Gh) (ρ:Env) (S:St):Prop:=∀ j r,look S.rows j=some r→r.fz=true→dM G r.t.size (aq G r.t) r.l (ρ.rw j)
theorem Mem.frozen {P0:Program} {C:Fr P0} {G:Gh} {ρ:Env} {S:St} {w:World} (h:Mem C G ρ S w):gv G ρ S:=fun j r hj hf=>by
 have:=h.rows j r hj
 unfold bX at this
 rw[VH hf] at this
 exact this
theorem o8 {G:Gh} {ρ:Env} {t:Ty} {f:CV→Option t.den} (hf:∀ c x v,f c=some x→aJ G ρ c v→aq G t x [v]) {cs:List CV} {x:t.den} {r:List CV} {vs:List Value}
 (h:oZ f cs=some (x,r)) (hv:ay (aJ G ρ) cs vs):∃ a b,vs=a++b∧aq G t x a∧ay (aJ G ρ) r b:=by
 cases cs with
 | nil=>cases h
 | cons c q=>
  obtain⟨y,s,e,hy,hs⟩:=hv
  simp only[oZ] at h
  split at h
  ·rename_i z hz
   cases h
   subst e
   exact⟨[y],s,rfl,hf _ _ _ hz hy,hs⟩
  ·cases h
theorem Pn {G:Gh} {ρ:Env} {S:St} (hF:gv G ρ S) {t:Ty} (c:CV) (l:List t.den) (v:Value) (h:Hz S t c=some l) (hv:aJ G ρ c v):aq G (.slice t) l [v]:=by
 cases c<;>simp only[Hz] at h
 case sl t' l'=>
  obtain⟨et,el⟩:=gw h
  subst et;subst el
  exact⟨v,rfl,hv⟩
 case nils=>
  cases h
  exact⟨v,rfl,none,0,hv,U0 _,Vk _,.inl rfl⟩
 case row j=>
  split at h
  ·rename_i u hu
   split at h
   ·rename_i hfz
    obtain⟨et,el⟩:=gw h
    have hrow:=hF j u hu hfz
    obtain⟨ufz,ue,ut,ul⟩:=u
    dsimp only at et el hrow
    subst et
    subst el
    exact⟨v,rfl,by rw[hv.1];exact hrow⟩
   ·cases h
  ·cases h
 all_goals cases h
theorem AP {k v k' v':Ty} {l:List (k.den×v.den)} {l':List (k'.den×v'.den)} (h:NC l=some l'):∃ (e1:k=k') (e2:v=v'),e1 ▸ e2 ▸ l=l':=by
 unfold NC at h
 split at h
 ·rename_i e;exact⟨e.1,e.2,by simpa using h⟩
 ·cases h
def jq (G:Gh) (ρ:Env) (S:St) (fb:List Nat):Prop:=∀ k cs,inL fb k=true→look S.boxes k=some cs→∃ vs T fz,G (ρ.bx k)=some (.cells (List.toArray vs) T fz)∧ay (aJ G ρ) cs vs
theorem jq.nil (G:Gh) (ρ:Env) (S:St):jq G ρ S []:=fun k cs h=>by simp[inL] at h
theorem uj {α:Type} {x:Option (α×List CV)} {y:α} (h:gh x=some y):x=some (y,[]):=by
 unfold gh at h
 split at h
 ·cases h;rfl
 ·cases h
theorem rO {G:Gh} {ρ:Env} {S:St} {fb:List Nat} (hF:gv G ρ S) (hL:jq G ρ S fb):∀ (t:Ty) (cs:List CV) (x:t.den) (r:List CV) (vs:List Value),ez S fb t cs=some (x,r)→ay (aJ G ρ) cs vs→
 ∃ a b,vs=a++b∧aq G t x a∧ay (aJ G ρ) r b
 | .int k,cs,x,r,vs,h,hv=>o8 (t:= .int k) (fun c x v hc hv=>by
  cases c<;>simp only[Ni] at hc
  case int k' n=>
   split at hc
   ·rename_i ek;subst ek;cases hc;rw[hv];rfl
   ·cases hc
  all_goals cases hc) h hv
 | .bool,cs,x,r,vs,h,hv=>o8 (t:= .bool) (fun c x v hc hv=>by
  cases c<;>simp only[LV] at hc
  case bool b=>cases hc;rw[hv];rfl
  all_goals cases hc) h hv
 | .str,cs,x,r,vs,h,hv=>o8 (t:= .str) (fun c x v hc hv=>by
  cases c<;>simp only[Nj] at hc
  case str b=>cases hc;rw[hv];rfl
  all_goals cases hc) h hv
 | .unit,cs,x,r,vs,h,hv=>by
  simp only[ez] at h;cases h;exact⟨[],vs,rfl,rfl,hv⟩
 | .pair a b,cs,x,r,vs,h,hv=>by
  simp only[ez] at h
  split at h
  ·rename_i y q h1
   split at h
   ·rename_i z q' h2
    cases h
    obtain⟨c1,c2,e1,r1,r2⟩:=rO hF hL a cs y q vs h1 hv
    obtain⟨d1,d2,e2,s1,s2⟩:=rO hF hL b q z r c2 h2 r2
    exact⟨c1++d1,d2,by rw[e1,e2,Tu],⟨c1,d1,rfl,r1,s1⟩,s2⟩
   ·cases h
  ·cases h
 | .st t,cs,x,r,vs,h,hv=>rO hF hL t cs x r vs h hv
 | .slice t,cs,x,r,vs,h,hv=>o8 (t:= .slice t) (fun c x v hc hv=>Pn hF c x v hc hv) h hv
 | .ptr t,cs,x,r,vs,h,hv=>o8 (t:= .ptr t) (fun c x v hc hv=>by
  cases c<;>simp only[IW] at hc
  case cp t' y o=>
   split at hc
   ·rename_i ho
    have:=UW ho
    subst this
    obtain⟨et,el⟩:=Gq hc
    subst et;subst el
    obtain⟨b,off,c,T,fz,e,hb,hs',hl⟩:=hv
    exact⟨b,off,c,T,fz,by rw[e];rfl,hb,hs',hl⟩
   ·cases hc
  case ref k o=>
   split at hc
   ·rename_i ho
    simp only[SX] at ho
    have:=UW ho.1
    subst this
    split at hc
    ·rename_i cs hcs
     have hp:=uj hc
     obtain⟨ws,T,fz,hg,hw⟩:=hL k cs ho.2 hcs
     obtain⟨a,b,e,h1,h2⟩:=rO hF hL t cs x [] ws hp hw
     cases h2
     have hrep:aq G t x ws:=by simpa [e] using h1
     have hlen:=hrep.len
     refine⟨ρ.bx k,0,ws.toArray,T,fz,by rw[hv],hg,by simp;omega, ?_⟩
     have e2:(List.drop 0 ws.toArray.toList).take t.size=ws:=by simp[← hlen]
     rw[e2];exact hrep
    ·cases hc
   ·cases hc
  all_goals cases hc) h hv
 | .clo g t,cs,x,r,vs,h,hv=>o8 (t:= .clo g t) (fun c x v hc hv=>by
  cases c<;>simp only[Ng] at hc
  case clo g' t' y=>
   split at hc
   ·rename_i ho
    have:=UW ho
    subst this
    obtain⟨et,el⟩:=Gq hc
    subst et;subst el
    obtain⟨caps,e,hc⟩:=hv
    exact⟨caps,by rw[e],hc⟩
   ·cases hc
  case fn g' ks=>
   split at hc
   ·rename_i ho
    have:=UW ho
    subst this
    have hp:=uj hc
    have hk:∀ l:List Nat,ay (aJ G ρ) (l.map fun k=> .ref k 0) (l.map fun k=>Value.pointer (some ⟨ρ.bx k,0,none⟩)):=fun l=>by
     induction l with
     | nil=>rfl
     | cons k l ih=>exact⟨_,_,rfl,rfl,ih⟩
    obtain⟨a,b,e,h1,h2⟩:=rO hF hL t _ x [] _ hp (hk ks)
    cases h2
    refine⟨ks.map fun k=>Value.pointer (some ⟨ρ.bx k,0,none⟩),by rw[hv], ?_⟩
    rw[e];simpa using h1
   ·cases hc
  all_goals cases hc) h hv
 | .hnd,cs,x,r,vs,h,hv=>o8 (t:= .hnd) (fun c x v hc hv=>by
  cases c<;>simp only[Nh] at hc
  case hnd o k=>
   split at hc
   ·rename_i ho
    have:=UW ho
    subst this
    cases hc
    cases x with
    | none=>rw[hv.1];rfl
    | some i=>obtain⟨b,hb,e⟩:=hv;exact⟨b,hb,by rw[e]⟩
   ·cases hc
  case nilp=>cases hc;rw[hv];rfl
  all_goals cases hc) h hv
theorem Nk {G:Gh} {ρ:Env} {S:St} (hF:gv G ρ S) (t:Ty) (cs:List CV) (x:t.den) (r:List CV) (vs:List Value) (h:pack S t cs=some (x,r)) (hv:ay (aJ G ρ) cs vs):
 ∃ a b,vs=a++b∧aq G t x a∧ay (aJ G ρ) r b:=rO hF (jq.nil G ρ S) t cs x r vs h hv
theorem Dx {G:Gh} {ρ:Env} {S:St} {fb:List Nat} (hF:gv G ρ S) (hL:jq G ρ S fb) {t:Ty} {cs:List CV} {x:t.den} {vs:List Value} (h:gh (ez S fb t cs)=some x) (hv:ay (aJ G ρ) cs vs):aq G t x vs:=by
 obtain⟨a,b,e,h1,h2⟩:=rO hF hL t cs x [] vs (uj h) hv
 cases h2
 simpa [e] using h1
theorem FX {G:Gh} {ρ:Env} {S:St} (hF:gv G ρ S) {t:Ty} {cs:List CV} {x:t.den} {vs:List Value} (h:gh (pack S t cs)=some x) (hv:ay (aJ G ρ) cs vs):aq G t x vs:=Dx hF (jq.nil G ρ S) h hv
theorem iJ {G:Gh} {ρ:Env} {S:St} {fb:List Nat} (hF:gv G ρ S) (hL:jq G ρ S fb) {t:Ty} {s:SV} {x:t.den} {v:Value} (h:ig S fb t s=some x) (hv:bf G ρ s v):bF G t x v:=by
 unfold ig at h
 split at h
 ·rename_i t cs
  obtain⟨vs,e,hl⟩:=hv
  exact⟨vs,e,Dx hF hL h hl⟩
 ·cases h
 ·rename_i t' s' cs hne
  have hl:aq G t x [v]:=by
   match cs,hv,h with
   | [c],hv,hp=>exact Dx hF hL hp ⟨v,[],rfl,hv,rfl⟩
  cases t with
  | st t=>exact absurd rfl (hne t)
  | _=>exact hl
 ·cases h
end Go.Dn
namespace Go.Dn
structure v8 {P0:Program} (C:Fr P0) (G:Gh) (ρ:Env) (S:St) (w:World) (x:Option aU):Prop where
 agr:Agr G w
 le0:C.G0.le G
 old:∀ b,b<C.n0→¬ C.B b→G b=C.G0 b
 frame:∀ b,b<C.n0→¬ C.B b→w.heap[b]? =C.w0.heap[b]?
 size:C.n0≤w.heap.size
 os:w.os=C.w0.os
 output:w.output=C.w0.output
 pin:∀ k,2000≤k→ρ.bx k=C.pin k
 pinR:∀ k,10000000≤k→ρ.rw k=C.pinR k∧ρ.ob k=C.pinR k
 owned:∀ b o,ρ.own b=some o→G b=none∧b<w.heap.size∧(C.n0≤b∨C.B b)
 boxes:∀ k cs,look S.boxes k=some cs→some (.inl k)≠x→ρ.own (ρ.bx k)=some (.inl k)∧
  ∃ vs T,w.heap[ρ.bx k]? =some (.cells (List.toArray vs) T (0,0))∧ay (aJ G ρ) cs vs
 rows:∀ j r,look S.rows j=some r→some (.inr j)≠x→bX G ρ w j r
 objs:∀ j r,look S.objs j=some r→some (.ob j)≠x→kX G ρ w j r
 hndI:C.noAr→G.hnd=C.G0.hnd∧∀ t l,look S.objs bq≠some (.ar false t l)
variable {P0:Program} {C:Fr P0} {G:Gh} {ρ:Env} {S:St} {w:World}
theorem Mem.toX (h:Mem C G ρ S w) (x:Option aU):v8 C G ρ S w x:=
 ⟨h.agr,h.le0,h.old,h.frame,h.size,h.os,h.output,h.pin,h.pinR,h.owned,fun k cs hk _=>h.boxes k cs hk,fun j r hj _=>h.rows j r hj,fun j r hj _=>h.objs j r hj,h.hndI⟩
theorem v8.toMem {x:Option aU} (h:v8 C G ρ S w x)
 (hb:∀ k cs,look S.boxes k=some cs→some (.inl k)=x→ρ.own (ρ.bx k)=some (.inl k)∧∃ vs T,w.heap[ρ.bx k]? =some (.cells (List.toArray vs) T (0,0))∧ay (aJ G ρ) cs vs)
 (hr:∀ j r,look S.rows j=some r→some (.inr j)=x→bX G ρ w j r)
 (hob:∀ j r,look S.objs j=some r→some (.ob j)=x→kX G ρ w j r):Mem C G ρ S w:=
 ⟨h.agr,h.le0,h.old,h.frame,h.size,h.os,h.output,h.pin,h.pinR,h.owned,fun k cs hk=>by
   by_cases e:some (.inl k)=x
   ·exact hb k cs hk e
   ·exact h.boxes k cs hk e,fun j r hj=>by
   by_cases e:some (.inr j)=x
   ·exact hr j r hj e
   ·exact h.rows j r hj e,fun j r hj=>by
   by_cases e:some (.ob j)=x
   ·exact hob j r hj e
   ·exact h.objs j r hj e,h.hndI⟩
theorem v8.state {S':St} {x:Option aU} (h:v8 C G ρ S w x) (hb:∀ k cs,look S'.boxes k=some cs→some (.inl k)≠x→look S.boxes k=some cs)
 (hr:∀ j r,look S'.rows j=some r→some (.inr j)≠x→look S.rows j=some r)
 (hob:∀ j r,look S'.objs j=some r→some (.ob j)≠x→look S.objs j=some r)
 (hna:∀ t l,look S'.objs bq=some (.ar false t l)→∃ t l,look S.objs bq=some (.ar false t l)):v8 C G ρ S' w x:=
 { h with hndI:=fun hn=>⟨(h.hndI hn).1,fun t l hl=>by obtain⟨t',l',h'⟩:=hna t l hl;exact (h.hndI hn).2 t' l' h'⟩,boxes:=fun k cs hk e=>h.boxes k cs (hb k cs hk e) e,rows:=fun j r hj e=>h.rows j r (hr j r hj e) e,objs:=fun j r hj e=>h.objs j r (hob j r hj e) e }
theorem v8.grow {w':World} {x:Option aU} {blk:Option Nat} (h:v8 C G ρ S w x) (hg:Grow ρ w w' blk) (hx:∀ b,blk=some b→∃ o,x=some o∧ρ.own b=some o):v8 C G ρ S w' x where
 agr:=fun b o hb=>by
  have hl:=h.agr b o hb
  rw[hg.block b (bT hl) (fun e=>by
   obtain⟨o',_,ho⟩:=hx b e.symm
   have:=(h.owned b o' ho).1
   rw[hb] at this;cases this)]
  exact hl
 le0:=h.le0
 old:=h.old
 frame:=fun b hb hB=>by
  rw[hg.block b (U4 hb h.size) (fun e=>by
   obtain⟨o',_,ho⟩:=hx b e.symm
   rcases (h.owned b o' ho).2.2 with h1 | h1
   ·omega
   ·exact hB h1)]
  exact h.frame b hb hB
 size:=U1 h.size hg.size
 os:=hg.os.trans h.os
 output:=hg.output.trans h.output
 pin:=h.pin
 pinR:=h.pinR
 owned:=fun b o ho=>⟨(h.owned b o ho).1,U4 (h.owned b o ho).2.1 hg.size,(h.owned b o ho).2.2⟩
 boxes:=fun k cs hk hne=>by
  obtain⟨h1,vs,T,h2,h3⟩:=h.boxes k cs hk hne
  refine⟨h1,vs,T, ?_,h3⟩
  rw[hg.block _ (bT h2) (fun e=>by
   obtain⟨o',hx',ho⟩:=hx _ e.symm
   rw[h1] at ho
   cases ho
   exact hne hx'.symm)]
  exact h2
 rows:=fun j r hj hne=>(h.rows j r hj hne).kept hg (fun b e ho=>by
  obtain⟨o',hx',ho'⟩:=hx b e
  rw[ho] at ho'
  cases ho'
  exact hne hx'.symm)
 objs:=fun j r hj hne=>(h.objs j r hj hne).kept hg (fun b e=>by
  obtain⟨o',_,ho'⟩:=hx b e
  exact (h.owned b o' ho').1) (fun b e ho=>by
  obtain⟨o',hx',ho'⟩:=hx b e
  rw[ho] at ho'
  cases ho'
  exact hne hx'.symm)
 hndI:=h.hndI
theorem v8.change {G':Gh} {ρ':Env} {x:Option aU} (h:v8 C G ρ S w x) (hG:G.le G') (hh:G'.hnd=G.hnd) (hagr:Agr G' w) (hold:∀ b,b<C.n0→¬ C.B b→G' b=C.G0 b)
 (hpin:∀ k,2000≤k→ρ'.bx k=ρ.bx k) (hpinR:∀ k,10000000≤k→ρ'.rw k=ρ.rw k∧ρ'.ob k=ρ.ob k) (hs:∀ p,p∈S.boxes→∀ c,c∈p.2→c.dO ρ ρ')
 (howned:∀ b o,ρ'.own b=some o→G' b=none∧b<w.heap.size∧(C.n0≤b∨C.B b))
 (hbx:∀ k cs,look S.boxes k=some cs→some (.inl k)≠x→ρ'.bx k=ρ.bx k∧(ρ.own (ρ.bx k)=some (.inl k)→ρ'.own (ρ.bx k)=some (.inl k)))
 (hrw:∀ j r,look S.rows j=some r→some (.inr j)≠x→ρ'.rw j=ρ.rw j∧∀ b,ρ.own b=some (.inr j)→ρ'.own b=some (.inr j))
 (hob:∀ j r,look S.objs j=some r→some (.ob j)≠x→ρ'.ob j=ρ.ob j∧ρ'.st j=ρ.st j∧∀ b,ρ.own b=some (.ob j)→ρ'.own b=some (.ob j)):v8 C G' ρ' S w x where
 agr:=hagr
 le0:=Gh.le_trans h.le0 hG
 old:=hold
 frame:=h.frame
 size:=h.size
 os:=h.os
 output:=h.output
 pin:=fun k hk=>(hpin k hk).trans (h.pin k hk)
 pinR:=fun k hk=>⟨(hpinR k hk).1.trans (h.pinR k hk).1,(hpinR k hk).2.trans (h.pinR k hk).2⟩
 owned:=howned
 boxes:=fun k cs hk hne=>by
  obtain⟨h1,vs,T,h2,h3⟩:=h.boxes k cs hk hne
  obtain⟨e1,e2⟩:=hbx k cs hk hne
  rw[e1]
  exact⟨e2 h1,vs,T,h2,ay.rK (fun c hc y=>aJ.congr hG (hs (k,cs) (lV hk) c hc)) h3⟩
 rows:=fun j r hj hne=>by
  obtain⟨e1,e2⟩:=hrw j r hj hne
  exact (h.rows j r hj hne).congr hG e1 e2
 objs:=fun j r hj hne=>by
  obtain⟨e1,e2,e3⟩:=hob j r hj hne
  exact (h.objs j r hj hne).congr hG hh e1 e2 e3
 hndI:=fun hn=>⟨hh.trans (h.hndI hn).1,(h.hndI hn).2⟩
theorem Nf (h:Mem C G ρ S w):ρ.own w.heap.size=none:=by
 cases ho:ρ.own w.heap.size with
 | none=>rfl
 | some o=>have:=(h.owned _ o ho).2.1;omega
theorem C8 (h:Mem C G ρ S w):G w.heap.size=none:=by
 cases ho:G w.heap.size with
 | none=>rfl
 | some o=>have:=bT (h.agr _ o ho);omega
theorem Grow.alloc (ρ:Env) (w:World) (o:Obj):Grow ρ w (w.alloc o) none:=
 ⟨rfl,rfl,by simp,fun b hb _=>heap_alloc_old w o b hb⟩
def Env.iI (ρ:Env) (d b:Nat):Env:=⟨fun i=>if i=d then b else ρ.bx i,ρ.rw,fun i=>if i=b then some (.inl d) else ρ.own i,ρ.ob,ρ.st⟩
theorem J2 {ρ:Env} {k b:Nat} (own:Nat→Option aU) {c:CV} (hc:c.bN k=false):c.dO ρ ⟨fun i=>if i=k then b else ρ.bx i,ρ.rw,own,ρ.ob,ρ.st⟩:=
 ⟨fun i hi=>by
   show (if i=k then b else ρ.bx i)=ρ.bx i
   by_cases e:i=k
   ·subst e;rw[hc] at hi;cases hi
   ·simp[e],fun _ _=>rfl,fun _ _=>rfl,fun _ _=>rfl⟩
theorem Mod.iI {a:Act} {d:Nat} {cs:List CV} {vs:List Value} {T:TypeId} (h:Mod C G ρ S w a) (hd:d<2000) (hn:S.bN d=false) (hcs:∀ c,c∈cs→c.bN d=false) (hv:ay (aJ G ρ) cs vs):
 Mod C G (ρ.iI d w.heap.size) { tmps:=S.tmps.set d (.v false [.ref d 0]),boxes:=(d,cs)::S.boxes,rows:=S.rows,objs:=S.objs } (w.alloc (.cells vs.toArray T))
  (a.put (some d) (.pointer (some ⟨w.heap.size,0,none⟩))):=by
 have hown:=Nf h.toMem
 have hgh:=C8 h.toMem
 have hsame:S.dO ρ (ρ.iI d w.heap.size):=Kl _ hn
 have hX:=((h.toMem.toX (some (.inl d))).grow (Grow.alloc ρ w (.cells vs.toArray T)) (by simp)).change (G':=G) (ρ':=ρ.iI d w.heap.size) (Gh.le_refl G) rfl
  (fun b o hb=>by rw[heap_alloc_old _ _ _ (bT (h.agr b o hb))];exact h.agr b o hb) h.old (fun k hk=>by simp[Env.iI,show ¬ k=d by omega]) (fun _ _=>⟨rfl,rfl⟩) hsame.boxes
  (fun b o ho=>by
    simp only[Env.iI] at ho
    by_cases e:b=w.heap.size
    ·subst e;exact⟨hgh,by simp,.inl h.size⟩
    ·rw[VG e] at ho;exact⟨(h.owned b o ho).1,by have:=(h.owned b o ho).2.1;simp;omega,(h.owned b o ho).2.2⟩)
  (fun k cs' hk hne=>by
    have hkd:k≠d:=fun e=>hne (by rw[e])
    refine⟨by simp[Env.iI,hkd],fun ho=> ?_⟩
    have:ρ.bx k≠w.heap.size:=fun e=>by rw[e,hown] at ho;cases ho
    simp[Env.iI,this,ho])
  (fun j r hj _=>⟨rfl,fun b ho=>by
    have:b≠w.heap.size:=fun e=>by rw[e,hown] at ho;cases ho
    simp[Env.iI,this,ho]⟩)
  (fun j r hj _=>⟨rfl,rfl,fun b ho=>by
    have:b≠w.heap.size:=fun e=>by rw[e,hown] at ho;cases ho
    simp[Env.iI,this,ho]⟩)
 have hX':=hX.state (S':={ tmps:=S.tmps.set d (.v false [.ref d 0]),boxes:=(d,cs)::S.boxes,rows:=S.rows,objs:=S.objs })
  (fun k cs' hk hne=>by
    have hkd:d≠k:=fun e=>hne (by rw[e])
    simpa [ai,hkd] using hk) (fun j r hj _=>hj) (fun j r hj _=>hj) (fun t l h=>⟨t,l,h⟩)
 have hM:=hX'.toMem (fun k cs' hk e=>by
  cases e
  simp only[ai,VI,Option.some.injEq] at hk
  subst hk
  refine⟨by simp[Env.iI],vs,T,by simp only[Env.iI,VI];exact heap_alloc_new w _, ?_⟩
  exact ay.rK (fun c hc y=>aJ.congr (Gh.le_refl G) (J2 _ (hcs c hc))) hv) (fun j r hj e=>by cases e) (fun j r hj e=>by cases e)
 exact { hM with
  tmps:=(h.tmps.congr (Gh.le_refl G) hsame).put (some d) (fun _ _=>by show _=_;simp[Env.iI])
  defers:=h.defers }
theorem z7 {ρ':Env} (hb:ρ'.bx=ρ.bx) (hr:ρ'.rw=ρ.rw) (ho:ρ'.ob=ρ.ob) (hs:ρ'.st=ρ.st) (c:CV):c.dO ρ ρ':=⟨fun k _=>by rw[hb],fun k _=>by rw[hr],fun k _=>by rw[ho],fun k _=>by rw[hs]⟩
theorem jr.same {ρ':Env} (hb:ρ'.bx=ρ.bx) (hr:ρ'.rw=ρ.rw) (ho:ρ'.ob=ρ.ob) (hs:ρ'.st=ρ.st) {s:SV}:s.dO ρ ρ':=by
 cases s with
 | v a cs=>exact fun c _=>z7 hb hr ho hs c
 | tup l=>exact fun p _ c _=>z7 hb hr ho hs c
theorem gb {α:Type} (l:List (Nat×α)) (d i:Nat):look (l.filter fun p=> !Nat.beq p.1 d) i=if i=d then none else look l i:=by
 induction l with
 | nil=>simp[look]
 | cons p r ih=>
  obtain⟨j,y⟩:=p
  by_cases e:j=d
  ·subst e
   have:(List.filter (fun p:Nat×α=> !Nat.beq p.1 j) ((j,y)::r))=r.filter fun p=> !Nat.beq p.1 j:=by simp
   rw[this,ih,ai]
   by_cases e':i=j
   ·simp[e']
   ·have:¬ j=i:=fun h=>e' h.symm
    simp[e',this]
  ·have hb:Nat.beq j d=false:=by
    cases hb:Nat.beq j d with
    | false=>rfl
    | true=>exact absurd (UW hb) e
   have:(List.filter (fun p:Nat×α=> !Nat.beq p.1 d) ((j,y)::r))=(j,y)::r.filter fun p=> !Nat.beq p.1 d:=by simp[hb]
   rw[this,ai,ai,ih]
   by_cases e':j=i
   ·subst e';simp[e]
   ·simp[e']
def Env.putRow (ρ:Env) (d:Nat) (v:Value):Env:=⟨ρ.bx,fun i=>if i=d then v else ρ.rw i,fun b=>if v.ownBlock=some b then some (.inr d) else ρ.own b,ρ.ob,ρ.st⟩
theorem Mod.putRow {a:Act} {w':World} {blk jo:Option Nat} {d:Nat} {v:Value} {r:kJ} {R:List (Nat×kJ)} (h:Mod C G ρ S w a) (hg:Grow ρ w w' blk)
 (hblk:∀ b,blk=some b→∃ j,jo=some j∧ρ.own b=some (.inr j))
 (hR:∀ i q,look R i=some q→look S.rows i=some q∧jo≠some i) (hd2:d<2000) (hd:S.aT d=false)
 (hf:r.fz=false) (xs:List Value) (hown:w'.ownsRow 0 r.e r.t.size v r.l.length xs) (hrep:bA (aq G r.t) r.l xs)
 (hnew:∀ b,v.ownBlock=some b→(w.heap.size≤b∧b<w'.heap.size)∨blk=some b):
 Mod C G (ρ.putRow d v) { tmps:=S.tmps.set d (.v false [.row d]),boxes:=S.boxes,rows:=(d,r)::R,objs:=S.objs } w' (a.put (some d) v):=by
 have hsame:S.dO ρ (ρ.putRow d v):=BU _ hd
 have hfree:∀ b,v.ownBlock=some b→ρ.own b=none∨∃ j,jo=some j∧ρ.own b=some (.inr j):=fun b hb=>by
  rcases hnew b hb with ⟨h1,_⟩ | h1
  ·left
   cases ho:ρ.own b with
   | none=>rfl
   | some o=>have:=(h.owned b o ho).2.1;omega
  ·exact .inr (hblk b h1)
 have hghost:∀ b,v.ownBlock=some b→G b=none∧b<w'.heap.size∧(C.n0≤b∨C.B b):=fun b hb=>by
  rcases hnew b hb with ⟨h1,h2⟩ | h1
  ·refine⟨?_,h2,.inl (U1 h.size h1)⟩
   cases hG:G b with
   | none=>rfl
   | some o=>have:=bT (h.agr b o hG);omega
  ·obtain⟨j,_,ho⟩:=hblk b h1
   have:=h.owned b _ ho
   exact⟨this.1,U4 this.2.1 hg.size,this.2.2⟩
 have hX0:=(h.toMem.toX (jo.map .inr)).grow hg (fun b hb=>by
  obtain⟨j,e,ho⟩:=hblk b hb
  exact⟨.inr j,by rw[e];rfl,ho⟩)
 have hX1:=hX0.state (S':={ tmps:=S.tmps,boxes:=S.boxes,rows:=R.filter fun p=> !Nat.beq p.1 d,objs:=S.objs }) (fun k cs hk _=>hk) (fun j q hj _=>by
  simp only[gb] at hj
  split at hj
  ·cases hj
  ·exact (hR j q hj).1) (fun j q hj _=>hj) (fun t l h=>⟨t,l,h⟩)
 have hX2:=hX1.change (G':=G) (ρ':=ρ.putRow d v) (Gh.le_refl G) rfl hX0.agr hX0.old (fun _ _=>rfl) (fun k hk=>⟨by simp[Env.putRow,show ¬ k=d by omega],rfl⟩) hsame.boxes
  (fun b o ho=>by
    simp only[Env.putRow] at ho
    by_cases e:v.ownBlock=some b
    ·exact hghost b e
    ·rw[VG e] at ho;exact hX0.owned b o ho)
  (fun k cs hk _=>⟨rfl,fun ho=>by
    have:v.ownBlock≠some (ρ.bx k):=fun e=>by
     rcases hfree _ e with h1 | ⟨j,_,h1⟩
     ·rw[ho] at h1;cases h1
     ·rw[ho] at h1;cases h1
    simp[Env.putRow,this,ho]⟩)
  (fun j q hj _=>by
    simp only[gb] at hj
    split at hj
    ·cases hj
    ·rename_i hjd
     obtain⟨hj1,hj2⟩:=hR j q hj
     refine⟨by simp[Env.putRow,hjd],fun b ho=> ?_⟩
     have:v.ownBlock≠some b:=fun e=>by
      rcases hfree _ e with h1 | ⟨i,e1,h1⟩
      ·rw[ho] at h1;cases h1
      ·rw[ho] at h1;cases h1;exact hj2 e1
     simp[Env.putRow,this,ho])
  (fun j q hj _=>⟨rfl,rfl,fun b ho=>by
    have:v.ownBlock≠some b:=fun e=>by
     rcases hfree _ e with h1 | ⟨i,_,h1⟩
     ·rw[ho] at h1;cases h1
     ·rw[ho] at h1;cases h1
    simp[Env.putRow,this,ho]⟩)
 refine { agr:=hX2.agr,le0:=hX2.le0,old:=hX2.old,frame:=hX2.frame,size:=hX2.size,os:=hX2.os,output:=hX2.output,pin:=hX2.pin,pinR:=hX2.pinR,owned:=hX2.owned,boxes:= ?_,rows:= ?_,objs:=fun j q hj=>hX2.objs j q hj (by cases jo<;>simp),hndI:=hX2.hndI,tmps:= ?_,defers:=h.defers }
 ·intro k cs hk
  exact hX2.boxes k cs hk (by cases jo<;>simp)
 ·intro j q hj
  simp only[ai] at hj
  split at hj
  ·rename_i e
   subst e
   cases hj
   unfold bX
   rw[VG (by simp[hf])]
   refine⟨xs,by simpa [Env.putRow] using hown,hrep,fun b hb=> ?_⟩
   simp only[Env.putRow,VI] at hb ⊢
   rw[VH hb]
  ·rename_i e
   have hjd:¬ j=d:=fun h=>e h.symm
   exact hX2.rows j q (by simp only[gb,VG hjd];exact hj) (by
    have:=(hR j q hj).2
    cases jo with
    | none=>simp
    | some i=>simp only[Vq,ne_eq,Option.some.injEq,aU.inr.injEq];exact fun e=>this (by rw[e]))
 ·exact (h.tmps.congr (Gh.le_refl G) hsame).put (some d) (fun _ _=>⟨by simp[Env.putRow],by
   rcases hown.2 with ⟨e,_⟩ | ⟨g,cap,cur,e,_⟩
   ·exact⟨_,_,_,e⟩
   ·exact⟨_,_,_,e⟩⟩)
theorem Mod.L6 {a:Act} {w':World} {k:Nat} {cs:List CV} {vs:List Value} {T:TypeId} (h:Mod C G ρ S w a) (hk:∃ l,look S.boxes k=some l) (hg:Grow ρ w w' (some (ρ.bx k)))
 (hw:w'.heap[ρ.bx k]? =some (.cells vs.toArray T (0,0))) (hv:ay (aJ G ρ) cs vs):Mod C G ρ { S with boxes:=(k,cs)::S.boxes } w' a:=by
 obtain⟨l,hl⟩:=hk
 have ho:=(h.boxes k l hl).1
 have hX:=((h.toMem.toX (some (.inl k))).grow hg (fun b hb=>by cases hb;exact⟨.inl k,rfl,ho⟩)).state (S':={ S with boxes:=(k,cs)::S.boxes })
  (fun i c hi hne=>by
    have:¬ k=i:=fun e=>hne (by rw[e])
    simpa [ai,this] using hi) (fun j r hj _=>hj) (fun j r hj _=>hj) (fun t l h=>⟨t,l,h⟩)
 have hM:=hX.toMem (fun i c hi e=>by
  cases e
  simp only[ai,VI,Option.some.injEq] at hi
  subst hi
  exact⟨ho,vs,T,hw,hv⟩) (fun j r hj e=>by cases e) (fun j r hj e=>by cases e)
 exact { hM with tmps:=h.tmps,defers:=h.defers }
theorem Mod.setRow {a:Act} {w':World} {j:Nat} {q r:kJ} (h:Mod C G ρ S w a) (hj:look S.rows j=some q) (hq:q.fz=false) (hr:r.fz=false) {b:Nat} (hb:(ρ.rw j).ownBlock=some b) (hg:Grow ρ w w' (some b))
 (xs:List Value) (hown:w'.ownsRow 0 r.e r.t.size (ρ.rw j) r.l.length xs) (hrep:bA (aq G r.t) r.l xs):Mod C G ρ { S with rows:=(j,r)::S.rows } w' a:=by
 have hrow:=h.rows j q hj
 unfold bX at hrow
 rw[VG (by simp[hq])] at hrow
 obtain⟨_,_,_,ho⟩:=hrow
 have hX:=((h.toMem.toX (some (.inr j))).grow hg (fun b' hb'=>by cases hb';exact⟨.inr j,rfl,ho b hb⟩)).state (S':={ S with rows:=(j,r)::S.rows }) (fun k cs hk _=>hk)
  (fun i c hi hne=>by
    have:¬ j=i:=fun e=>hne (by rw[e])
    simpa [ai,this] using hi) (fun j r hj _=>hj) (fun t l h=>⟨t,l,h⟩)
 have hM:=hX.toMem (fun k cs hk e=>by cases e) (fun i c hi e=>by
  cases e
  simp only[ai,VI,Option.some.injEq] at hi
  subst hi
  unfold bX
  rw[VG (by simp[hr])]
  exact⟨xs,hown,hrep,ho⟩) (fun j r hj e=>by cases e)
 exact { hM with tmps:=h.tmps,defers:=h.defers }
structure Fz (G G':Gh) (ρ ρ':Env):Prop where
 le:G.le G'
 bx:ρ'.bx=ρ.bx
 rw:ρ'.rw=ρ.rw
 ob:ρ'.ob=ρ.ob
 st:ρ'.st=ρ.st
 hnd:G'.hnd=G.hnd
 own:∀ b o,ρ'.own b=some o→ρ.own b=some o
 new:∀ b,G' b≠G b→∃ j,ρ.own b=some (.inr j)
theorem Fz.refl (G:Gh) (ρ:Env):Fz G G ρ ρ:=⟨Gh.le_refl G,rfl,rfl,rfl,rfl,rfl,fun _ _ h=>h,fun _ h=>absurd rfl h⟩
theorem Fz.trans {G1 G2 G3:Gh} {r1 r2 r3:Env} (h:Fz G1 G2 r1 r2) (k:Fz G2 G3 r2 r3):Fz G1 G3 r1 r3:=
 ⟨Gh.le_trans h.le k.le,k.bx.trans h.bx,k.rw.trans h.rw,k.ob.trans h.ob,k.st.trans h.st,k.hnd.trans h.hnd,fun b o x=>h.own b o (k.own b o x),fun b hb=>by
   by_cases e:G3 b=G2 b
   ·exact h.new b (fun e'=>hb (e.trans e'))
   ·obtain⟨j,hj⟩:=k.new b e;exact⟨j,h.own b _ hj⟩⟩
def sr (rs:List (Nat×kJ)) (j:Nat):List (Nat×kJ):=match look rs j with | some q=>(j,{ q with fz:=true })::rs | none=>rs
theorem Mod.sr {a:Act} (h:Mod C G ρ S w a) (j:Nat):∃ G' ρ',Fz G G' ρ ρ'∧Mod C G' ρ' { S with rows:=sr S.rows j } w a:=by
 unfold Dn.sr
 cases hj:look S.rows j with
 | none=>exact⟨G,ρ,Fz.refl G ρ,{ h.toMem.Am (S':={ S with rows:=S.rows }) rfl rfl rfl with tmps:=h.tmps,defers:=h.defers }⟩
 | some q=>
  have hrow:=h.rows j q hj
  have same:dM G q.t.size (aq G q.t) q.l (ρ.rw j)→∃ G' ρ',Fz G G' ρ ρ'∧Mod C G' ρ' { S with rows:=(j,{ q with fz:=true })::S.rows } w a:=fun hs=>by
   refine⟨G,ρ,Fz.refl G ρ,{ h with rows:= ?_,tmps:=h.tmps }⟩
   intro i r hi
   simp only[ai] at hi
   split at hi
   ·rename_i e;subst e;cases hi;unfold bX;simpa using hs
   ·exact h.rows i r hi
  by_cases hf:q.fz=true
  ·apply same
   unfold bX at hrow;rw[VH hf] at hrow;exact hrow
  ·have hf':q.fz=false:=by simpa using hf
   unfold bX at hrow
   rw[VG hf] at hrow
   obtain⟨xs,⟨hlen,hn | ⟨g,cap,cur,hv,_,hg,hnc,hcm,hcs,htake⟩⟩,hl,ho⟩:=hrow
   ·apply same
    have:q.l=[]:=TI hn.2
    exact⟨none,0,by rw[hn.1,this];rfl,by rw[this];simp,Vk _,.inl this⟩
   ·have hog:=ho g (by rw[hv];rfl)
    have hgn:=h.owned g _ hog
    let G':Gh:=⟨fun b=>if b=g then w.heap[g]? else G b,G.hnd⟩
    let ρ':Env:=⟨ρ.bx,ρ.rw,fun b=>if b=g then none else ρ.own b,ρ.ob,ρ.st⟩
    have hle:G.le G':=⟨fun b o hb=>by
     show (if b=g then w.heap[g]? else G b)=some o
     by_cases e:b=g
     ·subst e;rw[hgn.1] at hb;cases hb
     ·rw[VG e];exact hb,fun _ _ h=>h⟩
    have hfz:Fz G G' ρ ρ':=⟨hle,rfl,rfl,rfl,rfl,rfl,fun b o ho'=>by
     simp only[ρ'] at ho'
     by_cases e:b=g
     ·simp[e] at ho'
     ·simpa [e] using ho',fun b hb=>by
     by_cases e:b=g
     ·exact⟨j,by rw[e];exact hog⟩
     ·simp[G',e] at hb⟩
    have hX:=(h.toMem.toX (some (.inr j))).change (G':=G') (ρ':=ρ') hle rfl
     (fun b o hb=>by
       simp only[G'] at hb
       by_cases e:b=g
       ·subst e;simpa using hb
       ·rw[VG e] at hb;exact h.agr b o hb)
     (fun b hb hB=>by
       have e:b≠g:=fun e=>by
        subst e
        rcases hgn.2.2 with h1 | h1
        ·omega
        ·exact hB h1
       simp only[G',VG e];exact h.old b hb hB)
     (fun _ _=>rfl) (fun _ _=>⟨rfl,rfl⟩) (fun p _ c _=>z7 (ρ:=ρ) (ρ':=ρ') rfl rfl rfl rfl c)
     (fun b o ho'=>by
       have e:b≠g:=fun e=>by simp[ρ',e] at ho'
       have:=h.owned b o (hfz.own b o ho')
       exact⟨by simp only[G',VG e];exact this.1,this.2⟩)
     (fun k cs hk _=>⟨rfl,fun ho'=>by
       have e:ρ.bx k≠g:=fun e=>by rw[e,hog] at ho';cases ho'
       simp only[ρ',VG e];exact ho'⟩)
     (fun i r hi hne=>⟨rfl,fun b ho'=>by
       have e:b≠g:=fun e=>by rw[e,hog] at ho';cases ho';exact hne rfl
       simp only[ρ',VG e];exact ho'⟩)
     (fun i r hi hne=>⟨rfl,rfl,fun b ho'=>by
       have e:b≠g:=fun e=>by rw[e,hog] at ho';cases ho'
       simp only[ρ',VG e];exact ho'⟩)
    refine⟨G',ρ',hfz, ?_⟩
    have hX':=hX.state (S':={ S with rows:=(j,{ q with fz:=true })::S.rows }) (fun k cs hk _=>hk) (fun i c hi hne=>by
     have:¬ j=i:=fun e=>hne (by rw[e])
     simpa [ai,this] using hi) (fun j r hj _=>hj) (fun t l h=>⟨t,l,h⟩)
    have hM:=hX'.toMem (fun k cs hk e=>by cases e) (fun i c hi e=>by
     cases e
     simp only[ai,VI,Option.some.injEq] at hi
     subst hi
     unfold bX
     rw[VH rfl]
     refine⟨some ⟨g,0,none⟩,cap,hv,hnc,hcm,.inr ⟨g,0,cur,q.e,(0,0),rfl,by simp[G',hg], ?_, ?_⟩⟩
     ·simp only[Vj];rw[hcs];exact Vc _ hnc
     ·simp only[TG];rw[htake];exact hl.mono (aq.mono hle q.t)) (fun j r hj e=>by cases e)
    exact { hM with tmps:=h.tmps.congr hle ⟨fun s _=>jr.same (ρ:=ρ) (ρ':=ρ') rfl rfl rfl rfl,fun p _ c _=>z7 (ρ:=ρ) (ρ':=ρ') rfl rfl rfl rfl c⟩,defers:=h.defers }
theorem BN (S:St) (js:List Nat):aB S js={ S with rows:=js.foldl sr S.rows }:=rfl
theorem Mod.freeze {a:Act}:∀ (js:List Nat) {G:Gh} {ρ:Env} {S:St},Mod C G ρ S w a→∃ G' ρ',Fz G G' ρ ρ'∧Mod C G' ρ' (aB S js) w a
 | [],G,ρ,S,h=>⟨G,ρ,Fz.refl G ρ,h⟩
 | j::js,G,ρ,S,h=>by
  obtain⟨G1,ρ1,f1,h1⟩:=h.sr j
  obtain⟨G2,ρ2,f2,h2⟩:=Mod.freeze js h1
  exact⟨G2,ρ2,f1.trans f2,h2⟩
end Go.Dn
namespace Go.Dn
theorem fQ {β:Type} {b:Bool} {x:Option β} {r:β} (h:chk b x=some r):b=true∧x=some r:=by
 cases b with
 | true=>exact⟨rfl,h⟩
 | false=>cases h
theorem bind_some {α β:Type} {x:Option α} {f:α→Option β} {r:β} (h:x.bind f=some r):∃ y,x=some y∧f y=some r:=by
 cases x with
 | none=>cases h
 | some y=>exact⟨y,rfl,h⟩
variable {P:Program} {G:Gh} {ρ:Env} {w:World} {β:Type}
theorem Oo {op:BinOp} {ka kb:IntKind} {x y:Int} {k:CV→Option β} {r:β} (h:KR op ka x kb y k=some r):
 ∃ c,k c=some r∧∀ (P:Program) (G:Gh) (ρ:Env) (w:World) (t:TypeId),∃ v,(binOp op t (.int ka x) (.int kb y)).run P w= .ok v w∧aJ G ρ c v:=by
 unfold KR at h
 cases op
 case shl=>
  obtain⟨h1,h2⟩:=fQ h
  exact⟨_,h2,fun P G ρ w t=>⟨_,by simp only[VB] at h1;simp[binOp,Op.shift,show ¬ y<0 by omega],rfl⟩⟩
 case shr=>
  obtain⟨h1,h2⟩:=fQ h
  exact⟨_,h2,fun P G ρ w t=>⟨_,by simp only[VB] at h1;simp[binOp,Op.shift,show ¬ y<0 by omega],rfl⟩⟩
 all_goals
  simp only at h
  split at h
  ·cases h
  ·rename_i hk
   have hk':ka=kb:=by simpa using hk
   subst hk'
   first
    | cases h
    | exact⟨_,h,fun P G ρ w t=>⟨_,by simp[binOp,Op.intArith,Op.intCmp,Op.intBits],rfl⟩⟩
    | (obtain⟨h1,h2⟩:=fQ h
       exact⟨_,h2,fun P G ρ w t=>⟨_,by simp only[bne_iff_ne,ne_eq] at h1;simp[binOp,Op.intDiv,h1],rfl⟩⟩)
theorem KU (l:List UInt8):(bs l).toList=l:=by rw[ByteArray.toList_eq,Ow]
theorem z6 (l:List UInt8):(bs l).size=l.length:=by simp[bs,ByteArray.size]
theorem Rv (a b:List UInt8):bs a++bs b=bs (a++b):=by
 apply ByteArray.ext
 apply Array.ext'
 simp[bs]
theorem Oq {op:BinOp} {x y:List UInt8} {k:CV→Option β} {r:β} (h:KS op x y k=some r):
 ∃ c,k c=some r∧∀ (P:Program) (G:Gh) (ρ:Env) (w:World) (t:TypeId),∃ v,(binOp op t (.string (bs x)) (.string (bs y))).run P w= .ok v w∧aJ G ρ c v:=by
 unfold KS at h
 cases op
 case add=>
  obtain⟨h1,h2⟩:=fQ h
  refine⟨_,h2,fun P G ρ w t=>⟨_, ?_,rfl⟩⟩
  simp only[VB] at h1
  have:¬ ((((bs x).size+(bs y).size:Nat):Int)>IntKind.i64.max):=by
   simp only[maxLen] at h1
   rw[z6,z6]
   simp[IntKind.max,IntKind.signed,IntKind.bits]
   omega
  simp only[binOp,Op.stringOp,this,VF,Rv]
  rfl
 all_goals first
  | cases h
  | exact⟨_,h,fun P G ρ w t=>⟨_,by simp only[binOp,Op.stringOp,KU];rfl,rfl⟩⟩
theorem Mt {op:BinOp} {t:TypeId} {x y:Operand} {k:IntKind} {n:Int} {v:Value}:(eqGuard op t x y (.int k n) v).run P w= .ok () w:=by
 cases op<;>cases v<;>rfl
theorem Mu {op:BinOp} {t:TypeId} {x y:Operand} {s:ByteArray} {v:Value}:(eqGuard op t x y (.string s) v).run P w= .ok () w:=by
 cases op<;>cases v<;>rfl
theorem mK {t:TypeId} {d:TypeDesc} (h:P.underlying t=some d):(isAgg t).run P w= .ok (nL P t) w:=by
 simp only[isAgg,Sem.run_bind,run_underlying h,Result.andThen_ok,nL,h]
 cases d<;>rfl
theorem run_sizeOf {t:TypeId} {i:TypeInfo} (h:P.info? t=some i):(sizeOf t).run P w= .ok (bJ P t) w:=by
 simp[sizeOf,typeInfo,h,bJ]
theorem KY {b off:Nat} {c:Array Value} {T:TypeId} {fz:Nat×Nat} (hb:w.heap[b]? =some (.cells c T fz)) (n:Nat):∀ j v,((c.toList.drop off).take n)[j]? =some v→w.cell? ((⟨b,off,none⟩:Addr).add j)=some v:=by
 intro j v hj
 rw[T0] at hj
 split at hj
 ·rw[TR] at hj
  have hadd:(⟨b,off,none⟩:Addr).add j=⟨b,off+j,none⟩:=by unfold Addr.add;split<;>simp_all
  rw[hadd,cell_of_row w b _ c T fz hb]
  simpa using hj
 ·cases hj
theorem Az {t:TypeId} {d:TypeDesc} {i:TypeInfo} (hu:P.underlying t=some d) (hi:P.info? t=some i) {b off:Nat} {vs:List Value} (hl:vs.length=bJ P t)
 (h:∀ j v,vs[j]? =some v→w.cell? ((⟨b,off,none⟩:Addr).add j)=some v):
 (nL P t=true→(loadVar t ⟨b,off,none⟩).run P w= .ok (.agg vs.toArray) w)∧(nL P t=false→∀ v,vs=[v]→(loadVar t ⟨b,off,none⟩).run P w= .ok v w):=by
 constructor
 ·intro ha
  simp only[loadVar,Sem.run_bind,mK hu,Result.andThen_ok,ha,VI,run_sizeOf hi, ← hl]
  rw[run_loadCells_list w ⟨b,off,none⟩ vs h]
  rfl
 ·intro ha v hv
  subst hv
  have h0:=h 0 v rfl
  simp only[loadVar,Sem.run_bind,mK hu,Result.andThen_ok,ha]
  have:(⟨b,off,none⟩:Addr).add 0=⟨b,off,none⟩:=rfl
  rw[this] at h0
  simp[h0]
theorem QX {t:TypeId} {d:TypeDesc} (h:P.underlying t=some d):∃ i,P.info? t=some i:=by
 unfold Program.underlying at h
 cases hi:P.info? t with
 | none=>rw[hi] at h;cases h
 | some i=>exact⟨i,rfl⟩
theorem gz {t:TypeId} (h:okT P t=true):∃ d i,P.underlying t=some d∧P.info? t=some i:=by
 obtain⟨d,hd⟩:=Vo.1 h
 obtain⟨i,hi⟩:=QX hd
 exact⟨d,i,hd,hi⟩
theorem xH {l cs:List CV} {off n:Nat} (h:DN l off n=some cs):cs=(l.drop off).take n∧cs.length=n:=by
 unfold DN at h
 simp only at h
 split at h
 ·rename_i hb;cases h;exact⟨rfl,UW hb⟩
 ·cases h
theorem vB {T:TypeId} {l:List CV} {off:Nat} {k:SV→Option β} {r:β} (h:jR P T l off k=some r):
 ∃ s,k s=some r∧∀ (G:Gh) (ρ:Env) (w:World) (b base:Nat) (vs:List Value),ay (aJ G ρ) l vs→(∀ j v,vs[j]? =some v→w.cell? ((⟨b,base,none⟩:Addr).add j)=some v)→
  ∃ v,(loadVar T ⟨b,base+off,none⟩).run P w= .ok v w∧bf G ρ s v:=by
 unfold jR at h
 split at h
 ·rename_i hok
  obtain⟨d,i,hd,hi⟩:=gz hok
  split at h
  ·rename_i cs hc
   obtain⟨e,hlen⟩:=xH hc
   have key:∀ (G:Gh) (ρ:Env) (w:World) (b base:Nat) (vs:List Value),ay (aJ G ρ) l vs→(∀ j v,vs[j]? =some v→w.cell? ((⟨b,base,none⟩:Addr).add j)=some v)→
    ∃ us:List Value,us.length=bJ P T∧ay (aJ G ρ) cs us∧∀ j v,us[j]? =some v→w.cell? ((⟨b,base+off,none⟩:Addr).add j)=some v:=by
    intro G ρ w b base vs hv hcell
    refine⟨(vs.drop off).take (bJ P T), ?_,by rw[e];exact (hv.drop off).take _, ?_⟩
    ·have:=((hv.drop off).take (bJ P T)).len
     rw[this, ← e,hlen]
    ·intro j v hj
     rw[T0] at hj
     split at hj
     ·rw[TR] at hj
      have:=hcell (off+j) v hj
      have e1:(⟨b,base,none⟩:Addr).add (off+j)=⟨b,base+off+j,none⟩:=by unfold Addr.add;split<;>simp_all [UQ]
      have e2:(⟨b,base+off,none⟩:Addr).add j=⟨b,base+off+j,none⟩:=by unfold Addr.add;split<;>simp_all
      rw[e2, ← e1];exact this
     ·cases hj
   split at h
   ·rename_i ha
    refine⟨_,h,fun G ρ w b base vs hv hcell=> ?_⟩
    obtain⟨us,hl,hus,hc'⟩:=key G ρ w b base vs hv hcell
    exact⟨_,(Az hd hi hl hc').1 ha,us,rfl,hus⟩
   ·rename_i ha
    split at h
    ·rename_i c
     refine⟨_,h,fun G ρ w b base vs hv hcell=> ?_⟩
     obtain⟨us,hl,hus,hc'⟩:=key G ρ w b base vs hv hcell
     obtain⟨y,ey,hy⟩:=hus.single
     exact⟨y,(Az hd hi hl hc').2 (by simpa using ha) y ey,hy⟩
    ·cases h
  ·cases h
 ·cases h
theorem FK {α:Type} {l:List α} {i:Int} {x:α} (h:idx l i=some x):0≤i∧i<l.length∧l[i.toNat]? =some x:=by
 unfold idx at h
 split at h
 ·rename_i h0
  refine⟨h0, ?_,h⟩
  have:=(TU.1 h).1
  omega
 ·cases h
theorem run_indexAt_slice {t e:TypeId} (ht:P.underlying t=some (.slice e)) (hok:okT P e=true) {ik:IntKind} {i:Int} {b off len cap:Nat} (h0:0≤i) (h1:i<len):
 (Instr.indexAt t (.slice (some ⟨b,off,none⟩) len cap) (.int ik i)).run P w= .ok (.pointer (some ⟨b,off+i.toNat*bJ P e,none⟩)) w:=by
 obtain⟨d,inf,hd,hi⟩:=gz hok
 have hadd:(⟨b,off,none⟩:Addr).add (i.toNat*bJ P e)=⟨b,off+i.toNat*bJ P e,none⟩:=by unfold Addr.add;split<;>simp_all
 simp only[Instr.indexAt,asIntOf,Sem.run_bind,Sem.run_pure,Result.andThen_ok,run_underlying ht,h0,h1,and_self,VI,run_sizeOf hi,hadd]
theorem dM.at {t:Ty} {l:List t.den} {v:Value} (h:dM G t.size (aq G t) l v) {i:Nat} {x:t.den} (hx:l[i]? =some x):
 ∃ b off c T fz cap,v= .slice (some ⟨b,off,none⟩) l.length cap∧G b=some (.cells c T fz)∧off+i*t.size+t.size≤c.size∧aq G t x ((c.toList.drop (off+i*t.size)).take t.size):=by
 obtain⟨a,cap,hv,h1,h2,h3⟩:=h
 have hlt:=(TU.1 hx).1
 rcases h3 with rfl | ⟨b,off,c,T,fz,ha,hb,hs,hl⟩
 ·simp at hx
 ·refine⟨b,off,c,T,fz,cap,by rw[hv,ha],hb, ?_, ?_⟩
  ·have:i*t.size+t.size≤l.length*t.size:=by rw[← Nat.succ_mul];exact Vc _ hlt
   omega
  ·have:=hl.get (fun x cs hr=>aq.len hr) hx
   rw[List.drop_take,UP,TB] at this
   have e:min t.size (l.length*t.size - i*t.size)=t.size:=by
    have:i*t.size+t.size≤l.length*t.size:=by rw[← Nat.succ_mul];exact Vc _ hlt
    omega
   rw[e] at this
   exact this
end Go.Dn
namespace Go.Dn
variable {β:Type}
def fq (P:Program) (o:Oper) (S M:St) (s:SV):Prop:=
 ∀ (C:Fr P) (G:Gh) (ρ:Env) (w:World) (a:Act),Mem C G ρ M w→(∀ x,x∈o.op.operands→bf G ρ (S.ev x) (a.eval x))→
  ∃ v,(execOp a.eval o).run P w= .ok (.value v) w∧bf G ρ s v
theorem one_cell {G:Gh} {ρ:Env} {s:SV} {c:CV} {v:Value} (h:bf G ρ s v) (e:s= .v false [c]):aJ G ρ c v:=by subst e;exact h
theorem Jf {G:Gh} {ρ:Env} {n:Nat} {c c':CV} {v:Value} (h:Gg n c=some c') (hv:aJ G ρ c v):∃ b off,v= .pointer (some ⟨b,off,none⟩)∧aJ G ρ c' (.pointer (some ⟨b,off+n,none⟩)):=by
 cases c<;>simp only[Gg] at h<;>try cases h
 case ref k o=>exact⟨_,_,hv,rfl⟩
 case cp t x o=>
  obtain⟨b,off,c,T,fz,e,hb,hs,hl⟩:=hv
  exact⟨_,_,e,b,off,c,T,fz,by rw[UQ],hb,hs,hl⟩
 case rp j sz i o=>
  obtain⟨b,len,cap,e1,e2⟩:=hv
  exact⟨_,_,e2,b,len,cap,e1,by rw[UQ]⟩
 case hnd o k=>
  cases o with
  | none=>cases h
  | some i=>
   cases h
   obtain⟨b,hb,e⟩:=hv
   exact⟨_,_,e,b,hb,rfl⟩
theorem CN {G:Gh} {ρ:Env} {c:CV} {v:Value} (h:aJ G ρ c v) (hok:c.ok=true):v.oneCell'=true∧v.cells= #[v]:=by
 cases c
 case any=>cases hok
 case opq u=>cases hok
 case sl t l=>obtain⟨a,cap,e,_⟩:=h;subst e;exact⟨rfl,rfl⟩
 case cp t x o=>obtain⟨b,off,c,T,fz,e,_⟩:=h;subst e;exact⟨rfl,rfl⟩
 case clo g t x=>obtain⟨caps,e,_⟩:=h;subst e;exact⟨rfl,rfl⟩
 case rp j sz i o=>obtain⟨b,len,cap,_,e⟩:=h;subst e;exact⟨rfl,rfl⟩
 case row j=>obtain⟨_,a,n,c,e⟩:=h;subst e;exact⟨rfl,rfl⟩
 case mp j=>obtain⟨_,b,e⟩:=h;subst e;exact⟨rfl,rfl⟩
 case kseq g j=>obtain⟨b,T,fz,e,_⟩:=h;subst e;exact⟨rfl,rfl⟩
 case nb b=>obtain⟨c,e,_⟩:=h;subst e;exact⟨rfl,rfl⟩
 case hnd o k=>
  cases o with
  | none=>obtain⟨e,_⟩:=h;subst e;exact⟨rfl,rfl⟩
  | some i=>obtain⟨b,_,e⟩:=h;subst e;exact⟨rfl,rfl⟩
 all_goals (have e:v=_:=h;subst e;exact⟨rfl,rfl⟩)
section
variable {X:Cx} {o:Oper} {S M:St} {k:SV→Option β} {r:β}
theorem Nl {P:Program} {T:TypeId} {l:List CV} {off:Nat} {s:SV} (h:jR P T l off some=some s):
 ∀ (G:Gh) (ρ:Env) (w:World) (vs:List Value),ay (aJ G ρ) l vs→∃ v,(part T vs.toArray off).run P w= .ok v w∧bf G ρ s v:=by
 unfold jR at h
 split at h
 ·rename_i hok
  obtain⟨d,i,hd,hi⟩:=gz hok
  split at h
  ·rename_i cs' hc
   obtain⟨e,hlen⟩:=xH hc
   split at h
   ·rename_i ha
    cases h
    intro G ρ w vs hl
    refine⟨.agg ((vs.drop off).take (bJ P T)).toArray, ?_,_,rfl,by rw[e];exact (hl.drop _).take _⟩
    simp only[Sem.run_bind,Result.andThen_ok,Sem.run_pure,part,mK hd,ha,VI,run_sizeOf hi]
    congr 2
    simp
   ·rename_i ha
    split at h
    ·rename_i c
     cases h
     intro G ρ w vs hl
     have hsub:=(hl.drop off).take (bJ P T)
     rw[← e] at hsub
     obtain⟨y,ey,hy⟩:=hsub.single
     have hy0:vs[off]? =some y:=by
      have:((vs.drop off).take (bJ P T))[0]? =some y:=by rw[ey];rfl
      rw[T0] at this
      split at this
      ·simpa using this
      ·cases this
     refine⟨y, ?_,hy⟩
     simp[part,mK hd,ha,hy0]
    ·cases h
  ·cases h
 ·cases h
theorem MY {P:Program} {g:TypeId→SV→SV→Option Bool} {d:Nat} (hg:∀ t x y r,g t x y=some r→∀ (G:Gh) (ρ:Env) (w:World) vx vy,bf G ρ x vx→bf G ρ y vy→(Op.equalIn d t vx vy).run P w= .ok r w) {xs ys:List CV}:
 ∀ {fs:List Field} {r:Bool},C5 P g xs ys fs=some r→∀ (G:Gh) (ρ:Env) (w:World) vs us,ay (aJ G ρ) xs vs→ay (aJ G ρ) ys us→(Op.eqFields d vs.toArray us.toArray fs).run P w= .ok r w
 | [],r,h,G,ρ,w,vs,us,hv,hu=>by simp only[C5,Option.some.injEq] at h;subst h;rfl
 | f::fs,r,h,G,ρ,w,vs,us,hv,hu=>by
  simp only[C5] at h
  split at h
  ·cases h
  ·rename_i hn
   split at h
   ·rename_i a b ha hb
    split at h
    ·rename_i r1 hr1
     split at h
     ·rename_i q hq
      cases h
      obtain⟨x,hx1,hx2⟩:=Nl ha G ρ w vs hv
      obtain⟨y,hy1,hy2⟩:=Nl hb G ρ w us hu
      have h1:=hg _ _ _ _ hr1 G ρ w x y hx2 hy2
      have h2:=MY hg hq G ρ w vs us hv hu
      simp only[Op.eqFields,VH hn,Sem.run_bind,hx1,hy1,h1,Result.andThen_ok,Sem.run_ite,Sem.run_pure,h2]
      cases r1<;>simp
     ·cases h
    ·cases h
   ·cases h
theorem A7 {G:Gh} {ρ:Env} {c:CV} {v:Value} (h:c.Kx=true) (hv:aJ G ρ c v):∃ a,v= .pointer (some a):=by
 cases c<;>simp only[CV.Kx] at h<;>try cases h
 case ref k o=>exact⟨_,hv⟩
 case cp t x o=>obtain⟨b,off,c,T,fz,e,_⟩:=hv;exact⟨_,e⟩
 case rp j sz i o=>obtain⟨b,len,cap,_,e⟩:=hv;exact⟨_,e⟩
theorem Iq {P:Program}:∀ {d:Nat} {t:TypeId} {x y:SV} {r:Bool},qo P d t x y=some r→∀ (d':Nat),d≤d'→∀ (G:Gh) (ρ:Env) (w:World) vx vy,bf G ρ x vx→bf G ρ y vy→(Op.equalIn d' t vx vy).run P w= .ok r w
 | 0,t,x,y,r,h=>by simp[qo] at h
 | d+1,t,x,y,r,h=>by
  intro d' hd' G ρ w vx vy hx hy
  obtain⟨e,rfl⟩:∃ e,d'=e+1:=⟨d' - 1,by omega⟩
  simp only[qo] at h
  split at h
  ·rename_i k0 ht
   split at h
   ·rename_i k a k' b
    split at h
    ·rename_i hk
     cases h
     subst hk
     have e1:vx= .int k a:=hx
     have e2:vy= .int k b:=hy
     subst e1;subst e2
     exact run_equalIn_int w e t k k0 a b ht
    ·cases h
   ·cases h
  ·rename_i ht
   split at h
   ·rename_i a b
    cases h
    have e1:vx= .bool a:=hx
    have e2:vy= .bool b:=hy
    subst e1;subst e2
    exact run_equalIn_bool w e t a b ht
   ·cases h
  ·rename_i ht
   split at h
   ·rename_i a b
    cases h
    have e1:vx= .string (bs a):=hx
    have e2:vy= .string (bs b):=hy
    subst e1;subst e2
    have:=run_equalIn_string w e t (bs a) (bs b) ht
    rw[KU,KU] at this
    exact this
   ·cases h
  ·rename_i el ht
   split at h
   ·cases h
    have e1:vx= .pointer none:=hx
    have e2:vy= .pointer none:=hy
    subst e1;subst e2
    simp[Op.equalIn,run_underlying ht]
   ·rename_i o k
    cases h
    have e1:vx= .pointer none:=hx
    subst e1
    cases o with
    | none=>obtain⟨e2,_⟩:=hy;subst e2;simp[Op.equalIn,run_underlying ht]
    | some i=>obtain⟨b,_,e2⟩:=hy;subst e2;simp[Op.equalIn,run_underlying ht]
   ·rename_i o k
    cases h
    have e1:vy= .pointer none:=hy
    subst e1
    cases o with
    | none=>obtain⟨e2,_⟩:=hx;subst e2;simp[Op.equalIn,run_underlying ht]
    | some i=>obtain⟨b,_,e2⟩:=hx;subst e2;simp[Op.equalIn,run_underlying ht]
   ·rename_i c _ _
    split at h
    ·rename_i hp
     cases h
     have e1:vx= .pointer none:=hx
     obtain⟨a,e2⟩:=A7 hp (show aJ G ρ c vy from hy)
     subst e1;subst e2
     simp[Op.equalIn,run_underlying ht]
    ·cases h
   ·rename_i c _ _
    split at h
    ·rename_i hp
     cases h
     have e2:vy= .pointer none:=hy
     obtain⟨a,e1⟩:=A7 hp (show aJ G ρ c vx from hx)
     subst e1;subst e2
     simp[Op.equalIn,run_underlying ht]
    ·cases h
   ·cases h
  ·rename_i fs ht
   split at h
   ·rename_i xs ys
    split at h
    ·cases h
    ·rename_i hst
     obtain⟨vs,e1,hvs⟩:=hx
     obtain⟨us,e2,hus⟩:=hy
     subst e1;subst e2
     have hf:P.fieldsOf t=fs:=by simp[Program.fieldsOf,ht]
     rw[run_equalIn_struct w e t vs.toArray us.toArray (by rw[hf];exact ht) (by simpa using hst),hf]
     exact MY (fun t x y r hr G ρ w vx vy hvx hvy=>Iq hr e (by omega) G ρ w vx vy hvx hvy) h G ρ w vs us hvs hus
   ·cases h
  ·cases h
theorem EU {P:Program} {op:BinOp} {t:TypeId} {x y:Operand} {vx vy:Value} {w:World} (h:P.eqGuardType P.depth t=false) (hx:vx≠ .nilIface):(eqGuard op t x y vx vy).run P w= .ok () w:=by
 unfold eqGuard
 cases op<;>first
  | rfl
  | (cases vx<;>cases vy<;>first | rfl | exact absurd rfl hx | simp[run_program,h])
def R4 (t:TypeId) (vx vy:Value):Prop:=vx≠ .nilIface∧binOp .eql t vx vy=(do pure (.bool (← Op.equal t vx vy)))∧binOp .neq t vx vy=(do pure (.bool (!(← Op.equal t vx vy))))
theorem NG {P:Program} {d:Nat} {t:TypeId} {x y:SV} {q:Bool} (hq:qo P (d+1) t x y=some q):
 (∃ ka a kb b,x= .v false [.int ka a]∧y= .v false [.int kb b])∨(∃ a b,x= .v false [.str a]∧y= .v false [.str b])∨
 ∀ (G:Gh) (ρ:Env) (vx vy:Value),bf G ρ x vx→bf G ρ y vy→R4 t vx vy:=by
 simp only[qo] at hq
 split at hq
 ·split at hq
  ·exact .inl ⟨_,_,_,_,rfl,rfl⟩
  ·cases hq
 ·split at hq
  ·rename_i a b
   refine .inr (.inr fun G ρ vx vy hvx hvy=> ?_)
   have e1:vx= .bool a:=hvx
   have e2:vy= .bool b:=hvy
   subst e1;subst e2
   exact⟨by simp,rfl,rfl⟩
  ·cases hq
 ·split at hq
  ·exact .inr (.inl ⟨_,_,rfl,rfl⟩)
  ·cases hq
 ·refine .inr (.inr fun G ρ vx vy hvx hvy=> ?_)
  have hp:(∃ p,vx= .pointer p)∧∃ p,vy= .pointer p:=by
   split at hq
   ·exact⟨⟨_,hvx⟩,⟨_,hvy⟩⟩
   ·rename_i o k
    refine⟨⟨_,hvx⟩, ?_⟩
    cases o with
    | none=>exact⟨_,hvy.1⟩
    | some i=>obtain⟨b,_,e⟩:=hvy;exact⟨_,e⟩
   ·rename_i o k
    refine⟨?_,⟨_,hvy⟩⟩
    cases o with
    | none=>exact⟨_,hvx.1⟩
    | some i=>obtain⟨b,_,e⟩:=hvx;exact⟨_,e⟩
   ·rename_i c _ _
    split at hq
    ·rename_i hp
     obtain⟨a,e⟩:=A7 hp (show aJ G ρ c vy from hvy)
     exact⟨⟨_,hvx⟩,⟨_,e⟩⟩
    ·cases hq
   ·rename_i c _ _
    split at hq
    ·rename_i hp
     obtain⟨a,e⟩:=A7 hp (show aJ G ρ c vx from hvx)
     exact⟨⟨_,e⟩,⟨_,hvy⟩⟩
    ·cases hq
   ·cases hq
  obtain⟨⟨p,rfl⟩,⟨q',rfl⟩⟩:=hp
  exact⟨by simp,rfl,rfl⟩
 ·split at hq
  ·refine .inr (.inr fun G ρ vx vy hvx hvy=> ?_)
   obtain⟨vs,e1,hvs⟩:=hvx
   obtain⟨us,e2,hus⟩:=hvy
   subst e1;subst e2
   exact⟨by simp,rfl,rfl⟩
  ·cases hq
 ·cases hq
theorem RR {op:BinOp} {t u:TypeId} {x y:Operand} (ho:o.op= .binOp op t x y u) (hi:∀ ka a kb b,S.ev x= .v false [.int ka a]→S.ev y= .v false [.int kb b]→False)
 (hs:∀ a b,S.ev x= .v false [.str a]→S.ev y= .v false [.str b]→False) (h:PS X.P op t (S.ev x) (S.ev y) k=some r):∃ s,k s=some r∧fq X.P o S M s:=by
 unfold PS at h
 split at h
 ·cases h
 ·rename_i hgd
  have hgd':X.P.eqGuardType X.P.depth t=false:=by simpa using hgd
  have key:∀ q,qo X.P 9 t (S.ev x) (S.ev y)=some q→∀ (G:Gh) (ρ:Env) (w:World) (vx vy:Value),bf G ρ (S.ev x) vx→bf G ρ (S.ev y) vy→
   (eqGuard op t x y vx vy).run X.P w= .ok () w∧(binOp .eql t vx vy).run X.P w= .ok (.bool q) w∧(binOp .neq t vx vy).run X.P w= .ok (.bool !q) w:=by
   intro q hq G ρ w vx vy hvx hvy
   have heq':(Op.equal t vx vy).run X.P w= .ok q w:=Iq hq Op.maxDepth (by decide) G ρ w vx vy hvx hvy
   rcases NG hq with ⟨ka,a,kb,b,e1,e2⟩ | ⟨a,b,e1,e2⟩ | hB
   ·exact (hi _ _ _ _ e1 e2).elim
   ·exact (hs _ _ e1 e2).elim
   ·obtain⟨h1,h2,h3⟩:=hB G ρ vx vy hvx hvy
    refine⟨EU hgd' h1, ?_, ?_⟩
    ·rw[h2];simp[heq']
    ·rw[h3];simp[heq']
  clear hi hs
  split at h
  ·split at h
   ·rename_i q hq
    refine⟨_,h,fun C G ρ w a hM hop=>⟨.bool q, ?_,rfl⟩⟩
    obtain⟨h1,h2,_⟩:=key q hq G ρ w _ _ (hop x (by simp[ho,Op.operands])) (hop y (by simp[ho,Op.operands]))
    simp only[execOp,ho,Sem.run_bind,h1,Result.andThen_ok,h2,Sem.run_pure]
   ·split at h
    ·rename_i e b ht hb
     refine⟨_,h,fun C G ρ w a hM hop=> ?_⟩
     have hvx:=hop x (by simp[ho,Op.operands])
     have hvy:=hop y (by simp[ho,Op.operands])
     generalize S.ev x=sx at hb hvx
     generalize S.ev y=sy at hb hvy
     unfold Qz at hb
     split at hb
     ·rename_i ty l
      cases hb
      obtain⟨p,cap,e1,_,_,hl⟩:=(hvx:dM G _ _ l _)
      have e2:a.eval y= .slice none 0 0:=hvy
      refine⟨.bool p.isNone, ?_,p.isNone,rfl,fun he=> ?_⟩
      ·have h1:(eqGuard .eql t x y (a.eval x) (a.eval y)).run X.P w= .ok () w:=EU hgd' (by rw[e1];simp)
       have h2:(binOp .eql t (a.eval x) (a.eval y)).run X.P w= .ok (.bool p.isNone) w:=by
        rw[e1,e2]
        have h3:(Op.equal t (.slice p l.length cap) (.slice none 0 0)).run X.P w= .ok p.isNone w:=by
         unfold Op.equal
         obtain⟨dd,hd⟩:∃ dd,Op.maxDepth=dd+1:=⟨9999,rfl⟩
         rw[hd]
         cases p<;>simp[Op.equalIn,run_underlying ht]
        have h4:binOp .eql t (.slice p l.length cap) (.slice none 0 0)=(do pure (.bool (← Op.equal t (.slice p l.length cap) (.slice none 0 0)))):=rfl
        rw[h4];simp[h3]
       simp only[execOp,ho,Sem.run_bind,h1,Result.andThen_ok,h2,Sem.run_pure]
      ·rcases hl with hl | ⟨_,_,_,_,_,e3,_⟩
       ·subst hl;cases he
       ·rw[e3];rfl
     ·cases hb
    ·cases h
  ·split at h
   ·rename_i q hq
    refine⟨_,h,fun C G ρ w a hM hop=>⟨.bool !q, ?_,rfl⟩⟩
    obtain⟨h1,_,h2⟩:=key q hq G ρ w _ _ (hop x (by simp[ho,Op.operands])) (hop y (by simp[ho,Op.operands]))
    simp only[execOp,ho,Sem.run_bind,h1,Result.andThen_ok,h2,Sem.run_pure]
   ·cases h
  ·cases h
theorem Q7 {op:BinOp} {t u:TypeId} {x y:Operand} (ho:o.op= .binOp op t x y u) (h:cc X o S M k=some r):∃ s,k s=some r∧fq X.P o S M s:=by
 unfold cc at h
 rw[ho] at h
 simp only[Qu] at h
 split at h
 ·rename_i ka n kb m hx hy
  obtain⟨c,hk,hc⟩:=Oo h
  refine⟨_,hk,fun C G ρ w a hM hop=> ?_⟩
  have h1:=one_cell (hop x (by simp[ho,Op.operands])) hx
  have h2:=one_cell (hop y (by simp[ho,Op.operands])) hy
  obtain⟨v,hr,hv⟩:=hc X.P G ρ w t
  refine⟨v, ?_,hv⟩
  simp only[execOp,ho,Sem.run_bind,show a.eval x= .int ka n from h1,show a.eval y= .int kb m from h2,Mt,Result.andThen_ok,hr,Sem.run_pure]
 ·rename_i n m hx hy
  obtain⟨c,hk,hc⟩:=Oq h
  refine⟨_,hk,fun C G ρ w a hM hop=> ?_⟩
  have h1:=one_cell (hop x (by simp[ho,Op.operands])) hx
  have h2:=one_cell (hop y (by simp[ho,Op.operands])) hy
  obtain⟨v,hr,hv⟩:=hc X.P G ρ w t
  refine⟨v, ?_,hv⟩
  simp only[execOp,ho,Sem.run_bind,show a.eval x= .string (bs n) from h1,show a.eval y= .string (bs m) from h2,Mu,Result.andThen_ok,hr,Sem.run_pure]
 ·rename_i hni hns
  exact RR ho hni hns h
theorem RU {op:UnOp} {t:TypeId} {x:Operand} (ho:o.op= .unOp op t x) (h:cc X o S M k=some r):∃ s,k s=some r∧fq X.P o S M s:=by
 unfold cc at h
 rw[ho] at h
 simp only at h
 split at h
 ·rename_i b hx
  refine⟨_,h,fun C G ρ w a hM hop=> ?_⟩
  have h1:=one_cell (hop x (by simp[ho,Op.operands])) hx
  exact⟨.bool !b,by simp only[execOp,ho,show a.eval x= .bool b from h1,Op.unary];rfl,rfl⟩
 ·rename_i ik n hx
  refine⟨_,h,fun C G ρ w a hM hop=> ?_⟩
  have h1:=one_cell (hop x (by simp[ho,Op.operands])) hx
  exact⟨_,by simp only[execOp,ho,show a.eval x= .int ik n from h1,Op.unary,Op.intArith];rfl,rfl⟩
 ·cases h
theorem Pp {t u:TypeId} {x:Operand} (ho:o.op= .convert t u x) (h:cc X o S M k=some r):∃ s,k s=some r∧fq X.P o S M s:=by
 unfold cc at h
 rw[ho] at h
 simp only at h
 split at h
 ·rename_i d ik ik' n hd hu hx
  refine⟨_,h,fun C G ρ w a hM hop=> ?_⟩
  have h1:=one_cell (hop x (by simp[ho,Op.operands])) hx
  refine⟨.int ik (ik.wrap n), ?_,rfl⟩
  simp only[execOp,ho,show a.eval x= .int ik' n from h1,convert,Sem.run_bind,run_underlying hd,run_underlying hu,Result.andThen_ok,Conv.intToInt,Sem.run_pure]
 ·rename_i d s hd hu hx
  refine⟨_,h,fun C G ρ w a hM hop=> ?_⟩
  have h1:=one_cell (hop x (by simp[ho,Op.operands])) hx
  refine⟨.string (bs s), ?_,rfl⟩
  simp only[execOp,ho,show a.eval x= .string (bs s) from h1,convert,Sem.run_bind,run_underlying hd,run_underlying hu,Result.andThen_ok,Sem.run_pure]
 ·rename_i d ik n hd hu hx
  obtain⟨hc,h⟩:=fQ h
  simp only[SX,VB] at hc
  refine⟨_,h,fun C G ρ w a hM hop=> ?_⟩
  have h1:=one_cell (hop x (by simp[ho,Op.operands])) hx
  have he:Utf8.encode n=bs [UInt8.ofNat n.toNat]:=by
   have hv:Utf8.valid n=true:=by
    unfold Utf8.valid
    rw[Tf,SX,VB,VB]
    exact .inl ⟨hc.1,by omega⟩
   unfold Utf8.encode
   rw[hv]
   simp only[VI]
   rw[VH (show n.toNat<128 by omega)]
   rfl
  refine⟨.string (bs [UInt8.ofNat n.toNat]), ?_,rfl⟩
  simp only[execOp,ho,show a.eval x= .int ik n from h1,convert,Sem.run_bind,run_underlying hd,run_underlying hu,Result.andThen_ok,Conv.intToString,Sem.run_pure,he]
 ·cases h
theorem Pt {x:Operand} (ho:o.op= .move x∨o.op= .assign x) (h:cc X o S M k=some r):∃ s,k s=some r∧fq X.P o S M s:=by
 unfold cc at h
 rcases ho with ho | ho<;>rw[ho] at h<;>simp only at h
 all_goals exact⟨_,h,fun C G ρ w a hM hop=>⟨a.eval x,by simp only[execOp,ho,Sem.run_pure],hop x (by simp[ho,Op.operands])⟩⟩
theorem RT {c x y:Operand} (ho:o.op= .pick c x y) (h:cc X o S M k=some r):∃ s,k s=some r∧fq X.P o S M s:=by
 unfold cc at h
 rw[ho] at h
 simp only at h
 split at h
 ·rename_i t hc
  cases t with
  | true=>
   refine⟨_,h,fun C G ρ w a hM hop=>⟨a.eval x, ?_,hop x (by simp[ho,Op.operands])⟩⟩
   have h1:=one_cell (hop c (by simp[ho,Op.operands])) hc
   simp only[execOp,ho,show a.eval c= .bool true from h1,asBool,Sem.run_bind,Sem.run_pure,Result.andThen_ok,VI]
  | false=>
   refine⟨_,h,fun C G ρ w a hM hop=>⟨a.eval y, ?_,hop y (by simp[ho,Op.operands])⟩⟩
   have h1:=one_cell (hop c (by simp[ho,Op.operands])) hc
   simp[execOp,ho,show a.eval c= .bool false from h1,asBool]
 ·cases h
theorem N5 {x:Operand} (ho:o.op= .nilCheck x) (h:cc X o S M k=some r):∃ s,k s=some r∧fq X.P o S M s:=by
 unfold cc at h
 rw[ho] at h
 simp only at h
 split at h
 ·rename_i i j hx
  refine⟨_,h,fun C G ρ w a hM hop=> ?_⟩
  have h1:=one_cell (hop x (by simp[ho,Op.operands])) hx
  exact⟨_,by simp only[execOp,ho,show a.eval x=_ from h1];rfl,rfl⟩
 ·rename_i t y j hx
  refine⟨_,h,fun C G ρ w a hM hop=> ?_⟩
  have h1:=one_cell (hop x (by simp[ho,Op.operands])) hx
  obtain⟨b,off,c,T,fz,e,rest⟩:=h1
  exact⟨_,by simp only[execOp,ho,e];rfl,b,off,c,T,fz,rfl,rest⟩
 ·rename_i i sz j l hx
  refine⟨_,h,fun C G ρ w a hM hop=> ?_⟩
  have h1:=one_cell (hop x (by simp[ho,Op.operands])) hx
  obtain⟨b,len,cap,e1,e2⟩:=h1
  exact⟨_,by simp only[execOp,ho,e2];rfl,b,len,cap,e1,rfl⟩
 ·rename_i g t y hx
  refine⟨_,h,fun C G ρ w a hM hop=> ?_⟩
  have h1:=one_cell (hop x (by simp[ho,Op.operands])) hx
  obtain⟨caps,e,hc⟩:=h1
  exact⟨_,by simp only[execOp,ho,e];rfl,caps,rfl,hc⟩
 ·rename_i g ks hx
  refine⟨_,h,fun C G ρ w a hM hop=> ?_⟩
  have h1:=one_cell (hop x (by simp[ho,Op.operands])) hx
  exact⟨_,by simp only[execOp,ho,show a.eval x=_ from h1];rfl,rfl⟩
 ·rename_i oh j hx
  obtain⟨i,hi,h⟩:=bind_some h
  subst hi
  refine⟨_,h,fun C G ρ w a hM hop=> ?_⟩
  have h1:=one_cell (hop x (by simp[ho,Op.operands])) hx
  obtain⟨b,hb,e⟩:=h1
  exact⟨_,by simp only[execOp,ho,e];rfl,b,hb,rfl⟩
 ·cases h
theorem MJ {t:TypeId} {x:Operand} {f:Nat} (ho:o.op= .fieldAddr t x f) (h:cc X o S M k=some r):∃ s,k s=some r∧fq X.P o S M s:=by
 unfold cc at h
 rw[ho] at h
 simp only at h
 split at h
 ·rename_i fs c ht hx
  split at h
  ·rename_i fd hf
   split at h
   ·rename_i hok
    simp only[SX,Tb] at hok
    obtain⟨d,i,hd,hi⟩:=gz hok.1
    split at h
    ·rename_i c' hc
     refine⟨_,h,fun C G ρ w a hM hop=> ?_⟩
     have h1:=one_cell (hop x (by simp[ho,Op.operands])) hx
     obtain⟨b,off,e,hc'⟩:=Jf hc h1
     have hadd:(⟨b,off,none⟩:Addr).add fd.offset=⟨b,off+fd.offset,none⟩:=by unfold Addr.add;split<;>simp_all
     have hz:bJ X.P fd.type≠0:=fun e0=>by rw[e0] at hok;simp at hok
     refine⟨_, ?_,hc'⟩
     simp only[execOp,ho,e,Instr.fieldAt,Sem.run_bind,run_underlying ht,Result.andThen_ok,hf,Instr.sureAddr,Sem.run_pure,fieldPlace,run_sizeOf hi,hz,VF,hadd]
    ·cases h
   ·cases h
  ·cases h
 ·cases h
theorem RS {t:TypeId} {x:Operand} (ho:o.op= .load t x) (h:cc X o S M k=some r):∃ s,k s=some r∧fq X.P o S M s:=by
 unfold cc at h
 rw[ho] at h
 simp only at h
 split at h
 ·rename_i bk off hx
  split at h
  ·rename_i l hl
   obtain⟨s,hs,hld⟩:=vB h
   refine⟨s,hs,fun C G ρ w a hM hop=> ?_⟩
   have h1:=one_cell (hop x (by simp[ho,Op.operands])) hx
   obtain⟨_,vs,T,hw,hv⟩:=hM.boxes bk l hl
   obtain⟨v,hr,hsv⟩:=hld G ρ w (ρ.bx bk) 0 vs hv (fun j v hj=>by
    have hadd:(⟨ρ.bx bk,0,none⟩:Addr).add j=⟨ρ.bx bk,j,none⟩:=by unfold Addr.add;split<;>simp_all
    rw[hadd,cell_of_row w _ j _ T (0,0) hw];simpa using hj)
   refine⟨v, ?_,hsv⟩
   simp only[Vj] at hr
   simp only[execOp,ho,show a.eval x=_ from h1,Instr.loadAt,Instr.sureAddr,Sem.run_bind,Sem.run_pure,Result.andThen_ok,hr]
  ·cases h
 ·rename_i ty y off hx
  obtain⟨s,hs,hld⟩:=vB h
  refine⟨s,hs,fun C G ρ w a hM hop=> ?_⟩
  have h1:=one_cell (hop x (by simp[ho,Op.operands])) hx
  obtain⟨b,base,c,T,fz,e,hb,hsz,hl⟩:=h1
  obtain⟨v,hr,hsv⟩:=hld G ρ w b base _ (eM ρ hl) (KY (hM.agr b _ hb) _)
  refine⟨v, ?_,hsv⟩
  simp only[execOp,ho,e,Instr.loadAt,Instr.sureAddr,Sem.run_bind,Sem.run_pure,Result.andThen_ok,hr]
 ·rename_i j sz i off hx
  split at h
  ·rename_i q hq
   obtain⟨y,hy,h⟩:=bind_some h
   split at h
   ·rename_i hcond
    simp only[SX,Tb] at hcond
    obtain⟨s,hs,hld⟩:=vB h
    refine⟨s,hs,fun C G ρ w a hM hop=> ?_⟩
    have h1:=one_cell (hop x (by simp[ho,Op.operands])) hx
    obtain⟨b,len,cap,e1,e2⟩:=h1
    have hrow:=hM.rows j q hq
    unfold bX at hrow
    rw[VG (by simp[hcond.1])] at hrow
    obtain⟨xs,⟨hlen,hn | ⟨g,cap',cur,hv,_,hg,hnc,hcm,hcs,htake⟩⟩,hl,hown⟩:=hrow
    ·have:q.l=[]:=TI hn.2
     rw[this] at hy;simp at hy
    ·rw[e1] at hv
     cases hv
     have hyr:=hl.get (fun x cs hr=>aq.len hr) hy
     have hsz:=UW hcond.2
     obtain⟨v,hr,hsv⟩:=hld G ρ w b (i*sz) _ (eM ρ hyr) (fun n u hu=>by
      rw[T0] at hu
      split at hu
      ·rw[TR, ← htake,T0] at hu
       split at hu
       ·have hadd:(⟨b,i*sz,none⟩:Addr).add n=⟨b,i*sz+n,none⟩:=by unfold Addr.add;split<;>simp_all
        rw[hadd,cell_of_row w _ _ _ _ _ hg,hsz];simpa using hu
       ·cases hu
      ·cases hu)
     refine⟨v, ?_,hsv⟩
     simp only[execOp,ho,e2,Instr.loadAt,Instr.sureAddr,Sem.run_bind,Sem.run_pure,Result.andThen_ok,hr]
   ·cases h
  ·cases h
 ·rename_i i off hx
  split at h
  ·rename_i fz ty l hl
   obtain⟨y,hy,h⟩:=bind_some h
   obtain⟨s,hs,hld⟩:=vB h
   refine⟨s,hs,fun C G ρ w a hM hop=> ?_⟩
   have h1:=one_cell (hop x (by simp[ho,Op.operands])) hx
   obtain⟨b,hb,e⟩:=h1
   obtain⟨b',vs,T,hb',_,_,hw,hrep⟩:=(hM.objs bq _ hl).2.2.2 i y hy
   rw[hb] at hb'
   cases hb'
   obtain⟨v,hr,hsv⟩:=hld G ρ w b 0 vs (eM ρ hrep) (fun j v hj=>by
    have hadd:(⟨b,0,none⟩:Addr).add j=⟨b,j,none⟩:=by unfold Addr.add;split<;>simp_all
    rw[hadd,cell_of_row w _ j _ T (0,0) hw];simpa using hj)
   refine⟨v, ?_,hsv⟩
   simp only[Vj] at hr
   simp only[execOp,ho,e,Instr.loadAt,Instr.sureAddr,Sem.run_bind,Sem.run_pure,Result.andThen_ok,hr]
  ·cases h
 ·cases h
theorem G9 {ik:IntKind}:∀ {cs:List CV} {l:List Int} {i:Nat} {m:Int},Df ik cs=some l→l[i]? =some m→cs[i]? =some (.int ik m)
 | [],l,i,m,h,hg=>by simp only[Df,Option.some.injEq] at h;subst h;simp at hg
 | c::cs,l,i,m,h,hg=>by
  cases c<;>simp only[Df] at h<;>try cases h
  split at h
  ·rename_i k n hk
   subst hk
   split at h
   ·rename_i l' hl'
    cases h
    cases i with
    | zero=>simp at hg;subst hg;rfl
    | succ i=>simp at hg ⊢;exact G9 hl' hg
   ·cases h
  ·cases h
theorem MK {t:TypeId} {x ix:Operand} (ho:o.op= .indexAddr t x ix) (h:cc X o S M k=some r):∃ s,k s=some r∧fq X.P o S M s:=by
 unfold cc at h
 rw[ho] at h
 simp only at h
 split at h
 ·rename_i e ty l ik i ht hx hix
  split at h
  ·rename_i hok
   simp only[SX] at hok
   obtain⟨y,hy,h⟩:=bind_some h
   obtain⟨h0,h1,hget⟩:=FK hy
   refine⟨_,h,fun C G ρ w a hM hop=> ?_⟩
   have hv1:=one_cell (hop x (by simp[ho,Op.operands])) hx
   have hv2:=one_cell (hop ix (by simp[ho,Op.operands])) hix
   obtain⟨b,off,c,T,fz,cap,ev,hb,hs,hrep⟩:=dM.at hv1 hget
   have hsz:=UW hok.2
   refine⟨_, ?_,b,off+i.toNat*ty.size,c,T,fz,rfl,hb,hs,hrep⟩
   simp only[execOp,ho,ev,show a.eval ix= .int ik i from hv2,Sem.run_bind,run_indexAt_slice ht hok.1 h0 h1,Result.andThen_ok,Sem.run_pure,hsz,US]
  ·cases h
 ·rename_i e j ik i ht hx hix
  split at h
  ·rename_i q hq
   split at h
   ·rename_i hok
    simp only[SX] at hok
    have hsz:=UW hok.2
    split at h
    ·rename_i hfz
     obtain⟨y,hy,h⟩:=bind_some h
     obtain⟨h0,h1,hget⟩:=FK hy
     refine⟨_,h,fun C G ρ w a hM hop=> ?_⟩
     have hv1:=one_cell (hop x (by simp[ho,Op.operands])) hx
     have hv2:=one_cell (hop ix (by simp[ho,Op.operands])) hix
     have hrow:=hM.frozen j q hq hfz
     obtain⟨b,off,c,T,fz,cap,ev,hb,hs,hrep⟩:=dM.at hrow hget
     refine⟨_, ?_,b,off+i.toNat*q.t.size,c,T,fz,rfl,hb,hs,hrep⟩
     simp only[execOp,ho,show a.eval x=ρ.rw j from hv1.1,ev,show a.eval ix= .int ik i from hv2,Sem.run_bind,run_indexAt_slice ht hok.1 h0 h1,Result.andThen_ok,Sem.run_pure,hsz,US]
    ·rename_i hfz
     obtain⟨hc,h⟩:=fQ h
     simp only[SX,VB] at hc
     refine⟨_,h,fun C G ρ w a hM hop=> ?_⟩
     have hv1:=one_cell (hop x (by simp[ho,Op.operands])) hx
     have hv2:=one_cell (hop ix (by simp[ho,Op.operands])) hix
     have hrow:=hM.rows j q hq
     unfold bX at hrow
     rw[VG hfz] at hrow
     obtain⟨xs,⟨hlen,hn | ⟨g,cap',cur,hv,_,hg,_⟩⟩,hl,hown⟩:=hrow
     ·omega
     ·refine⟨_, ?_,g,q.l.length,cap',hv,rfl⟩
      simp only[execOp,ho,show a.eval x=ρ.rw j from hv1.1,hv,show a.eval ix= .int ik i from hv2,Sem.run_bind,run_indexAt_slice ht hok.1 hc.1 hc.2,Result.andThen_ok,Sem.run_pure,hsz,Vj,US]
   ·cases h
  ·cases h
 ·rename_i n e c ik i ht hx hix
  split at h
  ·rename_i hok
   obtain⟨m,rfl,hlt,h⟩:=HC h
   rw[Vj] at hlt
   split at h
   ·rename_i c' hc
    refine⟨_,h,fun C G ρ w a hM hop=> ?_⟩
    have h1:=one_cell (hop x (by simp[ho,Op.operands])) hx
    have hv2:=one_cell (hop ix (by simp[ho,Op.operands])) hix
    obtain⟨b,off,e1,hc'⟩:=Jf hc h1
    obtain⟨d,j,hd,hj⟩:=gz hok
    have hadd:(⟨b,off,none⟩:Addr).add (m*bJ X.P e)=⟨b,off+m*bJ X.P e,none⟩:=by unfold Addr.add;split<;>simp_all
    refine⟨_, ?_,hc'⟩
    have h0:(0:Int)≤(m:Int)∧(m:Int)<(n:Int):=⟨Int.natCast_nonneg m,Int.ofNat_lt.2 hlt⟩
    simp only[execOp,ho,e1,show a.eval ix= .int ik (m:Int) from hv2,Instr.indexAt,asIntOf,Instr.sureAddr,Sem.run_bind,Sem.run_pure,run_underlying ht,Result.andThen_ok,VH h0,run_sizeOf hj,show ((m:Int)).toNat=m from rfl,hadd]
   ·cases h
  ·cases h
 ·cases h
theorem Ra {t:TypeId} {x ix:Operand} (ho:o.op= .index t x ix) (h:cc X o S M k=some r):∃ s,k s=some r∧fq X.P o S M s:=by
 unfold cc at h
 rw[ho] at h
 simp only at h
 split at h
 ·rename_i s ik i ht hx hix
  obtain⟨b,hb,h⟩:=bind_some h
  refine⟨_,h,fun C G ρ w a hM hop=> ?_⟩
  have hv1:=one_cell (hop x (by simp[ho,Op.operands])) hx
  have hv2:=one_cell (hop ix (by simp[ho,Op.operands])) hix
  unfold wD at hb
  split at hb
  ·rename_i h0
   refine⟨.int .u8 b.toNat, ?_,rfl⟩
   have hb':(bs s)[i.toNat]? =some b:=by
    obtain⟨hlt,he⟩:=TU.1 hb
    rw[getElem?_pos (bs s) i.toNat (by rw[z6];exact hlt)]
    simp only[bs,Option.some.injEq]
    rw[← he];rfl
   simp only[execOp,ho,show a.eval x= .string (bs s) from hv1,show a.eval ix= .int ik i from hv2,Instr.index,asIntOf,Sem.run_bind,Sem.run_pure,Result.andThen_ok,run_underlying ht,h0,VI,hb']
  ·cases hb
 ·rename_i n e cs ik i ht hx hix
  split at h
  ·rename_i ek he
   split at h
   ·rename_i l hl
    split at h
    ·rename_i hc
     simp only[SX,Tb] at hc
     obtain⟨⟨⟨c1,c2⟩,c3⟩,c4⟩:=hc
     obtain⟨d,j,hd,hj⟩:=gz c1
     have hsz:=UW c2
     have hln:=UW c4
     obtain⟨m,hm,h⟩:=bind_some h
     obtain⟨h0,h1,hget⟩:=FK hm
     refine⟨_,h,fun C G ρ w a hM hop=> ?_⟩
     have hv:=hop x (by simp[ho,Op.operands])
     rw[hx] at hv
     obtain⟨vs,ev,hall⟩:=hv
     have hv2:=one_cell (hop ix (by simp[ho,Op.operands])) hix
     have hcell:=G9 hl hget
     obtain⟨v,hv3,hv4⟩:=hall.get hcell
     refine⟨v, ?_,hv4⟩
     have hb:0≤i∧i<(n:Int):=⟨h0,by rw[← hln];exact h1⟩
     simp only[execOp,ho,ev,show a.eval ix= .int ik i from hv2,Instr.index,asIntOf,Sem.run_bind,Sem.run_pure,Result.andThen_ok,run_underlying ht,VH hb,run_sizeOf hj,hsz,Nat.mul_one,part,mK hd,c3,S6,VF]
     simp[hv3]
    ·cases h
   ·cases h
  ·cases h
 ·cases h
theorem Pq {x:Operand} {i:Nat} (ho:o.op= .extract x i) (h:cc X o S M k=some r):∃ s,k s=some r∧fq X.P o S M s:=by
 unfold cc at h
 rw[ho] at h
 simp only at h
 split at h
 ·rename_i l hx
  split at h
  ·rename_i p hp
   refine⟨_,h,fun C G ρ w a hM hop=> ?_⟩
   have hv1:=hop x (by simp[ho,Op.operands])
   rw[hx] at hv1
   obtain⟨vs,e,hl⟩:=hv1
   obtain⟨v,hv,hsv⟩:=hl.get hp
   refine⟨v, ?_,hsv⟩
   simp[execOp,ho,e,Instr.extract,hv]
  ·cases h
 ·cases h
end
end Go.Dn
namespace Go.Dn
variable {P:Program} {G:Gh} {w:World}
theorem Ou (a b:List UInt8):(bs a==bs b)=(a==b):=by
 have h:(bs a==bs b)=((bs a).data==(bs b).data):=rfl
 rw[h]
 simp[bs]
theorem vA {t:TypeId} {k:Ty} (h:dQ P t k=true) (hn:∀ s,k≠ .st s):bE P t k=true:=by
 cases k with
 | st s=>exact absurd rfl (hn s)
 | _=>exact h
theorem zK {t:TypeId} {k:Ty} (h:bE P t k=true) (d:Nat) (a b:k.den):∃ c1 c2,unpack k a=[c1]∧unpack k b=[c2]∧qo P (d+1) t (.v false [c1]) (.v false [c2])=some (k.beq a b)∧dR k a= .v false [c1]∧dR k b= .v false [c2]:=by
 cases k with
 | int kk=>
  simp only[bE] at h
  split at h
  ·rename_i hu
   exact⟨_,_,rfl,rfl,by simp[qo,hu,Ty.beq,NJ],rfl,rfl⟩
  ·cases h
 | bool=>
  simp only[bE] at h
  split at h
  ·rename_i hu
   exact⟨_,_,rfl,rfl,by simp[qo,hu,Ty.beq,NA],rfl,rfl⟩
  ·cases h
 | str=>
  simp only[bE] at h
  split at h
  ·rename_i hu
   exact⟨_,_,rfl,rfl,by simp[qo,hu,Ty.beq,F6],rfl,rfl⟩
  ·cases h
 | _=>simp[bE] at h
theorem qP {t:TypeId} {k:Ty} (h:bE P t k=true):okT P t=true∧nL P t=false∧k.size=1:=by
 cases k with
 | int kk=>
  simp only[bE] at h
  split at h
  ·rename_i hu;exact⟨by simp[okT,hu],by simp[nL,hu],rfl⟩
  ·cases h
 | bool=>
  simp only[bE] at h
  split at h
  ·rename_i hu;exact⟨by simp[okT,hu],by simp[nL,hu],rfl⟩
  ·cases h
 | str=>
  simp only[bE] at h
  split at h
  ·rename_i hu;exact⟨by simp[okT,hu],by simp[nL,hu],rfl⟩
  ·cases h
 | _=>simp[bE] at h
theorem Ba {T:TypeId} (hok:okT P T=true) (hag:nL P T=false) (hsz:bJ P T=1) {l:List CV} {n:Nat} {c:CV} {r:List CV} (h:l.drop n=c::r):jR P T l n some=some (.v false [c]):=by
 have:(l.drop n).take 1=[c]:=by rw[h];rfl
 simp[jR,hok,DN,hsz,this,hag]
theorem Jo {l:List CV} {n:Nat} {c:CV} {r:List CV} (h:l.drop n=c::r):l.drop (n+1)=r:=by
 have:l.drop (n+1)=(l.drop n).drop 1:=by rw[TB]
 rw[this,h];rfl
theorem Jp {d:Nat} {xs ys:List CV}:∀ {fs:List Field} {n:Nat} {t:Ty} {a b:t.den},bO P fs n t=true→xs.drop n=unpack t a→ys.drop n=unpack t b→C5 P (qo P (d+1)) xs ys fs=some (t.beq a b)
 | [],n,t,a,b,h,_,_=>by simp[bO] at h
 | [f],n,t,a,b,h,hx,hy=>by
  simp only[bO,SX,VB] at h
  obtain⟨⟨⟨h1,h2⟩,h3⟩,h4⟩:=h
  have e2:=UW h2
  have e3:=UW h3
  obtain⟨k1,k2,k3⟩:=qP h4
  obtain⟨c1,c2,u1,u2,he,_,_⟩:=zK h4 d a b
  simp only[C5,VG h1,e2]
  rw[Ba k1 k2 e3 (hx.trans u1),Ba k1 k2 e3 (hy.trans u2)]
  simp only[he,S5]
 | f::g::r,n,t,a,b,h,hx,hy=>by
  cases t with
  | pair s t=>
   simp only[bO,SX,VB] at h
   obtain⟨⟨⟨⟨h1,h2⟩,h3⟩,h4⟩,h5⟩:=h
   have e2:=UW h2
   have e3:=UW h3
   obtain⟨k1,k2,k3⟩:=qP h4
   obtain⟨c1,c2,u1,u2,he,_,_⟩:=zK h4 d a.1 b.1
   simp only[unpack,u1,u2,List.singleton_append] at hx hy
   have ih:=Jp (d:=d) h5 (Jo hx) (Jo hy)
   rw[C5,VG h1,e2]
   rw[Ba k1 k2 e3 hx,Ba k1 k2 e3 hy]
   simp only[he,ih,Ty.beq]
  | _=>simp[bO] at h
theorem PX {t:TypeId} {k:Ty} (h:dQ P t k=true) (a b:k.den):qo P 9 t (dR k a) (dR k b)=some (k.beq a b):=by
 cases k with
 | st s=>
  simp only[dQ] at h
  split at h
  ·rename_i fs hu
   simp only[SX,Tb] at h
   simp only[dR,qo,hu,h.1,S6,VF]
   exact Jp (t:=s) (a:=a) (b:=b) (d:=7) (n:=0) h.2 (by simp) (by simp)
  ·cases h
 | _=>
  obtain⟨c1,c2,u1,u2,he,e1,e2⟩:=zK (P:=P) (t:=t) (vA h (by intro s e;cases e)) 8 a b
  rw[e1,e2]
  exact he
theorem Ju {t:TypeId} {k:Ty} (h:dQ P t k=true) {a b:k.den} {va vb:Value} (ha:bF G k a va) (hb:bF G k b vb) (w:World):(Op.equal t va vb).run P w= .ok (k.beq a b) w:=by
 let ρ:Env:=⟨fun _=>0,fun _=> .nilFunc,fun _=>none,fun _=> .nilFunc,fun _ _=>0⟩
 exact Iq (PX h a b) Op.maxDepth (by decide) G ρ w va vb (uH ρ ha) (uH ρ hb)
theorem Jv {t:TypeId} {k:Ty} (h:dQ P t k=true) {a b:k.den} (e:k.beq a b=true):a=b:=by
 have sc:∀ {t:TypeId} {k:Ty},bE P t k=true→∀ {a b:k.den},k.beq a b=true→a=b:=by
  intro t k h a b e
  cases k with
  | int kk=>exact eq_of_beq (α:=Int) (a:=a) (b:=b) e
  | bool=>exact eq_of_beq (α:=Bool) (a:=a) (b:=b) e
  | str=>exact eq_of_beq (α:=List UInt8) (a:=a) (b:=b) e
  | _=>simp[bE] at h
 have fc:∀ (fs:List Field) (n:Nat) (t:Ty) (a b:t.den),bO P fs n t=true→t.beq a b=true→a=b:=by
  intro fs
  induction fs with
  | nil=>intro n t a b h;simp[bO] at h
  | cons f r ih=>
   intro n t a b h e
   cases r with
   | nil=>
    simp only[bO,SX] at h
    exact sc h.2 e
   | cons g r=>
    cases t with
    | pair s t=>
     simp only[bO,SX] at h
     simp only[Ty.beq,SX] at e
     exact Prod.ext (sc h.1.2 (a:=a.1) (b:=b.1) e.1) (ih (n+1) t a.2 b.2 h.2 e.2)
    | _=>simp[bO] at h
 cases k with
 | st s=>
  simp only[dQ] at h
  split at h
  ·rename_i fs hu
   simp only[SX] at h
   exact fc fs.toList 0 s a b h.2 e
  ·cases h
 | _=>exact sc (t:=t) (a:=a) (b:=b) (vA h (by intro s e;cases e)) e
theorem E3 {t:TypeId} {k:Ty} (h:dQ P t k=true) {a:k.den} {va vb:Value} (ha:bF G k a va) (hb:bF G k a vb):va=vb:=by
 have sc:∀ {t:TypeId} {k:Ty},bE P t k=true→∀ {a:k.den} {u v:List Value},aq G k a u→aq G k a v→u=v:=by
  intro t k h a u v hu hv
  cases k with
  | int kk=>exact hu.trans hv.symm
  | bool=>exact hu.trans hv.symm
  | str=>exact hu.trans hv.symm
  | _=>simp[bE] at h
 have fc:∀ (fs:List Field) (n:Nat) (t:Ty) (a:t.den) (u v:List Value),bO P fs n t=true→aq G t a u→aq G t a v→u=v:=by
  intro fs
  induction fs with
  | nil=>intro n t a u v h;simp[bO] at h
  | cons f r ih=>
   intro n t a u v h hu hv
   cases r with
   | nil=>
    simp only[bO,SX] at h
    exact sc h.2 hu hv
   | cons g r=>
    cases t with
    | pair s t=>
     simp only[bO,SX] at h
     obtain⟨c1,r1,e1,p1,q1⟩:=hu
     obtain⟨c2,r2,e2,p2,q2⟩:=hv
     rw[e1,e2,sc h.1.2 p1 p2,ih (n+1) t a.2 r1 r2 h.2 q1 q2]
    | _=>simp[bO] at h
 cases k with
 | st s=>
  simp only[dQ] at h
  split at h
  ·rename_i fs hu
   simp only[SX] at h
   obtain⟨us,e1,h1⟩:=ha
   obtain⟨vs,e2,h2⟩:=hb
   rw[e1,e2,fc fs.toList 0 s a us vs h.2 h1 h2]
  ·cases h
 | _=>
  have:=sc (t:=t) (a:=a) (vA h (by intro s e;cases e)) ha hb
  simpa using this
theorem sameBits_self {t:TypeId} {k:Ty} (h:dQ P t k=true) {a:k.den} {v:Value} (hv:bF G k a v):Instr.sameBits 10000 v v=true:=by
 have sc:∀ {t:TypeId} {k:Ty},bE P t k=true→∀ {a:k.den} {cs:List Value},aq G k a cs→∀ n u,u∈cs→Instr.sameBits n u u=true:=by
  intro t k h a cs hc n u hu
  cases k with
  | int kk=>
   have e:cs=[_]:=hc
   rw[e] at hu
   rcases Uv.1 hu with rfl
   exact (fun x:Int=>by cases n<;>simp[Instr.sameBits]:∀ x:Int,Instr.sameBits n (.int kk x) (.int kk x)=true) a
  | bool=>
   have e:cs=[_]:=hc
   rw[e] at hu
   rcases Uv.1 hu with rfl
   exact (fun x:Bool=>by cases n<;>simp[Instr.sameBits]:∀ x:Bool,Instr.sameBits n (.bool x) (.bool x)=true) a
  | str=>
   have e:cs=[_]:=hc
   rw[e] at hu
   rcases Uv.1 hu with rfl
   exact (fun x:List UInt8=>by cases n<;>simp[Instr.sameBits,Ou]:∀ x:List UInt8,Instr.sameBits n (.string (bs x)) (.string (bs x))=true) a
  | _=>simp[bE] at h
 have fc:∀ (fs:List Field) (n:Nat) (t:Ty) (a:t.den) (cs:List Value),bO P fs n t=true→aq G t a cs→∀ m u,u∈cs→Instr.sameBits m u u=true:=by
  intro fs
  induction fs with
  | nil=>intro n t a cs h;simp[bO] at h
  | cons f r ih=>
   intro n t a cs h hc m u hu
   cases r with
   | nil=>
    simp only[bO,SX] at h
    exact sc h.2 hc m u hu
   | cons g r=>
    cases t with
    | pair s t=>
     simp only[bO,SX] at h
     obtain⟨c1,r1,e1,p1,q1⟩:=hc
     rw[e1,Uh] at hu
     rcases hu with hu | hu
     ·exact sc h.1.2 p1 m u hu
     ·exact ih (n+1) t a.2 r1 h.2 q1 m u hu
    | _=>simp[bO] at h
 cases k with
 | st s=>
  simp only[dQ] at h
  split at h
  ·rename_i fs hu
   simp only[SX] at h
   obtain⟨us,e1,h1⟩:=hv
   rw[e1]
   have key:=fc fs.toList 0 s a us h.2 h1
   have:∀ (l:List Value),(∀ u,u∈l→Instr.sameBits 9999 u u=true)→((l.zip l).all fun p=>Instr.sameBits 9999 p.1 p.2)=true:=by
    intro l hl
    induction l with
    | nil=>rfl
    | cons x l ih=>simp only[List.zip_cons_cons,Tp,SX];exact⟨hl x (by simp),ih fun u hu=>hl u (by simp[hu])⟩
   show Instr.sameBits (9999+1) _ _=true
   simp only[Instr.sameBits,Vu,Tg]
   exact this us fun u hu=>key 9999 u hu
  ·cases h
 | _=>exact sc (t:=t) (a:=a) (vA h (by intro s e;cases e)) hv 10000 v (by simp)
inductive wR {k v:Ty} (a:k.den) (l:List (k.den×v.den)) (es:List MapEntry):Option (Nat×Value)→Prop
 | no (h:∀ p,p∈l→k.beq a p.1=false):wR a l es none
 | yes (i:Nat) (p:k.den×v.den) (e:MapEntry) (hp:l[i]? =some p) (he:es[i]? =some e) (hb:k.beq a p.1=true) (hn:∀ j q,j<i→l[j]? =some q→k.beq a q.1=false):wR a l es (some (i,e.val))
theorem BM {t:TypeId} {k v:Ty} (h:dQ P t k=true) {a:k.den} {va:Value} (ha:bF G k a va):∀ {l:List (k.den×v.den)} {es:List MapEntry} (n:Nat),ay (mN G k v) l es→
 ∃ r,(Instr.findAsking t va es n).run P w= .ok (r.map fun p:Nat×Value=>(n+p.1,p.2)) w∧wR a l es r
 | [],es,n,he=>by cases he;exact⟨none,rfl,.no (by simp)⟩
 | p::l,_,n,⟨e,es,ee,hp,hl⟩=>by
  subst ee
  obtain⟨r,hr,hf⟩:=BM h ha (n+1) hl
  cases hb:k.beq a p.1 with
  | true=>
   refine⟨some (0,e.val), ?_,.yes 0 p e rfl rfl hb (fun j q hj=>by omega)⟩
   simp[Instr.findAsking,Ju h ha hp.1 w,hb]
  | false=>
   refine⟨r.map fun q=>(q.1+1,q.2), ?_, ?_⟩
   ·simp only[Instr.findAsking,Sem.run_bind,Ju h ha hp.1 w,hb,Result.andThen_ok,S6,VF,hr,Vp]
    congr 1
    cases r<;>simp;omega
   ·cases hf with
    | no hn=>
     refine .no fun q hq=> ?_
     rcases Uk.1 hq with rfl | hq
     ·exact hb
     ·exact hn q hq
    | yes i q e' h1 h2 h3 h4=>
     refine .yes (i+1) q e' (by simpa using h1) (by simpa using h2) h3 (fun j q' hj hq=> ?_)
     cases j with
     | zero=>simp only[TQ,Option.some.injEq] at hq;subst hq;exact hb
     | succ j=>exact h4 j q' (by omega) (by simpa using hq)
theorem GP {t:TypeId} {k v:Ty} (h:bE P t k=true) {dsc:TypeDesc} (hd:P.underlying t=some dsc) {a:k.den} {va:Value} (ha:bF G k a va):∀ {l:List (k.den×v.den)} {es:List MapEntry} (n:Nat),ay (mN G k v) l es→
 ∃ r,Instr.findNow dsc va es n=some (r.map fun p:Nat×Value=>(n+p.1,p.2))∧wR a l es r
 | [],es,n,he=>by cases he;exact⟨none,rfl,.no (by simp)⟩
 | p::l,_,n,⟨e,es,ee,hp,hl⟩=>by
  subst ee
  obtain⟨r,hr,hf⟩:=GP h hd ha (n+1) hl
  have hs:Instr.sameNow dsc va e.key=some (k.beq a p.1):=by
   obtain⟨p1,p2⟩:=p
   have hp1:=hp.1
   dsimp only at hp1 ⊢
   cases k with
   | int kk=>
    have e1:va= .int kk a:=by simpa [bF,aq] using ha
    have e2:e.key= .int kk p1:=by simpa [bF,aq] using hp1
    simp only[bE,hd] at h
    cases dsc<;>simp at h
    rw[e1,e2];exact (fun x y:Int=>by simp[Instr.sameNow,NJ]:∀ x y:Int,Instr.sameNow (.int _) (.int kk x) (.int kk y)=some (NJ x y)) a p1
   | bool=>
    have e1:va= .bool a:=by simpa [bF,aq] using ha
    have e2:e.key= .bool p1:=by simpa [bF,aq] using hp1
    simp only[bE,hd] at h
    cases dsc<;>simp at h
    rw[e1,e2];exact (fun x y:Bool=>by simp[Instr.sameNow,NA]:∀ x y:Bool,Instr.sameNow .bool (.bool x) (.bool y)=some (NA x y)) a p1
   | str=>
    have e1:va= .string (bs a):=by simpa [bF,aq] using ha
    have e2:e.key= .string (bs p1):=by simpa [bF,aq] using hp1
    simp only[bE,hd] at h
    cases dsc<;>simp at h
    rw[e1,e2]
    exact congrArg some (Ou a p1)
   | _=>simp[bE] at h
  cases hb:k.beq a p.1 with
  | true=>
   refine⟨some (0,e.val), ?_,.yes 0 p e rfl rfl hb (fun j q hj=>by omega)⟩
   simp[Instr.findNow,hs,hb]
  | false=>
   refine⟨r.map fun q=>(q.1+1,q.2), ?_, ?_⟩
   ·simp only[Instr.findNow,hs,hb,hr,Vp]
    congr 1
    cases r<;>simp;omega
   ·cases hf with
    | no hn=>
     refine .no fun q hq=> ?_
     rcases Uk.1 hq with rfl | hq
     ·exact hb
     ·exact hn q hq
    | yes i q e' h1 h2 h3 h4=>
     refine .yes (i+1) q e' (by simpa using h1) (by simpa using h2) h3 (fun j q' hj hq=> ?_)
     cases j with
     | zero=>simp only[TQ,Option.some.injEq] at hq;subst hq;exact hb
     | succ j=>exact h4 j q' (by omega) (by simpa using hq)
theorem w5 {t:TypeId} {k v:Ty} (h:dQ P t k=true) {a:k.den} {va:Value} (ha:bF G k a va) {l:List (k.den×v.den)} {es:List MapEntry} (he:ay (mN G k v) l es):
 ∃ r,(Instr.findKey t va es).run P w= .ok r w∧wR a l es r:=by
 by_cases hst:∃ s,k= .st s
 ·obtain⟨s,rfl⟩:=hst
  have h0:=h
  simp only[dQ] at h
  split at h
  ·rename_i fs hu
   obtain⟨us,eu,_⟩:=ha
   have ha':bF G (.st s) a va:=⟨us,eu,by assumption⟩
   obtain⟨r,hr,hf⟩:=BM (w:=w) h0 ha' 0 he
   have hid:(r.map fun p:Nat×Value=>(0+p.1,p.2))=r:=by cases r<;>simp
   rw[hid] at hr
   cases es with
   | nil=>
    refine⟨none,by simp[Instr.findKey,run_underlying hu,Instr.findNow], ?_⟩
    have:l=[]:=by
     cases l with
     | nil=>rfl
     | cons p l=>obtain⟨y,s',e,_⟩:=he;cases e
    subst this
    exact .no (by simp)
   | cons e es=>
    refine⟨r, ?_,hf⟩
    have hn:Instr.findNow (.struct fs) va (e::es) 0=none:=by simp[Instr.findNow,Instr.sameNow]
    simp only[Instr.findKey,Sem.run_bind,run_underlying hu,Result.andThen_ok,hn,hr]
  ·cases h
 ·have hs:bE P t k=true:=by
   cases k with
   | st s=>exact absurd ⟨s,rfl⟩ hst
   | _=>exact h
  obtain⟨d,i,hd,_⟩:=gz (qP hs).1
  obtain⟨r,hr,hf⟩:=GP hs hd ha 0 he
  have hid:(r.map fun p:Nat×Value=>(0+p.1,p.2))=r:=by cases r<;>simp
  rw[hid] at hr
  exact⟨r,by simp[Instr.findKey,run_underlying hd,hr],hf⟩
theorem wR.get {k v:Ty} {a:k.den} {l:List (k.den×v.den)} {es:List MapEntry} {r:Option (Nat×Value)} (h:wR a l es r):match r with
 | none=>bW l a=none
 | some (i,u)=>∃ p e,l[i]? =some p∧es[i]? =some e∧u=e.val∧bW l a=some p.2:=by
 cases h with
 | no hn=>
  simp only[bW]
  have:l.find? (fun p=>k.beq a p.1)=none:=by
   rw[List.find?_eq_none];intro p hp;simp[hn p hp]
  rw[this]
 | yes i p e h1 h2 h3 h4=>
  refine⟨p,e,h1,h2,rfl, ?_⟩
  have:l.find? (fun p=>k.beq a p.1)=some p:=by
   rw[List.find?_eq_some_iff_getElem]
   obtain⟨hlt,hp⟩:=TU.1 h1
   exact⟨h3,i,hlt,hp,fun j hj=>by simp[h4 j l[j] hj (TS (by omega))]⟩
  simp[bW,this]
theorem wR.set {k v:Ty} {a:k.den} (y:v.den) {l:List (k.den×v.den)} {es:List MapEntry} {r:Option (Nat×Value)} (h:wR a l es r):match r with
 | none=>iY l a y=l++[(a,y)]
 | some (i,_)=>iY l a y=l.set i (a,y):=by
 cases h with
 | no hn=>
  simp only
  clear es
  induction l with
  | nil=>rfl
  | cons p l ih=>
   simp only[iY,hn p (by simp),Vw,Tx]
   rw[ih fun q hq=>hn q (by simp[hq])]
 | yes i p e h1 h2 h3 h4=>
  simp only
  clear h2
  induction l generalizing i with
  | nil=>simp at h1
  | cons q l ih=>
   cases i with
   | zero=>
    simp only[TQ,Option.some.injEq] at h1
    subst h1
    simp[iY,h3]
   | succ i=>
    have hq:=h4 0 q (by omega) rfl
    simp only[iY,hq,Vw,List.set_cons_succ]
    rw[ih i (by simpa using h1) (fun j q' hj hq'=>h4 (j+1) q' (by omega) (by simpa using hq'))]
theorem yV {b:Bool} {t:TypeId} {k:Ty} (h:bE P t k=true) {u:Value} (n:Nat):(Instr.checkKey b (n+1) t u).run P w= .ok () w:=by
 cases k with
 | int kk=>
  simp only[bE] at h
  split at h
  ·rename_i hu;simp[Instr.checkKey,run_underlying hu]
  ·cases h
 | bool=>
  simp only[bE] at h
  split at h
  ·rename_i hu;simp[Instr.checkKey,run_underlying hu]
  ·cases h
 | str=>
  simp only[bE] at h
  split at h
  ·rename_i hu;simp[Instr.checkKey,run_underlying hu]
  ·cases h
 | _=>simp[bE] at h
def Gs (b:Bool) (n:Nat) (us:List Value) (f:Field) (_:PUnit):Sem (ForInStep PUnit):=
 if f.name≠ "_" then do
  let x ← part f.type us.toArray f.offset
  Instr.checkKey b (n+1) f.type x
  pure (ForInStep.yield PUnit.unit)
 else pure (ForInStep.yield PUnit.unit)
theorem OA {b:Bool} {n m:Nat} {us pre c1 rest:List Value} {f:Field} {t1:Ty} {x1:t1.den} (q1:f.name≠ "_") (q2:f.offset=m) (q4:bE P f.type t1=true) (q5:aq G t1 x1 c1) (hpre:pre.length=m) (q6:us=pre++(c1++rest)):
 (Gs b n us f PUnit.unit).run P w= .ok (.yield PUnit.unit) w:=by
 obtain⟨k1,k2,k3⟩:=qP q4
 obtain⟨d,i,hd,_⟩:=gz k1
 have hl1:c1.length=1:=by rw[q5.len,k3]
 obtain⟨u,rfl⟩:∃ u,c1=[u]:=by
  match c1,hl1 with
  | [u],_=>exact⟨u,rfl⟩
 have hget:us[m]? =some u:=by rw[q6,TO (by omega),hpre];simp
 have hp:(part f.type us.toArray f.offset).run P w= .ok u w:=by
  simp[part,mK hd,k2,q2,hget]
 simp only[Gs,VH q1,Sem.run_bind,hp,Result.andThen_ok,yV q4 n,Sem.run_pure]
theorem Oz {b:Bool} {n:Nat} {us:List Value}:∀ (l:List Field) (m:Nat) (t:Ty) (x:t.den) (pre c:List Value),bO P l m t=true→us=pre++c→pre.length=m→aq G t x c→
 (forIn l PUnit.unit (Gs b n us)).run P w= .ok PUnit.unit w
 | [],m,t,x,pre,c,h,_,_,_=>by simp[bO] at h
 | [f],m,t,x,pre,c,h,hus,hpre,hc=>by
  simp only[bO,SX,VB] at h
  have:=OA (P:=P) (w:=w) (b:=b) (n:=n) (rest:=[]) h.1.1.1 (UW h.1.1.2) h.2 hc hpre (by simpa using hus)
  rw[List.forIn_cons,Sem.run_bind,this]
  rfl
 | f::g::r,m,t,x,pre,c,h,hus,hpre,hc=>by
  cases t with
  | pair s t=>
   simp only[bO,SX,VB] at h
   obtain⟨c1,r1,e1,p1,q1⟩:=hc
   obtain⟨⟨⟨⟨f1,f2⟩,f3⟩,f4⟩,f5⟩:=h
   have o1:=OA (P:=P) (w:=w) (b:=b) (n:=n) (us:=us) (rest:=r1) f1 (UW f2) f4 p1 hpre (by rw[hus,e1])
   have hl1:c1.length=1:=by rw[p1.len,(qP f4).2.2]
   have o2:=Oz (b:=b) (n:=n) (us:=us) (g::r) (m+1) t x.2 (pre++c1) r1 f5 (by rw[hus,e1];simp) (by simp;omega) q1
   rw[List.forIn_cons,Sem.run_bind,o1]
   exact o2
  | _=>simp[bO] at h
theorem KZ {t:TypeId} {k:Ty} (h:dQ P t k=true) {a:k.den} {v:Value} (hv:bF G k a v) (b:Bool) (n:Nat):(Instr.checkKey b (n+1+1) t v).run P w= .ok () w:=by
 cases k with
 | st s=>
  simp only[dQ] at h
  split at h
  ·rename_i fs hu
   simp only[SX] at h
   obtain⟨us,e1,h1⟩:=hv
   subst e1
   have:=Oz (P:=P) (w:=w) (b:=b) (n:=n) (us:=us) fs.toList 0 s a [] us h.2 rfl rfl h1
   rw[Array.forIn_toList] at this
   rw[Instr.checkKey]
   simp only[Sem.run_bind,run_underlying hu,Result.andThen_ok]
   have e2:∀ (X:Sem PUnit),X=forIn fs PUnit.unit (Gs b n us)→(X.run P w).andThen (fun _ w'=>Sem.run P (pure ()) w')= .ok () w:=by
    intro X hX;rw[hX,this];rfl
   exact e2 _ rfl
  ·cases h
 | _=>exact yV (vA h (by intro s e;cases e)) (n+1)
theorem jJ {t:TypeId} {k:Ty} (h:dQ P t k=true) {a:k.den} {v:Value} (hv:bF G k a v) (b:Bool):(Instr.checkKey b 10000 t v).run P w= .ok () w:=
 KZ h hv b 9998
end Go.Dn
