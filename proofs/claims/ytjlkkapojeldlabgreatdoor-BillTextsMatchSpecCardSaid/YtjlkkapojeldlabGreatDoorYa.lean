/-
  An executor of Go code on plain data, proved sound against the model: values, states, operations. No condition.
-/
import Derived.Laws.AppendOwn
import Derived.Orders
import Derived.Below
import Derived.KernelRfl
import Derived.StillTail
import Derived.Laws.Cells
import Derived.Laws.Strings
import Derived.Laws.BytesString
import Derived.Great.BuildSlice
import Derived.Laws.StructEq
set_option linter.all false
namespace Go.Dn
abbrev ac5:= @Array.getD_eq_getD_getElem?
abbrev ac6:= @Array.getElem?_eq_getElem
abbrev ac7:= @Array.getElem?_eq_none
abbrev ac8:= @Array.getElem?_eq_some_iff
abbrev ac9:= @Array.getElem?_push_size
abbrev ad0:= @List.drop_drop
abbrev ad1:= @List.drop_eq_getElem_cons
abbrev ad2:= @List.drop_eq_nil_of_le
abbrev ad3:= @List.drop_left
abbrev ad4:= @List.drop_of_length_le
abbrev ad5:= @List.drop_take
abbrev ad6:= @List.drop_zero
abbrev ad7:= @List.eq_nil_iff_forall_not_mem
abbrev ad8:= @List.eq_nil_of_length_eq_zero
abbrev ad9:= @List.ext_getElem?
abbrev adA:= @Decidable.of_not_not
abbrev adB:= @Int.fdiv_eq_ediv_of_nonneg
abbrev adC:= @Int.mul_add
abbrev adD:= @Int.mul_assoc
abbrev adE:= @Int.mul_le_mul_of_nonneg_left
abbrev adF:= @Int.mul_le_mul_of_nonneg_right
abbrev adG:= @Int.mul_nonneg
abbrev adH:= @Int.mul_one
abbrev adI:= @Int.natAbs_natCast
abbrev adJ:= @Int.pow_add
abbrev adK:= @Int.pow_succ
abbrev adL:= @Int.tdiv_eq_ediv_of_nonneg
abbrev adM:= @Int.tmod_eq_emod_of_nonneg
abbrev adN:= @Int.toNat_natCast
abbrev adO:= @List.all_append
abbrev adP:= @List.all_cons
abbrev adQ:= @List.all_eq_true
abbrev adR:= @List.any_eq_false
abbrev adS:= @List.any_eq_true
abbrev adT:= @List.append_assoc
abbrev adU:= @List.append_nil
abbrev adV:= @List.cons_append
abbrev adW:= @List.cons_ne_nil
abbrev adY:= @List.countP_eq_zero
abbrev adZ:= @List.countP_pos_iff
abbrev ada:= @Array.getElem?_replicate
abbrev adb:= @Array.getElem?_setIfInBounds_ne
abbrev ade:= @Array.getElem?_setIfInBounds_self_of_lt
abbrev adf:= @Array.mem_toList_iff
abbrev adg:= @Array.size_push
abbrev adh:= @Array.toArray_toList
abbrev adi:= @Bool.and_eq_false_iff
abbrev adj:= @Bool.and_eq_true
abbrev adk:= @Bool.and_false
abbrev adl:= @Bool.and_self
abbrev adm:= @Bool.and_true
abbrev adn:= @Bool.false_and
abbrev ado:= @Bool.false_eq_true
abbrev adp:= @Bool.false_ne_true
abbrev adq:= @Bool.false_or
abbrev adr:= @Bool.not_eq_false'
abbrev ads:= @Bool.not_eq_true
abbrev adt:= @Bool.not_eq_true'
abbrev adu:= @Bool.not_false
abbrev adv:= @Bool.not_true
abbrev adw:= @Bool.or_eq_false_iff
abbrev adx:= @Bool.or_eq_true
abbrev ady:= @Bool.true_and
abbrev adz:= @Bool.true_eq_false
abbrev ae0:= @List.nodup_append
abbrev ae1:= @List.nodup_cons
abbrev ae2:= @List.not_mem_nil
abbrev ae3:= @List.pairwise_append
abbrev ae4:= @List.replicate_succ
abbrev ae5:= @List.setIfInBounds_toArray
abbrev ae6:= @List.set_cons_succ
abbrev ae7:= @List.set_cons_zero
abbrev ae8:= @List.singleton_append
abbrev ae9:= @List.size_toArray
abbrev aeA:= @List.length_drop
abbrev aeB:= @List.length_map
abbrev aeC:= @List.length_nil
abbrev aeD:= @List.length_pos_iff
abbrev aeE:= @List.length_replicate
abbrev aeF:= @List.length_set
abbrev aeG:= @List.length_singleton
abbrev aeH:= @List.length_take
abbrev aeI:= @List.map_append
abbrev aeJ:= @List.map_congr_left
abbrev aeK:= @List.map_cons
abbrev aeL:= @List.map_map
abbrev aeM:= @List.map_nil
abbrev aeN:= @List.mem_append
abbrev aeO:= @List.mem_cons
abbrev aeP:= @List.mem_cons_of_mem
abbrev aeQ:= @List.mem_filter
abbrev aeR:= @List.mem_filterMap
abbrev aeS:= @List.mem_iff_getElem?
abbrev aeT:= @List.mem_map
abbrev aeU:= @List.mem_of_getElem?
abbrev aeV:= @List.mem_of_mem_take
abbrev aeW:= @List.mem_or_eq_of_mem_set
abbrev aeX:= @List.mem_range
abbrev aeY:= @List.mem_singleton
abbrev aeZ:= @List.nil_append
abbrev aea:= @List.filterMap_append
abbrev aeb:= @List.flatMap_append
abbrev aec:= @List.flatMap_cons
abbrev aed:= @List.foldl_cons
abbrev aee:= @List.getD_eq_getElem?_getD
abbrev aef:= @List.getElem?_append
abbrev aeg:= @List.getElem?_append_left
abbrev aeh:= @List.getElem?_append_right
abbrev aei:= @List.getElem?_cons_succ
abbrev aej:= @List.getElem?_cons_zero
abbrev aek:= @List.getElem?_drop
abbrev ael:= @List.getElem?_eq_getElem
abbrev aem:= @List.getElem?_eq_none
abbrev aen:= @List.getElem?_eq_some_iff
abbrev aeo:= @List.getElem?_map
abbrev aep:= @List.getElem?_range
abbrev aeq:= @List.getElem?_set
abbrev aer:= @List.getElem?_set_ne
abbrev aes:= @List.getElem?_set_self
abbrev aet:= @List.getElem?_take
abbrev aeu:= @List.getElem?_take_of_lt
abbrev aev:= @List.getElem?_toArray
abbrev aew:= @List.getElem_mem
abbrev aex:= @List.head?_cons
abbrev aey:= @List.length_append
abbrev aez:= @List.length_cons
abbrev af0:= @decide_eq_true
abbrev af1:= @decide_eq_true_eq
abbrev af2:= @decide_false
abbrev af3:= @decide_true
abbrev af4:= @eq_iff_iff
abbrev af5:= @false_and
abbrev af6:= @false_or
abbrev af7:= @if_false
abbrev af8:= @if_neg
abbrev af9:= @if_pos
abbrev afA:= @Nat.min_eq_left
abbrev afB:= @Nat.mul_le_mul_right
abbrev afC:= @Nat.mul_one
abbrev afD:= @Nat.ne_of_lt
abbrev afE:= @Nat.not_lt_zero
abbrev afF:= @Nat.pow_le_pow_right
abbrev afG:= @Nat.pow_succ
abbrev afH:= @Nat.zero_add
abbrev afI:= @Nat.zero_le
abbrev afJ:= @Option.bind_some
abbrev afK:= @Option.getD_some
abbrev afL:= @Option.isNone_iff_eq_none
abbrev afM:= @Option.isSome_iff_exists
abbrev afN:= @Option.map_eq_some_iff
abbrev afO:= @Option.map_map
abbrev afP:= @Option.map_some
abbrev afQ:= @UInt8.not_lt
abbrev afR:= @and_true
abbrev afS:= @beq_eq_false_iff_ne
abbrev afT:= @beq_false_of_ne
abbrev afU:= @beq_self_eq_true
abbrev afV:= @bne_self_eq_false
abbrev afW:= @cond_false
abbrev afX:= @cond_true
abbrev afY:= @decide_eq_decide
abbrev afZ:= @decide_eq_false
abbrev afa:= @List.take_append_drop
abbrev afb:= @List.take_left
abbrev afc:= @List.take_length
abbrev afd:= @List.take_of_length_le
abbrev afe:= @List.take_succ_cons
abbrev aff:= @List.take_take
abbrev afg:= @List.take_zero
abbrev afh:= @Nat.add_assoc
abbrev afi:= @Nat.add_mul
abbrev afj:= @Nat.add_zero
abbrev afk:= @Nat.beq_refl
abbrev afl:= @Nat.div_lt_self
abbrev afm:= @Nat.eq_of_beq_eq_true
abbrev afn:= @Nat.eq_zero_or_pos
abbrev afo:= @Nat.le_of_ble_eq_true
abbrev afp:= @Nat.le_of_lt
abbrev afq:= @Nat.le_refl
abbrev afr:= @Nat.le_succ_of_le
abbrev afs:= @Nat.le_trans
abbrev aft:= @Nat.lt_of_lt_of_le
abbrev afu:= @Nat.lt_or_ge
abbrev afv:= @Nat.lt_or_gt_of_ne
abbrev afw:= @Nat.lt_succ_iff_lt_or_eq
abbrev afx:= @Nat.lt_succ_self
abbrev afy:= @Nat.lt_trans
abbrev afz:= @Nat.lt_trichotomy
abbrev aga:= @if_true
abbrev agb:= @not_and
abbrev agc:= @not_exists
abbrev agd:= @not_or
abbrev age:= @of_decide_eq_true
inductive Ty where
 | int (k:IntKind)
 | bool
 | str
 | unit
 | pair (a b:Ty)
 | st (t:Ty)
 | slice (t:Ty)
 | ptr (t:Ty)
 | clo (g:Nat) (t:Ty)
 | hnd
 deriving DecidableEq
def Ty.den:Ty->Type
 | .int _=>Int
 | .bool=>Bool
 | .str=>List UInt8
 | .unit=>Unit
 | .pair a b=>a.den×b.den
 | .st t=>t.den
 | .slice t=>List t.den
 | .ptr t=>t.den
 | .clo _ t=>t.den
 | .hnd=>Option Nat
def Ty.size:Ty->Nat
 | .unit=>0
 | .pair a b=>a.size+b.size
 | .st t=>t.size
 | _=>1
def Ty.flat:Ty->Bool
 | .pair a b=>a.flat&&b.flat
 | .st t=>t.flat
 | .slice _ | .ptr _ | .clo _ _=>false
 | _=>true
def Ty.aR:Ty->Bool
 | .pair a b=>a.aR&&b.aR
 | .st t=>t.aR
 | .slice t=>t.aR
 | .ptr t=>t.aR
 | .clo _ t=>t.aR
 | .hnd=>false
 | _=>true
structure Gh where
 blk:Nat->Option Obj
 hnd:Nat->Option Nat
instance:CoeFun Gh fun _=>Nat->Option Obj:=⟨Gh.blk⟩
structure Gh.le (G G':Gh):Prop where
 blk:∀ b o,G b=some o->G' b=some o
 hnd:∀ h b,G.hnd h=some b->G'.hnd h=some b
instance {G G':Gh}:CoeFun (G.le G') fun _=>∀ b o,G b=some o->G' b=some o:=⟨Gh.le.blk⟩
theorem Gh.le_refl (G:Gh):G.le G:=⟨fun _ _ h=>h,fun _ _ h=>h⟩
theorem Gh.le_trans {A B C:Gh} (h:A.le B) (k:B.le C):A.le C:=⟨fun b o x=>k b o (h b o x),fun b o x=>k.hnd b o (h.hnd b o x)⟩
def bs (l:List UInt8):ByteArray:=⟨l.toArray⟩
def Agr (G:Gh) (w:World):Prop:=∀ b o,G b=some o->w.heap[b]? =some o
def bQ {α:Type} (R:α->List Value->Prop):List α->List Value->Prop
 | [],cs=>cs=[]
 | x::l,cs=>∃ c r,cs=c++r/\R x c/\bQ R l r
def bJ {α:Type} (G:Gh) (sz:Nat) (R:α->List Value->Prop) (l:List α) (v:Value):Prop:=
 ∃ a cap,v= .slice a l.length cap/\l.length<=cap/\cap<=maxLen/\
  (l=[]\/∃ b off c T fz,a=some ⟨b,off,none⟩/\G b=some (.cells c T fz)/\off+l.length*sz<=c.size/\
    bQ R l ((c.toList.drop off).take (l.length*sz)))
def ax (G:Gh):(t:Ty)->t.den->List Value->Prop
 | .int k,n,cs=>cs=[.int k n]
 | .bool,b,cs=>cs=[.bool b]
 | .str,s,cs=>cs=[.string (bs s)]
 | .unit,_,cs=>cs=[]
 | .pair a b,(x,y),cs=>∃ c r,cs=c++r/\ax G a x c/\ax G b y r
 | .st t,x,cs=>ax G t x cs
 | .slice t,l,cs=>∃ v,cs=[v]/\bJ G t.size (ax G t) l v
 | .ptr t,x,cs=>∃ b off c T fz,cs=[.pointer (some ⟨b,off,none⟩)]/\G b=some (.cells c T fz)/\off+t.size<=c.size/\
  ax G t x ((c.toList.drop off).take t.size)
 | .clo g t,x,cs=>∃ caps:List Value,cs=[.func (.func g) #[] caps.toArray]/\ax G t x caps
 | .hnd,none,cs=>cs=[.pointer none]
 | .hnd,some h,cs=>∃ b,G.hnd h=some b/\cs=[.pointer (some ⟨b,0,none⟩)]
theorem bQ.mono {α:Type} {R R':α->List Value->Prop} (h:∀ x cs,R x cs->R' x cs):∀ {l:List α} {cs:List Value},bQ R l cs->bQ R' l cs
 | [],_,hh=>hh
 | _::_,_,⟨c,r,e,hx,hl⟩=>⟨c,r,e,h _ _ hx,bQ.mono h hl⟩
theorem ax.mono {G G':Gh} (hG:G.le G'):∀ (t:Ty) (x:t.den) (cs:List Value),ax G t x cs->ax G' t x cs
 | .int _,_,_,h=>h
 | .bool,_,_,h=>h
 | .str,_,_,h=>h
 | .unit,_,_,h=>h
 | .pair a b,(x,y),_,⟨c,r,e,hx,hy⟩=>⟨c,r,e,ax.mono hG a x c hx,ax.mono hG b y r hy⟩
 | .st t,x,cs,h=>ax.mono hG t x cs h
 | .slice t,_,_,⟨v,e,a,cap,hv,h1,h2,h3⟩=>⟨v,e,a,cap,hv,h1,h2,h3.imp id fun ⟨b,off,c,T,fz,ha,hb,hs,hl⟩=>
  ⟨b,off,c,T,fz,ha,hG _ _ hb,hs,hl.mono (ax.mono hG t)⟩⟩
 | .ptr t,x,_,⟨b,off,c,T,fz,e,hb,hs,hl⟩=>⟨b,off,c,T,fz,e,hG _ _ hb,hs,ax.mono hG t x _ hl⟩
 | .clo _ t,x,_,⟨caps,e,h⟩=>⟨caps,e,ax.mono hG t x _ h⟩
 | .hnd,none,_,h=>h
 | .hnd,some _,_,⟨b,hb,e⟩=>⟨b,hG.hnd _ _ hb,e⟩
theorem bJ.mono {G G':Gh} (hG:G.le G') {t:Ty} {l:List t.den} {v:Value} (h:bJ G t.size (ax G t) l v):bJ G' t.size (ax G' t) l v:=by
 obtain⟨a,cap,hv,h1,h2,h3⟩:=h
 exact⟨a,cap,hv,h1,h2,h3.imp id fun ⟨b,off,c,T,fz,ha,hb,hs,hl⟩=>⟨b,off,c,T,fz,ha,hG _ _ hb,hs,hl.mono (ax.mono hG t)⟩⟩
theorem ax.len {G:Gh}:∀ {t:Ty} {x:t.den} {cs:List Value},ax G t x cs->cs.length=t.size
 | .int _,_,_,h=>by cases h;rfl
 | .bool,_,_,h=>by cases h;rfl
 | .str,_,_,h=>by cases h;rfl
 | .unit,_,_,h=>by cases h;rfl
 | .pair a b,(x,y),_,⟨c,r,e,hx,hy⟩=>by
  subst e;rw[aey,hx.len,hy.len];rfl
 | .st t,x,cs,h=>ax.len (t:=t) (x:=x) h
 | .slice t,_,_,⟨v,e,_⟩=>by subst e;rfl
 | .ptr t,x,_,⟨b,off,c,T,fz,e,_⟩=>by subst e;rfl
 | .clo _ t,x,_,⟨caps,e,h⟩=>by subst e;rfl
 | .hnd,none,_,h=>by cases h;rfl
 | .hnd,some _,_,⟨b,hb,e⟩=>by subst e;rfl
theorem bQ.len {α:Type} {R:α->List Value->Prop} {n:Nat} (h:∀ x cs,R x cs->cs.length=n):∀ {l:List α} {cs:List Value},bQ R l cs->cs.length=l.length*n
 | [],_,hh=>by cases hh;simp
 | _::l,_,⟨c,r,e,hx,hl⟩=>by
  subst e
  rw[aey,h _ _ hx,hl.len h,aez,afi]
  omega
theorem bQ.append {α:Type} {R:α->List Value->Prop}:∀ {l l':List α} {cs cs':List Value},bQ R l cs->bQ R l' cs'->bQ R (l++l') (cs++cs')
 | [],_,_,_,hh,h'=>by cases hh;simpa using h'
 | x::l,_,_,_,⟨c,r,e,hx,hl⟩,h'=>by
  subst e
  exact⟨c,r++_,by simp,hx,hl.append h'⟩
theorem Bz {α:Type} (c r:List α) (k:Nat):(c++r).drop (c.length+k)=r.drop k:=by
 rw[List.drop_append,ad4 (by omega)];simp
theorem Jj {α:Type} (c r:List α) (k:Nat):(c++r).take (c.length+k)=c++r.take k:=by
 rw[List.take_append,afd (by omega)];simp
theorem bQ.get {α:Type} {R:α->List Value->Prop} {n:Nat} (h:∀ x cs,R x cs->cs.length=n):∀ {l:List α} {cs:List Value},bQ R l cs->∀ {i:Nat} {x:α},l[i]? =some x->R x ((cs.drop (i*n)).take n)
 | [],_,_,_,_,hi=>by simp at hi
 | y::l,_,⟨c,r,e,hx,hl⟩,0,x,hi=>by
  subst e
  have hc:=h _ _ hx
  have hy:y=x:=by simpa using hi
  subst hy
  simp only[Nat.zero_mul,ad6]
  rw[<- hc,afb]
  exact hx
 | y::l,_,⟨c,r,e,hx,hl⟩,i+1,x,hi=>by
  subst e
  have hc:=h _ _ hx
  have:=hl.get h (i:=i) (x:=x) (by simpa using hi)
  rw[show (i+1)*n=c.length+i*n by rw[afi];omega,Bz]
  exact this
theorem bQ.take {α:Type} {R:α->List Value->Prop} {n:Nat} (h:∀ x cs,R x cs->cs.length=n):∀ {l:List α} {cs:List Value},bQ R l cs->∀ (i:Nat),bQ R (l.take i) (cs.take (i*n))
 | l,cs,hl,0=>by simp[bQ]
 | [],_,hh,i+1=>by cases hh;simp[bQ]
 | y::l,_,⟨c,r,e,hx,hl⟩,i+1=>by
  subst e
  have hc:=h _ _ hx
  refine⟨c,r.take (i*n), ?_,hx,hl.take h i⟩
  rw[show (i+1)*n=c.length+i*n by rw[afi];omega,Jj]
theorem bQ.drop {α:Type} {R:α->List Value->Prop} {n:Nat} (h:∀ x cs,R x cs->cs.length=n):∀ {l:List α} {cs:List Value},bQ R l cs->∀ (i:Nat),bQ R (l.drop i) (cs.drop (i*n))
 | l,cs,hl,0=>by simpa using hl
 | [],_,hh,i+1=>by cases hh;simp[bQ]
 | y::l,_,⟨c,r,e,hx,hl⟩,i+1=>by
  subst e
  have hc:=h _ _ hx
  rw[show (i+1)*n=c.length+i*n by rw[afi];omega,Bz]
  exact hl.drop h i
theorem bQ.set {α:Type} {R:α->List Value->Prop} {n:Nat} (h:∀ x cs,R x cs->cs.length=n) {y:α} {d:List Value} (hy:R y d):∀ {l:List α} {cs:List Value},bQ R l cs->∀ {i:Nat},i<l.length-> bQ R (l.set i y) (cs.take (i*n)++d++cs.drop (i*n+n))
 | [],_,_,_,hi=>by simp at hi
 | x::l,_,⟨c,r,e,hx,hl⟩,0,_=>by
  subst e
  have hc:=h _ _ hx
  exact⟨d,r,by simp[<- hc],hy,hl⟩
 | x::l,_,⟨c,r,e,hx,hl⟩,i+1,hi=>by
  subst e
  have hc:=h _ _ hx
  refine⟨c,r.take (i*n)++d++r.drop (i*n+n), ?_,hx,hl.set h hy (by simpa using hi)⟩
  rw[show (i+1)*n=c.length+i*n by rw[afi];omega,afh,Jj,Bz]
  simp
theorem ax.aR {G G':Gh} (hG:∀ b o,G b=some o->G' b=some o):∀ (t:Ty) (x:t.den) (cs:List Value),t.aR=true->ax G t x cs->ax G' t x cs
 | .int _,_,_,_,h=>h
 | .bool,_,_,_,h=>h
 | .str,_,_,_,h=>h
 | .unit,_,_,_,h=>h
 | .pair a b,(x,y),_,hn,⟨c,r,e,hx,hy⟩=>by
  simp only[Ty.aR,adj] at hn
  exact⟨c,r,e,ax.aR hG a x c hn.1 hx,ax.aR hG b y r hn.2 hy⟩
 | .st t,x,cs,hn,h=>ax.aR hG t x cs hn h
 | .slice t,_,_,hn,⟨v,e,a,cap,hv,h1,h2,h3⟩=>⟨v,e,a,cap,hv,h1,h2,h3.imp id fun ⟨b,off,c,T,fz,ha,hb,hs,hl⟩=>
  ⟨b,off,c,T,fz,ha,hG _ _ hb,hs,hl.mono fun x cs=>ax.aR hG t x cs hn⟩⟩
 | .ptr t,x,_,hn,⟨b,off,c,T,fz,e,hb,hs,hl⟩=>⟨b,off,c,T,fz,e,hG _ _ hb,hs,ax.aR hG t x _ hn hl⟩
 | .clo _ t,x,_,hn,⟨caps,e,h⟩=>⟨caps,e,ax.aR hG t x _ hn h⟩
 | .hnd,_,_,hn,_=>by cases hn
def bT (G:Gh) (t:Ty) (x:t.den) (v:Value):Prop:=
 match t,x with
 | .st t,x=>∃ vs:List Value,v= .agg vs.toArray/\ax G t x vs
 | t,x=>ax G t x [v]
theorem bT.mono {G G':Gh} (hG:G.le G') {t:Ty} {x:t.den} {v:Value} (h:bT G t x v):bT G' t x v:=by
 cases t with
 | st t=>obtain⟨vs,e,hv⟩:=h;exact⟨vs,e,ax.mono hG _ _ _ hv⟩
 | _=>exact ax.mono hG _ _ _ h
end Go.Dn
namespace Go.Dn
inductive CV where
 | int (k:IntKind) (n:Int)
 | bool (b:Bool)
 | str (s:List UInt8)
 | sl (t:Ty) (l:List t.den)
 | cp (t:Ty) (x:t.den) (off:Nat)
 | clo (g:Nat) (t:Ty) (x:t.den)
 | ref (k off:Nat)
 | row (j:Nat)
 | rp (j sz i off:Nat)
 | fn (g:Nat) (ks:List Nat)
 | nilp
 | nils
 | any
 | mp (j:Nat)
 | hnd (o:Option Nat) (off:Nat)
 | stp (j i:Nat)
 | kseq (g j:Nat)
 | nb (b:Bool)
 | opq (v:Value)
inductive SV where
 | v (agg:Bool) (cs:List CV)
 | tup (l:List (Bool×List CV))
structure lJ where
 fz:Bool
 e:TypeId
 t:Ty
 l:List t.den
inductive oz where
 | map (k v:Ty) (l:List (k.den×v.den))
 | ar (fz:Bool) (t:Ty) (l:List t.den)
structure St where
 tmps:List SV
 boxes:List (Nat×List CV)
 rows:List (Nat×lJ)
 objs:List (Nat×oz)
def look {α:Type}:List (Nat×α)->Nat->Option α
 | [],_=>none
 | (j,x)::r,k=>bif Nat.beq j k then some x else look r k
inductive aT where
 | inl (k:Nat)
 | inr (j:Nat)
 | ob (j:Nat)
 deriving DecidableEq
structure Env where
 bx:Nat->Nat
 rw:Nat->Value
 own:Nat->Option aT
 ob:Nat->Value
 st:Nat->Nat->Int
def aG {α β:Type} (R:α->β->Prop):List α->List β->Prop
 | [],l=>l=[]
 | x::r,l=>∃ y s,l=y::s/\R x y/\aG R r s
def aQ (G:Gh) (ρ:Env):CV->Value->Prop
 | .int k n,v=>v= .int k n
 | .bool b,v=>v= .bool b
 | .str s,v=>v= .string (bs s)
 | .sl t l,v=>bJ G t.size (ax G t) l v
 | .cp t x o,v=>∃ b off c T fz,v= .pointer (some ⟨b,off+o,none⟩)/\G b=some (.cells c T fz)/\off+t.size<=c.size/\
  ax G t x ((c.toList.drop off).take t.size)
 | .clo g t x,v=>∃ caps:List Value,v= .func (.func g) #[] caps.toArray/\ax G t x caps
 | .ref k o,v=>v= .pointer (some ⟨ρ.bx k,o,none⟩)
 | .row j,v=>v=ρ.rw j/\∃ a n c,v= .slice a n c
 | .rp j sz i o,v=>∃ b len cap,ρ.rw j= .slice (some ⟨b,0,none⟩) len cap/\v= .pointer (some ⟨b,i*sz+o,none⟩)
 | .fn g ks,v=>v= .func (.func g) #[] (ks.map fun k=>Value.pointer (some ⟨ρ.bx k,0,none⟩)).toArray
 | .nilp,v=>v= .pointer none
 | .nils,v=>v= .slice none 0 0
 | .any,_=>True
 | .mp j,v=>v=ρ.ob j/\∃ b,v= .map (some b)
 | .hnd none o,v=>v= .pointer none/\o=0
 | .hnd (some h) o,v=>∃ b,G.hnd h=some b/\v= .pointer (some ⟨b,o,none⟩)
 | .stp j i,v=>v= .int .i64 (ρ.st j i)
 | .kseq g j,v=>∃ b T fz,v= .func (.func g) #[] #[.pointer (some ⟨b,0,none⟩)]/\G b=some (.cells #[ρ.ob j] T fz)
 | .nb b,v=>∃ c,v= .bool c/\(b=false->c=false)
 | .opq u,v=>v=u
def ku (G:Gh) (ρ:Env):Bool->List CV->Value->Prop
 | true,cs,v=>∃ vs:List Value,v= .agg vs.toArray/\aG (aQ G ρ) cs vs
 | false,[c],v=>aQ G ρ c v
 | false,_,_=>False
def aZ (G:Gh) (ρ:Env):SV->Value->Prop
 | .v a cs,v=>ku G ρ a cs v
 | .tup l,v=>∃ vs:List Value,v= .tuple vs.toArray/\aG (fun p=>ku G ρ p.1 p.2) l vs
def BL:List Int:=(List.range 20).map fun i=>((10 ^ i:Nat):Int)
structure bZ (P:Program) (G:Gh):Prop where
 pow:∀ g,P.globalNamed "internal/strconv.uint64pow10" =some g->∃ T fz,G g=some (.cells (BL.map fun z=>Value.int .u64 z).toArray T fz)
 maxLen:∀ g,P.globalNamed "internal/bytealg.MaxLen" =some g->∃ n T fz,G g=some (.cells #[Value.int .i64 n] T fz)
theorem bZ.mono {P:Program} {G G':Gh} (h:bZ P G) (hG:G.le G'):bZ P G':=
 ⟨fun g hg=>let ⟨T,fz,e⟩:=h.pow g hg;⟨T,fz,hG.blk _ _ e⟩,fun g hg=>let ⟨n,T,fz,e⟩:=h.maxLen g hg;⟨n,T,fz,hG.blk _ _ e⟩⟩
structure Fr (P:Program) where
 n0:Nat
 pin:Nat->Nat
 pinR:Nat->Value
 B:Nat->Prop
 w0:World
 G0:Gh
 noAr:Prop
 tab:bZ P G0
def cN (G:Gh) (ρ:Env) (w:World) (j:Nat) (r:lJ):Prop:=
 if r.fz then bJ G r.t.size (ax G r.t) r.l (ρ.rw j)
 else ∃ xs,w.ownsRow 0 r.e r.t.size (ρ.rw j) r.l.length xs/\bQ (ax G r.t) r.l xs/\∀ b,(ρ.rw j).ownBlock=some b->ρ.own b=some (.inr j)
def vU (G:Gh) (k v:Ty) (p:k.den×v.den) (e:MapEntry):Prop:=bT G k p.1 e.key/\bT G v p.2 e.val
def jR (G:Gh) (w:World) (own:Nat->Prop) (fz:Bool) (t:Ty) (l:List t.den):Prop:=
 (∀ h b,G.hnd h=some b->h<l.length)/\(∀ h h' b,G.hnd h=some b->G.hnd h'=some b->h=h')/\
   ∀ h x,l[h]? =some x->∃ b vs T,G.hnd h=some b/\(fz=true->G b=some (.cells (List.toArray vs) T (0,0)))/\(fz=false->own b)/\w.heap[b]? =some (.cells (List.toArray vs) T (0,0))/\ax G t x vs
def br:Nat:=9999
def lZ (G:Gh) (ρ:Env) (w:World) (j:Nat):oz->Prop
 | .map k v l=>∃ b es clock,ρ.ob j= .map (some b)/\ρ.own b=some (.ob j)/\w.heap[b]? =some (.map es clock)/\aG (vU G k v) l es.toList/\
  (∀ (i:Nat) (e:MapEntry),es.toList[i]? =some e->(e.born:Int)=ρ.st j i/\e.born<clock)/\es.toList.Pairwise (fun a b=>a.born<b.born)
 | .ar fz t l=>j=br/\jR G w (fun b=>ρ.own b=some (.ob j)) fz t l
structure Mem {P0:Program} (C:Fr P0) (G:Gh) (ρ:Env) (S:St) (w:World):Prop where
 agr:Agr G w
 le0:C.G0.le G
 old:∀ b,b<C.n0->¬ C.B b->G b=C.G0 b
 frame:∀ b,b<C.n0->¬ C.B b->w.heap[b]? =C.w0.heap[b]?
 size:C.n0<=w.heap.size
 os:w.os=C.w0.os
 output:w.output=C.w0.output
 pin:∀ k,2000<=k->ρ.bx k=C.pin k
 pinR:∀ k,10000000<=k->ρ.rw k=C.pinR k/\ρ.ob k=C.pinR k
 owned:∀ b o,ρ.own b=some o->G b=none/\b<w.heap.size/\(C.n0<=b\/C.B b)
 boxes:∀ k cs,look S.boxes k=some cs->ρ.own (ρ.bx k)=some (.inl k)/\
  ∃ vs T,w.heap[ρ.bx k]? =some (.cells (List.toArray vs) T (0,0))/\aG (aQ G ρ) cs vs
 rows:∀ j r,look S.rows j=some r->cN G ρ w j r
 objs:∀ j r,look S.objs j=some r->lZ G ρ w j r
 hndI:C.noAr->G.hnd=C.G0.hnd/\∀ t l,look S.objs br≠some (.ar false t l)
def gj (G:Gh) (ρ:Env) (S:St) (a:Act):Prop:=
 a.tmps.size=S.tmps.length/\∀ (i:Nat) (s:SV),S.tmps[i]? =some s->aZ G ρ s (a.tmps.getD i undef)
structure Mod {P0:Program} (C:Fr P0) (G:Gh) (ρ:Env) (S:St) (w:World) (a:Act):Prop extends Mem C G ρ S w where
 tmps:gj G ρ S a
 defers:a.defers=[]
theorem aG.mono {α β:Type} {R R':α->β->Prop} (h:∀ x y,R x y->R' x y):∀ {l:List α} {r:List β},aG R l r->aG R' l r
 | [],_,hh=>hh
 | _::_,_,⟨y,s,e,hx,hl⟩=>⟨y,s,e,h _ _ hx,hl.mono h⟩
theorem aG.uY {α β:Type} {R R':α->β->Prop}:∀ {l:List α} {r:List β},(∀ x,x∈l->∀ y,R x y->R' x y)->aG R l r->aG R' l r
 | [],_,_,hh=>hh
 | x::l,_,h,⟨y,s,e,hx,hl⟩=>⟨y,s,e,h x (by simp) _ hx,aG.uY (fun z hz=>h z (by simp[hz])) hl⟩
theorem aG.len {α β:Type} {R:α->β->Prop}:∀ {l:List α} {r:List β},aG R l r->r.length=l.length
 | [],_,hh=>by cases hh;rfl
 | _::_,_,⟨y,s,e,_,hl⟩=>by subst e;simp[hl.len]
theorem aG.get {α β:Type} {R:α->β->Prop}:∀ {l:List α} {r:List β},aG R l r->∀ {i:Nat} {x:α},l[i]? =some x->∃ y,r[i]? =some y/\R x y
 | [],_,_,_,_,hi=>by simp at hi
 | _::_,_,⟨y,s,e,hx,_⟩,0,x,hi=>by subst e;simp at hi;subst hi;exact⟨y,by simp,hx⟩
 | _::_,_,⟨y,s,e,_,hl⟩,i+1,x,hi=>by
  subst e
  obtain⟨z,hz,hr⟩:=hl.get (i:=i) (x:=x) (by simpa using hi)
  exact⟨z,by simpa using hz,hr⟩
theorem aG.append {α β:Type} {R:α->β->Prop}:∀ {l l':List α} {r r':List β},aG R l r->aG R l' r'->aG R (l++l') (r++r')
 | [],_,_,_,hh,h'=>by cases hh;simpa using h'
 | _::_,_,_,_,⟨y,s,e,hx,hl⟩,h'=>by subst e;exact⟨y,s++_,by simp,hx,hl.append h'⟩
theorem aG.drop {α β:Type} {R:α->β->Prop}:∀ {l:List α} {r:List β},aG R l r->∀ n,aG R (l.drop n) (r.drop n)
 | _,_,h,0=>by simpa using h
 | [],_,hh,n+1=>by cases hh;simp[aG]
 | _::_,_,⟨y,s,e,_,hl⟩,n+1=>by subst e;simpa using hl.drop n
theorem aG.take {α β:Type} {R:α->β->Prop}:∀ {l:List α} {r:List β},aG R l r->∀ n,aG R (l.take n) (r.take n)
 | _,_,_,0=>by simp[aG]
 | [],_,hh,n+1=>by cases hh;simp[aG]
 | _::_,_,⟨y,s,e,hx,hl⟩,n+1=>by subst e;exact⟨y,s.take n,by simp,hx,hl.take n⟩
theorem aG.set {α β:Type} {R:α->β->Prop} {x:α} {y:β} (hxy:R x y):∀ {l:List α} {r:List β},aG R l r->∀ n,aG R (l.set n x) (r.set n y)
 | [],_,hh,n=>by cases hh;simp[aG]
 | _::_,_,⟨z,s,e,_,hl⟩,0=>by subst e;exact⟨y,s,by simp,hxy,hl⟩
 | _::_,_,⟨z,s,e,hx,hl⟩,n+1=>by subst e;exact⟨z,s.set n y,by simp,hx,hl.set hxy n⟩
theorem aG.single {α β:Type} {R:α->β->Prop} {x:α} {r:List β} (h:aG R [x] r):∃ y,r=[y]/\R x y:=by
 obtain⟨y,s,e,hx,hl⟩:=h;cases hl;exact⟨y,e,hx⟩
def CV.bV (k:Nat):CV->Bool
 | .ref j _=>Nat.beq j k
 | .fn _ ks=>ks.any (Nat.beq · k)
 | _=>false
def CV.aX (k:Nat):CV->Bool
 | .row j=>Nat.beq j k
 | .rp j _ _ _=>Nat.beq j k
 | _=>false
def CV.bu (k:Nat):CV->Bool
 | .mp j=>Nat.beq j k
 | .kseq _ j=>Nat.beq j k
 | _=>false
def CV.bn (k:Nat):CV->Bool
 | .stp j _=>Nat.beq j k
 | _=>false
def SV.bV (k:Nat):SV->Bool
 | .v _ cs=>cs.any (CV.bV k)
 | .tup l=>l.any fun p=>p.2.any (CV.bV k)
def SV.aX (k:Nat):SV->Bool
 | .v _ cs=>cs.any (CV.aX k)
 | .tup l=>l.any fun p=>p.2.any (CV.aX k)
def SV.bu (k:Nat):SV->Bool
 | .v _ cs=>cs.any (CV.bu k)
 | .tup l=>l.any fun p=>p.2.any (CV.bu k)
def St.bu (k:Nat) (S:St):Bool:=S.tmps.any (SV.bu k)||S.boxes.any fun p=>p.2.any (CV.bu k)
def SV.bn (k:Nat):SV->Bool
 | .v _ cs=>cs.any (CV.bn k)
 | .tup l=>l.any fun p=>p.2.any (CV.bn k)
def St.bn (k:Nat) (S:St):Bool:=S.tmps.any (SV.bn k)||S.boxes.any fun p=>p.2.any (CV.bn k)
def St.bV (k:Nat) (S:St):Bool:=S.tmps.any (SV.bV k)||S.boxes.any fun p=>p.2.any (CV.bV k)
def St.aX (k:Nat) (S:St):Bool:=S.tmps.any (SV.aX k)||S.boxes.any fun p=>p.2.any (CV.aX k)
structure CV.eY (ρ ρ':Env) (c:CV):Prop where
 bx:∀ k,c.bV k=true->ρ'.bx k=ρ.bx k
 rw:∀ k,c.aX k=true->ρ'.rw k=ρ.rw k
 ob:∀ k,c.bu k=true->ρ'.ob k=ρ.ob k
 st:∀ k,c.bn k=true->ρ'.st k=ρ.st k
theorem aQ.congr {G G':Gh} (hG:G.le G') {ρ ρ':Env}:∀ {c:CV} {v:Value},c.eY ρ ρ'->aQ G ρ c v->aQ G' ρ' c v
 | .int _ _,_,_,h=>h
 | .bool _,_,_,h=>h
 | .str _,_,_,h=>h
 | .sl _ _,_,_,h=>bJ.mono hG h
 | .cp t x _,_,_,⟨b,off,c,T,fz,e,hb,hs,hl⟩=>⟨b,off,c,T,fz,e,hG _ _ hb,hs,ax.mono hG t x _ hl⟩
 | .clo _ t x,_,_,⟨caps,e,h⟩=>⟨caps,e,ax.mono hG t x _ h⟩
 | .ref k _,_,s,h=>by
  have:=s.bx k (by simp[CV.bV]);simp only[aQ] at h ⊢;rw[this];exact h
 | .row j,_,s,h=>by
  have:=s.rw j (by simp[CV.aX]);simp only[aQ] at h ⊢;rw[this];exact h
 | .rp j _ _ _,_,s,h=>by
  have:=s.rw j (by simp[CV.aX]);simp only[aQ] at h ⊢;rw[this];exact h
 | .fn g ks,_,s,h=>by
  simp only[aQ] at h ⊢
  rw[h]
  congr 2
  refine aeJ fun k hk=> ?_
  rw[s.bx k (by simp[CV.bV,hk])]
 | .nilp,_,_,h=>h
 | .nils,_,_,h=>h
 | .any,_,_,_=>trivial
 | .nb _,_,_,h=>h
 | .opq _,_,_,h=>h
 | .mp j,_,s,h=>by
  have:=s.ob j (by simp[CV.bu]);simp only[aQ] at h ⊢;rw[this];exact h
 | .hnd none _,_,_,h=>h
 | .hnd (some _) _,_,_,⟨b,hb,e⟩=>⟨b,hG.hnd _ _ hb,e⟩
 | .stp j i,_,s,h=>by
  have:=s.st j (by simp[CV.bn]);simp only[aQ] at h ⊢;rw[this];exact h
 | .kseq g j,_,s,h=>by
  have:=s.ob j (by simp[CV.bu]);simp only[aQ] at h ⊢;rw[this]
  obtain⟨b,T,fz,e,hb⟩:=h
  exact⟨b,T,fz,e,hG _ _ hb⟩
theorem ku.congr {G G':Gh} (hG:G.le G') {ρ ρ':Env} {a:Bool} {cs:List CV} {v:Value} (hs:∀ c,c∈cs->c.eY ρ ρ') (h:ku G ρ a cs v):ku G' ρ' a cs v:=by
 cases a with
 | true=>obtain⟨vs,e,hl⟩:=h;exact⟨vs,e,aG.uY (fun c hc y=>aQ.congr hG (hs c hc)) hl⟩
 | false=>
  match cs,hs,h with
  | [c],hs,h=>exact aQ.congr hG (hs c (by simp)) h
def SV.eY (ρ ρ':Env):SV->Prop
 | .v _ cs=>∀ c,c∈cs->c.eY ρ ρ'
 | .tup l=>∀ p,p∈l->∀ c,c∈p.2->c.eY ρ ρ'
theorem aZ.congr {G G':Gh} (hG:G.le G') {ρ ρ':Env} {s:SV} {v:Value} (hs:s.eY ρ ρ') (h:aZ G ρ s v):aZ G' ρ' s v:=by
 cases s with
 | v a cs=>exact ku.congr hG hs h
 | tup l=>
  obtain⟨vs,e,hl⟩:=h
  exact⟨vs,e,aG.uY (fun p hp y=>ku.congr hG (hs p hp)) hl⟩
theorem CV.eY.refl (ρ:Env) (c:CV):c.eY ρ ρ:=⟨fun _ _=>rfl,fun _ _=>rfl,fun _ _=>rfl,fun _ _=>rfl⟩
theorem SV.eY.refl (ρ:Env) (s:SV):s.eY ρ ρ:=by
 cases s with
 | v a cs=>exact fun c _=> .refl ρ c
 | tup l=>exact fun p _ c _=> .refl ρ c
theorem mW {α:Type} {l:List (Nat×α)} {k:Nat} {x:α} (h:look l k=some x):(k,x)∈l:=by
 induction l with
 | nil=>simp[look] at h
 | cons p r ih=>
  obtain⟨j,y⟩:=p
  simp only[look] at h
  cases hb:Nat.beq j k with
  | true=>rw[hb] at h;simp only[afX,Option.some.injEq] at h;subst h;have:=afm hb;subst this;simp
  | false=>rw[hb] at h;simp only[afW] at h;exact aeP _ (ih h)
theorem aq {α:Type} (l:List (Nat×α)) (j k:Nat) (x:α):look ((j,x)::l) k=if j=k then some x else look l k:=by
 simp only[look]
 by_cases h:j=k
 ·subst h;simp
 ·have:Nat.beq j k=false:=by
   cases hb:Nat.beq j k with
   | false=>rfl
   | true=>exact absurd (afm hb) h
  simp[this,h]
structure St.eY (ρ ρ':Env) (S:St):Prop where
 tmps:∀ s,s∈S.tmps->s.eY ρ ρ'
 boxes:∀ p,p∈S.boxes->∀ c,c∈p.2->c.eY ρ ρ'
theorem Ro {ρ:Env} {k b:Nat} {S:St} (own:Nat->Option aT) (h:S.bV k=false):S.eY ρ ⟨fun i=>if i=k then b else ρ.bx i,ρ.rw,own,ρ.ob,ρ.st⟩:=by
 simp only[St.bV,adw,adR] at h
 have cv:∀ c:CV,c.bV k=false->c.eY ρ ⟨fun i=>if i=k then b else ρ.bx i,ρ.rw,own,ρ.ob,ρ.st⟩:=fun c hc=>
  ⟨fun i hi=>by
    show (if i=k then b else ρ.bx i)=ρ.bx i
    by_cases e:i=k
    ·subst e;rw[hc] at hi;cases hi
    ·simp[e],fun _ _=>rfl,fun _ _=>rfl,fun _ _=>rfl⟩
 refine⟨fun s hs=> ?_,fun p hp c hc=>cv c ?_⟩
 ·have:=h.1 s hs
  cases s with
  | v a cs=>exact fun c hc=>cv c (by simp only[SV.bV,adS,agc,agb] at this;simpa using this c hc)
  | tup l=>exact fun p hp c hc=>cv c (by simp only[SV.bV,adS,agc,agb] at this;simpa using this p hp c hc)
 ·have:=h.2 p hp
  simp only[adS,agc,agb] at this
  simpa using this c hc
theorem GD {ρ:Env} {k:Nat} {u:Value} {S:St} (own:Nat->Option aT) (h:S.aX k=false):S.eY ρ ⟨ρ.bx,fun i=>if i=k then u else ρ.rw i,own,ρ.ob,ρ.st⟩:=by
 simp only[St.aX,adw,adR] at h
 have cv:∀ c:CV,c.aX k=false->c.eY ρ ⟨ρ.bx,fun i=>if i=k then u else ρ.rw i,own,ρ.ob,ρ.st⟩:=fun c hc=>
  ⟨fun _ _=>rfl,fun i hi=>by
    show (if i=k then u else ρ.rw i)=ρ.rw i
    by_cases e:i=k
    ·subst e;rw[hc] at hi;cases hi
    ·simp[e],fun _ _=>rfl,fun _ _=>rfl⟩
 refine⟨fun s hs=> ?_,fun p hp c hc=>cv c ?_⟩
 ·have:=h.1 s hs
  cases s with
  | v a cs=>exact fun c hc=>cv c (by simp only[SV.aX,adS,agc,agb] at this;simpa using this c hc)
  | tup l=>exact fun p hp c hc=>cv c (by simp only[SV.aX,adS,agc,agb] at this;simpa using this p hp c hc)
 ·have:=h.2 p hp
  simp only[adS,agc,agb] at this
  simpa using this c hc
theorem Rq {ρ:Env} {k:Nat} {u:Value} {S:St} (own:Nat->Option aT) (h:S.bu k=false):S.eY ρ ⟨ρ.bx,ρ.rw,own,fun i=>if i=k then u else ρ.ob i,ρ.st⟩:=by
 simp only[St.bu,adw,adR] at h
 have cv:∀ c:CV,c.bu k=false->c.eY ρ ⟨ρ.bx,ρ.rw,own,fun i=>if i=k then u else ρ.ob i,ρ.st⟩:=fun c hc=>
  ⟨fun _ _=>rfl,fun _ _=>rfl,fun i hi=>by
    show (if i=k then u else ρ.ob i)=ρ.ob i
    by_cases e:i=k
    ·subst e;rw[hc] at hi;cases hi
    ·simp[e],fun _ _=>rfl⟩
 refine⟨fun s hs=> ?_,fun p hp c hc=>cv c ?_⟩
 ·have:=h.1 s hs
  cases s with
  | v a cs=>exact fun c hc=>cv c (by simp only[SV.bu,adS,agc,agb] at this;simpa using this c hc)
  | tup l=>exact fun p hp c hc=>cv c (by simp only[SV.bu,adS,agc,agb] at this;simpa using this p hp c hc)
 ·have:=h.2 p hp
  simp only[adS,agc,agb] at this
  simpa using this c hc
theorem gj.congr {G G':Gh} (hG:G.le G') {ρ ρ':Env} {S:St} {a:Act} (hs:S.eY ρ ρ') (h:gj G ρ S a):gj G' ρ' S a:=
 ⟨h.1,fun i s hi=>aZ.congr hG (hs.tmps s (aeU hi)) (h.2 i s hi)⟩
def St.put (S:St) (d:Option Tmp) (s:SV):St:=
 match d with
 | some d=>{ S with tmps:=S.tmps.set d s }
 | none=>S
@[simp] theorem St.acT (S:St) (d:Option Tmp) (s:SV):(S.put d s).boxes=S.boxes:=by cases d<;>rfl
@[simp] theorem St.acY (S:St) (d:Option Tmp) (s:SV):(S.put d s).rows=S.rows:=by cases d<;>rfl
@[simp] theorem St.acX (S:St) (d:Option Tmp) (s:SV):(S.put d s).objs=S.objs:=by cases d<;>rfl
theorem gj.put {G:Gh} {ρ:Env} {S:St} {a:Act} (h:gj G ρ S a) (d:Option Tmp) {s:SV} {v:Value} (hv:∀ t,d=some t->aZ G ρ s v):gj G ρ (S.put d s) (a.put d v):=by
 cases d with
 | none=>exact h
 | some d=>
  refine⟨by simp[Act.put,St.put,h.1],fun i s' hi=> ?_⟩
  simp only[St.put,aeq] at hi
  by_cases e:d=i
  ·subst e
   by_cases hlt:d<S.tmps.length
   ·simp only[af9,hlt,Option.some.injEq] at hi
    subst hi
    simp only[Act.put]
    rw[ac5,ade (by rw[h.1];exact hlt)]
    exact hv _ rfl
   ·simp[hlt] at hi
  ·simp only[e,af7] at hi
   have:=h.2 i s' hi
   simp only[Act.put]
   rw[ac5,adb (by omega), <- ac5]
   exact this
theorem Mem.JP {P0:Program} {C:Fr P0} {G:Gh} {ρ:Env} {S S':St} {w:World} (h:Mem C G ρ S w) (hb:S'.boxes=S.boxes) (hr:S'.rows=S.rows) (ho:S'.objs=S.objs):Mem C G ρ S' w:=
 { h with boxes:=by rw[hb];exact h.boxes,rows:=by rw[hr];exact h.rows,objs:=by rw[ho];exact h.objs,hndI:=by rw[ho];exact h.hndI }
theorem Mod.put {P0:Program} {C:Fr P0} {G:Gh} {ρ:Env} {S:St} {w:World} {a:Act} (h:Mod C G ρ S w a) (d:Option Tmp) {s:SV} {v:Value} (hv:∀ t,d=some t->aZ G ρ s v):Mod C G ρ (S.put d s) w (a.put d v):=
 { h.toMem.JP (S':=S.put d s) (by simp) (by simp) (by simp) with tmps:=h.tmps.put d hv,defers:=by cases d<;>exact h.defers }
theorem cN.of_heap {G:Gh} {ρ:Env} {w w':World} {j:Nat} {r:lJ} (hh:w'.heap=w.heap) (h:cN G ρ w j r):cN G ρ w' j r:=by
 unfold cN at*
 split
 ·rename_i hf;rw[af9 hf] at h;exact h
 ·rename_i hf;rw[af8 hf] at h
  obtain⟨xs,ho,hl,hb⟩:=h
  exact⟨xs,by simpa [World.ownsRow,hh] using ho,hl,hb⟩
theorem jR.of_heap {G:Gh} {w w':World} {own:Nat->Prop} {fz:Bool} {t:Ty} {l:List t.den} (hh:∀ h b,G.hnd h=some b->w'.heap[b]? =w.heap[b]?) (h:jR G w own fz t l):jR G w' own fz t l:=
 ⟨h.1,h.2.1,fun i x hx=>by
   obtain⟨b,vs,T,h1,h2,h3,h4,h5⟩:=h.2.2 i x hx
   exact⟨b,vs,T,h1,h2,h3,by rw[hh i b h1];exact h4,h5⟩⟩
theorem lZ.of_heap {G:Gh} {ρ:Env} {w w':World} {j:Nat} {r:oz} (hh:w'.heap=w.heap) (h:lZ G ρ w j r):lZ G ρ w' j r:=by
 cases r with
 | map k v l=>obtain⟨b,es,clock,h1,h2,h3,h4,h5⟩:=h;exact⟨b,es,clock,h1,h2,by rw[hh];exact h3,h4,h5⟩
 | ar fz t l=>exact⟨h.1,jR.of_heap (fun _ _ _=>by rw[hh]) h.2⟩
theorem Mem.of_heap {P0:Program} {C:Fr P0} {G:Gh} {ρ:Env} {S:St} {w w':World} (h:Mem C G ρ S w) (hh:w'.heap=w.heap) (ho:w'.os=w.os) (hu:w'.output=w.output):Mem C G ρ S w' where
 agr:=fun b o hb=>by rw[hh];exact h.agr b o hb
 le0:=h.le0
 old:=h.old
 frame:=by rw[hh];exact h.frame
 size:=by rw[hh];exact h.size
 os:=ho.trans h.os
 output:=hu.trans h.output
 pin:=h.pin
 pinR:=h.pinR
 owned:=by rw[hh];exact h.owned
 boxes:=by rw[hh];exact h.boxes
 rows:=fun j r hr=>(h.rows j r hr).of_heap hh
 objs:=fun j r hr=>(h.objs j r hr).of_heap hh
 hndI:=h.hndI
theorem Mod.of_heap {P0:Program} {C:Fr P0} {G:Gh} {ρ:Env} {S:St} {w w':World} {a:Act} (h:Mod C G ρ S w a) (hh:w'.heap=w.heap) (ho:w'.os=w.os) (hu:w'.output=w.output):Mod C G ρ S w' a:=
 { h.toMem.of_heap hh ho hu with tmps:=h.tmps,defers:=h.defers }
structure Grow (ρ:Env) (w w':World) (blk:Option Nat):Prop where
 os:w'.os=w.os
 output:w'.output=w.output
 size:w.heap.size<=w'.heap.size
 block:∀ b,b<w.heap.size->some b≠blk->w'.heap[b]? =w.heap[b]?
theorem aB {w:World} {b:Nat} {o:Obj} (h:w.heap[b]? =some o):b<w.heap.size:=(ac8.1 h).1
theorem cN.kept {G:Gh} {ρ:Env} {w w':World} {j:Nat} {r:lJ} {blk:Option Nat} (hg:Grow ρ w w' blk) (hne:∀ b,blk=some b->ρ.own b≠some (.inr j)) (h:cN G ρ w j r):cN G ρ w' j r:=by
 unfold cN at*
 split
 ·rename_i hf;rw[af9 hf] at h;exact h
 ·rename_i hf;rw[af8 hf] at h
  obtain⟨xs,⟨hlen,ho⟩,hl,hb⟩:=h
  refine⟨xs,⟨hlen, ?_⟩,hl,hb⟩
  rcases ho with hn | ⟨g,cap,cur,hv,h0,hgg,rest⟩
  ·exact .inl hn
  ·refine .inr ⟨g,cap,cur,hv,h0, ?_,rest⟩
   rw[hg.block g (aB hgg) ?_]
   ·exact hgg
   ·intro e
    exact hne g e.symm (hb g (by rw[hv];rfl))
theorem lZ.kept {G:Gh} {ρ:Env} {w w':World} {j:Nat} {r:oz} {blk:Option Nat} (hg:Grow ρ w w' blk) (hgn:∀ b,blk=some b->G b=none) (hne:∀ b,blk=some b->ρ.own b≠some (.ob j)) (h:lZ G ρ w j r):lZ G ρ w' j r:=by
 cases r with
 | map k v l=>
  obtain⟨b,es,clock,h1,h2,h3,h4,h5⟩:=h
  refine⟨b,es,clock,h1,h2, ?_,h4,h5⟩
  rw[hg.block b (aB h3) (fun e=>hne b e.symm h2)];exact h3
 | ar fz t l=>
  obtain⟨hj,h⟩:=h
  refine⟨hj,h.1,h.2.1,fun i x hx=> ?_⟩
  obtain⟨b,vs,T,h1,h2,h3,h4,h5⟩:=h.2.2 i x hx
  refine⟨b,vs,T,h1,h2,h3, ?_,h5⟩
  rw[hg.block b (aB h4) (fun e=> ?_)]
  ·exact h4
  ·cases fz with
   | true=>have:=hgn b e.symm;rw[h2 rfl] at this;cases this
   | false=>exact hne b e.symm (h3 rfl)
theorem vU.mono {G G':Gh} (hG:G.le G') {k v:Ty} {p:k.den×v.den} {e:MapEntry} (h:vU G k v p e):vU G' k v p e:=⟨h.1.mono hG,h.2.mono hG⟩
theorem lZ.congr {G G':Gh} (hG:G.le G') (hh:G'.hnd=G.hnd) {ρ ρ':Env} {w:World} {j:Nat} {r:oz} (hr:ρ'.ob j=ρ.ob j) (hst:ρ'.st j=ρ.st j) (ho:∀ b,ρ.own b=some (.ob j)->ρ'.own b=some (.ob j)) (h:lZ G ρ w j r):lZ G' ρ' w j r:=by
 cases r with
 | map k v l=>
  obtain⟨b,es,clock,h1,h2,h3,h4,h5,h6⟩:=h
  exact⟨b,es,clock,by rw[hr];exact h1,ho b h2,h3,h4.mono fun x y hxy=>hxy.mono hG,by rw[hst];exact h5,h6⟩
 | ar fz t l=>
  obtain⟨hj,h⟩:=h
  refine⟨hj,fun i b hb=>h.1 i b (by rw[<- hh];exact hb),fun i i' b hb hb'=>h.2.1 i i' b (by rw[<- hh];exact hb) (by rw[<- hh];exact hb'),fun i x hx=> ?_⟩
  obtain⟨b,vs,T,h1,h2,h3,h4,h5⟩:=h.2.2 i x hx
  exact⟨b,vs,T,by rw[hh];exact h1,fun e=>hG _ _ (h2 e),fun e=>ho b (h3 e),h4,ax.mono hG t x _ h5⟩
theorem cN.congr {G G':Gh} (hG:G.le G') {ρ ρ':Env} {w:World} {j:Nat} {r:lJ} (hr:ρ'.rw j=ρ.rw j) (ho:∀ b,ρ.own b=some (.inr j)->ρ'.own b=some (.inr j)) (h:cN G ρ w j r):cN G' ρ' w j r:=by
 unfold cN at*
 rw[hr]
 split
 ·rename_i hf;rw[af9 hf] at h;exact bJ.mono hG h
 ·rename_i hf;rw[af8 hf] at h
  obtain⟨xs,hown,hl,hb⟩:=h
  exact⟨xs,hown,hl.mono (ax.mono hG r.t),fun b e=>ho b (hb b e)⟩
end Go.Dn
namespace Go.Dn
def unpack:(t:Ty)->t.den->List CV
 | .int k,n=>[.int k n]
 | .bool,b=>[.bool b]
 | .str,s=>[.str s]
 | .unit,_=>[]
 | .pair a b,p=>unpack a p.1++unpack b p.2
 | .st t,x=>unpack t x
 | .slice t,l=>[.sl t l]
 | .ptr t,x=>[.cp t x 0]
 | .clo g t,x=>[.clo g t x]
 | .hnd,o=>[.hnd o 0]
def nX (t:Ty) (x:t.den):SV:=
 match t,x with
 | .st t,x=> .v true (unpack t x)
 | t,x=> .v false (unpack t x)
def Js (t:Ty) (x:t.den):Bool×List CV:=
 match t,x with
 | .st t,x=>(true,unpack t x)
 | t,x=>(false,unpack t x)
def nw {a b:Ty} (l:List a.den):Option (List b.den):=if h:a=b then some (h ▸ l) else none
def Ru {a b:Ty} (x:a.den):Option b.den:=if h:a=b then some (h ▸ x) else none
def Wq {k v k' v':Ty} (l:List (k.den×v.den)):Option (List (k'.den×v'.den)):=if h:k=k'/\v=v' then some (h.1 ▸ h.2 ▸ l) else none
def VP (k:IntKind):CV->Option Int
 | .int k' n=>if k=k' then some n else none
 | _=>none
def Tq:CV->Option Bool
 | .bool b=>some b
 | _=>none
def VQ:CV->Option (List UInt8)
 | .str s=>some s
 | _=>none
def Nx (S:St) (t:Ty):CV->Option (List t.den)
 | .sl _ l=>nw (b:=t) l
 | .nils=>some []
 | .row j=>match look S.rows j with
  | some q=>if q.fz then nw (b:=t) q.l else none
  | none=>none
 | _=>none
def VO:CV->Option (Option Nat)
 | .hnd o k=>if Nat.beq k 0 then some o else none
 | .nilp=>some none
 | _=>none
def qQ {α:Type} (f:CV->Option α):List CV->Option (α×List CV)
 | c::r=>match f c with | some x=>some (x,r) | none=>none
 | []=>none
def gY {α:Type}:Option (α×List CV)->Option α
 | some (x,[])=>some x
 | _=>none
def inL (l:List Nat) (j:Nat):Bool:=l.any (Nat.beq j)
def Po (S:St) (fb:List Nat) {t:Ty} (g:List CV->Option (t.den×List CV)):CV->Option t.den
 | .cp _ x o=>if Nat.beq o 0 then Ru (b:=t) x else none
 | .ref k o=>if Nat.beq o 0&&inL fb k then (match look S.boxes k with
  | some cs=>gY (g cs)
  | none=>none) else none
 | _=>none
def VN {t:Ty} (g:Nat) (p:List CV->Option (t.den×List CV)):CV->Option t.den
 | .clo g' _ x=>if Nat.beq g g' then Ru (b:=t) x else none
 | .fn g' ks=>if Nat.beq g g' then gY (p (ks.map fun k=> .ref k 0)) else none
 | _=>none
def fO (S:St) (fb:List Nat):(t:Ty)->List CV->Option (t.den×List CV)
 | .int k,r=>qQ (VP k) r
 | .bool,r=>qQ Tq r
 | .str,r=>qQ VQ r
 | .unit,r=>some ((),r)
 | .pair a b,r=>match fO S fb a r with
  | some (x,r)=>match fO S fb b r with
   | some (y,r)=>some ((x,y),r)
   | none=>none
  | none=>none
 | .st t,r=>fO S fb t r
 | .slice t,r=>qQ (Nx S t) r
 | .ptr t,r=>qQ (Po S fb (t:=t) (fO S fb t)) r
 | .clo g t,r=>qQ (VN (t:=t) g (fO S fb t)) r
 | .hnd,r=>qQ VO r
abbrev pack (S:St) (t:Ty) (cs:List CV):Option (t.den×List CV):=fO S [] t cs
def iI (S:St) (fb:List Nat) (t:Ty) (s:SV):Option t.den:=
 match t,s with
 | .st t,.v true cs=>gY (fO S fb t cs)
 | .st _,_=>none
 | t,.v false cs=>gY (fO S fb t cs)
 | _,_=>none
inductive OT where
 | val (t:Ty)
 | row (e:TypeId) (t:Ty)
 | map (k v:Ty)
def OT.den:OT->Type
 | .val t=>t.den
 | .row _ t=>List t.den
 | .map k v=>List (k.den×v.den)
def kz:List OT->Type
 | []=>Unit
 | o::r=>o.den×kz r
inductive PM where
 | val (t:Ty)
 | row (e:TypeId) (t:Ty)
 | mrow (e:TypeId) (t:Ty)
 | map (k v:Ty)
 | box (l:List OT)
 | ar (t:Ty)
 | arR (t:Ty)
inductive RM where
 | val (t:Ty)
 | row (e:TypeId) (t:Ty)
 | map (k v:Ty)
 | box (l:List OT)
def PM.den:PM->Type
 | .val t=>t.den
 | .row _ t=>List t.den
 | .mrow _ t=>List t.den
 | .map k v=>List (k.den×v.den)
 | .box l=>kz l
 | .ar t=>List t.den
 | .arR t=>List t.den
def RM.den:RM->Type
 | .val t=>t.den
 | .row _ t=>List t.den
 | .map k v=>List (k.den×v.den)
 | .box l=>kz l
def PM.arg:PM->Bool
 | .ar _=>false
 | .arR _=>false
 | _=>true
def dL:List PM->Type
 | []=>Unit
 | p::r=>p.den×dL r
def dK:List PM->Type
 | []=>Unit
 | .mrow _ t::r=>List t.den×dK r
 | .map k v::r=>List (k.den×v.den)×dK r
 | .box l::r=>kz l×dK r
 | .ar t::r=>List t.den×dK r
 | .val _::r=>dK r
 | .row _ _::r=>dK r
 | .arR _::r=>dK r
def cD (ps:List PM):List RM->Type
 | []=>dK ps
 | q::r=>q.den×cD ps r
structure an where
 ps:List PM
 rs:List RM
 m:dL ps->Option (cD ps rs)
inductive Hf where
 | mk (g:Nat)
 | srt (g:Nat) (kt e:TypeId)
 | elt (lo nb:Nat) (tb te:Ty) (m:List tb.den->List te.den->Nat->Option (List te.den))
 | nest (p:Nat) (sp:an)
 | srt2 (g:Nat) (kt e:TypeId) (cl:Nat) (cf:List UInt8×List UInt8->List UInt8×List UInt8->Int)
 | cop (sz lo b:Nat) (e:TypeId) (t:Ty)
 | own
structure Cx where
 P:Program
 specs:List (Nat×an)
 keys:List (Nat×Hf):=[]
def RA {α:Type} (l:List (Int×α)):List Int:=(l.map (·.1)).mergeSort fun x y=>decide (x<=y)
def YH {α:Type} (l:List (Int×α)):Bool:=decide (l.length<=1000000)&&((l.all fun p=>decide (-9223372036854775808<=p.1/\p.1<=9223372036854775807))&&decide (l.map (·.1)).Nodup)
def Fv {α:Type} (cf:List UInt8×List UInt8->List UInt8×List UInt8->Int) (l:List ((List UInt8×List UInt8)×α)):List (List UInt8×List UInt8):=(l.map (·.1)).mergeSort fun x y=> !decide (cf y x<0)
theorem YG {α:Type} (cf:List UInt8×List UInt8->List UInt8×List UInt8->Int) (l:List ((List UInt8×List UInt8)×α)):(Fv cf l).length=l.length:=by
 unfold Fv
 rw[List.length_mergeSort,aeB]
def VD {α:Type} (cf:List UInt8×List UInt8->List UInt8×List UInt8->Int) (l:List ((List UInt8×List UInt8)×α)):Bool:=decide (l.length<=1000000)&&((l.all fun p=>decide (p.1.1.length<=9223372036854775807)&&decide (p.1.2.length<=9223372036854775807))&&(decide (l.map (·.1)).Nodup&&((l.map (·.1)).all fun x=>(l.map (·.1)).all fun y=>decide (cf x y<0)||(decide (cf y x<0)||decide (x=y)))))
inductive CK where
 | val (t:Ty)
 | own (e:TypeId) (t:Ty)
 | map (k v:Ty)
 | ref (k off:Nat)
 | fn (g:Nat) (ks:List Nat)
 | ar (t:Ty)
 | arF (t:Ty)
 | rowR (j:Nat)
 | rpR (j sz:Nat)
 | rowC (j:Nat) (e:TypeId) (t:Ty)
 | mapR (j:Nat)
 | mapC (j:Nat) (k v:Ty)
def cW:List CK->Type
 | []=>Unit
 | .val t::r=>t.den×cW r
 | .own _ t::r=>List t.den×cW r
 | .map k v::r=>List (k.den×v.den)×cW r
 | .ref _ _::r=>cW r
 | .fn _ _::r=>cW r
 | .ar t::r=>List t.den×cW r
 | .arF t::r=>List t.den×cW r
 | .rowR _::r=>cW r
 | .rpR _ _::r=>Nat×cW r
 | .rowC _ _ t::r=>List t.den×cW r
 | .mapR _::r=>cW r
 | .mapC _ k v::r=>List (k.den×v.den)×cW r
def CK.size:CK->Nat
 | .val t=>t.size
 | .ar _=>0
 | .arF _=>0
 | .rowC _ _ _=>0
 | .mapC _ _ _=>0
 | _=>1
def mm:List CK->Nat
 | []=>0
 | c::r=>c.size+mm r
def XW (tmps:List (Nat×CK)) (boxes:List (Nat×List CK)) (cts:List CK):List CK:=
 tmps.map (·.2)++(boxes.flatMap (·.2)++cts)
structure Ann where
 tmps:List (Nat×CK)
 boxes:List (Nat×List CK)
 cts:List CK
 fuel:cW (XW tmps boxes cts)->Nat
def Ann.cks (A:Ann):List CK:=XW A.tmps A.boxes A.cts
def iter {X β:Type}:Nat->X->(X->(X->Option β)->Option β)->Option β
 | 0,_,_=>none
 | n+1,x,f=>f x fun y=>iter n y f
def pE (P:Program) (t:TypeId):Bool:=
 match P.underlying t with
 | some (.struct _) | some (.array _ _)=>true
 | _=>false
def b6 (P:Program) (t:TypeId):Nat:=((P.info? t).map (·.size)).getD 0
def okT (P:Program) (t:TypeId):Bool:=(P.underlying t).isSome
def HJ:Value->CV
 | .int k n=> .int k n
 | .bool b=> .bool b
 | .string s=> .str s.data.toList
 | .slice none 0 0=> .nils
 | .pointer none=> .nilp
 | .func (.func g) f c=>if f.isEmpty&&c.isEmpty then .fn g [] else .any
 | _=> .any
def JX:Value->SV
 | .agg cs=> .v true (cs.toList.map HJ)
 | v=> .v false [HJ v]
def St.ev (S:St):Operand->SV
 | .tmp t=>S.tmps.getD t (.v false [.any])
 | .const v=>JX v
 | .global _=> .v false [.any]
 | .func f=> .v false [.fn f []]
variable {β:Type}
def chk (b:Bool) (x:Option β):Option β:=bif b then x else none
def idx {α:Type} (l:List α) (i:Int):Option α:=if 0<=i then l[i.toNat]? else none
def iS (s:List UInt8) (i:Int):Option UInt8:=if 0<=i then s[i.toNat]? else none
def My (op:BinOp) (ka:IntKind) (a:Int) (kb:IntKind) (b:Int) (k:CV->Option β):Option β:=
 match op with
 | .shl=>chk (decide (0<=b)) (k (.int ka (ka.wrap (a*2 ^ (min b.toNat ka.bits)))))
 | .shr=>chk (decide (0<=b)) (k (.int ka (a.fdiv (2 ^ (min b.toNat ka.bits)))))
 | _=>if ka≠kb then none else
  match op with
  | .add=>k (.int ka (ka.wrap (a+b)))
  | .sub=>k (.int ka (ka.wrap (a - b)))
  | .mul=>k (.int ka (ka.wrap (a*b)))
  | .quo=>chk (b != 0) (k (.int ka (ka.wrap (a.tdiv b))))
  | .rem=>chk (b != 0) (k (.int ka (a.tmod b)))
  | .and=>k (.int ka (ka.wrap (BitVec.ofInt ka.bits a &&& BitVec.ofInt ka.bits b).toNat))
  | .or=>k (.int ka (ka.wrap (BitVec.ofInt ka.bits a ||| BitVec.ofInt ka.bits b).toNat))
  | .eql=>k (.bool (a==b))
  | .neq=>k (.bool (a != b))
  | .lss=>k (.bool (decide (a<b)))
  | .leq=>k (.bool (decide (a<=b)))
  | .gtr=>k (.bool (decide (a>b)))
  | .geq=>k (.bool (decide (a>=b)))
  | _=>none
def RZ (op:BinOp) (a b:List UInt8) (k:CV->Option β):Option β:=
 match op with
 | .eql=>k (.bool (a==b))
 | .neq=>k (.bool !(a==b))
 | .lss=>k (.bool (Op.bytesLess a b))
 | .leq=>k (.bool (Op.bytesLess a b||a==b))
 | .gtr=>k (.bool !(Op.bytesLess a b||a==b))
 | .geq=>k (.bool !(Op.bytesLess a b))
 | .add=>chk (decide (a.length+b.length<=maxLen)) (k (.str (a++b)))
 | _=>none
def Jv (l:List CV) (off n:Nat):Option (List CV):=
 let c:=(l.drop off).take n
 if Nat.beq c.length n then some c else none
def kU (P:Program) (T:TypeId) (l:List CV) (off:Nat) (k:SV->Option β):Option β:=
 if okT P T then
 match Jv l off (b6 P T) with
 | some cs=>if pE P T then k (.v true cs) else (match cs with | [c]=>k (.v false [c]) | _=>none)
 | none=>none
 else none
def Ic (P:Program) (g:TypeId->SV->SV->Option Bool) (xs ys:List CV):List Field->Option Bool
 | []=>some true
 | f::fs=>if f.name= "_" then none else
  match kU P f.type xs f.offset some,kU P f.type ys f.offset some with
  | some a,some b=>match g f.type a b with
   | some r=>match Ic P g xs ys fs with
    | some q=>some (r&&q)
    | none=>none
   | none=>none
  | _,_=>none
def CV.Rz:CV->Bool
 | .ref _ _ | .cp _ _ _ | .rp _ _ _ _=>true
 | _=>false
def tc (P:Program):Nat->TypeId->SV->SV->Option Bool
 | 0,_,_,_=>none
 | d+1,t,x,y=>match P.underlying t with
  | some (.int _)=>match x,y with
   | .v false [.int k a],.v false [.int k' b]=>if k=k' then some (a==b) else none
   | _,_=>none
  | some .bool=>match x,y with
   | .v false [.bool a],.v false [.bool b]=>some (a==b)
   | _,_=>none
  | some .string=>match x,y with
   | .v false [.str a],.v false [.str b]=>some (a==b)
   | _,_=>none
  | some (.pointer _)=>match x,y with
   | .v false [.nilp],.v false [.nilp]=>some true
   | .v false [.nilp],.v false [.hnd o _]=>some o.isNone
   | .v false [.hnd o _],.v false [.nilp]=>some o.isNone
   | .v false [.nilp],.v false [c]=>if c.Rz then some false else none
   | .v false [c],.v false [.nilp]=>if c.Rz then some false else none
   | _,_=>none
  | some (.struct fs)=>match x,y with
   | .v true xs,.v true ys=>if P.stoodInHeld t then none else Ic P (tc P d) xs ys fs.toList
   | _,_=>none
  | _=>none
def aaS:SV->SV->Option Bool
 | .v false [.sl _ l],.v false [.nils]=>some l.isEmpty
 | _,_=>none
def aaa (P:Program) (op:BinOp) (t:TypeId) (x y:SV) (k:SV->Option β):Option β:=
 if P.eqGuardType P.depth t then none else match op with
 | .eql=>match tc P 9 t x y with
  | some r=>k (.v false [.bool r])
  | none=>match P.underlying t,aaS x y with
   | some (.slice _),some b=>k (.v false [.nb b])
   | _,_=>none
 | .neq=>match tc P 9 t x y with
  | some r=>k (.v false [.bool !r])
  | none=>none
 | _=>none
def Wj (P:Program) (op:BinOp) (t:TypeId) (x y:SV) (k:SV->Option β):Option β:=
 match x,y with
 | .v false [.int ka a],.v false [.int kb b]=>My op ka a kb b fun c=>k (.v false [c])
 | .v false [.str a],.v false [.str b]=>RZ op a b fun c=>k (.v false [c])
 | x,y=>aaa P op t x y k
def Mn (n:Nat):CV->Option CV
 | .ref k o=>some (.ref k (o+n))
 | .cp t x o=>some (.cp t x (o+n))
 | .rp j sz i o=>some (.rp j sz i (o+n))
 | .hnd (some h) o=>some (.hnd (some h) (o+n))
 | _=>none
def CV.ok:CV->Bool
 | .any=>false
 | .opq _=>false
 | _=>true
def setAt (l:List CV) (off:Nat) (new:List CV):Option (List CV):=
 if Nat.ble (off+new.length) l.length then some (l.take off++new++l.drop (off+new.length)) else none
def Fo (place:Nat->Option (Nat×Nat)):List CV->List (Nat×SV)->Option (List CV)
 | cells,[]=>some cells
 | cells,(i,.v _ cs)::rest=>
  match place i with
  | none=>none
  | some (off,size)=>if Nat.beq cs.length size&&cs.all CV.ok then (match setAt cells off cs with | some c=>Fo place c rest | none=>none) else none
 | _,_=>none
def Ds (P:Program) (fs:Array Field) (i:Nat):Option (Nat×Nat):=match fs[i]? with | some f=>some (f.offset,b6 P f.type) | none=>none
def zeroCells (P:Program) (t:TypeId):Option (List CV):=
 match (P.info? t).bind (·.zero) with
 | some (.agg cs)=>some (cs.toList.map HJ)
 | some v=>some [HJ v]
 | none=>none
def PE:List Ty->Ty
 | []=> .unit
 | [a]=>a
 | a::b::r=> .pair a (PE (b::r))
def Gc (P:Program):Nat->TypeId->Option Ty
 | 0,_=>none
 | n+1,t=>match P.underlying t with
  | some (.int k)=>some (.int k)
  | some .bool=>some .bool
  | some .string=>some .str
  | some (.slice e)=>(Gc P n e).map .slice
  | some (.pointer _)=>some .hnd
  | some (.array m e)=>(Gc P n e).map fun t=> .st (PE (List.replicate m t))
  | some (.struct fs)=>(fs.toList.mapM fun f=>Gc P n f.type).map fun l=> .st (PE l)
  | _=>none
def EO (P:Program) (t:TypeId) (ty:Ty):Option ty.den:=
 match (P.info? t).bind (·.zero) with
 | some v=>iI ⟨[],[],[],[]⟩ [] ty (JX v)
 | none=>none
def WK (a b:Int):Bool:=a==b
def Wi (a b:Bool):Bool:=a==b
def acq (a b:List UInt8):Bool:=a==b
def Ty.beq:(t:Ty)->t.den->t.den->Bool
 | .int _,a,b=>WK a b
 | .bool,a,b=>Wi a b
 | .str,a,b=>acq a b
 | .unit,_,_=>true
 | .pair s t,a,b=>s.beq a.1 b.1&&t.beq a.2 b.2
 | .st t,a,b=>t.beq a b
 | _,_,_=>false
def bP (P:Program) (t:TypeId):Ty->Bool
 | .int _=>match P.underlying t with | some (.int _)=>true | _=>false
 | .bool=>match P.underlying t with | some .bool=>true | _=>false
 | .str=>match P.underlying t with | some .string=>true | _=>false
 | _=>false
def cq (P:Program):List Field->Nat->Ty->Bool
 | [f],n,t=>f.name≠ "_" &&Nat.beq f.offset n&&Nat.beq (b6 P f.type) 1&&bP P f.type t
 | f::g::r,n,.pair a b=>f.name≠ "_" &&Nat.beq f.offset n&&Nat.beq (b6 P f.type) 1&&bP P f.type a&&cq P (g::r) (n+1) b
 | _,_,_=>false
def gm (P:Program) (t:TypeId):Ty->Bool
 | .st s=>match P.underlying t with | some (.struct fs)=> !P.stoodInHeld t&&cq P fs.toList 0 s | _=>false
 | ty=>bP P t ty
def jy {k v:Ty} (l:List (k.den×v.den)) (x:k.den):Option v.den:=match l.find? (fun p=>k.beq x p.1) with | some p=>some p.2 | none=>none
def wF {k v:Ty} (l:List (k.den×v.den)) (x:k.den) (y:v.den):List (k.den×v.den):=
 match l with
 | []=>[(x,y)]
 | p::r=>bif k.beq x p.1 then (x,y)::r else p::wF r x y
def allRefs:List SV->Option (List Nat)
 | []=>some []
 | .v false [.ref k o]::r=>if Nat.beq o 0 then (match allRefs r with | some l=>some (k::l) | none=>none) else none
 | _=>none
def bnd (d:Int):Option SV->Option Int
 | none=>some d
 | some (.v false [.int _ a])=>some a
 | _=>none
def WX (M:St) (d:TypeDesc):CV->Option Int
 | .str s=>match d with | .string=>some s.length | _=>none
 | .sl _ l=>match d with | .slice _=>some l.length | _=>none
 | .nils=>match d with | .slice _=>some 0 | _=>none
 | .row j=>match d with
  | .slice _=>match look M.rows j with
   | some q=>some q.l.length
   | none=>none
  | _=>none
 | .mp j=>match d with
  | .map _ _=>match look M.objs j with
   | some (.map _ _ l)=>some l.length
   | _=>none
  | _=>none
 | _=>none
def Yf (P:Program) (b:Builtin) (c:Call) (S M:St) (k:SV->Option β):Option β:=
 match b with
 | .len=>match c.args.toList.map S.ev,c.argTypes.toList with
  | [.v false [x]],[t]=>match P.underlying t with
   | some d=>match WX M d x with
    | some n=>k (.v false [.int .i64 n])
    | none=>none
   | none=>none
  | _,_=>none
 | .min=>match c.args.toList.map S.ev with
  | [.v false [.int ik a],.v false [.int _ b]]=>k (.v false [.int ik (if b<a then b else a)])
  | _=>none
 | .max=>match c.args.toList.map S.ev with
  | [.v false [.int ik a],.v false [.int _ b]]=>k (.v false [.int ik (if b>a then b else a)])
  | _=>none
 | _=>none
def Ny:Nat->Nat->Int->(Nat->Option β)->Option β
 | 0,_,_,_=>none
 | n+1,j,i,k=>bif i==(j:Int) then k j else Ny n (j+1) i k
theorem Nz {r:β}:∀ {n j:Nat} {i:Int} {k:Nat->Option β},Ny n j i k=some r->∃ m:Nat,i=(m:Int)/\m<j+n/\k m=some r
 | 0,_,_,_,h=>by cases h
 | n+1,j,i,k,h=>by
  unfold Ny at h
  cases hb:i==(j:Int) with
  | true=>rw[hb] at h;exact⟨j,by simpa using hb,by omega,h⟩
  | false=>
   rw[hb] at h
   obtain⟨m,h1,h2,h3⟩:=Nz (h:Ny n (j+1) i k=some r)
   exact⟨m,h1,by omega,h3⟩
def Ix (ik:IntKind):List CV->Option (List Int)
 | []=>some []
 | .int k n::r=>if k=ik then (match Ix ik r with | some l=>some (n::l) | none=>none) else none
 | _=>none
def cZ (X:Cx) (o:Oper) (S M:St) (k:SV->Option β):Option β:=
 match o.op with
 | .move x | .assign x=>k (S.ev x)
 | .pick c a b=>match S.ev c with
  | .v false [.bool t]=>bif t then k (S.ev a) else k (S.ev b)
  | _=>none
 | .binOp op t x y _=>Wj X.P op t (S.ev x) (S.ev y) k
 | .unOp op _ x=>match op,S.ev x with
  | .not,.v false [.bool b]=>k (.v false [.bool !b])
  | .neg,.v false [.int ik n]=>k (.v false [.int ik (ik.wrap (0 - n))])
  | _,_=>none
 | .convert src dst x=>match X.P.underlying src,X.P.underlying dst,S.ev x with
  | some _,some (.int ik),.v false [.int _ n]=>k (.v false [.int ik (ik.wrap n)])
  | some _,some .string,.v false [.str s]=>k (.v false [.str s])
  | some _,some .string,.v false [.int _ n]=>chk (decide (0<=n)&&decide (n<128)) (k (.v false [.str [UInt8.ofNat n.toNat]]))
  | some (.slice e),some .string,.v false [.row j]=>match X.P.underlying e,look M.rows j with
   | some (.int .u8),some q=>if q.fz then none else match nw (b:= .int .u8) q.l with
    | some l=>k (.v false [.str (l.map fun n=>UInt8.ofNat n.toNat)])
    | none=>none
   | _,_=>none
  | _,_,_=>none
 | .nilCheck x=>match S.ev x with
  | .v false [.ref i j]=>k (.v false [.ref i j])
  | .v false [.cp t y j]=>k (.v false [.cp t y j])
  | .v false [.rp i sz j l]=>k (.v false [.rp i sz j l])
  | .v false [.clo g t y]=>k (.v false [.clo g t y])
  | .v false [.fn g ks]=>k (.v false [.fn g ks])
  | .v false [.hnd o j]=>o.bind fun h=>k (.v false [.hnd (some h) j])
  | _=>none
 | .fieldAddr s x f=>match X.P.underlying s,S.ev x with
  | some (.struct fs),.v false [c]=>match fs[f]? with
   | some fd=>if okT X.P fd.type&& !Nat.beq (b6 X.P fd.type) 0 then (match Mn fd.offset c with
    | some c=>k (.v false [c])
    | none=>none) else none
   | none=>none
  | _,_=>none
 | .field s x f=>match X.P.underlying s,S.ev x with
  | some (.struct fs),.v true cs=>match fs[f]? with
   | some fd=>kU X.P fd.type cs fd.offset k
   | none=>none
  | _,_=>none
 | .load t x=>match S.ev x with
  | .v false [.ref b off]=>match look M.boxes b with
   | some l=>kU X.P t l off k
   | none=>none
  | .v false [.cp ty y off]=>kU X.P t (unpack ty y) off k
  | .v false [.rp j sz i off]=>match look M.rows j with
   | some q=>(q.l[i]?).bind fun y=>if !q.fz&&Nat.beq sz q.t.size then kU X.P t (unpack q.t y) off k else none
   | none=>none
  | .v false [.hnd (some h) off]=>match look M.objs br with
   | some (.ar _ ty l)=>(l[h]?).bind fun y=>kU X.P t (unpack ty y) off k
   | _=>none
  | _=>none
 | .indexAddr t x ix=>match X.P.underlying t,S.ev x,S.ev ix with
  | some (.slice e),.v false [.sl ty l],.v false [.int _ i]=>
   if okT X.P e&&Nat.beq (b6 X.P e) ty.size then (idx l i).bind fun y=>k (.v false [.cp ty y 0]) else none
  | some (.slice e),.v false [.row j],.v false [.int _ i]=>match look M.rows j with
   | some q=>if okT X.P e&&Nat.beq (b6 X.P e) q.t.size then
    (if q.fz then (idx q.l i).bind fun y=>k (.v false [.cp q.t y 0])
     else chk (decide (0<=i)&&decide (i<q.l.length)) (k (.v false [.rp j q.t.size i.toNat 0]))) else none
   | none=>none
  | some (.array n e),.v false [c],.v false [.int _ i]=>
   if okT X.P e then Ny n 0 i fun j=>(match Mn (j*b6 X.P e) c with
    | some c=>k (.v false [c])
    | none=>none) else none
  | _,_,_=>none
 | .index t x ix=>match X.P.underlying t,S.ev x,S.ev ix with
  | some .string,.v false [.str s],.v false [.int _ i]=>(iS s i).bind fun b=>k (.v false [.int .u8 b.toNat])
  | some (.array n e),.v true cs,.v false [.int _ i]=>match X.P.underlying e with
   | some (.int ik)=>match Ix ik cs with
    | some l=>if okT X.P e&&Nat.beq (b6 X.P e) 1&& !pE X.P e&&Nat.beq l.length n then (idx l i).bind fun m=>k (.v false [.int ik m]) else none
    | none=>none
   | _=>none
  | _,_,_=>none
 | .extract x i=>match S.ev x with
  | .tup l=>match l[i]? with
   | some p=>k (.v p.1 p.2)
   | none=>none
  | _=>none
 | .build t parts=>match X.P.underlying t,zeroCells X.P t with
  | some (.struct fs),some z=>if !fs.all (fun f=>okT X.P f.type) then none else match Fo (Ds X.P fs) z (parts.toList.map fun p=>(p.1,S.ev p.2)) with
   | some cs=>k (.v true cs)
   | none=>none
  | some (.array _ e),some z=>if !okT X.P e then none else match Fo (fun i=>some (i*b6 X.P e,b6 X.P e)) z (parts.toList.map fun p=>(p.1,S.ev p.2)) with
   | some cs=>k (.v true cs)
   | none=>none
  | _,_=>none
 | .slice t x lo hi none=>match X.P.underlying t,S.ev x with
  | some .string,.v false [.str s]=>match bnd 0 (lo.map S.ev),bnd s.length (hi.map S.ev) with
   | some a,some b=>chk (decide (0<=a)&&decide (a<=b)&&decide (b<=s.length)) (k (.v false [.str ((s.take b.toNat).drop a.toNat)]))
   | _,_=>none
  | some (.slice e),.v false [.sl ty l]=>
   if okT X.P e&&Nat.beq (b6 X.P e) ty.size then
   (match bnd 0 (lo.map S.ev),bnd l.length (hi.map S.ev) with
   | some a,some b=>chk (decide (0<=a)&&decide (a<=b)&&decide (b<=l.length)) (k (.v false [.sl ty ((l.take b.toNat).drop a.toNat)]))
   | _,_=>none)
   else none
  | some (.slice e),.v false [.row j]=>match look M.rows j with
   | some q=>if q.fz&&okT X.P e&&Nat.beq (b6 X.P e) q.t.size then
    (match bnd 0 (lo.map S.ev),bnd q.l.length (hi.map S.ev) with
    | some a,some b=>chk (decide (0<=a)&&decide (a<=b)&&decide (b<=q.l.length)) (k (.v false [.sl q.t ((q.l.take b.toNat).drop a.toNat)]))
    | _,_=>none)
    else none
   | none=>none
  | _,_=>none
 | .makeFunc (.func g) first caps=>match allRefs (caps.toList.map S.ev) with
  | some ks=>if first.isEmpty then k (.v false [.fn g ks]) else none
  | none=>none
 | .lookup t x ix ok=>match X.P.underlying t,S.ev x with
  | some (.map kt et),.v false [.mp j]=>match look M.objs j with
   | some (.map kk vv l)=>match iI M [] kk (S.ev ix),EO X.P et vv with
    | some key,some z=>if gm X.P kt kk then
     (if ok then k (.tup [Js vv ((jy l key).getD z),(false,[.bool (jy l key).isSome])]) else k (nX vv ((jy l key).getD z))) else none
    | _,_=>none
   | _=>none
  | _,_=>none
 | .call c=>match c.callee with
  | .builtin b=>Yf X.P b c S M k
  | _=>none
 | _=>none
end Go.Dn
namespace Go.Dn
variable {β:Type}
structure Del where
 sv:SV
 box:Option (List CV)
 row:Option lJ
 obj:Option oz
def St.app (S:St) (d:Option Tmp) (x:Del):St:=
 match d with
 | none=>S
 | some d=>
  { tmps:=S.tmps.set d x.sv,
    boxes:=match x.box with | some c=>(d,c)::S.boxes | none=>S.boxes,
    rows:=match x.row with | some r=>(d,r)::S.rows | none=>S.rows,
    objs:=match x.obj with | some r=>(d,r)::S.objs | none=>S.objs }
def IT:SV->Option (Option Nat)
 | .v false [.row j]=>some (some j)
 | .v false [.nils]=>some none
 | _=>none
def gW:SV->Option Nat
 | .v false [.ref k o]=>if Nat.beq o 0 then some k else none
 | _=>none
def IS:SV->Option Nat
 | .v false [.mp j]=>some j
 | _=>none
def iH (S:St) (e:TypeId) (t:Ty):CV->Option (List t.den)
 | .row j=>match look S.rows j with
  | some q=>if q.fz|| !Nat.beq q.e e then none else nw (b:=t) q.l
  | none=>none
 | .nils=>some []
 | _=>none
def nc (S:St) (k v:Ty):CV->Option (List (k.den×v.den))
 | .mp j=>match look S.objs j with
  | some (.map _ _ l)=>Wq l
  | _=>none
 | _=>none
def qh:SV->Option CV
 | .v false [c]=>some c
 | _=>none
def jC (S:St):(l:List OT)->List CV->Option (kz l)
 | [],[]=>some ()
 | [],_::_=>none
 | .val t::r,cs=>match pack S t cs with
  | some (x,cs')=>match jC S r cs' with
   | some y=>some (x,y)
   | none=>none
  | none=>none
 | .row e t::r,c::cs=>match iH S e t c with
  | some x=>match jC S r cs with
   | some y=>some (x,y)
   | none=>none
  | none=>none
 | .row _ _::_,[]=>none
 | .map k v::r,c::cs=>match nc S k v c with
  | some x=>match jC S r cs with
   | some y=>some (x,y)
   | none=>none
  | none=>none
 | .map _ _::_,[]=>none
def tZ (S:St) (fz:Bool) (t:Ty):Option (List t.den):=
 match look S.objs br with
 | some (.ar f _ l)=>if f&& !fz then none else nw (b:=t) l
 | _=>none
def lU (S:St) (fb:List Nat) (p:PM) (s:SV):Option p.den:=
 match p with
 | .val t=>iI S fb t s
 | .row e t=>match qh s with | some c=>iH S e t c | none=>none
 | .mrow e t=>match qh s with | some c=>iH S e t c | none=>none
 | .map k v=>match qh s with | some c=>nc S k v c | none=>none
 | .box l=>match gW s with
  | some k=>match look S.boxes k with
   | some cs=>jC S l cs
   | none=>none
  | none=>none
 | .ar t=>tZ S false t
 | .arR t=>tZ S true t
def cV (S:St) (fb:List Nat):(ps:List PM)->List SV->Option (dL ps)
 | [],[]=>some ()
 | [],_::_=>none
 | p::r,l=>match (bif p.arg then l.head? else some (.v false [.any])) with
  | some s=>match lU S fb p s with
   | some x=>match cV S fb r (bif p.arg then l.tail else l) with
    | some y=>some (x,y)
    | none=>none
   | none=>none
  | none=>none
def PM.isVal:PM->Bool
 | .val _=>true
 | .arR _=>true
 | _=>false
def sL:List RM->Bool
 | []=>true
 | .val _::r=>sL r
 | _=>false
def JQ (ps:List PM):(rs:List RM)->cD ps rs->List (Bool×List CV)
 | [],_=>[]
 | .val t::r,x=>Js t x.1::JQ ps r x.2
 | .row _ _::r,x=>(false,[.any])::JQ ps r x.2
 | .map _ _::r,x=>(false,[.any])::JQ ps r x.2
 | .box _::r,x=>(false,[.any])::JQ ps r x.2
def yt:List (Bool×List CV)->SV
 | [p]=> .v p.1 p.2
 | []=> .v false [.any]
 | l=> .tup l
def dD (S:St) (c:Call):Option (Nat×List SV):=
 match c.callee with
 | .value f=>match S.ev f with
  | .v false [.fn g ks]=>some (g,c.args.toList.map S.ev++ks.map fun k=> .v false [.ref k 0])
  | .v false [.clo g t x]=>some (g,c.args.toList.map S.ev++(unpack t x).map fun c=> .v false [c])
  | _=>none
 | _=>none
def uA:List SV->List Nat
 | []=>[]
 | .v _ cs::r=>(cs.flatMap fun | .ref k _=>[k] | .fn _ ks=>ks | _=>[])++uA r
 | .tup _::r=>uA r
def gJ (cs:List CV):List Nat:=cs.filterMap fun | .row j=>some j | _=>none
def Dv:List SV->List Nat
 | []=>[]
 | .v _ cs::r=>gJ cs++Dv r
 | .tup _::r=>Dv r
def vC (S:St):List Nat->List Nat
 | []=>[]
 | k::r=>(match look S.boxes k with | some cs=>gJ cs | none=>[])++vC S r
def MO (S:St):List Nat->List Nat
 | []=>[]
 | k::r=>(match look S.boxes k with | some cs=>uA [.v false cs] | none=>[])++MO S r
def gP (S:St) (args:List SV):List Nat:=uA args++MO S (uA args)
def eC (S:St) (args:List SV):List Nat:=Dv args++vC S (gP S args)
def aF (S:St) (js:List Nat):St:=
 { S with rows:=js.foldl (fun rs j=>match look rs j with | some q=>(j,{ q with fz:=true })::rs | none=>rs) S.rows }
def Es (S:St) (args:List SV):Bool:=(gP S args).isEmpty&&((Dv args).all fun j=>match look S.rows j with | some q=>q.fz | none=>true)
def Ey:List RM->Bool
 | []=>true
 | .val t::r=>t.flat&&Ey r
 | _=>false
def Vl (sp:an) (M:St) (args:List SV) (k:SV->Option β):Option β:=
 if sp.ps.all PM.isVal&&sL sp.rs&&(Ey sp.rs||(Es M args&&sp.ps.all PM.arg)) then
  match cV (aF M (eC M args)) (gP M args) sp.ps args with
  | some x=>(sp.m x).bind fun y=>k (yt (JQ sp.ps sp.rs y))
  | none=>none
 else none
def Be (S:St) (t:Ty):List SV->Option (List t.den)
 | []=>some []
 | s::r=>match iI S [] t s with
  | some x=>match Be S t r with
   | some l=>some (x::l)
   | none=>none
  | none=>none
def Zw (d:Nat) (ps:List PM):(rs:List RM)->cD ps rs->(Del->Option β)->Option β
 | [.row e t],x,k=>k ⟨.v false [.row d],none,some ⟨false,e,t,x.1⟩,none⟩
 | [.row e t,.map kk vv],x,k=>k ⟨.tup [(false,[.row d]),(false,[.mp d])],none,some ⟨false,e,t,x.1⟩,some (.map kk vv x.2.1)⟩
 | [.row e t,.val t2],x,k=>k ⟨.tup [(false,[.row d]),Js t2 x.2.1],none,some ⟨false,e,t,x.1⟩,none⟩
 | _,_,_=>none
def acO:List RM->Bool
 | [.row _ _]=>true
 | [.row _ _,.map _ _]=>true
 | [.row _ _,.val _]=>true
 | _=>false
def ou:List RM->Bool
 | [.row _ t]=>t.flat
 | [.row _ t,.map kk vv]=>t.flat&&(kk.flat&&vv.flat)
 | [.row _ t,.val t2]=>t.flat&&t2.flat
 | _=>false
def Ot (sp:an) (S M:St) (args:List SV) (d:Nat) (k:Del->Option β):Option β:=
 if sp.ps.all PM.isVal&&(ou sp.rs||(Es M args&&sp.ps.all PM.arg))&& !S.aX d&&Nat.blt d 2000&& !S.bu d&& !S.bn d then
  match cV (aF M (eC M args)) (gP M args) sp.ps args with
  | some x=>(sp.m x).bind fun y=>Zw d sp.ps sp.rs y k
  | none=>none
 else none
def NH (X:Cx) (o:Oper) (t:TypeId) (len:Nat) (parts:Array (Nat×Operand)) (S M:St) (k:Del->Option β):Option β:=
 match X.P.underlying t,o.dst with
 | some (.slice e),some d=>match Gc X.P 9 e,zeroCells X.P e with
  | some ty,some _=>
   if S.aX d|| !Nat.blt d 2000|| !Nat.beq parts.size len|| !((parts.toList.map (·.1))==List.range len)|| !Nat.beq (b6 X.P e) ty.size||Nat.beq ty.size 0|| !Nat.ble (len*ty.size) 16777216 then none else
   match Be M ty (parts.toList.map fun p=>S.ev p.2) with
   | some l=>k ⟨.v false [.row d],none,some ⟨false,e,ty,l⟩,none⟩
   | none=>none
  | _,_=>none
 | _,_=>none
def YP (X:Cx) (o:Oper):Bool:=match o.dst with
 | some d=>(match look X.keys (100000+d) with | some .own=>true | _=>false)
 | none=>false
def SW (X:Cx) (S M:St) (f:Nat) (args:List SV) (d:Option Tmp) (k:Del->Option β):Option β:=
 match look X.keys f with
 | some (.mk g)=>match args with
  | [.v false [.mp j]]=>k ⟨.v false [.kseq g j],none,none,none⟩
  | _=>none
 | some (.srt g _ e)=>match args,d with
  | [.v false [.kseq g' j]],some d=>match look M.objs j with
   | some (.map (.int .i64) _ l)=>if Nat.beq g g'&& !S.aX d&&Nat.blt d 2000 then chk (YH l) (k ⟨.v false [.row d],none,some ⟨false,e,.int .i64,RA l⟩,none⟩) else none
   | _=>none
  | _,_=>none
 | some (.srt2 g _ e cl cf)=>match args,d with
  | [.v false [.kseq g' j],.v false [.fn cl' []]],some d=>match look M.objs j with
   | some (.map (.st (.pair .str .str)) _ l)=>if Nat.beq g g'&&Nat.beq cl cl'&& !S.aX d&&Nat.blt d 2000 then chk (VD cf l) (k ⟨.v false [.row d],none,some ⟨false,e,.st (.pair .str .str),Fv cf l⟩,none⟩) else none
   | _=>none
  | _,_=>none
 | some (.cop sz lo b e t)=>match args,d with
  | [.v true cs],some d=>match cs[lo]? with
   | some (.sl t' l)=>match nw (b:=t) (show List t'.den from l) with
    | some l=>if !Nat.beq cs.length sz||(S.aX d||(cs.any (CV.aX d)||(!Nat.blt d 2000|| !cs.all CV.ok))) then none else
     chk (decide (l.length*b<=140737488355328)&&decide (l.length<=maxLen)) (k ⟨.v true (cs.set lo (.row d)),none,some ⟨false,e,t,l⟩,none⟩)
    | none=>none
   | _=>none
  | _,_=>none
 | _=>none
def dU (X:Cx) (o:Oper) (S M:St) (k:Del->Option β):Option β:=
 match o.op with
 | .alloc t=>match zeroCells X.P t,o.dst with
  | some z,some d=>if S.bV d||z.any (CV.bV d)|| !Nat.blt d 2000 then none else k ⟨.v false [.ref d 0],some z,none,none⟩
  | _,_=>none
 | .box t x=>match S.ev x,o.dst with
  | .v a cs,some d=>if S.bV d||cs.any (CV.bV d)|| !Nat.blt d 2000|| !Nat.beq cs.length (b6 X.P t)||(a != pE X.P t)|| !cs.all CV.ok then none else k ⟨.v false [.ref d 0],some cs,none,none⟩
  | _,_=>none
 | .buildSlice t len parts=>if YP X o then NH X o t len parts S M k else match X.P.underlying t with
  | some (.slice e)=>match Gc X.P 9 e,zeroCells X.P e with
   | some ty,some _=>
    if !Nat.beq parts.size len|| !((parts.toList.map (·.1))==List.range len)|| !Nat.beq (b6 X.P e) ty.size||Nat.beq ty.size 0|| !Nat.ble (len*ty.size) 16777216 then none else
    match Be M ty (parts.toList.map fun p=>S.ev p.2) with
    | some l=>k ⟨.v false [.sl ty l],none,none,none⟩
    | none=>none
   | _,_=>none
  | _=>none
 | .makeSlice t l c=>match X.P.underlying t,o.dst,S.ev l,S.ev c with
  | some (.slice e),some d,.v false [.int _ l],.v false [.int _ c]=>match Gc X.P 9 e with
   | some ty=>match EO X.P e ty with
    | some z=>
     if S.aX d|| !Nat.blt d 2000|| !Nat.beq (b6 X.P e) ty.size||Nat.beq ty.size 0 then none else
     chk (decide (0<=l)&&decide (l<=c)&&decide (((((X.P.info? e).map (·.bytes)).getD 0:Nat):Int)*c<=281474976710656)&&decide (c<=9223372036854775807)) (k ⟨.v false [.row d],none,some ⟨false,e,ty,List.replicate l.toNat z⟩,none⟩)
    | _=>none
   | _=>none
  | _,_,_,_=>none
 | .makeMap t none=>match X.P.underlying t,o.dst with
  | some (.map kt et),some d=>match Gc X.P 9 kt,Gc X.P 9 et with
   | some kk,some vv=>if S.bu d||S.bn d|| !gm X.P kt kk|| !Nat.blt d 2000 then none else k ⟨.v false [.mp d],none,none,some (.map kk vv [])⟩
   | _,_=>none
  | _,_=>none
 | .call c=>match dD S c with
  | some (f,args)=>match look X.specs f with
   | some sp=>if acO sp.rs then (match o.dst with | some d=>Ot sp S M args d k | none=>none) else Vl sp M args fun s=>k ⟨s,none,none,none⟩
   | none=>SW X S M f args o.dst k
  | none=>cZ X o S M fun s=>k ⟨s,none,none,none⟩
 | _=>cZ X o S M fun s=>k ⟨s,none,none,none⟩
def aT.beq:aT->aT->Bool
 | .inl a,.inl b=>Nat.beq a b
 | .inr a,.inr b=>Nat.beq a b
 | .ob a,.ob b=>Nat.beq a b
 | _,_=>false
def bG:List (aT×Nat)->aT->Option Nat
 | [],_=>none
 | (o,n)::r,x=>bif aT.beq o x then some n else bG r x
def wm:List (aT×Nat)->Bool
 | []=>false
 | (o,_)::r=>(bG r o).isSome||wm r
def mF (n:Nat):CV->List (aT×Nat)
 | .row j=>[(.inr j,n)]
 | .mp j=>[(.ob j,n)]
 | _=>[]
def jZ (n:Nat):List OT->List CV->List (aT×Nat)
 | .val t::r,cs=>jZ (n+1) r (cs.drop t.size)
 | .row _ _::r,c::cs=>mF n c++jZ (n+1) r cs
 | .map _ _::r,c::cs=>mF n c++jZ (n+1) r cs
 | _,_=>[]
def gX (S:St) (i:Nat) (p:PM) (s:SV):List (aT×Nat):=
 match p with
 | .row _ _=>match qh s with | some c=>mF (64*i) c | none=>[]
 | .mrow _ _=>match qh s with | some c=>mF (64*i) c | none=>[]
 | .map _ _=>match qh s with | some c=>mF (64*i) c | none=>[]
 | .box l=>match gW s with
  | some k=>(.inl k,64*i)::(match look S.boxes k with | some cs=>jZ (64*i+1) l cs | none=>[])
  | none=>[]
 | .ar _=>[(.ob br,64*i)]
 | _=>[]
def eo (S:St):Nat->List PM->List SV->List (aT×Nat)
 | _,[],_=>[]
 | i,p::r,l=>(match (bif p.arg then l.head? else some (.v false [.any])) with
  | some s=>gX S i p s
  | none=>[])++eo S (i+1) r (bif p.arg then l.tail else l)
def dQ:List PM->List SV->List SV
 | .val _::r,s::q=>s::dQ r q
 | .ar _::r,q=>dQ r q
 | .arR _::r,q=>dQ r q
 | _::r,_::q=>dQ r q
 | _,_=>[]
def mB:List OT->Bool
 | []=>true
 | .val t::r=>t.flat&&mB r
 | .row _ t::r=>t.flat&&mB r
 | .map k v::r=>k.flat&&v.flat&&mB r
def fA:List PM->Bool
 | []=>true
 | .mrow _ t::r=>t.flat&&fA r
 | .map k v::r=>k.flat&&v.flat&&fA r
 | .box l::r=>mB l&&fA r
 | .ar t::r=>t.flat&&fA r
 | _::r=>fA r
def fk:List RM->Bool
 | []=>true
 | .val t::r=>t.flat&&fk r
 | .row _ t::r=>t.flat&&fk r
 | .map k v::r=>k.flat&&v.flat&&fk r
 | .box l::r=>mB l&&fk r
def dup:List Nat->Bool
 | []=>false
 | x::r=>r.any (Nat.beq x)||dup r
def nid (d i c:Nat):Nat:=10000+2048*d+64*i+c
def FI (d i:Nat):Nat->(l:List OT)->kz l->List CV
 | _,[],_=>[]
 | c,.val t::r,x=>unpack t x.1++FI d i (c+1) r x.2
 | c,.row _ _::r,x=> .row (nid d i c)::FI d i (c+1) r x.2
 | c,.map _ _::r,x=> .mp (nid d i c)::FI d i (c+1) r x.2
def mC (d i:Nat):Nat->(l:List OT)->kz l->List (Nat×lJ)
 | _,[],_=>[]
 | c,.val _::r,x=>mC d i (c+1) r x.2
 | c,.row e t::r,x=>(nid d i c,⟨false,e,t,x.1⟩)::mC d i (c+1) r x.2
 | c,.map _ _::r,x=>mC d i (c+1) r x.2
def jB (d i:Nat):Nat->(l:List OT)->kz l->List (Nat×oz)
 | _,[],_=>[]
 | c,.val _::r,x=>jB d i (c+1) r x.2
 | c,.row _ _::r,x=>jB d i (c+1) r x.2
 | c,.map k v::r,x=>(nid d i c,.map k v x.1)::jB d i (c+1) r x.2
def tY (ps:List PM) (d:Nat):(rs:List RM)->Nat->cD ps rs->List (Bool×List CV)
 | [],_,_=>[]
 | .val t::r,c,x=>Js t x.1::tY ps d r (c+1) x.2
 | .row _ _::r,c,x=>(false,[.row (nid d (24+c) 0)])::tY ps d r (c+1) x.2
 | .map _ _::r,c,x=>(false,[.mp (nid d (24+c) 0)])::tY ps d r (c+1) x.2
 | .box _::r,c,x=>(false,[.ref d 0])::tY ps d r (c+1) x.2
def mE (ps:List PM) (d:Nat):(rs:List RM)->Nat->cD ps rs->List (Nat×lJ)
 | [],_,_=>[]
 | .val _::r,c,x=>mE ps d r (c+1) x.2
 | .row e t::r,c,x=>(nid d (24+c) 0,⟨false,e,t,x.1⟩)::mE ps d r (c+1) x.2
 | .map _ _::r,c,x=>mE ps d r (c+1) x.2
 | .box l::r,c,x=>mC d (24+c) 1 l x.1++mE ps d r (c+1) x.2
def iX (ps:List PM) (d:Nat):(rs:List RM)->Nat->cD ps rs->List (Nat×oz)
 | [],_,_=>[]
 | .val _::r,c,x=>iX ps d r (c+1) x.2
 | .row _ _::r,c,x=>iX ps d r (c+1) x.2
 | .map k v::r,c,x=>(nid d (24+c) 0,.map k v x.1)::iX ps d r (c+1) x.2
 | .box l::r,c,x=>jB d (24+c) 1 l x.1++iX ps d r (c+1) x.2
def mD (ps:List PM) (d:Nat):(rs:List RM)->Nat->cD ps rs->List (Nat×List CV)
 | [],_,_=>[]
 | .val _::r,c,x=>mD ps d r (c+1) x.2
 | .row _ _::r,c,x=>mD ps d r (c+1) x.2
 | .map _ _::r,c,x=>mD ps d r (c+1) x.2
 | .box l::r,c,x=>(d,FI d (24+c) 1 l x.1)::mD ps d r (c+1) x.2
def wK (ps:List PM):(rs:List RM)->cD ps rs->dK ps
 | [],x=>x
 | _::r,x=>wK ps r x.2
def xW:List RM->Nat
 | []=>0
 | .box _::r=>xW r+1
 | _::r=>xW r
def cO (d:Nat):Nat->(ps:List PM)->List SV->dK ps->List (Nat×List CV)
 | _,[],_,_=>[]
 | i,.box l::r,s::q,x=>(match gW s with | some k=>[(k,FI d i 1 l x.1)] | none=>[])++cO d (i+1) r q x.2
 | i,.mrow _ _::r,_::q,x=>cO d (i+1) r q x.2
 | i,.map _ _::r,_::q,x=>cO d (i+1) r q x.2
 | i,.ar _::r,q,x=>cO d (i+1) r q x.2
 | i,.val _::r,_::q,x=>cO d (i+1) r q x
 | i,.row _ _::r,_::q,x=>cO d (i+1) r q x
 | i,.arR _::r,q,x=>cO d (i+1) r q x
 | _,_::_,[],_=>[]
def eZ (d:Nat):Nat->(ps:List PM)->List SV->dK ps->List (Nat×lJ)
 | _,[],_,_=>[]
 | i,.box l::r,s::q,x=>(match gW s with | some _=>mC d i 1 l x.1 | none=>[])++eZ d (i+1) r q x.2
 | i,.mrow e t::r,s::q,x=>(match IT s with | some (some j)=>[(j,⟨false,e,t,x.1⟩)] | _=>[])++eZ d (i+1) r q x.2
 | i,.map _ _::r,_::q,x=>eZ d (i+1) r q x.2
 | i,.ar _::r,q,x=>eZ d (i+1) r q x.2
 | i,.val _::r,_::q,x=>eZ d (i+1) r q x
 | i,.row _ _::r,_::q,x=>eZ d (i+1) r q x
 | i,.arR _::r,q,x=>eZ d (i+1) r q x
 | _,_::_,[],_=>[]
def cX (d:Nat):Nat->(ps:List PM)->List SV->dK ps->List (Nat×oz)
 | _,[],_,_=>[]
 | i,.box l::r,s::q,x=>(match gW s with | some _=>jB d i 1 l x.1 | none=>[])++cX d (i+1) r q x.2
 | i,.mrow _ _::r,_::q,x=>cX d (i+1) r q x.2
 | i,.map k v::r,s::q,x=>(match IS s with | some j=>[(j,.map k v x.1)] | _=>[])++cX d (i+1) r q x.2
 | i,.ar t::r,q,x=>(br,.ar false t x.1)::cX d (i+1) r q x.2
 | i,.val _::r,_::q,x=>cX d (i+1) r q x
 | i,.row _ _::r,_::q,x=>cX d (i+1) r q x
 | i,.arR _::r,q,x=>cX d (i+1) r q x
 | _,_::_,[],_=>[]
def CV.fD (a b:Nat):CV->Bool
 | .row j=>Nat.ble a j&&Nat.blt j b
 | .rp j _ _ _=>Nat.ble a j&&Nat.blt j b
 | .mp j=>Nat.ble a j&&Nat.blt j b
 | .stp j _=>Nat.ble a j&&Nat.blt j b
 | .kseq _ j=>Nat.ble a j&&Nat.blt j b
 | _=>false
def SV.fD (a b:Nat):SV->Bool
 | .v _ cs=>cs.any (CV.fD a b)
 | .tup l=>l.any fun p=>p.2.any (CV.fD a b)
def St.fD (a b:Nat) (S:St):Bool:=S.tmps.any (SV.fD a b)||S.boxes.any fun p=>p.2.any (CV.fD a b)
def qI (d:Nat) (S:St):Bool:= !S.fD (nid d 0 0) (nid (d+1) 0 0)
def eg (d i:Nat):Nat->List OT->List (aT×Nat)
 | _,[]=>[]
 | c,.val _::r=>eg d i (c+1) r
 | c,.row _ _::r=>(.inr (nid d i c),64*i+c)::eg d i (c+1) r
 | c,.map _ _::r=>(.ob (nid d i c),64*i+c)::eg d i (c+1) r
def cc (d:Nat):Nat->List PM->List SV->List (aT×Nat)
 | _,[],_=>[]
 | i,.box l::r,s::q=>(match gW s with | some k=>(.inl k,64*i)::eg d i 1 l | none=>[])++cc d (i+1) r q
 | i,.mrow _ _::r,s::q=>(match IT s with | some (some j)=>[(.inr j,64*i)] | _=>[])++cc d (i+1) r q
 | i,.map _ _::r,s::q=>(match IS s with | some j=>[(.ob j,64*i)] | _=>[])++cc d (i+1) r q
 | i,.ar _::r,q=>(.ob br,64*i)::cc d (i+1) r q
 | i,.val _::r,_::q=>cc d (i+1) r q
 | i,.row _ _::r,_::q=>cc d (i+1) r q
 | i,.arR _::r,q=>cc d (i+1) r q
 | _,_::_,[]=>[]
def dM (d:Nat):Nat->List RM->List (aT×Nat)
 | _,[]=>[]
 | c,.val _::r=>dM d (c+1) r
 | c,.row _ _::r=>(.inr (nid d (24+c) 0),64*(24+c))::dM d (c+1) r
 | c,.map _ _::r=>(.ob (nid d (24+c) 0),64*(24+c))::dM d (c+1) r
 | c,.box l::r=>((.inl d,64*(24+c))::eg d (24+c) 1 l)++dM d (c+1) r
def wq:List PM->Bool
 | []=>false
 | .arR _::_=>true
 | _::r=>wq r
def LS (S:St) (l:List (aT×Nat)):Bool:=l.all fun p=>match p.1 with | .ob j=> !S.bn j | _=>true
def Xh (d:Nat) (l:List (aT×Nat)):Bool:=l.all fun p=>match p.1 with
 | .inr j=> !(Nat.ble (nid d 0 0) j&&Nat.blt j (nid (d+1) 0 0))
 | .ob j=> !(Nat.ble (nid d 0 0) j&&Nat.blt j (nid (d+1) 0 0))
 | .inl _=>true
def iO (sp:an) (S:St) (args:List SV) (d:Option Tmp) (k:St->Option β):Option β:=
 let va:=dQ sp.ps args
 let js:=eC S va
 let V:=aF S js
 let ow:=eo S 0 sp.ps args
 let fb:=gP S va
 let dd:=d.getD 0
 let fl:=fk sp.rs&&fA sp.ps
 let its:=cc dd 0 sp.ps args++dM dd 0 sp.rs
 if wm ow||wm its||dup (its.map (·.2))|| !(its.all fun p=>Nat.blt p.2 2048)||(fb.any fun k=>(bG ow (.inl k)).isSome)||(js.any fun j=>(bG ow (.inr j)).isSome)||(wq sp.ps&&(bG ow (.ob br)).isSome)|| !qI dd S|| !Xh dd ow|| !LS S its||
  !(fl||(fb.isEmpty&& !wq sp.ps))||(Nat.blt 0 (xW sp.rs)&&(S.bV dd||d.isNone))|| !Nat.blt dd 2000 then none else
 match cV V fb sp.ps args with
 | some x=>(sp.m x).bind fun y=>
  let R:=if fl then S else V
  let b:=wK sp.ps sp.rs y
  k { tmps:=match d with | some d=>S.tmps.set d (yt (tY sp.ps dd sp.rs 0 y)) | none=>S.tmps,
      boxes:=mD sp.ps dd sp.rs 0 y++(cO dd 0 sp.ps args b++S.boxes.filter fun p=>(bG ow (.inl p.1)).isNone),
      rows:=mE sp.ps dd sp.rs 0 y++(eZ dd 0 sp.ps args b++R.rows.filter fun p=>(bG ow (.inr p.1)).isNone),
      objs:=iX sp.ps dd sp.rs 0 y++(cX dd 0 sp.ps args b++S.objs.filter fun p=>(bG ow (.ob p.1)).isNone) }
 | none=>none
def acN {α:Type} (a:Option α) (k:α->Option β) (e:Option β):Option β:=
 match a with
 | some y=>k y
 | none=>e
def Ln (sp:an) (S:St) (args:List SV) (d:Option Tmp) (k:St->Option β) (e:Option β):Option β:=
 let va:=dQ sp.ps args
 let js:=eC S va
 let V:=aF S js
 let ow:=eo S 0 sp.ps args
 let fb:=gP S va
 let dd:=d.getD 0
 let fl:=fk sp.rs&&fA sp.ps
 let its:=cc dd 0 sp.ps args++dM dd 0 sp.rs
 if wm ow||wm its||dup (its.map (·.2))|| !(its.all fun p=>Nat.blt p.2 2048)||(fb.any fun k=>(bG ow (.inl k)).isSome)||(js.any fun j=>(bG ow (.inr j)).isSome)||(wq sp.ps&&(bG ow (.ob br)).isSome)|| !qI dd S|| !Xh dd ow|| !LS S its||
  !(fl||(fb.isEmpty&& !wq sp.ps))||(Nat.blt 0 (xW sp.rs)&&(S.bV dd||d.isNone))|| !Nat.blt dd 2000 then none else
 match cV V fb sp.ps args with
 | some x=>acN (sp.m x) (fun y=>
  let R:=if fl then S else V
  let b:=wK sp.ps sp.rs y
  k { tmps:=match d with | some d=>S.tmps.set d (yt (tY sp.ps dd sp.rs 0 y)) | none=>S.tmps,
      boxes:=mD sp.ps dd sp.rs 0 y++(cO dd 0 sp.ps args b++S.boxes.filter fun p=>(bG ow (.inl p.1)).isNone),
      rows:=mE sp.ps dd sp.rs 0 y++(eZ dd 0 sp.ps args b++R.rows.filter fun p=>(bG ow (.inr p.1)).isNone),
      objs:=iX sp.ps dd sp.rs 0 y++(cX dd 0 sp.ps args b++S.objs.filter fun p=>(bG ow (.ob p.1)).isNone) }) e
 | none=>none
def nP {α:Type}:List (Nat×α)->Nat->List α
 | [],_=>[]
 | (j,x)::r,k=>bif Nat.beq j k then x::nP r k else nP r k
def qE (S:St) (args:List SV) (d:Option Tmp) (k:St->Option β):List an->Option β
 | []=>none
 | [sp]=>iO sp S args d k
 | sp::sp'::r=>Ln sp S args d k (qE S args d k (sp'::r))
def Mv (S:St) (e:TypeId) (ty:Ty):CV->Option (List ty.den×Option Nat)
 | .nils=>some ([],none)
 | .row j=>match look S.rows j with
  | some q=>if q.fz|| !Nat.beq q.e e then none else (match nw (b:=ty) q.l with | some l=>some (l,some j) | none=>none)
  | none=>none
 | _=>none
def Hr (S:St) (ty:Ty):CV->Option (List ty.den)
 | .nils=>some []
 | .sl _ l=>nw (b:=ty) l
 | .row j=>match look S.rows j with
  | some q=>nw (b:=ty) q.l
  | none=>none
 | _=>none
def rI (P:Program) (t:TypeId) (S:St) (b off:Nat) (cs:List CV) (k:St->Option β):Option β:=
 match look S.boxes b with
 | some l=>if okT P t&&Nat.beq cs.length (b6 P t)&&cs.all CV.ok then (match setAt l off cs with
  | some l=>k { S with boxes:=(b,l)::S.boxes }
  | none=>none) else none
 | none=>none
def yq (P:Program) (t:TypeId) (S:St) (j sz i off:Nat) (cs:List CV) (k:St->Option β):Option β:=
 match look S.rows j with
 | some q=>if q.fz|| !Nat.beq sz q.t.size|| !okT P t|| !Nat.beq cs.length (b6 P t)|| !cs.all CV.ok then none else
  (q.l[i]?).bind fun y=>match setAt (unpack q.t y) off cs with
  | some cs=>match gY (pack S q.t cs) with
   | some y=>k { S with rows:=(j,{ q with l:=q.l.set i y })::S.rows }
   | none=>none
  | none=>none
 | none=>none
def Bh (P:Program) (t:TypeId) (S:St) (h off:Nat) (cs:List CV) (k:St->Option β):Option β:=
 match look S.objs br with
 | some (.ar false ty l)=>if !okT P t|| !Nat.beq cs.length (b6 P t)|| !cs.all CV.ok then none else
  (l[h]?).bind fun y=>match setAt (unpack ty y) off cs with
  | some cs=>match gY (pack S ty cs) with
   | some y=>k { S with objs:=(br,.ar false ty (l.set h y))::S.objs }
   | none=>none
  | none=>none
 | _=>none
def CV.uL (k h:Nat):CV->CV
 | .ref j o=>bif Nat.beq j k then .hnd (some h) o else .ref j o
 | c=>c
def SV.uL (k h:Nat):SV->SV
 | .v a cs=> .v a (cs.map (CV.uL k h))
 | .tup l=> .tup (l.map fun p=>(p.1,p.2.map (CV.uL k h)))
def CV.Fp (k:Nat):CV->Bool
 | .fn _ ks=>ks.any (Nat.beq · k)
 | _=>false
def SV.Fp (k:Nat):SV->Bool
 | .v _ cs=>cs.any (CV.Fp k)
 | .tup l=>l.any fun p=>p.2.any (CV.Fp k)
def St.Fp (k:Nat) (S:St):Bool:=S.tmps.any (SV.Fp k)||S.boxes.any fun p=>p.2.any (CV.Fp k)
def Ba (S0:St) (k:Nat):St:=
 match look S0.objs br,look S0.boxes k with
 | some (.ar false t l),some cs=>
  let S:=aF S0 (gJ cs)
  if S.Fp k|| !Nat.blt k 2000 then S0 else
  match gY (pack S t cs) with
  | some x=>
   { tmps:=S.tmps.map (SV.uL k l.length),boxes:=(S.boxes.filter fun p=> !Nat.beq p.1 k).map (fun p=>(p.1,p.2.map (CV.uL k l.length))),rows:=S.rows,objs:=(br,.ar false t (l++[x]))::S.objs }
  | none=>S0
 | _,_=>S0
def Zt (cs:List CV):List Nat:=cs.filterMap fun | .ref k o=>(if Nat.beq o 0 then some k else none) | _=>none
def iQ (S:St):List SV->St
 | []=>S
 | .v _ cs::r=>iQ ((Zt cs).foldl Ba S) r
 | .tup _::r=>iQ S r
def xO (S:St) (d:Option Tmp):St:=
 match d with
 | some d=>(match S.tmps.getD d (.v false [.any]) with
  | .v false [.ref k _]=>bif Nat.beq k d then { S with tmps:=S.tmps.set d (.v false [.any]) } else S
  | _=>S)
 | none=>S
def Jz (E:Hf) (S:St) (args:List SV) (d:Option Tmp) (k:St->Option β):Option β:=
 match E with
 | .elt lo nb tb te m=>match args with
  | [.v false [.ref kb o],.v false [.rp j sz i off]]=>
   if !Nat.beq o 0|| !Nat.beq off 0 then none else
   match look S.boxes kb,look S.rows j with
   | some cs,some q=>
    if q.fz|| !Nat.beq sz te.size|| !Nat.beq cs.length nb then none else
    match cs[lo]? with
    | some (.sl _ l)=>match nw (b:=tb) l,nw (b:=te) q.l with
     | some l,some ql=>(m l ql i).bind fun ql'=>k ((⟨S.tmps,(kb,cs)::S.boxes,(j,⟨false,q.e,te,ql'⟩)::S.rows,S.objs⟩:St).put d (.v false [.any]))
     | _,_=>none
    | _=>none
   | _,_=>none
  | _=>none
 | .nest p sp=>match args[p]? with
  | some (.v false [.ref km o])=>
   if !Nat.beq o 0|| !S.bV km then none else
   match look S.boxes km with
   | some [.ref kk o2]=>
    if !Nat.beq o2 0||inL (gP S (dQ sp.ps (args.set p (.v false [.ref kk 0])))) km||(bG (eo S 0 sp.ps (args.set p (.v false [.ref kk 0]))) (.inl km)).isSome then none else
    iO sp S (args.set p (.v false [.ref kk 0])) d fun S'=>match look S'.boxes km with
     | some [.ref k' o']=>if Nat.beq k' kk&&Nat.beq o' 0&&S.bV kk then k S' else none
     | _=>none
   | _=>none
  | _=>none
 | _=>none
def Hf.aaV:Hf->Bool
 | .elt _ _ _ _ _=>true
 | .nest _ _=>true
 | _=>false
def cF (X:Cx) (o:Oper) (S:St) (k:St->Option β):Option β:=
 match o.op with
 | .store t a x=>if o.dst.isSome then none else match S.ev a,S.ev x with
  | .v false [.ref b off],.v _ cs=>rI X.P t S b off cs k
  | .v false [.rp j sz i off],.v _ cs=>yq X.P t (aF S (gJ cs)) j sz i off cs k
  | .v false [.hnd (some h) off],.v _ cs=>Bh X.P t (aF S (gJ cs)) h off cs k
  | _,_=>none
 | .mapUpdate t m kx x=>if o.dst.isSome then none else
  let S:=iQ (aF S (Dv [S.ev x])) [S.ev x]
  match X.P.underlying t,S.ev m with
  | some (.map kt _),.v false [.mp j]=>match look S.objs j with
   | some (.map kk vv l)=>match iI S [] kk (S.ev kx),iI S [] vv (S.ev x) with
    | some key,some y=>if gm X.P kt kk&& !S.bn j then k { S with objs:=(j,.map kk vv (wF l key y))::S.objs } else none
    | _,_=>none
   | _=>none
  | _,_=>none
 | .slice _ x _ _ _=>
  let S:=aF S (Dv [S.ev x])
  dU X o S S fun x=>k (S.app o.dst x)
 | .alloc _=>dU X o (xO S o.dst) (xO S o.dst) fun x=>k ((xO S o.dst).app o.dst x)
 | .call { callee:= .builtin .append,args,argTypes }=>match args.toList.map S.ev,argTypes.toList,o.dst with
  | [.v false [s],.v false [x]],[t,t'],some d=>match X.P.underlying t with
   | some (.slice e)=>match Gc X.P 9 e,zeroCells X.P e with
    | some ty,some zc=>
     if S.aX d|| !Nat.blt d 2000|| !Nat.beq t t'|| !Nat.beq (b6 X.P e) ty.size||Nat.beq ty.size 0|| !Nat.beq zc.length ty.size then none else
     match Mv S e ty s,Hr S ty x with
     | some (l,j),some l'=>
      chk (decide ((l.length+l'.length)*(((X.P.info? e).map (·.bytes)).getD 0)<=140737488355328)&&decide (l.length+l'.length<=maxLen))
       (k { tmps:=S.tmps.set d (.v false [.row d]),boxes:=S.boxes,rows:=(d,⟨false,e,ty,l++l'⟩)::(match j with | some j=>S.rows.filter (fun p=> !Nat.beq p.1 j) | none=>S.rows),objs:=S.objs })
     | _,_=>none
    | _,_=>none
   | _=>none
  | _,_,_=>none
 | .buildSlice t len parts=>
  let S:=iQ (aF S (Dv (parts.toList.map fun p=>S.ev p.2))) (parts.toList.map fun p=>S.ev p.2)
  NH X o t len parts S S fun x=>k (S.app o.dst x)
 | .call c=>match dD S c with
  | some (f,args)=>match look X.keys f with
   | some kf=>if kf.aaV then Jz kf S args o.dst k else dU X o S S fun x=>k (S.app o.dst x)
   | none=>qE S args o.dst k (nP X.specs f)
  | none=>dU X o S S fun x=>k (S.app o.dst x)
 | _=>dU X o S S fun x=>k (S.app o.dst x)
def guardOf (ops:List Oper) (o:Oper) (S:St):Option (Option (Nat×Bool×Bool)):=
 match o.guard with
 | none=>some none
 | some (j,want)=>match ops[j]? with
  | some g=>match g.dst with
   | some d=>match S.ev (.tmp d) with
    | .v false [.bool b]=>some (some (d,b,want))
    | _=>none
   | none=>none
  | none=>none
def lD (ops:List Oper) (o:Oper) (S:St):Bool:=
 match o.guard with
 | none=>false
 | some (j,_)=>match ops[j]? with
  | some g=>match g.dst with
   | some d=>match S.ev (.tmp d) with
    | .tup []=>true
    | _=>false
   | none=>false
  | none=>false
def nA:SV:= .tup []
def fork (S:St) (d:Nat) (b want:Bool) (yes no:St->Option β):Option β:=
 bif want then (bif b then yes (S.put (some d) (.v false [.bool true])) else no (S.put (some d) (.v false [.bool false])))
 else (bif b then no (S.put (some d) (.v false [.bool true])) else yes (S.put (some d) (.v false [.bool false])))
def kZ (X:Cx) (ops:List Oper):List Oper->St->(St->Option β)->Option β
 | [],S,k=>k S
 | o::rest,S,k=>match guardOf ops o S with
  | none=>bif lD ops o S then kZ X ops rest (S.put o.dst nA) k else none
  | some none=>cF X o S fun S=>kZ X ops rest S k
  | some (some (d,b,want))=>fork S d b want (fun S=>cF X o S fun S=>kZ X ops rest S k)
   fun S=>kZ X ops rest (S.put o.dst nA) k
def Pn (S:St) (t:Ty):Option (List t.den):=
 match look S.objs br with
 | some (.ar true _ l)=>nw (b:=t) l
 | _=>none
def bg (S:St):(cs:List CK)->List CV->Option (cW cs)
 | [],[]=>some ()
 | [],_::_=>none
 | .val t::r,cvs=>match pack S t cvs with
  | some (x,q)=>match bg S r q with
   | some y=>some (x,y)
   | none=>none
  | none=>none
 | .own e t::r,c::q=>match iH S e t c,bg S r q with
  | some l,some y=>some (l,y)
  | _,_=>none
 | .own _ _::_,[]=>none
 | .map kk vv::r,c::q=>match nc S kk vv c,bg S r q with
  | some l,some y=>some (l,y)
  | _,_=>none
 | .map _ _::_,[]=>none
 | .ref k off::r,c::q=>match c with
  | .ref k' off'=>if Nat.beq k k'&&Nat.beq off off' then bg S r q else none
  | _=>none
 | .ref _ _::_,[]=>none
 | .fn g ks::r,c::q=>match c with
  | .fn g' ks'=>if Nat.beq g g'&&ks==ks' then bg S r q else none
  | _=>none
 | .fn _ _::_,[]=>none
 | .ar t::r,q=>match tZ S false t,bg S r q with
  | some l,some y=>some (l,y)
  | _,_=>none
 | .arF t::r,q=>match Pn S t,bg S r q with
  | some l,some y=>some (l,y)
  | _,_=>none
 | .rowR j::r,c::q=>match c with
  | .row j'=>if Nat.beq j j' then bg S r q else none
  | _=>none
 | .rowR _::_,[]=>none
 | .rpR j sz::r,c::q=>match c with
  | .rp j' sz' i off=>if Nat.beq j j'&&(Nat.beq sz sz'&&Nat.beq off 0) then (match bg S r q with
   | some y=>some (i,y)
   | none=>none) else none
  | _=>none
 | .rpR _ _::_,[]=>none
 | .mapR j::r,c::q=>match c with
  | .mp j'=>if Nat.beq j j' then bg S r q else none
  | _=>none
 | .mapR _::_,[]=>none
 | .rowC j e t::r,q=>match iH S e t (.row j),bg S r q with
  | some l,some y=>some (l,y)
  | _,_=>none
 | .mapC j k v::r,q=>match nc S k v (.mp j),bg S r q with
  | some l,some y=>some (l,y)
  | _,_=>none
def CK.agg:CK->Bool
 | .val (.st _)=>true
 | _=>false
def Jk (S:St):List (Nat×CK)->Option (List CV)
 | []=>some []
 | p::r=>match S.tmps.getD p.1 (.v false [.any]) with
  | .v a cs=>match Jk S r with
   | some l=>if (a==p.2.agg)&&(Nat.beq cs.length p.2.size&&(a||Nat.beq p.2.size 1)) then some (cs++l) else none
   | none=>none
  | _=>none
def Hz (S:St):List (Nat×List CK)->Option (List CV)
 | []=>some []
 | p::r=>match look S.boxes p.1 with
  | some cs=>if Nat.beq cs.length (mm p.2) then (match Hz S r with
   | some l=>some (cs++l)
   | none=>none) else none
  | none=>none
def St.places (S:St) (A:Ann):Option (List CV):=
 match Jk S A.tmps,Hz S A.boxes with
 | some a,some b=>some (a++b)
 | _,_=>none
def carried (base:Nat):List CK->List CV->List (aT×Nat)
 | .val t::r,cvs=>carried base r (cvs.drop t.size)
 | .own _ _::r,c::q=>mF base c++carried (base+1) r q
 | .map _ _::r,c::q=>mF base c++carried (base+1) r q
 | .ref _ _::r,_::q=>carried base r q
 | .fn _ _::r,_::q=>carried base r q
 | .ar _::r,q=>(.ob br,br)::carried base r q
 | .arF _::r,q=>carried base r q
 | .rowR _::r,_::q=>carried base r q
 | .rpR _ _::r,_::q=>carried base r q
 | .mapR _::r,_::q=>carried base r q
 | .rowC j _ _::r,q=>(.inr j,j)::carried base r q
 | .mapC j _ _::r,q=>(.ob j,j)::carried base r q
 | _,_=>[]
def dP:Nat:=4000
def lO:List CK->Nat
 | []=>0
 | .own _ _::r=>lO r+1
 | .map _ _::r=>lO r+1
 | _::r=>lO r
def CK.qd (n:Nat):CK->Bool
 | .rowR j=>Nat.blt j dP||Nat.ble (dP+n) j
 | .rpR j _=>Nat.blt j dP||Nat.ble (dP+n) j
 | .rowC j _ _=>Nat.blt j dP||Nat.ble (dP+n) j
 | .mapR j=>Nat.blt j dP||Nat.ble (dP+n) j
 | .mapC j _ _=>Nat.blt j dP||Nat.ble (dP+n) j
 | _=>true
def Sa (A:Ann) (S:St):Option (cW A.cks):=
 match S.places A with
 | some cvs=>if !A.cks.all (CK.qd (lO A.cks))|| !Nat.blt A.cks.length 1000||wm (carried dP A.cks cvs)||dup ((carried dP A.cks cvs).map (·.2)) then none else bg S A.cks cvs
 | none=>none
def Iq:List CK->List CV->List Nat
 | .val t::r,cvs=>gJ (cvs.take t.size)++Iq r (cvs.drop t.size)
 | .ar _::r,q=>Iq r q
 | .arF _::r,q=>Iq r q
 | .rowC _ _ _::r,q=>Iq r q
 | .mapC _ _ _::r,q=>Iq r q
 | _::r,_::q=>Iq r q
 | _,_=>[]
def carry (A:Ann) (S:St):Option (cW A.cks):=
 match S.places A with
 | some cvs=>Sa A (aF S (Iq A.cks cvs))
 | none=>none
def kS (base:Nat):(cs:List CK)->cW cs->List CV
 | [],_=>[]
 | .val t::r,x=>unpack t x.1++kS base r x.2
 | .own _ _::r,x=> .row base::kS (base+1) r x.2
 | .map _ _::r,x=> .mp base::kS (base+1) r x.2
 | .ref k off::r,x=> .ref k off::kS base r x
 | .fn g ks::r,x=> .fn g ks::kS base r x
 | .ar _::r,x=>kS base r x.2
 | .arF _::r,x=>kS base r x.2
 | .rowR j::r,x=> .row j::kS base r x
 | .rpR j sz::r,x=> .rp j sz x.1 0::kS base r x.2
 | .mapR j::r,x=> .mp j::kS base r x
 | .rowC _ _ _::r,x=>kS base r x.2
 | .mapC _ _ _::r,x=>kS base r x.2
def fQ (base:Nat):(cs:List CK)->cW cs->List (Nat×lJ)
 | [],_=>[]
 | .val _::r,x=>fQ base r x.2
 | .own e t::r,x=>(base,⟨false,e,t,x.1⟩)::fQ (base+1) r x.2
 | .map _ _::r,x=>fQ (base+1) r x.2
 | .ref _ _::r,x=>fQ base r x
 | .fn _ _::r,x=>fQ base r x
 | .ar _::r,x=>fQ base r x.2
 | .arF _::r,x=>fQ base r x.2
 | .rowR _::r,x=>fQ base r x
 | .rpR _ _::r,x=>fQ base r x.2
 | .mapR _::r,x=>fQ base r x
 | .rowC j e t::r,x=>(j,⟨false,e,t,x.1⟩)::fQ base r x.2
 | .mapC _ _ _::r,x=>fQ base r x.2
def dn (base:Nat):(cs:List CK)->cW cs->List (Nat×oz)
 | [],_=>[]
 | .val _::r,x=>dn base r x.2
 | .own _ _::r,x=>dn (base+1) r x.2
 | .map k v::r,x=>(base,.map k v x.1)::dn (base+1) r x.2
 | .ref _ _::r,x=>dn base r x
 | .fn _ _::r,x=>dn base r x
 | .ar t::r,x=>(br,.ar false t x.1)::dn base r x.2
 | .arF t::r,x=>(br,.ar true t x.1)::dn base r x.2
 | .rowR _::r,x=>dn base r x
 | .rpR _ _::r,x=>dn base r x.2
 | .mapR _::r,x=>dn base r x
 | .rowC _ _ _::r,x=>dn base r x.2
 | .mapC j k v::r,x=>(j,.map k v x.1)::dn base r x.2
def zH:List (Nat×CK)->List CV->List SV->List SV
 | p::r,q,tmps=>zH r (q.drop p.2.size) (tmps.set p.1 (.v p.2.agg (q.take p.2.size)))
 | [],_,tmps=>tmps
def Hy:List (Nat×List CK)->List CV->List (Nat×List CV)
 | p::r,cs=>(p.1,cs.take (mm p.2))::Hy r (cs.drop (mm p.2))
 | [],_=>[]
def head (A:Ann) (n:Nat) (x:cW A.cks):St:=
 let cvs:=kS dP A.cks x
 { tmps:=zH A.tmps cvs (List.replicate n (.v false [.any])),
   boxes:=Hy A.boxes (cvs.drop (mm (A.tmps.map (·.2)))),
   rows:=fQ dP A.cks x,
   objs:=dn dP A.cks x }
inductive Ex where
 | normal
 | exit (id:Nat)
 | ret
def jk:Code->Nat
 | .region id _ _=>id
 | .seq a _=>jk a
 | .block _ c=>jk c
 | .loop c=>jk c
 | .scope c=>jk c
 | .cond _ a _=>jk a
 | _=>0
structure Msk where
 m:Nat
def inM (s:Msk) (j:Nat):Bool:=Nat.beq (Nat.land (Nat.shiftRight s.m j) 1) 1
def m0:Msk:=⟨0⟩
instance:Membership Nat Msk:=⟨fun s j=>inM s j=true⟩
def mw (acc:List Msk) (es:List Edge):Msk:=
 match es with
 | []=>m0
 | e::r=>bif Region.binds .any e then ⟨Nat.lor (Nat.lor (Nat.shiftLeft 1 e.on) (acc.getD e.on m0).m) (mw acc r).m⟩ else mw acc r
def pq:List Oper->List Msk->List Msk
 | [],acc=>acc
 | o::r,acc=>pq r (acc++[mw acc o.after.toList])
def deps (ops:List Oper):List Msk:=pq ops []
def nq (ds:List Msk) (k:Nat):Bool:=(List.range k).all fun j=>inM (ds.getD k m0) j
def yp (ds:List Msk):Nat->Nat
 | 0=>0
 | k+1=>if nq ds k then yp ds k else k+1
def mask (n N:Nat):Array Bool:=(List.replicate n true++List.replicate (N - n) false).toArray
def bS (ops:List Oper) (j:Nat):Option Nat:=match ops[j]? with | some p=>p.dst | none=>none
def MW (t:Nat) (m:Msk):List (Option Nat)->Nat->Bool
 | [],_=>true
 | d::r,j=>((match d with | some d=> !Nat.beq d t | none=>true)||inM m j)&&MW t m r (j+1)
def Ee (t i:Nat) (m:Msk) (ds:List Msk):List (Option Nat)->Nat->Bool
 | [],_=>true
 | d::r,j=>((match d with | some d=> !Nat.beq d t | none=>true)||(inM m j||inM (ds.getD j m0) i))&&Ee t i m ds r (j+1)
def Em (ops:List Oper) (ds:List Msk) (n:Nat):Bool:=
 let dl:=(ops.take n).map (·.dst)
 !dup ((ops.take n).filterMap (·.dst))&&(List.range n).all fun i=>match ops[i]? with
  | some o=>o.dst.isSome&&((o.looksAt ops.toArray).all fun t=>MW t (ds.getD i m0) dl 0)
  | none=>false
def eF (ops:List Oper):Bool:=(List.range ops.length).all fun i=>match ops[i]? with
 | some o=>o.after.toList.all fun e=> !Region.binds .any e||Nat.blt e.on i
 | none=>true
def A8 (ops:List Oper) (n:Nat):Bool:=
 let ds:=deps ops
 Nat.ble n ops.length&&Em ops ds n&&((List.range ops.length).all fun k=>Nat.blt k n||nq ds k)&&eF ops&&Region.seqB .any ops.toArray (ops.length - n) n (mask n ops.length)
def CV.di (d:Nat) (c:CV):Bool:=c.bV d||(c.aX d||(c.bu d||c.bn d))
def SV.di (d:Nat):SV->Bool
 | .v _ cs=>cs.any (CV.di d)
 | .tup l=>l.any fun p=>p.2.any (CV.di d)
def St.di (d:Nat) (S:St):Bool:=S.tmps.any (SV.di d)||S.boxes.any fun p=>p.2.any (CV.di d)
def Py (Sn:St) (d dj:Nat):Bool:=
 (Sn.tmps.getD dj (.v false [.any])).di d||(match look Sn.boxes dj with | some cs=>cs.any (CV.di d) | none=>false)
def WM:CV->List Nat
 | .ref j _=>[j]
 | .fn _ ks=>ks
 | .row j=>[j]
 | .rp j _ _ _=>[j]
 | .mp j=>[j]
 | .stp j _=>[j]
 | .kseq _ j=>[j]
 | _=>[]
def BF:List CV->List Nat
 | []=>[]
 | c::r=>WM c++BF r
def Ry:List (Bool×List CV)->List Nat
 | []=>[]
 | c::r=>BF c.2++Ry r
def WN:SV->List Nat
 | .v _ cs=>BF cs
 | .tup l=>Ry l
def Nd:List SV->List Nat
 | []=>[]
 | c::r=>WN c++Nd r
def Rx:List (Nat×List CV)->List Nat
 | []=>[]
 | c::r=>c.1::(BF c.2++Rx r)
def Nn {α:Type}:List (Nat×α)->List Nat
 | []=>[]
 | c::r=>c.1::Nn r
def St.ids (S:St):List Nat:=Nd S.tmps++(Rx S.boxes++(Nn S.rows++Nn S.objs))
def Rw (Sn:St) (dj:Nat):List Nat:=WN (Sn.tmps.getD dj (.v false [.any]))++(match look Sn.boxes dj with | some cs=>BF cs | none=>[])
def zD (ops:List Oper) (n:Nat) (S Sn:St):Bool:=
 let ds:=deps ops
 let hs:=S.ids
 ((ops.take n).all fun o=>match o.dst with | some d=> !inL hs d | none=>false)&&
 (List.range n).all fun j=>match bS ops j with
   | some dj=>(Rw Sn dj).all fun a=>(List.range n).all fun i=>Nat.beq i j||(inM (ds.getD j m0) i||(match bS ops i with | some d=> !Nat.beq d a | none=>true))
   | none=>true
def pX (X:Cx) (ops:List Oper) (M:St):List Oper->St->(St->Option β)->Option β
 | [],S,k=>k S
 | o::rest,S,k=>match guardOf ops o S with
  | none=>bif lD ops o S then pX X ops M rest (S.put o.dst nA) k else none
  | some none=>dU X o S M fun x=>pX X ops M rest (S.app o.dst x) k
  | some (some (d,b,want))=>fork S d b want (fun S=>dU X o S M fun x=>pX X ops M rest (S.app o.dst x) k)
   fun S=>pX X ops M rest (S.put o.dst nA) k
def JH:Op->Bool
 | .store _ _ _=>true
 | _=>false
def vB:Op->Bool
 | .move _=>true
 | .assign _=>true
 | .binOp _ _ _ _ _=>true
 | _=>false
def qK:Op->Bool
 | .makeSlice _ _ _=>true
 | _=>false
def qN:St:=⟨[],[],[],[]⟩
def YK (ops:List Oper) (ds:List Msk) (m:Nat):Bool:=match ops[m]? with
 | some o=>JH o.op&&o.guard.isNone&&o.dst.isNone&&((List.range m).all fun i=>inM (ds.getD m m0) i||(match ops[i]? with | some p=>vB p.op&&p.guard.isNone | none=>false))&&
  ((o.looksAt ops.toArray).all fun t=>(List.range m).all fun j=>if bS ops j==some t then inM (ds.getD m m0) j else true)
 | none=>false
def LD (ops:List Oper) (m:Nat):Bool:=
 let ds:=deps ops
 Nat.ble (m+1) ops.length&&Em ops ds m&&((List.range ops.length).all fun k=>Nat.blt k (m+1)||nq ds k)&&eF ops&&Region.seqB .any ops.toArray (ops.length - (m+1)) (m+1) (mask (m+1) ops.length)&&YK ops ds m
def VE (ops:List Oper) (ds:List Msk) (m:Nat):Bool:=match ops[m]? with
 | some o=>JH o.op&&o.guard.isNone&&o.dst.isNone&&((List.range m).all fun i=>inM (ds.getD m m0) i||(match ops[i]? with | some p=>(vB p.op||qK p.op)&&p.guard.isNone | none=>false))&&
  ((o.looksAt ops.toArray).all fun t=>(List.range m).all fun j=>if bS ops j==some t then inM (ds.getD m m0) j else true)
 | none=>false
def LF (ops:List Oper) (m:Nat):Bool:=
 let ds:=deps ops
 Nat.ble (m+1) ops.length&&Em ops ds m&&((List.range ops.length).all fun k=>Nat.blt k (m+1)||nq ds k)&&eF ops&&Region.seqB .any ops.toArray (ops.length - (m+1)) (m+1) (mask (m+1) ops.length)&&VE ops ds m
def ID (ops:List Oper) (m:Nat):List Nat:=(List.range m).filterMap fun i=>match ops[i]? with
 | some p=>if qK p.op&& !inM ((deps ops).getD m m0) i then p.dst else none
 | none=>none
def uV:Op->Bool
 | .call { callee:= .builtin .append, .. }=>true
 | _=>false
def jn:List PM->Bool
 | []=>true
 | .val _::r=>jn r
 | .row _ _::r=>jn r
 | _=>false
def Xc:List RM->Bool
 | [.row _ _]=>true
 | _=>false
def Eo (X:Cx):Op->Bool
 | .call c=>match c.callee with
  | .value (.func g)=>(match look X.keys g with
   | none=>(match nP X.specs g with
    | [sp]=>jn sp.ps&&(!sp.ps.all PM.isVal&&Xc sp.rs)
    | _=>false)
   | some _=>false)
  | _=>false
 | _=>false
def RF:Ty->Bool
 | .int _=>true
 | .bool=>true
 | .str=>true
 | _=>false
def pL:List OT->Bool
 | []=>true
 | .val t::r=>RF t&&pL r
 | _=>false
def mK:List PM->Bool
 | []=>true
 | .val t::r=>RF t&&mK r
 | _=>false
def AN:List PM->Bool
 | .box l::r=>pL l&&mK r
 | _=>false
def BG (X:Cx):Op->Bool
 | .call c=>match c.callee with
  | .value (.func g)=>(match look X.keys g with
   | none=>(match nP X.specs g with
    | [sp]=>AN sp.ps&&(sL sp.rs&&fk sp.rs)
    | _=>false)
   | some _=>false)
  | _=>false
 | _=>false
def abR (X:Cx) (op:Op):Option Operand:=bif BG X op then (match op with
 | .call c=>c.args.toList.head?
 | _=>none) else none
def isApp (X:Cx) (op:Op):Bool:=uV op||(Eo X op||BG X op)
def A9 (hs:List Nat) (d:Nat):Bool:=hs.all fun j=> !(Nat.ble (nid d 0 0) j&&Nat.blt j (nid (d+1) 0 0))
def oD (A:Op->Bool):List Oper->Nat
 | []=>0
 | o::r=>bif JH o.op||A o.op then 0 else Nat.succ (oD A r)
def acI:Op->Bool
 | .assign _=>true
 | _=>false
def xS:List Oper->Nat
 | []=>0
 | o::r=>bif acI o.op then 0 else Nat.succ (xS r)
def opAt (ops:List Oper) (t:Nat):Option Oper:=ops.find? (fun o=>match o.dst with | some d=>Nat.beq d t | none=>false)
def Mm (ops:List Oper):Nat->Operand->Bool
 | 0,_=>false
 | f+1,.tmp t=>match opAt ops t with
  | some o=>(match o.op with | .indexAddr _ _ _=>true | .fieldAddr _ x _=>Mm ops f x | .nilCheck x=>Mm ops f x | .move x=>Mm ops f x | _=>false)
  | none=>false
 | _+1,_=>false
def DL (ops:List Oper) (S:St):Nat->Operand->Option Nat
 | 0,_=>none
 | f+1,.tmp t=>match opAt ops t with
  | some o=>(match o.op with | .fieldAddr _ x _=>DL ops S f x | .nilCheck x=>DL ops S f x | .move x=>DL ops S f x | .alloc _=>some t | _=>none)
  | none=>(match S.ev (.tmp t) with | .v false [.ref b _]=>some b | _=>none)
 | _+1,_=>none
def ZR:Op->Option Operand
 | .store _ a _=>some a
 | _=>none
def adX (X:Cx) (op:Op):Option Operand:=match ZR op with
 | some a=>some a
 | none=>abR X op
structure Touch where
 rt:Bool
 bs:Option (List Nat)
def cP (X:Cx) (ops:List Oper) (S:St):List Oper->Touch
 | []=>⟨false,some []⟩
 | o::r=>match adX X o.op with
  | some a=>bif Mm ops 9 a then ⟨true,(cP X ops S r).bs⟩ else (match DL ops S 9 a with
   | some b=>⟨(cP X ops S r).rt,(match (cP X ops S r).bs with | some l=>some (b::l) | none=>none)⟩
   | none=>⟨true,none⟩)
  | none=>bif isApp X o.op then ⟨true,(cP X ops S r).bs⟩ else cP X ops S r
def iT (t:Touch) (k:Nat):Bool:=match t.bs with
 | some l=> !inL l k
 | none=>false
def JG:Op->Bool
 | .binOp _ _ _ _ _=>true
 | _=>false
def Ef (ops:List Oper) (ds:List Msk) (m j:Nat):Bool:=match ops[j]? with
 | some o=>JG o.op&&(Nat.blt m j&&(o.guard.isNone&&((o.after.toList.all fun e=> !Region.binds .any e||(Nat.beq (e.on+1) j||inM (ds.getD (j - 1) m0) e.on))&&
  (Region.noSelect ops.toArray&&Region.free .any ops.toArray ((List.range ops.length).map fun k=>inM (ds.getD j m0) k).toArray j))))
 | none=>false
def RG (ds:List Msk) (m n:Nat):Bool:=(List.range n).all fun i=>Nat.blt i m||(List.range i).all fun j=>Nat.blt j m||inM (ds.getD i m0) j
def VZ (ops:List Oper) (ds:List Msk) (m n:Nat):Bool:=
 let dl:=(ops.take n).map (·.dst)
 !dup ((ops.take n).filterMap (·.dst))&&((List.range n).all fun i=>match ops[i]? with
  | some o=>((o.looksAt ops.toArray).all fun t=>Ee t i (ds.getD i m0) ds dl 0)&&((Nat.blt i m||o.guard.isNone)&&(Nat.blt i m||(List.range i).all fun j=>Nat.blt j m||(inM (ds.getD i m0) j||Ef ops ds m j)))
  | none=>false)
def xN (ops:List Oper) (m n:Nat):Bool:=
 let ds:=deps ops
 Nat.blt m n&&(Nat.ble n ops.length&&(Em ops ds m&&(((List.range ops.length).all fun k=>Nat.blt k n||nq ds k)&&(eF ops&&(Region.seqB .any ops.toArray (ops.length - n) n (mask n ops.length)&&VZ ops ds m n)))))
def dA (t:Touch) (S:St):St:=⟨[],S.boxes.filter (fun p=>iT t p.1),bif t.rt then [] else S.rows,bif t.rt then [] else S.objs⟩
def yM (x:Del):Bool:=x.box.isNone&&(x.row.isNone&&x.obj.isNone)
def Fq:Op->Bool
 | .alloc _=>true
 | _=>false
def wB (lb:Bool) (op:Op) (x:Del):Bool:=bif lb&&Fq op then x.row.isNone&&x.obj.isNone else yM x
def No (ops:List Oper) (m:Nat):List (Nat×List Nat):=(List.range m).filterMap fun i=>match ops[i]? with
 | some o=>bif Fq o.op&& !inM ((deps ops).getD m m0) i then (match o.dst with
  | some d=>some (d,(List.range m).filterMap fun j=>bif Nat.beq j i||inM ((deps ops).getD j m0) i then bS ops j else none)
  | none=>none) else none
 | none=>none
def inU (sd:List (Nat×List Nat)) (k:Nat):Bool:=sd.any fun p=>Nat.beq p.1 k
def noB (sd:List (Nat×List Nat)) (S:St):St:={ S with boxes:=S.boxes.filter fun p=> !inU sd p.1 }
def CU (sd:List (Nat×List Nat)) (S:St):Bool:=sd.all fun q=>(S.boxes.all fun p=> !p.2.any (CV.bV q.1))&&
 (List.range S.tmps.length).all fun t=>inL q.2 t|| !(S.tmps.getD t (.v false [.any])).bV q.1
def WJ (t:Touch) (sd:List (Nat×List Nat)):Bool:=sd.all fun q=>iT t q.1
def S6 (ops:List Oper) (m n i:Nat):List Oper:=(List.range n).filterMap fun j=>if Nat.ble m j&& !inM ((deps ops).getD j m0) i then ops[j]? else none
def gT (X:Cx) (ops:List Oper) (M:St) (Mr:Nat->St) (dm:Msk) (lb:Bool):Nat->List Oper->St->(St->Option β)->Option β
 | _,[],S,k=>k S
 | i,o::rest,S,k=>match guardOf ops o S with
  | none=>bif lD ops o S then gT X ops M Mr dm lb (i+1) rest (S.put o.dst nA) k else none
  | some none=>bif inM dm i then dU X o S M fun x=>gT X ops M Mr dm lb (i+1) rest (S.app o.dst x) k
   else dU X o S (Mr i) fun x=>bif wB lb o.op x then gT X ops M Mr dm lb (i+1) rest (S.app o.dst x) k else none
  | some (some (d,b,want))=>fork S d b want (fun S=>bif inM dm i then dU X o S M fun x=>gT X ops M Mr dm lb (i+1) rest (S.app o.dst x) k
   else dU X o S (Mr i) fun x=>bif wB lb o.op x then gT X ops M Mr dm lb (i+1) rest (S.app o.dst x) k else none)
   fun S=>gT X ops M Mr dm lb (i+1) rest (S.put o.dst nA) k
def Oj (t:Touch):SV->Bool
 | .v false [.ref b _]=> !iT t b
 | _=>t.rt
def Iw (S:St):Op->Bool
 | .binOp .add _ x y _=>match S.ev x,S.ev y with
  | .v false [.int _ _],.v false [.int _ _]=>true
  | _,_=>false
 | _=>false
def aaE (S:St) (hs:List Nat) (d:Option Nat) (x:Del):Bool:=x.box.isNone&&(x.obj.isNone&&(match d with
 | some d=> !inL hs d&&(look S.rows d).isNone
 | none=>false))
def Nr (sd:List (Nat×List Nat)) (hs:List Nat) (t:Touch) (o:Oper) (S:St):Bool:=match o.op with
 | .call c=>match c.args.toList.map S.ev with
  | .v false [.ref b _]::q=> !iT t b&&(!inU sd b&&((uA q).isEmpty&&A9 hs (o.dst.getD 0)))
  | _=>false
 | _=>false
def k9 (X:Cx) (ops:List Oper) (S0:St) (hs:List Nat) (sd:List (Nat×List Nat)) (e:Bool):List Oper->St->(St->Option β)->Option β
 | [],S,k=>bif CU sd S then k S else none
 | o::rest,S,k=>bif CU sd S then (match ZR o.op with
  | some a=>bif sd.isEmpty&&Oj (cP X ops S0 [o]) (S.ev a) then cF X o S fun S=>k9 X ops S0 hs sd e rest S k else none
  | none=>bif uV o.op
   then (bif sd.isEmpty&&((cP X ops S0 [o]).rt&&(match o.dst with | some d=> !inL hs d | none=>false)) then cF X o S fun S=>k9 X ops S0 hs sd e rest S k else none)
   else bif Eo X o.op
   then (bif sd.isEmpty&&((cP X ops S0 [o]).rt&&(match o.dst with | some d=>A9 hs d | none=>false)) then cF X o S fun S=>k9 X ops S0 hs sd e rest S k else none)
   else bif BG X o.op
   then (bif Nr sd hs (cP X ops S0 [o]) o S then cF X o S fun S=>k9 X ops S0 hs sd e rest S k else none)
   else bif e&&(JG o.op&& !Iw S o.op) then none
   else dU X o S (noB sd S) fun x=>bif yM x||aaE S hs o.dst x then k9 X ops S0 hs sd e rest (S.app o.dst x) k else none) else none
def FY (X:Cx) (ops:List Oper) (S:St) (k:St->Option β) (m n:Nat):Option β:=
 let sd:=No ops m
 bif WJ (cP X ops S ((ops.take n).drop m)) sd then
 gT X ops S (fun i=>dA (cP X ops S (S6 ops m n i)) S) ((deps ops).getD m m0) true 0 (ops.take m) S fun Sn=>if zD ops m S Sn then k9 X ops S S.ids sd (!RG (deps ops) m n) ((ops.take n).drop m) Sn fun S=>kZ X ops (ops.drop n) S k else none
 else none
def runM (X:Cx) (ops:List Oper) (m:Nat) (S:St) (k:St->Option β):Option β:=match ops[m]? with
 | some o=>match o.op with
  | .store _ a _=>match S.ev a with
   | .v false [.ref _ _]=>cF X o S fun S'=>bif (ID ops m).all fun d=> !S'.boxes.any fun p=>p.2.any (CV.aX d) then k S' else none
   | _=>none
  | _=>none
 | none=>none
def vg (X:Cx) (ops:List Oper) (S:St) (k:St->Option β) (els:Option β):Option β:=
 let n:=yp (deps ops) ops.length
 if A8 ops n&& !(ops.take n).any (fun o=>isApp X o.op) then pX X ops S (ops.take n) S fun Sn=>if zD ops n S Sn then kZ X ops (ops.drop n) Sn k else none
 else if LD ops (n - 1)&& !(ops.take (n - 1)).any (fun o=>isApp X o.op) then pX X ops S (ops.take (n - 1)) S fun Sn=>if zD ops (n - 1) S Sn then kZ X ops (ops.drop (n - 1)) Sn k else none
 else if LF ops (n - 1)&& !(ops.take (n - 1)).any (fun o=>isApp X o.op) then pX X ops S (ops.take (n - 1)) S fun Sn=>if zD ops (n - 1) S Sn then runM X ops (n - 1) Sn fun S'=>kZ X ops (ops.drop (n - 1+1)) S' k else none
 else if xN ops (oD (isApp X) ops) n then FY X ops S k (oD (isApp X) ops) n
 else if xN ops (xS ops) n&& !(ops.take (xS ops)).any (fun o=>isApp X o.op) then FY X ops S k (xS ops) n
 else els
def abT (X:Cx) (ops:List Oper):Bool:=
 let n:=yp (deps ops) ops.length
 (A8 ops n&& !(ops.take n).any (fun o=>isApp X o.op))||((LD ops (n - 1)&& !(ops.take (n - 1)).any (fun o=>isApp X o.op))||((LF ops (n - 1)&& !(ops.take (n - 1)).any (fun o=>isApp X o.op))||
   (xN ops (oD (isApp X) ops) n||(xN ops (xS ops) n&& !(ops.take (xS ops)).any (fun o=>isApp X o.op)))))
def JV (σ:Nat->Nat) (o:Oper):Oper:={ o with after:=o.after.map fun e=>{ e with on:=σ e.on } }
def OS (A:Op->Bool) (ds:List Msk):Nat->List Oper->List Nat->List Nat->List Nat
 | _,[],sp,fl=>fl++sp
 | i,o::r,sp,fl=>bif JH o.op||(A o.op||sp.any fun j=>inM (ds.getD i m0) j) then OS A ds (i+1) r (sp++[i]) fl else OS A ds (i+1) r sp (fl++[i])
def oE (A:Op->Bool) (ops:List Oper):List Nat:=List.range (oD A ops)++OS A (deps ops) (oD A ops) (ops.drop (oD A ops)) [] []
def posOf:List Nat->Nat->Nat
 | [],_=>0
 | x::r,i=>bif Nat.beq x i then 0 else Nat.succ (posOf r i)
def vJ (ops:List Oper) (p:List Nat):List Oper:=match ops with
 | []=>[]
 | o0::_=>p.map fun i=>JV (posOf p) (ops.getD i o0)
def Bg (ops:List Oper) (p:List Nat):Bool:=
 Nat.beq p.length ops.length&&(((List.range ops.length).all fun i=>Nat.blt (posOf p i) ops.length&&Nat.beq (p.getD (posOf p i) ops.length) i)&&
  (((List.range ops.length).all fun j=>Nat.blt (p.getD j ops.length) ops.length&&Nat.beq (posOf p (p.getD j ops.length)) j)&&
    ops.all fun o=>o.guard.isNone&&o.after.toList.all fun e=>Nat.blt e.on ops.length))
def YS (e:Edge):Bool:=match e.ground with
 | .phase=>true
 | .chain=>true
 | _=>false
def wE (o:Oper):Oper:=match o.op with
 | .fieldAddr _ _ _=>{ o with after:=(o.after.toList.filter fun e=> !YS e).toArray }
 | _=>o
def jX (ops:List Oper):List Oper:=ops.map wE
def xD (o:Oper):Oper:={ o with after:=o.after.push ⟨0,.phase⟩ }
def JN:List Oper->List Oper
 | []=>[]
 | o::r=>o::r.map xD
def Xd (ops:List Oper):Bool:=match ops with
 | []=>false
 | o::_=>(match o.op with | .move _=>true | _=>false)&&(ops.all (fun p=>p.guard.isNone)&&(o.after.isEmpty&&(o.dst.isSome&&(Region.noSelect ops.toArray&&Region.free .any ops.toArray (Array.replicate ops.length false) 0))))
def yK (ops:List Oper) (mask:Array Bool) (may:List Nat):Bool:=
 !(Region.ready .any ops.toArray mask).isEmpty&&(Region.ready .any ops.toArray mask).all (inL may)
def abU (ops:List Oper):Bool:=
 let A:=ops.toArray
 (Region.noSelect A&&ops.all fun o=>o.guard.isNone)&&
 ((Region.free .any A #[false,false,false,false,false,false,false,false] 0&&(Region.ready .any A #[false,false,false,false,false,false,false,false]).contains 0)&&
 ((Region.free .any A #[true,false,false,false,false,false,false,false] 3&&(Region.ready .any A #[true,false,false,false,false,false,false,false]).contains 3)&&
 (yK ops #[true,false,false,true,false,false,false,false] [1]&&
 (yK ops #[true,true,false,true,false,false,false,false] [2,5]&&
 (yK ops #[true,true,true,true,false,false,false,false] [4,5]&&
 (yK ops #[true,true,true,true,true,false,false,false] [5]&&
 (yK ops #[true,true,false,true,false,true,false,false] [2,6]&&
 (yK ops #[true,true,true,true,false,true,false,false] [4,6]&&
 (yK ops #[true,true,true,true,true,true,false,false] [6]&&
 (yK ops #[true,true,false,true,false,true,true,false] [2]&&
 (yK ops #[true,true,true,true,false,true,true,false] [4]&&
 yK ops #[true,true,true,true,true,true,true,false] [7])))))))))))
def Px (X:Cx) (ops:List Oper) (S:St) (k:St->Option β):Option β:=
 if ops.any (YP X)&&Xd ops then vg X (JN ops) S k none
 else vg X ops S k (if Bg ops (oE (isApp X) ops) then (
  if abT X (vJ ops (oE (isApp X) ops)) then vg X (vJ ops (oE (isApp X) ops)) S k none
  else if eF ops&&Bg (jX ops) (oE (isApp X) (jX ops)) then vg X (vJ (jX ops) (oE (isApp X) (jX ops))) S k none else none) else none)
def aJ {β γ:Type}:Option (β ⊕ γ)->(γ->Option β)->Option β
 | none,_=>none
 | some (.inl r),_=>some r
 | some (.inr v),f=>f v
def Dt {β γ:Type}:Option β->Option (β ⊕ γ)
 | some r=>some (.inl r)
 | none=>none
def meet {β:Type} (A:Ann) (n:Nat) (S:St):Option (β ⊕ cW A.cks):=
 match carry A S with
 | some v=>bif Nat.beq S.tmps.length n then some (.inr v) else none
 | none=>none
def aa9 (x y:Code):Nat:=100000+max (jk x) (jk y)
def ZW (c:Code):Nat:=200000+jk c
noncomputable def both {β:Type} (a b:Option β):Option β:=open Classical in if a=b then a else none
def pS:Touch:=⟨false,some []⟩
def XE (X:Cx) (ops:List Oper) (S:St) (k:St->Option β):Option β:=gT X ops S (fun _=>dA pS S) m0 false 0 ops S k
def XA (X:Cx) (ops:List Oper) (dr:Bool) (S:St) (k:St->Option β):Option β:=
 bif dr then (bif A8 ops ops.length&& !(ops.any fun o=>uV o.op) then XE X ops S fun Sn=>bif zD ops ops.length S Sn then k Sn else none else none)
 else XE X ops S k
def jL (A:Ann):List (Nat×Ty):=A.tmps.filterMap fun | (i,.val t)=>some (i,t) | _=>none
def O7:List (Nat×Ty)->Type
 | []=>Unit
 | p::r=>p.2.den×O7 r
def Ni (S:St):(l:List (Nat×Ty))->Option (O7 l)
 | []=>some ()
 | p::r=>match iI S [] p.2 (S.tmps.getD p.1 (.v false [.any])) with
  | some x=>match Ni S r with
   | some y=>some (x,y)
   | none=>none
  | none=>none
def Fu:(l:List (Nat×Ty))->O7 l->List SV->List SV
 | [],_,T=>T
 | p::r,v,T=>(Fu r v.2 T).set p.1 (nX p.2 v.1)
def rX:List Oper->List SV->List SV
 | [],T=>T
 | o::r,T=>rX r (match o.dst with | some d=>T.set d (.v false [.any]) | none=>T)
noncomputable def den (X:Cx) (anns:List (Nat×Ann)):Code->(β:Type)->St->(Ex->St->Option β)->Option β
 | .skip,_,S,K=>K .normal S
 | .region id ops dr,_,S,K=>match look anns (300000+id) with
  | some A=>(XA X ops.toList dr S fun S'=>Ni S' (jL A)).bind fun v=>K .normal { S with tmps:=Fu (jL A) v (rX ops.toList S.tmps) }
  | none=>bif dr then Px X ops.toList S (K .normal) else kZ X ops.toList ops.toList S (K .normal)
 | .seq a b,β,S,K=>den X anns a β S fun e S=>match e with
  | .normal=>den X anns b β S K
  | .exit j=>K (.exit j) S
  | .ret=>K .ret S
 | .cond c x y,β,S,K=>match S.ev c with
  | .v false [.bool b]=>match look anns (aa9 x y) with
   | some A=>aJ (bif b
    then den X anns x (β ⊕ cW A.cks) S (fun e S'=>match e with
     | .normal=>meet A S.tmps.length S'
     | .exit j=>Dt (K (.exit j) S')
     | .ret=>Dt (K .ret S'))
    else den X anns y (β ⊕ cW A.cks) S (fun e S'=>match e with
     | .normal=>meet A S.tmps.length S'
     | .exit j=>Dt (K (.exit j) S')
     | .ret=>Dt (K .ret S'))) fun v=>K .normal (head A S.tmps.length v)
   | none=>bif b then den X anns x β S K else den X anns y β S K
  | .v false [.nb b]=>bif b then both (den X anns x β S K) (den X anns y β S K) else den X anns y β S K
  | _=>none
 | .block id c,β,S,K=>match look anns (ZW c) with
  | some A=>aJ (den X anns c (β ⊕ cW A.cks) S fun e S'=>match e with
   | .normal=>meet A S.tmps.length S'
   | .exit j=>if Nat.beq j id then meet A S.tmps.length S' else Dt (K (.exit j) S')
   | .ret=>Dt (K .ret S')) fun v=>K .normal (head A S.tmps.length v)
  | none=>den X anns c β S fun e S'=>match e with
   | .normal=>K .normal S'
   | .exit j=>if Nat.beq j id then K .normal S' else K (.exit j) S'
   | .ret=>K .ret S'
 | .loop c,β,S,K=>match look anns (jk c) with
  | some A=>match carry A S with
   | some x=>iter (A.fuel x) x fun x again=>den X anns c β (head A S.tmps.length x) fun e S'=>match e with
    | .normal=>match carry A S' with
     | some y=>bif Nat.beq S'.tmps.length S.tmps.length then again y else none
     | none=>none
    | .exit j=>K (.exit j) S'
    | .ret=>K .ret S'
   | none=>none
  | none=>none
 | .exit id,_,S,K=>K (.exit id) S
 | .ret,_,S,K=>K .ret S
 | _,_,_,_=>none
def pD:Nat:=5000
def pid (i c:Nat):Nat:=nid pD i c
def jD (i:Nat):(ps:List PM)->dL ps->List SV
 | [],_=>[]
 | .val t::r,x=>nX t x.1::jD (i+1) r x.2
 | .row _ _::r,x=> .v false [.row (pid i 0)]::jD (i+1) r x.2
 | .mrow _ _::r,x=> .v false [.row (pid i 0)]::jD (i+1) r x.2
 | .map _ _::r,x=> .v false [.mp (pid i 0)]::jD (i+1) r x.2
 | .box _::r,x=> .v false [.ref (2000+i) 0]::jD (i+1) r x.2
 | .ar _::r,x=>jD (i+1) r x.2
 | .arR _::r,x=>jD (i+1) r x.2
def oK (i:Nat):(ps:List PM)->dL ps->List (Nat×List CV)
 | [],_=>[]
 | .box l::r,x=>(2000+i,FI pD i 1 l x.1)::oK (i+1) r x.2
 | .val _::r,x=>oK (i+1) r x.2
 | .row _ _::r,x=>oK (i+1) r x.2
 | .mrow _ _::r,x=>oK (i+1) r x.2
 | .map _ _::r,x=>oK (i+1) r x.2
 | .ar _::r,x=>oK (i+1) r x.2
 | .arR _::r,x=>oK (i+1) r x.2
def nS (i:Nat):(ps:List PM)->dL ps->List (Nat×lJ)
 | [],_=>[]
 | .row e t::r,x=>(pid i 0,⟨false,e,t,x.1⟩)::nS (i+1) r x.2
 | .mrow e t::r,x=>(pid i 0,⟨false,e,t,x.1⟩)::nS (i+1) r x.2
 | .box l::r,x=>mC pD i 1 l x.1++nS (i+1) r x.2
 | .val _::r,x=>nS (i+1) r x.2
 | .map _ _::r,x=>nS (i+1) r x.2
 | .ar _::r,x=>nS (i+1) r x.2
 | .arR _::r,x=>nS (i+1) r x.2
def gE (i:Nat):(ps:List PM)->dL ps->List (Nat×oz)
 | [],_=>[]
 | .map k v::r,x=>(pid i 0,.map k v x.1)::gE (i+1) r x.2
 | .box l::r,x=>jB pD i 1 l x.1++gE (i+1) r x.2
 | .ar t::r,x=>(br,.ar false t x.1)::gE (i+1) r x.2
 | .arR t::r,x=>(br,.ar true t x.1)::gE (i+1) r x.2
 | .val _::r,x=>gE (i+1) r x.2
 | .row _ _::r,x=>gE (i+1) r x.2
 | .mrow _ _::r,x=>gE (i+1) r x.2
def dF:Nat->List PM->List (aT×Nat)
 | _,[]=>[]
 | i,.row _ _::r=>(.inr (pid i 0),64*i)::dF (i+1) r
 | i,.mrow _ _::r=>(.inr (pid i 0),64*i)::dF (i+1) r
 | i,.map _ _::r=>(.ob (pid i 0),64*i)::dF (i+1) r
 | i,.box l::r=>(.inl (2000+i),64*i)::(eg pD i 1 l++dF (i+1) r)
 | i,.ar _::r=>(.ob br,64*i)::dF (i+1) r
 | i,.val _::r=>dF (i+1) r
 | i,.arR _::r=>dF (i+1) r
def wG:List PM->Nat
 | []=>0
 | p::r=>(bif p.arg then 1 else 0)+wG r
def Iv (n:Nat) (ar:Option Ty) (ps:List PM) (x:dL ps):St:=
 { tmps:=jD 0 ps x++List.replicate (n - wG ps) (.v false [.any]),boxes:=oK 0 ps x,rows:=nS 0 ps x,
   objs:=match ar with | some t=>(br,.ar false t [])::gE 0 ps x | none=>gE 0 ps x }
def RE (X:Cx) (S:St):ResultVar->Option SV
 | .tmp t=>some (S.tmps.getD t (.v false [.any]))
 | .cell a T=>match S.tmps.getD a (.v false [.any]) with
  | .v false [.ref b off]=>match look S.boxes b with
   | some l=>kU X.P T l off some
   | none=>none
  | _=>none
def Ew (X:Cx) (S:St):List ResultVar->Option (List SV)
 | []=>some []
 | v::r=>match RE X S v with
  | some s=>match Ew X S r with
   | some l=>some (s::l)
   | none=>none
  | none=>none
def JY:List RM->List SV->List SV
 | .val _::r,s::q=>s::JY r q
 | _::r,_::q=>JY r q
 | _,_=>[]
def Tp:List OT->List CV->List Nat
 | .val t::r,cs=>gJ (cs.take t.size)++Tp r (cs.drop t.size)
 | .row _ _::r,_::cs=>Tp r cs
 | .map _ _::r,_::cs=>Tp r cs
 | _,_=>[]
def RC (S:St) (i:Nat):List PM->List Nat
 | []=>[]
 | .box l::r=>(match look S.boxes (2000+i) with | some cs=>Tp l cs | none=>[])++RC S (i+1) r
 | _::r=>RC S (i+1) r
def RD (S:St):List RM->List SV->List Nat
 | .box l::r,s::q=>(match gW s with | some k=>(match look S.boxes k with | some cs=>Tp l cs | none=>[]) | none=>[])++RD S r q
 | _::r,_::q=>RD S r q
 | _,_=>[]
def Bf (S:St) (p:RM) (s:SV):Option p.den:=
 match p with
 | .val t=>iI S [] t s
 | .row e t=>match qh s with | some c=>iH S e t c | none=>none
 | .map k v=>match qh s with | some c=>nc S k v c | none=>none
 | .box l=>match gW s with
  | some k=>match look S.boxes k with
   | some cs=>jC S l cs
   | none=>none
  | none=>none
def ya (S:St) (ps:List PM) (bx:Option (dK ps)):(rs:List RM)->List SV->Option (cD ps rs)
 | [],[]=>bx
 | [],_::_=>none
 | p::r,s::q=>match Bf S p s with
  | some x=>match ya S ps bx r q with
   | some y=>some (x,y)
   | none=>none
  | none=>none
 | _::_,[]=>none
def nR (S:St):Nat->(ps:List PM)->Option (dK ps)
 | _,[]=>some ()
 | i,.mrow e t::r=>match iH S e t (.row (pid i 0)),nR S (i+1) r with
  | some x,some y=>some (x,y)
  | _,_=>none
 | i,.map k v::r=>match nc S k v (.mp (pid i 0)),nR S (i+1) r with
  | some x,some y=>some (x,y)
  | _,_=>none
 | i,.box l::r=>match look S.boxes (2000+i) with
  | some cs=>match jC S l cs,nR S (i+1) r with
   | some x,some y=>some (x,y)
   | _,_=>none
  | none=>none
 | i,.ar t::r=>match tZ S false t,nR S (i+1) r with
  | some x,some y=>some (x,y)
  | _,_=>none
 | i,.val _::r=>nR S (i+1) r
 | i,.row _ _::r=>nR S (i+1) r
 | i,.arR _::r=>nR S (i+1) r
def lT (S:St) (c:Nat):List RM->List SV->List (aT×Nat)
 | .row _ _::r,s::q=>(match qh s with | some v=>mF (64*(24+c)) v | none=>[])++lT S (c+1) r q
 | .map _ _::r,s::q=>(match qh s with | some v=>mF (64*(24+c)) v | none=>[])++lT S (c+1) r q
 | .box l::r,s::q=>(match gW s with
  | some k=>(.inl k,64*(24+c))::(match look S.boxes k with | some cs=>jZ (64*(24+c)+1) l cs | none=>[])
  | none=>[])++lT S (c+1) r q
 | .val _::r,_::q=>lT S (c+1) r q
 | _,_=>[]
def jY (S:St):Nat->List PM->List (aT×Nat)
 | _,[]=>[]
 | i,.mrow _ _::r=>(.inr (pid i 0),64*i)::jY S (i+1) r
 | i,.map _ _::r=>(.ob (pid i 0),64*i)::jY S (i+1) r
 | i,.box l::r=>(.inl (2000+i),64*i)::(match look S.boxes (2000+i) with | some cs=>jZ (64*i+1) l cs | none=>[])++jY S (i+1) r
 | i,.ar _::r=>(.ob br,64*i)::jY S (i+1) r
 | i,_::r=>jY S (i+1) r
def OX:List RM->List SV->List SV
 | .val .hnd::r,s::q=>s::OX r q
 | _::r,_::q=>OX r q
 | _,_=>[]
def CJ (X:Cx) (fn:Func) (rs:List RM) (S:St):St:=
 match Ew X S fn.results.toList with
 | some l=>iQ S (OX rs l)
 | none=>S
def aaR (X:Cx) (fn:Func) (sp:an) (S:St):Option (cD sp.ps sp.rs):=
 match Ew X S fn.results.toList with
 | some l=>
  let js:=Dv (JY sp.rs l)++(RD S sp.rs l++RC S 0 sp.ps)
  let V:=aF S js
  let ow:=lT V 0 sp.rs l++jY V 0 sp.ps
  if wm ow then none else ya V sp.ps (nR V 0 sp.ps) sp.rs l
 | none=>none
def ends (X:Cx) (fn:Func) (sp:an) (S:St):Option (cD sp.ps sp.rs):=aaR X fn sp (CJ X fn sp.rs S)
def dH:List PM->Bool
 | []=>true
 | .val t::r=>t.aR&&dH r
 | .row _ t::r=>t.aR&&dH r
 | .mrow _ t::r=>t.aR&&dH r
 | .map k v::r=>k.aR&&v.aR&&dH r
 | .box l::r=>(l.all fun | .val t=>t.aR | .row _ t=>t.aR | .map k v=>k.aR&&v.aR)&&dH r
 | _=>false
def pW:List RM->Bool
 | []=>true
 | .val t::r=>t.aR&&pW r
 | .row _ t::r=>t.aR&&pW r
 | .map k v::r=>k.aR&&v.aR&&pW r
 | .box l::r=>(l.all fun | .val t=>t.aR | .row _ t=>t.aR | .map k v=>k.aR&&v.aR)&&pW r
noncomputable def Dk (X:Cx) (anns:List (Nat×Ann)) (ar:Option Ty) (fn:Func) (sp:an) (x:dL sp.ps):Option (cD sp.ps sp.rs):=
 if wm (dF 0 sp.ps)||dup ((dF 0 sp.ps).map (·.2))||(ar.isSome&& !(dH sp.ps&&pW sp.rs)) then none else
 match fn.body with
 | some c=>den X anns c (cD sp.ps sp.rs) (Iv fn.ntmps ar sp.ps x) fun e S=>match e with
  | .ret=>ends X fn sp S
  | .normal=>ends X fn sp S
  | .exit _=>none
 | none=>none
end Go.Dn
namespace Go.Dn
theorem aaY (s:ByteArray):bs s.data.toList=s:=by
 cases s;simp[bs]
theorem Ye (l:List UInt8):(bs l).data.toList=l:=by simp[bs]
theorem Jx (G:Gh) (ρ:Env) (v:Value):aQ G ρ (HJ v) v:=by
 unfold HJ
 split
 case h_3 s=>show _=_;rw[aaY]
 all_goals first | rfl | trivial | skip
 split
 ·rename_i g f c h
  simp only[adj,Array.isEmpty_iff] at h
  obtain⟨rfl,rfl⟩:=h
  rfl
 ·trivial
theorem zX {α β:Type} {R:β->α->Prop} (f:α->β) (h:∀ x,R (f x) x):∀ l:List α,aG R (l.map f) l
 | []=>rfl
 | x::l=>⟨x,l,rfl,h x,zX f h l⟩
theorem NZ (G:Gh) (ρ:Env) (v:Value):aZ G ρ (JX v) v:=by
 unfold JX
 split
 ·rename_i cs
  exact⟨cs.toList,by simp,zX HJ (Jx G ρ) cs.toList⟩
 ·exact Jx G ρ v
theorem gj.ev {G:Gh} {ρ:Env} {S:St} {a:Act} (h:gj G ρ S a) (x:Operand):aZ G ρ (S.ev x) (a.eval x):=by
 cases x with
 | tmp t=>
  simp only[St.ev,Act.eval]
  rw[aee]
  cases hs:S.tmps[t]? with
  | none=>exact trivial
  | some s=>exact h.2 t s hs
 | const v=>exact NZ G ρ v
 | global g=>exact trivial
 | func f=>rfl
theorem fW {G:Gh} (ρ:Env):∀ {t:Ty} {x:t.den} {cs:List Value},ax G t x cs->aG (aQ G ρ) (unpack t x) cs
 | .int _,_,_,h=>by cases h;exact⟨_,_,rfl,rfl,rfl⟩
 | .bool,_,_,h=>by cases h;exact⟨_,_,rfl,rfl,rfl⟩
 | .str,_,_,h=>by cases h;exact⟨_,_,rfl,rfl,rfl⟩
 | .unit,_,_,h=>h
 | .pair a b,(x,y),_,⟨c,r,e,hx,hy⟩=>by subst e;exact (fW ρ hx).append (fW ρ hy)
 | .st t,x,cs,h=>fW (t:=t) (x:=x) ρ h
 | .slice t,_,_,⟨v,e,h⟩=>by subst e;exact⟨_,_,rfl,h,rfl⟩
 | .ptr t,x,_,⟨b,off,c,T,fz,e,hb,hs,hl⟩=>by subst e;exact⟨_,_,rfl,⟨b,off,c,T,fz,rfl,hb,hs,hl⟩,rfl⟩
 | .clo _ t,x,_,⟨caps,e,h⟩=>by subst e;exact⟨_,_,rfl,⟨caps,rfl,h⟩,rfl⟩
 | .hnd,none,_,h=>by cases h;exact⟨_,_,rfl,⟨rfl,rfl⟩,rfl⟩
 | .hnd,some _,_,⟨b,hb,e⟩=>by subst e;exact⟨_,_,rfl,⟨b,hb,rfl⟩,rfl⟩
theorem yz {G:Gh} (ρ:Env) {t:Ty} {x:t.den} {v:Value} (h:bT G t x v):ku G ρ (Js t x).1 (Js t x).2 v:=by
 cases t with
 | st t=>obtain⟨vs,e,hv⟩:=h;exact⟨vs,e,fW ρ hv⟩
 | int _=>cases h;rfl
 | bool=>cases h;rfl
 | str=>cases h;rfl
 | unit=>cases h
 | slice t=>obtain⟨v',e,h⟩:=h;cases e;exact h
 | ptr t=>obtain⟨b,off,c,T,fz,e,hb,hs,hl⟩:=h;cases e;exact⟨b,off,c,T,fz,rfl,hb,hs,hl⟩
 | clo g t=>obtain⟨caps,e,h⟩:=h;cases e;exact⟨caps,rfl,h⟩
 | hnd=>
  cases x with
  | none=>cases h;exact⟨rfl,rfl⟩
  | some i=>obtain⟨b,hb,e⟩:=h;cases e;exact⟨b,hb,rfl⟩
 | pair a b=>
  have hl:=h.len
  have hu:=fW ρ h
  obtain⟨c,hc⟩:∃ c,unpack (.pair a b) x=[c]:=by
   have:=hu.len
   match hq:unpack (.pair a b) x with
   | [c]=>exact⟨c,rfl⟩
   | []=>rw[hq] at this;simp at this
   | _::_::_=>rw[hq] at this;simp at this
  show ku G ρ false (unpack (.pair a b) x) v
  rw[hc] at hu ⊢
  obtain⟨y,e,hy⟩:=hu.single
  cases e
  exact hy
theorem EK {G:Gh} (ρ:Env) {t:Ty} {x:t.den} {v:Value} (h:bT G t x v):aZ G ρ (nX t x) v:=by
 have:=yz ρ h
 cases t<;>exact this
theorem gN {a b:Ty} {l:List a.den} {l':List b.den} (h:nw l=some l'):∃ e:a=b,e ▸ l=l':=by
 unfold nw at h
 split at h
 ·rename_i e;exact⟨e,by simpa using h⟩
 ·cases h
theorem MB {a b:Ty} {x:a.den} {x':b.den} (h:Ru x=some x'):∃ e:a=b,e ▸ x=x':=by
 unfold Ru at h
 split at h
 ·rename_i e;exact⟨e,by simpa using h⟩
 ·cases h
def ir (G:Gh) (ρ:Env) (S:St):Prop:=∀ j r,look S.rows j=some r->r.fz=true->bJ G r.t.size (ax G r.t) r.l (ρ.rw j)
theorem Mem.frozen {P0:Program} {C:Fr P0} {G:Gh} {ρ:Env} {S:St} {w:World} (h:Mem C G ρ S w):ir G ρ S:=fun j r hj hf=>by
 have:=h.rows j r hj
 unfold cN at this
 rw[af9 hf] at this
 exact this
theorem qR {G:Gh} {ρ:Env} {t:Ty} {f:CV->Option t.den} (hf:∀ c x v,f c=some x->aQ G ρ c v->ax G t x [v]) {cs:List CV} {x:t.den} {r:List CV} {vs:List Value} (h:qQ f cs=some (x,r)) (hv:aG (aQ G ρ) cs vs):∃ a b,vs=a++b/\ax G t x a/\aG (aQ G ρ) r b:=by
 cases cs with
 | nil=>cases h
 | cons c q=>
  obtain⟨y,s,e,hy,hs⟩:=hv
  simp only[qQ] at h
  split at h
  ·rename_i z hz
   cases h
   subst e
   exact⟨[y],s,rfl,hf _ _ _ hz hy,hs⟩
  ·cases h
theorem Zd {G:Gh} {ρ:Env} {S:St} (hF:ir G ρ S) {t:Ty} (c:CV) (l:List t.den) (v:Value) (h:Nx S t c=some l) (hv:aQ G ρ c v):ax G (.slice t) l [v]:=by
 cases c<;>simp only[Nx] at h
 case sl t' l'=>
  obtain⟨et,el⟩:=gN h
  subst et;subst el
  exact⟨v,rfl,hv⟩
 case nils=>
  cases h
  exact⟨v,rfl,none,0,hv,afq _,afI _,.inl rfl⟩
 case row j=>
  split at h
  ·rename_i u hu
   split at h
   ·rename_i hfz
    obtain⟨et,el⟩:=gN h
    have hrow:=hF j u hu hfz
    obtain⟨ufz,ue,ut,ul⟩:=u
    dsimp only at et el hrow
    subst et
    subst el
    exact⟨v,rfl,by rw[hv.1];exact hrow⟩
   ·cases h
  ·cases h
 all_goals cases h
theorem E7 {k v k' v':Ty} {l:List (k.den×v.den)} {l':List (k'.den×v'.den)} (h:Wq l=some l'):∃ (e1:k=k') (e2:v=v'),e1 ▸ e2 ▸ l=l':=by
 unfold Wq at h
 split at h
 ·rename_i e;exact⟨e.1,e.2,by simpa using h⟩
 ·cases h
def kQ (G:Gh) (ρ:Env) (S:St) (fb:List Nat):Prop:=∀ k cs,inL fb k=true->look S.boxes k=some cs->∃ vs T fz,G (ρ.bx k)=some (.cells (List.toArray vs) T fz)/\aG (aQ G ρ) cs vs
theorem kQ.nil (G:Gh) (ρ:Env) (S:St):kQ G ρ S []:=fun k cs h=>by simp[inL] at h
theorem x9 {α:Type} {x:Option (α×List CV)} {y:α} (h:gY x=some y):x=some (y,[]):=by
 unfold gY at h
 split at h
 ·cases h;rfl
 ·cases h
theorem u9 {G:Gh} {ρ:Env} {S:St} {fb:List Nat} (hF:ir G ρ S) (hL:kQ G ρ S fb):∀ (t:Ty) (cs:List CV) (x:t.den) (r:List CV) (vs:List Value),fO S fb t cs=some (x,r)->aG (aQ G ρ) cs vs-> ∃ a b,vs=a++b/\ax G t x a/\aG (aQ G ρ) r b
 | .int k,cs,x,r,vs,h,hv=>qR (t:= .int k) (fun c x v hc hv=>by
  cases c<;>simp only[VP] at hc
  case int k' n=>
   split at hc
   ·rename_i ek;subst ek;cases hc;rw[hv];rfl
   ·cases hc
  all_goals cases hc) h hv
 | .bool,cs,x,r,vs,h,hv=>qR (t:= .bool) (fun c x v hc hv=>by
  cases c<;>simp only[Tq] at hc
  case bool b=>cases hc;rw[hv];rfl
  all_goals cases hc) h hv
 | .str,cs,x,r,vs,h,hv=>qR (t:= .str) (fun c x v hc hv=>by
  cases c<;>simp only[VQ] at hc
  case str b=>cases hc;rw[hv];rfl
  all_goals cases hc) h hv
 | .unit,cs,x,r,vs,h,hv=>by
  simp only[fO] at h;cases h;exact⟨[],vs,rfl,rfl,hv⟩
 | .pair a b,cs,x,r,vs,h,hv=>by
  simp only[fO] at h
  split at h
  ·rename_i y q h1
   split at h
   ·rename_i z q' h2
    cases h
    obtain⟨c1,c2,e1,r1,r2⟩:=u9 hF hL a cs y q vs h1 hv
    obtain⟨d1,d2,e2,s1,s2⟩:=u9 hF hL b q z r c2 h2 r2
    exact⟨c1++d1,d2,by rw[e1,e2,adT],⟨c1,d1,rfl,r1,s1⟩,s2⟩
   ·cases h
  ·cases h
 | .st t,cs,x,r,vs,h,hv=>u9 hF hL t cs x r vs h hv
 | .slice t,cs,x,r,vs,h,hv=>qR (t:= .slice t) (fun c x v hc hv=>Zd hF c x v hc hv) h hv
 | .ptr t,cs,x,r,vs,h,hv=>qR (t:= .ptr t) (fun c x v hc hv=>by
  cases c<;>simp only[Po] at hc
  case cp t' y o=>
   split at hc
   ·rename_i ho
    have:=afm ho
    subst this
    obtain⟨et,el⟩:=MB hc
    subst et;subst el
    obtain⟨b,off,c,T,fz,e,hb,hs',hl⟩:=hv
    exact⟨b,off,c,T,fz,by rw[e];rfl,hb,hs',hl⟩
   ·cases hc
  case ref k o=>
   split at hc
   ·rename_i ho
    simp only[adj] at ho
    have:=afm ho.1
    subst this
    split at hc
    ·rename_i cs hcs
     have hp:=x9 hc
     obtain⟨ws,T,fz,hg,hw⟩:=hL k cs ho.2 hcs
     obtain⟨a,b,e,h1,h2⟩:=u9 hF hL t cs x [] ws hp hw
     cases h2
     have hrep:ax G t x ws:=by simpa [e] using h1
     have hlen:=hrep.len
     refine⟨ρ.bx k,0,ws.toArray,T,fz,by rw[hv],hg,by simp;omega, ?_⟩
     have e2:(List.drop 0 ws.toArray.toList).take t.size=ws:=by simp[<- hlen]
     rw[e2];exact hrep
    ·cases hc
   ·cases hc
  all_goals cases hc) h hv
 | .clo g t,cs,x,r,vs,h,hv=>qR (t:= .clo g t) (fun c x v hc hv=>by
  cases c<;>simp only[VN] at hc
  case clo g' t' y=>
   split at hc
   ·rename_i ho
    have:=afm ho
    subst this
    obtain⟨et,el⟩:=MB hc
    subst et;subst el
    obtain⟨caps,e,hc⟩:=hv
    exact⟨caps,by rw[e],hc⟩
   ·cases hc
  case fn g' ks=>
   split at hc
   ·rename_i ho
    have:=afm ho
    subst this
    have hp:=x9 hc
    have hk:∀ l:List Nat,aG (aQ G ρ) (l.map fun k=> .ref k 0) (l.map fun k=>Value.pointer (some ⟨ρ.bx k,0,none⟩)):=fun l=>by
     induction l with
     | nil=>rfl
     | cons k l ih=>exact⟨_,_,rfl,rfl,ih⟩
    obtain⟨a,b,e,h1,h2⟩:=u9 hF hL t _ x [] _ hp (hk ks)
    cases h2
    refine⟨ks.map fun k=>Value.pointer (some ⟨ρ.bx k,0,none⟩),by rw[hv], ?_⟩
    rw[e];simpa using h1
   ·cases hc
  all_goals cases hc) h hv
 | .hnd,cs,x,r,vs,h,hv=>qR (t:= .hnd) (fun c x v hc hv=>by
  cases c<;>simp only[VO] at hc
  case hnd o k=>
   split at hc
   ·rename_i ho
    have:=afm ho
    subst this
    cases hc
    cases x with
    | none=>rw[hv.1];rfl
    | some i=>obtain⟨b,hb,e⟩:=hv;exact⟨b,hb,by rw[e]⟩
   ·cases hc
  case nilp=>cases hc;rw[hv];rfl
  all_goals cases hc) h hv
theorem VR {G:Gh} {ρ:Env} {S:St} (hF:ir G ρ S) (t:Ty) (cs:List CV) (x:t.den) (r:List CV) (vs:List Value) (h:pack S t cs=some (x,r)) (hv:aG (aQ G ρ) cs vs): ∃ a b,vs=a++b/\ax G t x a/\aG (aQ G ρ) r b:=u9 hF (kQ.nil G ρ S) t cs x r vs h hv
theorem IV {G:Gh} {ρ:Env} {S:St} {fb:List Nat} (hF:ir G ρ S) (hL:kQ G ρ S fb) {t:Ty} {cs:List CV} {x:t.den} {vs:List Value} (h:gY (fO S fb t cs)=some x) (hv:aG (aQ G ρ) cs vs):ax G t x vs:=by
 obtain⟨a,b,e,h1,h2⟩:=u9 hF hL t cs x [] vs (x9 h) hv
 cases h2
 simpa [e] using h1
theorem L9 {G:Gh} {ρ:Env} {S:St} (hF:ir G ρ S) {t:Ty} {cs:List CV} {x:t.den} {vs:List Value} (h:gY (pack S t cs)=some x) (hv:aG (aQ G ρ) cs vs):ax G t x vs:=IV hF (kQ.nil G ρ S) h hv
theorem kI {G:Gh} {ρ:Env} {S:St} {fb:List Nat} (hF:ir G ρ S) (hL:kQ G ρ S fb) {t:Ty} {s:SV} {x:t.den} {v:Value} (h:iI S fb t s=some x) (hv:aZ G ρ s v):bT G t x v:=by
 unfold iI at h
 split at h
 ·rename_i t cs
  obtain⟨vs,e,hl⟩:=hv
  exact⟨vs,e,IV hF hL h hl⟩
 ·cases h
 ·rename_i t' s' cs hne
  have hl:ax G t x [v]:=by
   match cs,hv,h with
   | [c],hv,hp=>exact IV hF hL hp ⟨v,[],rfl,hv,rfl⟩
  cases t with
  | st t=>exact absurd rfl (hne t)
  | _=>exact hl
 ·cases h
end Go.Dn
namespace Go.Dn
structure Aa {P0:Program} (C:Fr P0) (G:Gh) (ρ:Env) (S:St) (w:World) (x:Option aT):Prop where
 agr:Agr G w
 le0:C.G0.le G
 old:∀ b,b<C.n0->¬ C.B b->G b=C.G0 b
 frame:∀ b,b<C.n0->¬ C.B b->w.heap[b]? =C.w0.heap[b]?
 size:C.n0<=w.heap.size
 os:w.os=C.w0.os
 output:w.output=C.w0.output
 pin:∀ k,2000<=k->ρ.bx k=C.pin k
 pinR:∀ k,10000000<=k->ρ.rw k=C.pinR k/\ρ.ob k=C.pinR k
 owned:∀ b o,ρ.own b=some o->G b=none/\b<w.heap.size/\(C.n0<=b\/C.B b)
 boxes:∀ k cs,look S.boxes k=some cs->some (.inl k)≠x->ρ.own (ρ.bx k)=some (.inl k)/\
  ∃ vs T,w.heap[ρ.bx k]? =some (.cells (List.toArray vs) T (0,0))/\aG (aQ G ρ) cs vs
 rows:∀ j r,look S.rows j=some r->some (.inr j)≠x->cN G ρ w j r
 objs:∀ j r,look S.objs j=some r->some (.ob j)≠x->lZ G ρ w j r
 hndI:C.noAr->G.hnd=C.G0.hnd/\∀ t l,look S.objs br≠some (.ar false t l)
variable {P0:Program} {C:Fr P0} {G:Gh} {ρ:Env} {S:St} {w:World}
theorem Mem.toX (h:Mem C G ρ S w) (x:Option aT):Aa C G ρ S w x:=
 ⟨h.agr,h.le0,h.old,h.frame,h.size,h.os,h.output,h.pin,h.pinR,h.owned,fun k cs hk _=>h.boxes k cs hk,fun j r hj _=>h.rows j r hj,fun j r hj _=>h.objs j r hj,h.hndI⟩
theorem Aa.toMem {x:Option aT} (h:Aa C G ρ S w x) (hb:∀ k cs,look S.boxes k=some cs->some (.inl k)=x->ρ.own (ρ.bx k)=some (.inl k)/\∃ vs T,w.heap[ρ.bx k]? =some (.cells (List.toArray vs) T (0,0))/\aG (aQ G ρ) cs vs) (hr:∀ j r,look S.rows j=some r->some (.inr j)=x->cN G ρ w j r) (hob:∀ j r,look S.objs j=some r->some (.ob j)=x->lZ G ρ w j r):Mem C G ρ S w:=
 ⟨h.agr,h.le0,h.old,h.frame,h.size,h.os,h.output,h.pin,h.pinR,h.owned,fun k cs hk=>by
   by_cases e:some (.inl k)=x
   ·exact hb k cs hk e
   ·exact h.boxes k cs hk e,fun j r hj=>by
   by_cases e:some (.inr j)=x
   ·exact hr j r hj e
   ·exact h.rows j r hj e,fun j r hj=>by
   by_cases e:some (.ob j)=x
   ·exact hob j r hj e
   ·exact h.objs j r hj e,h.hndI⟩
theorem Aa.state {S':St} {x:Option aT} (h:Aa C G ρ S w x) (hb:∀ k cs,look S'.boxes k=some cs->some (.inl k)≠x->look S.boxes k=some cs) (hr:∀ j r,look S'.rows j=some r->some (.inr j)≠x->look S.rows j=some r) (hob:∀ j r,look S'.objs j=some r->some (.ob j)≠x->look S.objs j=some r) (hna:∀ t l,look S'.objs br=some (.ar false t l)->∃ t l,look S.objs br=some (.ar false t l)):Aa C G ρ S' w x:=
 { h with hndI:=fun hn=>⟨(h.hndI hn).1,fun t l hl=>by obtain⟨t',l',h'⟩:=hna t l hl;exact (h.hndI hn).2 t' l' h'⟩,boxes:=fun k cs hk e=>h.boxes k cs (hb k cs hk e) e,rows:=fun j r hj e=>h.rows j r (hr j r hj e) e,objs:=fun j r hj e=>h.objs j r (hob j r hj e) e }
theorem Aa.grow {w':World} {x:Option aT} {blk:Option Nat} (h:Aa C G ρ S w x) (hg:Grow ρ w w' blk) (hx:∀ b,blk=some b->∃ o,x=some o/\ρ.own b=some o):Aa C G ρ S w' x where
 agr:=fun b o hb=>by
  have hl:=h.agr b o hb
  rw[hg.block b (aB hl) (fun e=>by
   obtain⟨o',_,ho⟩:=hx b e.symm
   have:=(h.owned b o' ho).1
   rw[hb] at this;cases this)]
  exact hl
 le0:=h.le0
 old:=h.old
 frame:=fun b hb hB=>by
  rw[hg.block b (aft hb h.size) (fun e=>by
   obtain⟨o',_,ho⟩:=hx b e.symm
   rcases (h.owned b o' ho).2.2 with h1 | h1
   ·omega
   ·exact hB h1)]
  exact h.frame b hb hB
 size:=afs h.size hg.size
 os:=hg.os.trans h.os
 output:=hg.output.trans h.output
 pin:=h.pin
 pinR:=h.pinR
 owned:=fun b o ho=>⟨(h.owned b o ho).1,aft (h.owned b o ho).2.1 hg.size,(h.owned b o ho).2.2⟩
 boxes:=fun k cs hk hne=>by
  obtain⟨h1,vs,T,h2,h3⟩:=h.boxes k cs hk hne
  refine⟨h1,vs,T, ?_,h3⟩
  rw[hg.block _ (aB h2) (fun e=>by
   obtain⟨o',hx',ho⟩:=hx _ e.symm
   rw[h1] at ho
   cases ho
   exact hne hx'.symm)]
  exact h2
 rows:=fun j r hj hne=>(h.rows j r hj hne).kept hg (fun b e ho=>by
  obtain⟨o',hx',ho'⟩:=hx b e
  rw[ho] at ho'
  cases ho'
  exact hne hx'.symm)
 objs:=fun j r hj hne=>(h.objs j r hj hne).kept hg (fun b e=>by
  obtain⟨o',_,ho'⟩:=hx b e
  exact (h.owned b o' ho').1) (fun b e ho=>by
  obtain⟨o',hx',ho'⟩:=hx b e
  rw[ho] at ho'
  cases ho'
  exact hne hx'.symm)
 hndI:=h.hndI
theorem Aa.change {G':Gh} {ρ':Env} {x:Option aT} (h:Aa C G ρ S w x) (hG:G.le G') (hh:G'.hnd=G.hnd) (hagr:Agr G' w) (hold:∀ b,b<C.n0->¬ C.B b->G' b=C.G0 b) (hpin:∀ k,2000<=k->ρ'.bx k=ρ.bx k) (hpinR:∀ k,10000000<=k->ρ'.rw k=ρ.rw k/\ρ'.ob k=ρ.ob k) (hs:∀ p,p∈S.boxes->∀ c,c∈p.2->c.eY ρ ρ') (howned:∀ b o,ρ'.own b=some o->G' b=none/\b<w.heap.size/\(C.n0<=b\/C.B b)) (hbx:∀ k cs,look S.boxes k=some cs->some (.inl k)≠x->ρ'.bx k=ρ.bx k/\(ρ.own (ρ.bx k)=some (.inl k)->ρ'.own (ρ.bx k)=some (.inl k))) (hrw:∀ j r,look S.rows j=some r->some (.inr j)≠x->ρ'.rw j=ρ.rw j/\∀ b,ρ.own b=some (.inr j)->ρ'.own b=some (.inr j)) (hob:∀ j r,look S.objs j=some r->some (.ob j)≠x->ρ'.ob j=ρ.ob j/\ρ'.st j=ρ.st j/\∀ b,ρ.own b=some (.ob j)->ρ'.own b=some (.ob j)):Aa C G' ρ' S w x where
 agr:=hagr
 le0:=Gh.le_trans h.le0 hG
 old:=hold
 frame:=h.frame
 size:=h.size
 os:=h.os
 output:=h.output
 pin:=fun k hk=>(hpin k hk).trans (h.pin k hk)
 pinR:=fun k hk=>⟨(hpinR k hk).1.trans (h.pinR k hk).1,(hpinR k hk).2.trans (h.pinR k hk).2⟩
 owned:=howned
 boxes:=fun k cs hk hne=>by
  obtain⟨h1,vs,T,h2,h3⟩:=h.boxes k cs hk hne
  obtain⟨e1,e2⟩:=hbx k cs hk hne
  rw[e1]
  exact⟨e2 h1,vs,T,h2,aG.uY (fun c hc y=>aQ.congr hG (hs (k,cs) (mW hk) c hc)) h3⟩
 rows:=fun j r hj hne=>by
  obtain⟨e1,e2⟩:=hrw j r hj hne
  exact (h.rows j r hj hne).congr hG e1 e2
 objs:=fun j r hj hne=>by
  obtain⟨e1,e2,e3⟩:=hob j r hj hne
  exact (h.objs j r hj hne).congr hG hh e1 e2 e3
 hndI:=fun hn=>⟨hh.trans (h.hndI hn).1,(h.hndI hn).2⟩
theorem VM (h:Mem C G ρ S w):ρ.own w.heap.size=none:=by
 cases ho:ρ.own w.heap.size with
 | none=>rfl
 | some o=>have:=(h.owned _ o ho).2.1;omega
theorem Is (h:Mem C G ρ S w):G w.heap.size=none:=by
 cases ho:G w.heap.size with
 | none=>rfl
 | some o=>have:=aB (h.agr _ o ho);omega
theorem Grow.alloc (ρ:Env) (w:World) (o:Obj):Grow ρ w (w.alloc o) none:=
 ⟨rfl,rfl,by simp,fun b hb _=>heap_alloc_old w o b hb⟩
def Env.jz (ρ:Env) (d b:Nat):Env:=⟨fun i=>if i=d then b else ρ.bx i,ρ.rw,fun i=>if i=b then some (.inl d) else ρ.own i,ρ.ob,ρ.st⟩
theorem QM {ρ:Env} {k b:Nat} (own:Nat->Option aT) {c:CV} (hc:c.bV k=false):c.eY ρ ⟨fun i=>if i=k then b else ρ.bx i,ρ.rw,own,ρ.ob,ρ.st⟩:=
 ⟨fun i hi=>by
   show (if i=k then b else ρ.bx i)=ρ.bx i
   by_cases e:i=k
   ·subst e;rw[hc] at hi;cases hi
   ·simp[e],fun _ _=>rfl,fun _ _=>rfl,fun _ _=>rfl⟩
theorem Mod.jz {a:Act} {d:Nat} {cs:List CV} {vs:List Value} {T:TypeId} (h:Mod C G ρ S w a) (hd:d<2000) (hn:S.bV d=false) (hcs:∀ c,c∈cs->c.bV d=false) (hv:aG (aQ G ρ) cs vs): Mod C G (ρ.jz d w.heap.size) { tmps:=S.tmps.set d (.v false [.ref d 0]),boxes:=(d,cs)::S.boxes,rows:=S.rows,objs:=S.objs } (w.alloc (.cells vs.toArray T)) (a.put (some d) (.pointer (some ⟨w.heap.size,0,none⟩))):=by
 have hown:=VM h.toMem
 have hgh:=Is h.toMem
 have hsame:S.eY ρ (ρ.jz d w.heap.size):=Ro _ hn
 have hX:=((h.toMem.toX (some (.inl d))).grow (Grow.alloc ρ w (.cells vs.toArray T)) (by simp)).change (G':=G) (ρ':=ρ.jz d w.heap.size) (Gh.le_refl G) rfl
  (fun b o hb=>by rw[heap_alloc_old _ _ _ (aB (h.agr b o hb))];exact h.agr b o hb) h.old (fun k hk=>by simp[Env.jz,show ¬ k=d by omega]) (fun _ _=>⟨rfl,rfl⟩) hsame.boxes
  (fun b o ho=>by
    simp only[Env.jz] at ho
    by_cases e:b=w.heap.size
    ·subst e;exact⟨hgh,by simp,.inl h.size⟩
    ·rw[af8 e] at ho;exact⟨(h.owned b o ho).1,by have:=(h.owned b o ho).2.1;simp;omega,(h.owned b o ho).2.2⟩)
  (fun k cs' hk hne=>by
    have hkd:k≠d:=fun e=>hne (by rw[e])
    refine⟨by simp[Env.jz,hkd],fun ho=> ?_⟩
    have:ρ.bx k≠w.heap.size:=fun e=>by rw[e,hown] at ho;cases ho
    simp[Env.jz,this,ho])
  (fun j r hj _=>⟨rfl,fun b ho=>by
    have:b≠w.heap.size:=fun e=>by rw[e,hown] at ho;cases ho
    simp[Env.jz,this,ho]⟩)
  (fun j r hj _=>⟨rfl,rfl,fun b ho=>by
    have:b≠w.heap.size:=fun e=>by rw[e,hown] at ho;cases ho
    simp[Env.jz,this,ho]⟩)
 have hX':=hX.state (S':={ tmps:=S.tmps.set d (.v false [.ref d 0]),boxes:=(d,cs)::S.boxes,rows:=S.rows,objs:=S.objs })
  (fun k cs' hk hne=>by
    have hkd:d≠k:=fun e=>hne (by rw[e])
    simpa [aq,hkd] using hk) (fun j r hj _=>hj) (fun j r hj _=>hj) (fun t l h=>⟨t,l,h⟩)
 have hM:=hX'.toMem (fun k cs' hk e=>by
  cases e
  simp only[aq,aga,Option.some.injEq] at hk
  subst hk
  refine⟨by simp[Env.jz],vs,T,by simp only[Env.jz,aga];exact heap_alloc_new w _, ?_⟩
  exact aG.uY (fun c hc y=>aQ.congr (Gh.le_refl G) (QM _ (hcs c hc))) hv) (fun j r hj e=>by cases e) (fun j r hj e=>by cases e)
 exact { hM with
  tmps:=(h.tmps.congr (Gh.le_refl G) hsame).put (some d) (fun _ _=>by show _=_;simp[Env.jz])
  defers:=h.defers }
theorem DY {ρ':Env} (hb:ρ'.bx=ρ.bx) (hr:ρ'.rw=ρ.rw) (ho:ρ'.ob=ρ.ob) (hs:ρ'.st=ρ.st) (c:CV):c.eY ρ ρ':=⟨fun k _=>by rw[hb],fun k _=>by rw[hr],fun k _=>by rw[ho],fun k _=>by rw[hs]⟩
theorem ku.same {ρ':Env} (hb:ρ'.bx=ρ.bx) (hr:ρ'.rw=ρ.rw) (ho:ρ'.ob=ρ.ob) (hs:ρ'.st=ρ.st) {s:SV}:s.eY ρ ρ':=by
 cases s with
 | v a cs=>exact fun c _=>DY hb hr ho hs c
 | tup l=>exact fun p _ c _=>DY hb hr ho hs c
theorem gV {α:Type} (l:List (Nat×α)) (d i:Nat):look (l.filter fun p=> !Nat.beq p.1 d) i=if i=d then none else look l i:=by
 induction l with
 | nil=>simp[look]
 | cons p r ih=>
  obtain⟨j,y⟩:=p
  by_cases e:j=d
  ·subst e
   have:(List.filter (fun p:Nat×α=> !Nat.beq p.1 j) ((j,y)::r))=r.filter fun p=> !Nat.beq p.1 j:=by simp
   rw[this,ih,aq]
   by_cases e':i=j
   ·simp[e']
   ·have:¬ j=i:=fun h=>e' h.symm
    simp[e',this]
  ·have hb:Nat.beq j d=false:=by
    cases hb:Nat.beq j d with
    | false=>rfl
    | true=>exact absurd (afm hb) e
   have:(List.filter (fun p:Nat×α=> !Nat.beq p.1 d) ((j,y)::r))=(j,y)::r.filter fun p=> !Nat.beq p.1 d:=by simp[hb]
   rw[this,aq,aq,ih]
   by_cases e':j=i
   ·subst e';simp[e]
   ·simp[e']
def Env.putRow (ρ:Env) (d:Nat) (v:Value):Env:=⟨ρ.bx,fun i=>if i=d then v else ρ.rw i,fun b=>if v.ownBlock=some b then some (.inr d) else ρ.own b,ρ.ob,ρ.st⟩
theorem Mod.putRow {a:Act} {w':World} {blk jo:Option Nat} {d:Nat} {v:Value} {r:lJ} {R:List (Nat×lJ)} (h:Mod C G ρ S w a) (hg:Grow ρ w w' blk) (hblk:∀ b,blk=some b->∃ j,jo=some j/\ρ.own b=some (.inr j)) (hR:∀ i q,look R i=some q->look S.rows i=some q/\jo≠some i) (hd2:d<2000) (hd:S.aX d=false) (hf:r.fz=false) (xs:List Value) (hown:w'.ownsRow 0 r.e r.t.size v r.l.length xs) (hrep:bQ (ax G r.t) r.l xs) (hnew:∀ b,v.ownBlock=some b->(w.heap.size<=b/\b<w'.heap.size)\/blk=some b): Mod C G (ρ.putRow d v) { tmps:=S.tmps.set d (.v false [.row d]),boxes:=S.boxes,rows:=(d,r)::R,objs:=S.objs } w' (a.put (some d) v):=by
 have hsame:S.eY ρ (ρ.putRow d v):=GD _ hd
 have hfree:∀ b,v.ownBlock=some b->ρ.own b=none\/∃ j,jo=some j/\ρ.own b=some (.inr j):=fun b hb=>by
  rcases hnew b hb with ⟨h1,_⟩ | h1
  ·left
   cases ho:ρ.own b with
   | none=>rfl
   | some o=>have:=(h.owned b o ho).2.1;omega
  ·exact .inr (hblk b h1)
 have hghost:∀ b,v.ownBlock=some b->G b=none/\b<w'.heap.size/\(C.n0<=b\/C.B b):=fun b hb=>by
  rcases hnew b hb with ⟨h1,h2⟩ | h1
  ·refine⟨?_,h2,.inl (afs h.size h1)⟩
   cases hG:G b with
   | none=>rfl
   | some o=>have:=aB (h.agr b o hG);omega
  ·obtain⟨j,_,ho⟩:=hblk b h1
   have:=h.owned b _ ho
   exact⟨this.1,aft this.2.1 hg.size,this.2.2⟩
 have hX0:=(h.toMem.toX (jo.map .inr)).grow hg (fun b hb=>by
  obtain⟨j,e,ho⟩:=hblk b hb
  exact⟨.inr j,by rw[e];rfl,ho⟩)
 have hX1:=hX0.state (S':={ tmps:=S.tmps,boxes:=S.boxes,rows:=R.filter fun p=> !Nat.beq p.1 d,objs:=S.objs }) (fun k cs hk _=>hk) (fun j q hj _=>by
  simp only[gV] at hj
  split at hj
  ·cases hj
  ·exact (hR j q hj).1) (fun j q hj _=>hj) (fun t l h=>⟨t,l,h⟩)
 have hX2:=hX1.change (G':=G) (ρ':=ρ.putRow d v) (Gh.le_refl G) rfl hX0.agr hX0.old (fun _ _=>rfl) (fun k hk=>⟨by simp[Env.putRow,show ¬ k=d by omega],rfl⟩) hsame.boxes
  (fun b o ho=>by
    simp only[Env.putRow] at ho
    by_cases e:v.ownBlock=some b
    ·exact hghost b e
    ·rw[af8 e] at ho;exact hX0.owned b o ho)
  (fun k cs hk _=>⟨rfl,fun ho=>by
    have:v.ownBlock≠some (ρ.bx k):=fun e=>by
     rcases hfree _ e with h1 | ⟨j,_,h1⟩
     ·rw[ho] at h1;cases h1
     ·rw[ho] at h1;cases h1
    simp[Env.putRow,this,ho]⟩)
  (fun j q hj _=>by
    simp only[gV] at hj
    split at hj
    ·cases hj
    ·rename_i hjd
     obtain⟨hj1,hj2⟩:=hR j q hj
     refine⟨by simp[Env.putRow,hjd],fun b ho=> ?_⟩
     have:v.ownBlock≠some b:=fun e=>by
      rcases hfree _ e with h1 | ⟨i,e1,h1⟩
      ·rw[ho] at h1;cases h1
      ·rw[ho] at h1;cases h1;exact hj2 e1
     simp[Env.putRow,this,ho])
  (fun j q hj _=>⟨rfl,rfl,fun b ho=>by
    have:v.ownBlock≠some b:=fun e=>by
     rcases hfree _ e with h1 | ⟨i,_,h1⟩
     ·rw[ho] at h1;cases h1
     ·rw[ho] at h1;cases h1
    simp[Env.putRow,this,ho]⟩)
 refine { agr:=hX2.agr,le0:=hX2.le0,old:=hX2.old,frame:=hX2.frame,size:=hX2.size,os:=hX2.os,output:=hX2.output,pin:=hX2.pin,pinR:=hX2.pinR,owned:=hX2.owned,boxes:= ?_,rows:= ?_,objs:=fun j q hj=>hX2.objs j q hj (by cases jo<;>simp),hndI:=hX2.hndI,tmps:= ?_,defers:=h.defers }
 ·intro k cs hk
  exact hX2.boxes k cs hk (by cases jo<;>simp)
 ·intro j q hj
  simp only[aq] at hj
  split at hj
  ·rename_i e
   subst e
   cases hj
   unfold cN
   rw[af8 (by simp[hf])]
   refine⟨xs,by simpa [Env.putRow] using hown,hrep,fun b hb=> ?_⟩
   simp only[Env.putRow,aga] at hb ⊢
   rw[af9 hb]
  ·rename_i e
   have hjd:¬ j=d:=fun h=>e h.symm
   exact hX2.rows j q (by simp only[gV,af8 hjd];exact hj) (by
    have:=(hR j q hj).2
    cases jo with
    | none=>simp
    | some i=>simp only[afP,ne_eq,Option.some.injEq,aT.inr.injEq];exact fun e=>this (by rw[e]))
 ·exact (h.tmps.congr (Gh.le_refl G) hsame).put (some d) (fun _ _=>⟨by simp[Env.putRow],by
   rcases hown.2 with ⟨e,_⟩ | ⟨g,cap,cur,e,_⟩
   ·exact⟨_,_,_,e⟩
   ·exact⟨_,_,_,e⟩⟩)
theorem Mod.TG {a:Act} {w':World} {k:Nat} {cs:List CV} {vs:List Value} {T:TypeId} (h:Mod C G ρ S w a) (hk:∃ l,look S.boxes k=some l) (hg:Grow ρ w w' (some (ρ.bx k))) (hw:w'.heap[ρ.bx k]? =some (.cells vs.toArray T (0,0))) (hv:aG (aQ G ρ) cs vs):Mod C G ρ { S with boxes:=(k,cs)::S.boxes } w' a:=by
 obtain⟨l,hl⟩:=hk
 have ho:=(h.boxes k l hl).1
 have hX:=((h.toMem.toX (some (.inl k))).grow hg (fun b hb=>by cases hb;exact⟨.inl k,rfl,ho⟩)).state (S':={ S with boxes:=(k,cs)::S.boxes })
  (fun i c hi hne=>by
    have:¬ k=i:=fun e=>hne (by rw[e])
    simpa [aq,this] using hi) (fun j r hj _=>hj) (fun j r hj _=>hj) (fun t l h=>⟨t,l,h⟩)
 have hM:=hX.toMem (fun i c hi e=>by
  cases e
  simp only[aq,aga,Option.some.injEq] at hi
  subst hi
  exact⟨ho,vs,T,hw,hv⟩) (fun j r hj e=>by cases e) (fun j r hj e=>by cases e)
 exact { hM with tmps:=h.tmps,defers:=h.defers }
theorem Mod.setRow {a:Act} {w':World} {j:Nat} {q r:lJ} (h:Mod C G ρ S w a) (hj:look S.rows j=some q) (hq:q.fz=false) (hr:r.fz=false) {b:Nat} (hb:(ρ.rw j).ownBlock=some b) (hg:Grow ρ w w' (some b)) (xs:List Value) (hown:w'.ownsRow 0 r.e r.t.size (ρ.rw j) r.l.length xs) (hrep:bQ (ax G r.t) r.l xs):Mod C G ρ { S with rows:=(j,r)::S.rows } w' a:=by
 have hrow:=h.rows j q hj
 unfold cN at hrow
 rw[af8 (by simp[hq])] at hrow
 obtain⟨_,_,_,ho⟩:=hrow
 have hX:=((h.toMem.toX (some (.inr j))).grow hg (fun b' hb'=>by cases hb';exact⟨.inr j,rfl,ho b hb⟩)).state (S':={ S with rows:=(j,r)::S.rows }) (fun k cs hk _=>hk)
  (fun i c hi hne=>by
    have:¬ j=i:=fun e=>hne (by rw[e])
    simpa [aq,this] using hi) (fun j r hj _=>hj) (fun t l h=>⟨t,l,h⟩)
 have hM:=hX.toMem (fun k cs hk e=>by cases e) (fun i c hi e=>by
  cases e
  simp only[aq,aga,Option.some.injEq] at hi
  subst hi
  unfold cN
  rw[af8 (by simp[hr])]
  exact⟨xs,hown,hrep,ho⟩) (fun j r hj e=>by cases e)
 exact { hM with tmps:=h.tmps,defers:=h.defers }
structure Fz (G G':Gh) (ρ ρ':Env):Prop where
 le:G.le G'
 bx:ρ'.bx=ρ.bx
 rw:ρ'.rw=ρ.rw
 ob:ρ'.ob=ρ.ob
 st:ρ'.st=ρ.st
 hnd:G'.hnd=G.hnd
 own:∀ b o,ρ'.own b=some o->ρ.own b=some o
 new:∀ b,G' b≠G b->∃ j,ρ.own b=some (.inr j)
theorem Fz.refl (G:Gh) (ρ:Env):Fz G G ρ ρ:=⟨Gh.le_refl G,rfl,rfl,rfl,rfl,rfl,fun _ _ h=>h,fun _ h=>absurd rfl h⟩
theorem Fz.trans {G1 G2 G3:Gh} {r1 r2 r3:Env} (h:Fz G1 G2 r1 r2) (k:Fz G2 G3 r2 r3):Fz G1 G3 r1 r3:=
 ⟨Gh.le_trans h.le k.le,k.bx.trans h.bx,k.rw.trans h.rw,k.ob.trans h.ob,k.st.trans h.st,k.hnd.trans h.hnd,fun b o x=>h.own b o (k.own b o x),fun b hb=>by
   by_cases e:G3 b=G2 b
   ·exact h.new b (fun e'=>hb (e.trans e'))
   ·obtain⟨j,hj⟩:=k.new b e;exact⟨j,h.own b _ hj⟩⟩
def vD (rs:List (Nat×lJ)) (j:Nat):List (Nat×lJ):=match look rs j with | some q=>(j,{ q with fz:=true })::rs | none=>rs
theorem Mod.vD {a:Act} (h:Mod C G ρ S w a) (j:Nat):∃ G' ρ',Fz G G' ρ ρ'/\Mod C G' ρ' { S with rows:=vD S.rows j } w a:=by
 unfold Dn.vD
 cases hj:look S.rows j with
 | none=>exact⟨G,ρ,Fz.refl G ρ,{ h.toMem.JP (S':={ S with rows:=S.rows }) rfl rfl rfl with tmps:=h.tmps,defers:=h.defers }⟩
 | some q=>
  have hrow:=h.rows j q hj
  have same:bJ G q.t.size (ax G q.t) q.l (ρ.rw j)->∃ G' ρ',Fz G G' ρ ρ'/\Mod C G' ρ' { S with rows:=(j,{ q with fz:=true })::S.rows } w a:=fun hs=>by
   refine⟨G,ρ,Fz.refl G ρ,{ h with rows:= ?_,tmps:=h.tmps }⟩
   intro i r hi
   simp only[aq] at hi
   split at hi
   ·rename_i e;subst e;cases hi;unfold cN;simpa using hs
   ·exact h.rows i r hi
  by_cases hf:q.fz=true
  ·apply same
   unfold cN at hrow;rw[af9 hf] at hrow;exact hrow
  ·have hf':q.fz=false:=by simpa using hf
   unfold cN at hrow
   rw[af8 hf] at hrow
   obtain⟨xs,⟨hlen,hn | ⟨g,cap,cur,hv,_,hg,hnc,hcm,hcs,htake⟩⟩,hl,ho⟩:=hrow
   ·apply same
    have:q.l=[]:=ad8 hn.2
    exact⟨none,0,by rw[hn.1,this];rfl,by rw[this];simp,afI _,.inl this⟩
   ·have hog:=ho g (by rw[hv];rfl)
    have hgn:=h.owned g _ hog
    let G':Gh:=⟨fun b=>if b=g then w.heap[g]? else G b,G.hnd⟩
    let ρ':Env:=⟨ρ.bx,ρ.rw,fun b=>if b=g then none else ρ.own b,ρ.ob,ρ.st⟩
    have hle:G.le G':=⟨fun b o hb=>by
     show (if b=g then w.heap[g]? else G b)=some o
     by_cases e:b=g
     ·subst e;rw[hgn.1] at hb;cases hb
     ·rw[af8 e];exact hb,fun _ _ h=>h⟩
    have hfz:Fz G G' ρ ρ':=⟨hle,rfl,rfl,rfl,rfl,rfl,fun b o ho'=>by
     simp only[ρ'] at ho'
     by_cases e:b=g
     ·simp[e] at ho'
     ·simpa [e] using ho',fun b hb=>by
     by_cases e:b=g
     ·exact⟨j,by rw[e];exact hog⟩
     ·simp[G',e] at hb⟩
    have hX:=(h.toMem.toX (some (.inr j))).change (G':=G') (ρ':=ρ') hle rfl
     (fun b o hb=>by
       simp only[G'] at hb
       by_cases e:b=g
       ·subst e;simpa using hb
       ·rw[af8 e] at hb;exact h.agr b o hb)
     (fun b hb hB=>by
       have e:b≠g:=fun e=>by
        subst e
        rcases hgn.2.2 with h1 | h1
        ·omega
        ·exact hB h1
       simp only[G',af8 e];exact h.old b hb hB)
     (fun _ _=>rfl) (fun _ _=>⟨rfl,rfl⟩) (fun p _ c _=>DY (ρ:=ρ) (ρ':=ρ') rfl rfl rfl rfl c)
     (fun b o ho'=>by
       have e:b≠g:=fun e=>by simp[ρ',e] at ho'
       have:=h.owned b o (hfz.own b o ho')
       exact⟨by simp only[G',af8 e];exact this.1,this.2⟩)
     (fun k cs hk _=>⟨rfl,fun ho'=>by
       have e:ρ.bx k≠g:=fun e=>by rw[e,hog] at ho';cases ho'
       simp only[ρ',af8 e];exact ho'⟩)
     (fun i r hi hne=>⟨rfl,fun b ho'=>by
       have e:b≠g:=fun e=>by rw[e,hog] at ho';cases ho';exact hne rfl
       simp only[ρ',af8 e];exact ho'⟩)
     (fun i r hi hne=>⟨rfl,rfl,fun b ho'=>by
       have e:b≠g:=fun e=>by rw[e,hog] at ho';cases ho'
       simp only[ρ',af8 e];exact ho'⟩)
    refine⟨G',ρ',hfz, ?_⟩
    have hX':=hX.state (S':={ S with rows:=(j,{ q with fz:=true })::S.rows }) (fun k cs hk _=>hk) (fun i c hi hne=>by
     have:¬ j=i:=fun e=>hne (by rw[e])
     simpa [aq,this] using hi) (fun j r hj _=>hj) (fun t l h=>⟨t,l,h⟩)
    have hM:=hX'.toMem (fun k cs hk e=>by cases e) (fun i c hi e=>by
     cases e
     simp only[aq,aga,Option.some.injEq] at hi
     subst hi
     unfold cN
     rw[af9 rfl]
     refine⟨some ⟨g,0,none⟩,cap,hv,hnc,hcm,.inr ⟨g,0,cur,q.e,(0,0),rfl,by simp[G',hg], ?_, ?_⟩⟩
     ·simp only[afH];rw[hcs];exact afB _ hnc
     ·simp only[ad6];rw[htake];exact hl.mono (ax.mono hle q.t)) (fun j r hj e=>by cases e)
    exact { hM with tmps:=h.tmps.congr hle ⟨fun s _=>ku.same (ρ:=ρ) (ρ':=ρ') rfl rfl rfl rfl,fun p _ c _=>DY (ρ:=ρ) (ρ':=ρ') rfl rfl rfl rfl c⟩,defers:=h.defers }
theorem Gv (S:St) (js:List Nat):aF S js={ S with rows:=js.foldl vD S.rows }:=rfl
theorem Mod.freeze {a:Act}:∀ (js:List Nat) {G:Gh} {ρ:Env} {S:St},Mod C G ρ S w a->∃ G' ρ',Fz G G' ρ ρ'/\Mod C G' ρ' (aF S js) w a
 | [],G,ρ,S,h=>⟨G,ρ,Fz.refl G ρ,h⟩
 | j::js,G,ρ,S,h=>by
  obtain⟨G1,ρ1,f1,h1⟩:=h.vD j
  obtain⟨G2,ρ2,f2,h2⟩:=Mod.freeze js h1
  exact⟨G2,ρ2,f1.trans f2,h2⟩
end Go.Dn
namespace Go.Dn
theorem dX {β:Type} {b:Bool} {x:Option β} {r:β} (h:chk b x=some r):b=true/\x=some r:=by
 cases b with
 | true=>exact⟨rfl,h⟩
 | false=>cases h
theorem bind_some {α β:Type} {x:Option α} {f:α->Option β} {r:β} (h:x.bind f=some r):∃ y,x=some y/\f y=some r:=by
 cases x with
 | none=>cases h
 | some y=>exact⟨y,rfl,h⟩
variable {P:Program} {G:Gh} {ρ:Env} {w:World} {β:Type}
theorem X6 {op:BinOp} {ka kb:IntKind} {x y:Int} {k:CV->Option β} {r:β} (h:My op ka x kb y k=some r): ∃ c,k c=some r/\∀ (P:Program) (G:Gh) (ρ:Env) (w:World) (t:TypeId),∃ v,(binOp op t (.int ka x) (.int kb y)).run P w= .ok v w/\aQ G ρ c v:=by
 unfold My at h
 cases op
 case shl=>
  obtain⟨h1,h2⟩:=dX h
  exact⟨_,h2,fun P G ρ w t=>⟨_,by simp only[af1] at h1;simp[binOp,Op.shift,show ¬ y<0 by omega],rfl⟩⟩
 case shr=>
  obtain⟨h1,h2⟩:=dX h
  exact⟨_,h2,fun P G ρ w t=>⟨_,by simp only[af1] at h1;simp[binOp,Op.shift,show ¬ y<0 by omega],rfl⟩⟩
 all_goals
  simp only at h
  split at h
  ·cases h
  ·rename_i hk
   have hk':ka=kb:=by simpa using hk
   subst hk'
   first
    | cases h
    | exact⟨_,h,fun P G ρ w t=>⟨_,by simp[binOp,Op.intArith,Op.intCmp,Op.intBits],rfl⟩⟩
    | (obtain⟨h1,h2⟩:=dX h
       exact⟨_,h2,fun P G ρ w t=>⟨_,by simp only[bne_iff_ne,ne_eq] at h1;simp[binOp,Op.intDiv,h1],rfl⟩⟩)
theorem MA (l:List UInt8):(bs l).toList=l:=by rw[ByteArray.toList_eq,Ye]
theorem DV (l:List UInt8):(bs l).size=l.length:=by simp[bs,ByteArray.size]
theorem abS (a b:List UInt8):bs a++bs b=bs (a++b):=by
 apply ByteArray.ext
 apply Array.ext'
 simp[bs]
theorem X7 {op:BinOp} {x y:List UInt8} {k:CV->Option β} {r:β} (h:RZ op x y k=some r): ∃ c,k c=some r/\∀ (P:Program) (G:Gh) (ρ:Env) (w:World) (t:TypeId),∃ v,(binOp op t (.string (bs x)) (.string (bs y))).run P w= .ok v w/\aQ G ρ c v:=by
 unfold RZ at h
 cases op
 case add=>
  obtain⟨h1,h2⟩:=dX h
  refine⟨_,h2,fun P G ρ w t=>⟨_, ?_,rfl⟩⟩
  simp only[af1] at h1
  have:¬ ((((bs x).size+(bs y).size:Nat):Int)>IntKind.i64.max):=by
   simp only[maxLen] at h1
   rw[DV,DV]
   simp[IntKind.max,IntKind.signed,IntKind.bits]
   omega
  simp only[binOp,Op.stringOp,this,af7,abS]
  rfl
 all_goals first
  | cases h
  | exact⟨_,h,fun P G ρ w t=>⟨_,by simp only[binOp,Op.stringOp,MA];rfl,rfl⟩⟩
theorem KE {op:BinOp} {t:TypeId} {x y:Operand} {k:IntKind} {n:Int} {v:Value}:(eqGuard op t x y (.int k n) v).run P w= .ok () w:=by
 cases op<;>cases v<;>rfl
theorem Un {op:BinOp} {t:TypeId} {x y:Operand} {s:ByteArray} {v:Value}:(eqGuard op t x y (.string s) v).run P w= .ok () w:=by
 cases op<;>cases v<;>rfl
theorem ov {t:TypeId} {d:TypeDesc} (h:P.underlying t=some d):(isAgg t).run P w= .ok (pE P t) w:=by
 simp only[isAgg,Sem.run_bind,run_underlying h,Result.andThen_ok,pE,h]
 cases d<;>rfl
theorem run_sizeOf {t:TypeId} {i:TypeInfo} (h:P.info? t=some i):(sizeOf t).run P w= .ok (b6 P t) w:=by
 simp[sizeOf,typeInfo,h,b6]
theorem xI {b off:Nat} {c:Array Value} {T:TypeId} {fz:Nat×Nat} (hb:w.heap[b]? =some (.cells c T fz)) (n:Nat):∀ j v,((c.toList.drop off).take n)[j]? =some v->w.cell? ((⟨b,off,none⟩:Addr).add j)=some v:=by
 intro j v hj
 rw[aet] at hj
 split at hj
 ·rw[aek] at hj
  have hadd:(⟨b,off,none⟩:Addr).add j=⟨b,off+j,none⟩:=by unfold Addr.add;split<;>simp_all
  rw[hadd,cell_of_row w b _ c T fz hb]
  simpa using hj
 ·cases hj
theorem EA {t:TypeId} {d:TypeDesc} {i:TypeInfo} (hu:P.underlying t=some d) (hi:P.info? t=some i) {b off:Nat} {vs:List Value} (hl:vs.length=b6 P t) (h:∀ j v,vs[j]? =some v->w.cell? ((⟨b,off,none⟩:Addr).add j)=some v): (pE P t=true->(loadVar t ⟨b,off,none⟩).run P w= .ok (.agg vs.toArray) w)/\(pE P t=false->∀ v,vs=[v]->(loadVar t ⟨b,off,none⟩).run P w= .ok v w):=by
 constructor
 ·intro ha
  simp only[loadVar,Sem.run_bind,ov hu,Result.andThen_ok,ha,aga,run_sizeOf hi, <- hl]
  rw[run_loadCells_list w ⟨b,off,none⟩ vs h]
  rfl
 ·intro ha v hv
  subst hv
  have h0:=h 0 v rfl
  simp only[loadVar,Sem.run_bind,ov hu,Result.andThen_ok,ha]
  have:(⟨b,off,none⟩:Addr).add 0=⟨b,off,none⟩:=rfl
  rw[this] at h0
  simp[h0]
theorem aa7 {t:TypeId} {d:TypeDesc} (h:P.underlying t=some d):∃ i,P.info? t=some i:=by
 unfold Program.underlying at h
 cases hi:P.info? t with
 | none=>rw[hi] at h;cases h
 | some i=>exact⟨i,rfl⟩
theorem iG {t:TypeId} (h:okT P t=true):∃ d i,P.underlying t=some d/\P.info? t=some i:=by
 obtain⟨d,hd⟩:=afM.1 h
 obtain⟨i,hi⟩:=aa7 hd
 exact⟨d,i,hd,hi⟩
theorem Bs {l cs:List CV} {off n:Nat} (h:Jv l off n=some cs):cs=(l.drop off).take n/\cs.length=n:=by
 unfold Jv at h
 simp only at h
 split at h
 ·rename_i hb;cases h;exact⟨rfl,afm hb⟩
 ·cases h
theorem zB {T:TypeId} {l:List CV} {off:Nat} {k:SV->Option β} {r:β} (h:kU P T l off k=some r): ∃ s,k s=some r/\∀ (G:Gh) (ρ:Env) (w:World) (b base:Nat) (vs:List Value),aG (aQ G ρ) l vs->(∀ j v,vs[j]? =some v->w.cell? ((⟨b,base,none⟩:Addr).add j)=some v)-> ∃ v,(loadVar T ⟨b,base+off,none⟩).run P w= .ok v w/\aZ G ρ s v:=by
 unfold kU at h
 split at h
 ·rename_i hok
  obtain⟨d,i,hd,hi⟩:=iG hok
  split at h
  ·rename_i cs hc
   obtain⟨e,hlen⟩:=Bs hc
   have key:∀ (G:Gh) (ρ:Env) (w:World) (b base:Nat) (vs:List Value),aG (aQ G ρ) l vs->(∀ j v,vs[j]? =some v->w.cell? ((⟨b,base,none⟩:Addr).add j)=some v)->
    ∃ us:List Value,us.length=b6 P T/\aG (aQ G ρ) cs us/\∀ j v,us[j]? =some v->w.cell? ((⟨b,base+off,none⟩:Addr).add j)=some v:=by
    intro G ρ w b base vs hv hcell
    refine⟨(vs.drop off).take (b6 P T), ?_,by rw[e];exact (hv.drop off).take _, ?_⟩
    ·have:=((hv.drop off).take (b6 P T)).len
     rw[this, <- e,hlen]
    ·intro j v hj
     rw[aet] at hj
     split at hj
     ·rw[aek] at hj
      have:=hcell (off+j) v hj
      have e1:(⟨b,base,none⟩:Addr).add (off+j)=⟨b,base+off+j,none⟩:=by unfold Addr.add;split<;>simp_all [afh]
      have e2:(⟨b,base+off,none⟩:Addr).add j=⟨b,base+off+j,none⟩:=by unfold Addr.add;split<;>simp_all
      rw[e2, <- e1];exact this
     ·cases hj
   split at h
   ·rename_i ha
    refine⟨_,h,fun G ρ w b base vs hv hcell=> ?_⟩
    obtain⟨us,hl,hus,hc'⟩:=key G ρ w b base vs hv hcell
    exact⟨_,(EA hd hi hl hc').1 ha,us,rfl,hus⟩
   ·rename_i ha
    split at h
    ·rename_i c
     refine⟨_,h,fun G ρ w b base vs hv hcell=> ?_⟩
     obtain⟨us,hl,hus,hc'⟩:=key G ρ w b base vs hv hcell
     obtain⟨y,ey,hy⟩:=hus.single
     exact⟨y,(EA hd hi hl hc').2 (by simpa using ha) y ey,hy⟩
    ·cases h
  ·cases h
 ·cases h
theorem LR {α:Type} {l:List α} {i:Int} {x:α} (h:idx l i=some x):0<=i/\i<l.length/\l[i.toNat]? =some x:=by
 unfold idx at h
 split at h
 ·rename_i h0
  refine⟨h0, ?_,h⟩
  have:=(aen.1 h).1
  omega
 ·cases h
theorem run_indexAt_slice {t e:TypeId} (ht:P.underlying t=some (.slice e)) (hok:okT P e=true) {ik:IntKind} {i:Int} {b off len cap:Nat} (h0:0<=i) (h1:i<len): (Instr.indexAt t (.slice (some ⟨b,off,none⟩) len cap) (.int ik i)).run P w= .ok (.pointer (some ⟨b,off+i.toNat*b6 P e,none⟩)) w:=by
 obtain⟨d,inf,hd,hi⟩:=iG hok
 have hadd:(⟨b,off,none⟩:Addr).add (i.toNat*b6 P e)=⟨b,off+i.toNat*b6 P e,none⟩:=by unfold Addr.add;split<;>simp_all
 simp only[Instr.indexAt,asIntOf,Sem.run_bind,Sem.run_pure,Result.andThen_ok,run_underlying ht,h0,h1,and_self,aga,run_sizeOf hi,hadd]
theorem bJ.at {t:Ty} {l:List t.den} {v:Value} (h:bJ G t.size (ax G t) l v) {i:Nat} {x:t.den} (hx:l[i]? =some x): ∃ b off c T fz cap,v= .slice (some ⟨b,off,none⟩) l.length cap/\G b=some (.cells c T fz)/\off+i*t.size+t.size<=c.size/\ax G t x ((c.toList.drop (off+i*t.size)).take t.size):=by
 obtain⟨a,cap,hv,h1,h2,h3⟩:=h
 have hlt:=(aen.1 hx).1
 rcases h3 with rfl | ⟨b,off,c,T,fz,ha,hb,hs,hl⟩
 ·simp at hx
 ·refine⟨b,off,c,T,fz,cap,by rw[hv,ha],hb, ?_, ?_⟩
  ·have:i*t.size+t.size<=l.length*t.size:=by rw[<- Nat.succ_mul];exact afB _ hlt
   omega
  ·have:=hl.get (fun x cs hr=>ax.len hr) hx
   rw[ad5,aff,ad0] at this
   have e:min t.size (l.length*t.size - i*t.size)=t.size:=by
    have:i*t.size+t.size<=l.length*t.size:=by rw[<- Nat.succ_mul];exact afB _ hlt
    omega
   rw[e] at this
   exact this
end Go.Dn
namespace Go.Dn
variable {β:Type}
def gF (P:Program) (o:Oper) (S M:St) (s:SV):Prop:=
 ∀ (C:Fr P) (G:Gh) (ρ:Env) (w:World) (a:Act),Mem C G ρ M w->(∀ x,x∈o.op.operands->aZ G ρ (S.ev x) (a.eval x))->
  ∃ v,(execOp a.eval o).run P w= .ok (.value v) w/\aZ G ρ s v
theorem aV {G:Gh} {ρ:Env} {s:SV} {c:CV} {v:Value} (h:aZ G ρ s v) (e:s= .v false [c]):aQ G ρ c v:=by subst e;exact h
theorem PL {G:Gh} {ρ:Env} {n:Nat} {c c':CV} {v:Value} (h:Mn n c=some c') (hv:aQ G ρ c v):∃ b off,v= .pointer (some ⟨b,off,none⟩)/\aQ G ρ c' (.pointer (some ⟨b,off+n,none⟩)):=by
 cases c<;>simp only[Mn] at h<;>try cases h
 case ref k o=>exact⟨_,_,hv,rfl⟩
 case cp t x o=>
  obtain⟨b,off,c,T,fz,e,hb,hs,hl⟩:=hv
  exact⟨_,_,e,b,off,c,T,fz,by rw[afh],hb,hs,hl⟩
 case rp j sz i o=>
  obtain⟨b,len,cap,e1,e2⟩:=hv
  exact⟨_,_,e2,b,len,cap,e1,by rw[afh]⟩
 case hnd o k=>
  cases o with
  | none=>cases h
  | some i=>
   cases h
   obtain⟨b,hb,e⟩:=hv
   exact⟨_,_,e,b,hb,rfl⟩
theorem DX {G:Gh} {ρ:Env} {c:CV} {v:Value} (h:aQ G ρ c v) (hok:c.ok=true):v.oneCell'=true/\v.cells= #[v]:=by
 cases c
 case any=>cases hok
 case opq u=>cases hok
 case sl t l=>obtain⟨a,cap,e,_⟩:=h;subst e;exact⟨rfl,rfl⟩
 case cp t x o=>obtain⟨b,off,c,T,fz,e,_⟩:=h;subst e;exact⟨rfl,rfl⟩
 case clo g t x=>obtain⟨caps,e,_⟩:=h;subst e;exact⟨rfl,rfl⟩
 case rp j sz i o=>obtain⟨b,len,cap,_,e⟩:=h;subst e;exact⟨rfl,rfl⟩
 case row j=>obtain⟨_,a,n,c,e⟩:=h;subst e;exact⟨rfl,rfl⟩
 case mp j=>obtain⟨_,b,e⟩:=h;subst e;exact⟨rfl,rfl⟩
 case kseq g j=>obtain⟨b,T,fz,e,_⟩:=h;subst e;exact⟨rfl,rfl⟩
 case nb b=>obtain⟨c,e,_⟩:=h;subst e;exact⟨rfl,rfl⟩
 case hnd o k=>
  cases o with
  | none=>obtain⟨e,_⟩:=h;subst e;exact⟨rfl,rfl⟩
  | some i=>obtain⟨b,_,e⟩:=h;subst e;exact⟨rfl,rfl⟩
 all_goals (have e:v=_:=h;subst e;exact⟨rfl,rfl⟩)
section
variable {X:Cx} {o:Oper} {S M:St} {k:SV->Option β} {r:β}
theorem VS {P:Program} {T:TypeId} {l:List CV} {off:Nat} {s:SV} (h:kU P T l off some=some s): ∀ (G:Gh) (ρ:Env) (w:World) (vs:List Value),aG (aQ G ρ) l vs->∃ v,(part T vs.toArray off).run P w= .ok v w/\aZ G ρ s v:=by
 unfold kU at h
 split at h
 ·rename_i hok
  obtain⟨d,i,hd,hi⟩:=iG hok
  split at h
  ·rename_i cs' hc
   obtain⟨e,hlen⟩:=Bs hc
   split at h
   ·rename_i ha
    cases h
    intro G ρ w vs hl
    refine⟨.agg ((vs.drop off).take (b6 P T)).toArray, ?_,_,rfl,by rw[e];exact (hl.drop _).take _⟩
    simp only[Sem.run_bind,Result.andThen_ok,Sem.run_pure,part,ov hd,ha,aga,run_sizeOf hi]
    congr 2
    simp
   ·rename_i ha
    split at h
    ·rename_i c
     cases h
     intro G ρ w vs hl
     have hsub:=(hl.drop off).take (b6 P T)
     rw[<- e] at hsub
     obtain⟨y,ey,hy⟩:=hsub.single
     have hy0:vs[off]? =some y:=by
      have:((vs.drop off).take (b6 P T))[0]? =some y:=by rw[ey];rfl
      rw[aet] at this
      split at this
      ·simpa using this
      ·cases this
     refine⟨y, ?_,hy⟩
     simp[part,ov hd,ha,hy0]
    ·cases h
  ·cases h
 ·cases h
theorem Vr {P:Program} {g:TypeId->SV->SV->Option Bool} {d:Nat} (hg:∀ t x y r,g t x y=some r->∀ (G:Gh) (ρ:Env) (w:World) vx vy,aZ G ρ x vx->aZ G ρ y vy->(Op.equalIn d t vx vy).run P w= .ok r w) {xs ys:List CV}: ∀ {fs:List Field} {r:Bool},Ic P g xs ys fs=some r->∀ (G:Gh) (ρ:Env) (w:World) vs us,aG (aQ G ρ) xs vs->aG (aQ G ρ) ys us->(Op.eqFields d vs.toArray us.toArray fs).run P w= .ok r w
 | [],r,h,G,ρ,w,vs,us,hv,hu=>by simp only[Ic,Option.some.injEq] at h;subst h;rfl
 | f::fs,r,h,G,ρ,w,vs,us,hv,hu=>by
  simp only[Ic] at h
  split at h
  ·cases h
  ·rename_i hn
   split at h
   ·rename_i a b ha hb
    split at h
    ·rename_i r1 hr1
     split at h
     ·rename_i q hq
      cases h
      obtain⟨x,hx1,hx2⟩:=VS ha G ρ w vs hv
      obtain⟨y,hy1,hy2⟩:=VS hb G ρ w us hu
      have h1:=hg _ _ _ _ hr1 G ρ w x y hx2 hy2
      have h2:=Vr hg hq G ρ w vs us hv hu
      simp only[Op.eqFields,af9 hn,Sem.run_bind,hx1,hy1,h1,Result.andThen_ok,Sem.run_ite,Sem.run_pure,h2]
      cases r1<;>simp
     ·cases h
    ·cases h
   ·cases h
theorem Ft {G:Gh} {ρ:Env} {c:CV} {v:Value} (h:c.Rz=true) (hv:aQ G ρ c v):∃ a,v= .pointer (some a):=by
 cases c<;>simp only[CV.Rz] at h<;>try cases h
 case ref k o=>exact⟨_,hv⟩
 case cp t x o=>obtain⟨b,off,c,T,fz,e,_⟩:=hv;exact⟨_,e⟩
 case rp j sz i o=>obtain⟨b,len,cap,_,e⟩:=hv;exact⟨_,e⟩
theorem OH {P:Program}:∀ {d:Nat} {t:TypeId} {x y:SV} {r:Bool},tc P d t x y=some r->∀ (d':Nat),d<=d'->∀ (G:Gh) (ρ:Env) (w:World) vx vy,aZ G ρ x vx->aZ G ρ y vy->(Op.equalIn d' t vx vy).run P w= .ok r w
 | 0,t,x,y,r,h=>by simp[tc] at h
 | d+1,t,x,y,r,h=>by
  intro d' hd' G ρ w vx vy hx hy
  obtain⟨e,rfl⟩:∃ e,d'=e+1:=⟨d' - 1,by omega⟩
  simp only[tc] at h
  split at h
  ·rename_i k0 ht
   split at h
   ·rename_i k a k' b
    split at h
    ·rename_i hk
     cases h
     subst hk
     have e1:vx= .int k a:=hx
     have e2:vy= .int k b:=hy
     subst e1;subst e2
     exact run_equalIn_int w e t k k0 a b ht
    ·cases h
   ·cases h
  ·rename_i ht
   split at h
   ·rename_i a b
    cases h
    have e1:vx= .bool a:=hx
    have e2:vy= .bool b:=hy
    subst e1;subst e2
    exact run_equalIn_bool w e t a b ht
   ·cases h
  ·rename_i ht
   split at h
   ·rename_i a b
    cases h
    have e1:vx= .string (bs a):=hx
    have e2:vy= .string (bs b):=hy
    subst e1;subst e2
    have:=run_equalIn_string w e t (bs a) (bs b) ht
    rw[MA,MA] at this
    exact this
   ·cases h
  ·rename_i el ht
   split at h
   ·cases h
    have e1:vx= .pointer none:=hx
    have e2:vy= .pointer none:=hy
    subst e1;subst e2
    simp[Op.equalIn,run_underlying ht]
   ·rename_i o k
    cases h
    have e1:vx= .pointer none:=hx
    subst e1
    cases o with
    | none=>obtain⟨e2,_⟩:=hy;subst e2;simp[Op.equalIn,run_underlying ht]
    | some i=>obtain⟨b,_,e2⟩:=hy;subst e2;simp[Op.equalIn,run_underlying ht]
   ·rename_i o k
    cases h
    have e1:vy= .pointer none:=hy
    subst e1
    cases o with
    | none=>obtain⟨e2,_⟩:=hx;subst e2;simp[Op.equalIn,run_underlying ht]
    | some i=>obtain⟨b,_,e2⟩:=hx;subst e2;simp[Op.equalIn,run_underlying ht]
   ·rename_i c _ _
    split at h
    ·rename_i hp
     cases h
     have e1:vx= .pointer none:=hx
     obtain⟨a,e2⟩:=Ft hp (show aQ G ρ c vy from hy)
     subst e1;subst e2
     simp[Op.equalIn,run_underlying ht]
    ·cases h
   ·rename_i c _ _
    split at h
    ·rename_i hp
     cases h
     have e2:vy= .pointer none:=hy
     obtain⟨a,e1⟩:=Ft hp (show aQ G ρ c vx from hx)
     subst e1;subst e2
     simp[Op.equalIn,run_underlying ht]
    ·cases h
   ·cases h
  ·rename_i fs ht
   split at h
   ·rename_i xs ys
    split at h
    ·cases h
    ·rename_i hst
     obtain⟨vs,e1,hvs⟩:=hx
     obtain⟨us,e2,hus⟩:=hy
     subst e1;subst e2
     have hf:P.fieldsOf t=fs:=by simp[Program.fieldsOf,ht]
     rw[run_equalIn_struct w e t vs.toArray us.toArray (by rw[hf];exact ht) (by simpa using hst),hf]
     exact Vr (fun t x y r hr G ρ w vx vy hvx hvy=>OH hr e (by omega) G ρ w vx vy hvx hvy) h G ρ w vs us hvs hus
   ·cases h
  ·cases h
theorem KF {P:Program} {op:BinOp} {t:TypeId} {x y:Operand} {vx vy:Value} {w:World} (h:P.eqGuardType P.depth t=false) (hx:vx≠ .nilIface):(eqGuard op t x y vx vy).run P w= .ok () w:=by
 unfold eqGuard
 cases op<;>first
  | rfl
  | (cases vx<;>cases vy<;>first | rfl | exact absurd rfl hx | simp[run_program,h])
def acw (t:TypeId) (vx vy:Value):Prop:=vx≠ .nilIface/\binOp .eql t vx vy=(do pure (.bool (<- Op.equal t vx vy)))/\binOp .neq t vx vy=(do pure (.bool (!(<- Op.equal t vx vy))))
theorem WC {P:Program} {d:Nat} {t:TypeId} {x y:SV} {q:Bool} (hq:tc P (d+1) t x y=some q): (∃ ka a kb b,x= .v false [.int ka a]/\y= .v false [.int kb b])\/(∃ a b,x= .v false [.str a]/\y= .v false [.str b])\/ ∀ (G:Gh) (ρ:Env) (vx vy:Value),aZ G ρ x vx->aZ G ρ y vy->acw t vx vy:=by
 simp only[tc] at hq
 split at hq
 ·split at hq
  ·exact .inl ⟨_,_,_,_,rfl,rfl⟩
  ·cases hq
 ·split at hq
  ·rename_i a b
   refine .inr (.inr fun G ρ vx vy hvx hvy=> ?_)
   have e1:vx= .bool a:=hvx
   have e2:vy= .bool b:=hvy
   subst e1;subst e2
   exact⟨by simp,rfl,rfl⟩
  ·cases hq
 ·split at hq
  ·exact .inr (.inl ⟨_,_,rfl,rfl⟩)
  ·cases hq
 ·refine .inr (.inr fun G ρ vx vy hvx hvy=> ?_)
  have hp:(∃ p,vx= .pointer p)/\∃ p,vy= .pointer p:=by
   split at hq
   ·exact⟨⟨_,hvx⟩,⟨_,hvy⟩⟩
   ·rename_i o k
    refine⟨⟨_,hvx⟩, ?_⟩
    cases o with
    | none=>exact⟨_,hvy.1⟩
    | some i=>obtain⟨b,_,e⟩:=hvy;exact⟨_,e⟩
   ·rename_i o k
    refine⟨?_,⟨_,hvy⟩⟩
    cases o with
    | none=>exact⟨_,hvx.1⟩
    | some i=>obtain⟨b,_,e⟩:=hvx;exact⟨_,e⟩
   ·rename_i c _ _
    split at hq
    ·rename_i hp
     obtain⟨a,e⟩:=Ft hp (show aQ G ρ c vy from hvy)
     exact⟨⟨_,hvx⟩,⟨_,e⟩⟩
    ·cases hq
   ·rename_i c _ _
    split at hq
    ·rename_i hp
     obtain⟨a,e⟩:=Ft hp (show aQ G ρ c vx from hvx)
     exact⟨⟨_,e⟩,⟨_,hvy⟩⟩
    ·cases hq
   ·cases hq
  obtain⟨⟨p,rfl⟩,⟨q',rfl⟩⟩:=hp
  exact⟨by simp,rfl,rfl⟩
 ·split at hq
  ·refine .inr (.inr fun G ρ vx vy hvx hvy=> ?_)
   obtain⟨vs,e1,hvs⟩:=hvx
   obtain⟨us,e2,hus⟩:=hvy
   subst e1;subst e2
   exact⟨by simp,rfl,rfl⟩
  ·cases hq
 ·cases hq
theorem ab6 {op:BinOp} {t u:TypeId} {x y:Operand} (ho:o.op= .binOp op t x y u) (hi:∀ ka a kb b,S.ev x= .v false [.int ka a]->S.ev y= .v false [.int kb b]->False) (hs:∀ a b,S.ev x= .v false [.str a]->S.ev y= .v false [.str b]->False) (h:aaa X.P op t (S.ev x) (S.ev y) k=some r):∃ s,k s=some r/\gF X.P o S M s:=by
 unfold aaa at h
 split at h
 ·cases h
 ·rename_i hgd
  have hgd':X.P.eqGuardType X.P.depth t=false:=by simpa using hgd
  have key:∀ q,tc X.P 9 t (S.ev x) (S.ev y)=some q->∀ (G:Gh) (ρ:Env) (w:World) (vx vy:Value),aZ G ρ (S.ev x) vx->aZ G ρ (S.ev y) vy->
   (eqGuard op t x y vx vy).run X.P w= .ok () w/\(binOp .eql t vx vy).run X.P w= .ok (.bool q) w/\(binOp .neq t vx vy).run X.P w= .ok (.bool !q) w:=by
   intro q hq G ρ w vx vy hvx hvy
   have heq':(Op.equal t vx vy).run X.P w= .ok q w:=OH hq Op.maxDepth (by decide) G ρ w vx vy hvx hvy
   rcases WC hq with ⟨ka,a,kb,b,e1,e2⟩ | ⟨a,b,e1,e2⟩ | hB
   ·exact (hi _ _ _ _ e1 e2).elim
   ·exact (hs _ _ e1 e2).elim
   ·obtain⟨h1,h2,h3⟩:=hB G ρ vx vy hvx hvy
    refine⟨KF hgd' h1, ?_, ?_⟩
    ·rw[h2];simp[heq']
    ·rw[h3];simp[heq']
  clear hi hs
  split at h
  ·split at h
   ·rename_i q hq
    refine⟨_,h,fun C G ρ w a hM hop=>⟨.bool q, ?_,rfl⟩⟩
    obtain⟨h1,h2,_⟩:=key q hq G ρ w _ _ (hop x (by simp[ho,Op.operands])) (hop y (by simp[ho,Op.operands]))
    simp only[execOp,ho,Sem.run_bind,h1,Result.andThen_ok,h2,Sem.run_pure]
   ·split at h
    ·rename_i e b ht hb
     refine⟨_,h,fun C G ρ w a hM hop=> ?_⟩
     have hvx:=hop x (by simp[ho,Op.operands])
     have hvy:=hop y (by simp[ho,Op.operands])
     generalize S.ev x=sx at hb hvx
     generalize S.ev y=sy at hb hvy
     unfold aaS at hb
     split at hb
     ·rename_i ty l
      cases hb
      obtain⟨p,cap,e1,_,_,hl⟩:=(hvx:bJ G _ _ l _)
      have e2:a.eval y= .slice none 0 0:=hvy
      refine⟨.bool p.isNone, ?_,p.isNone,rfl,fun he=> ?_⟩
      ·have h1:(eqGuard .eql t x y (a.eval x) (a.eval y)).run X.P w= .ok () w:=KF hgd' (by rw[e1];simp)
       have h2:(binOp .eql t (a.eval x) (a.eval y)).run X.P w= .ok (.bool p.isNone) w:=by
        rw[e1,e2]
        have h3:(Op.equal t (.slice p l.length cap) (.slice none 0 0)).run X.P w= .ok p.isNone w:=by
         unfold Op.equal
         obtain⟨dd,hd⟩:∃ dd,Op.maxDepth=dd+1:=⟨9999,rfl⟩
         rw[hd]
         cases p<;>simp[Op.equalIn,run_underlying ht]
        have h4:binOp .eql t (.slice p l.length cap) (.slice none 0 0)=(do pure (.bool (<- Op.equal t (.slice p l.length cap) (.slice none 0 0)))):=rfl
        rw[h4];simp[h3]
       simp only[execOp,ho,Sem.run_bind,h1,Result.andThen_ok,h2,Sem.run_pure]
      ·rcases hl with hl | ⟨_,_,_,_,_,e3,_⟩
       ·subst hl;cases he
       ·rw[e3];rfl
     ·cases hb
    ·cases h
  ·split at h
   ·rename_i q hq
    refine⟨_,h,fun C G ρ w a hM hop=>⟨.bool !q, ?_,rfl⟩⟩
    obtain⟨h1,_,h2⟩:=key q hq G ρ w _ _ (hop x (by simp[ho,Op.operands])) (hop y (by simp[ho,Op.operands]))
    simp only[execOp,ho,Sem.run_bind,h1,Result.andThen_ok,h2,Sem.run_pure]
   ·cases h
  ·cases h
theorem abq {op:BinOp} {t u:TypeId} {x y:Operand} (ho:o.op= .binOp op t x y u) (h:cZ X o S M k=some r):∃ s,k s=some r/\gF X.P o S M s:=by
 unfold cZ at h
 rw[ho] at h
 simp only[Wj] at h
 split at h
 ·rename_i ka n kb m hx hy
  obtain⟨c,hk,hc⟩:=X6 h
  refine⟨_,hk,fun C G ρ w a hM hop=> ?_⟩
  have h1:=aV (hop x (by simp[ho,Op.operands])) hx
  have h2:=aV (hop y (by simp[ho,Op.operands])) hy
  obtain⟨v,hr,hv⟩:=hc X.P G ρ w t
  refine⟨v, ?_,hv⟩
  simp only[execOp,ho,Sem.run_bind,show a.eval x= .int ka n from h1,show a.eval y= .int kb m from h2,KE,Result.andThen_ok,hr,Sem.run_pure]
 ·rename_i n m hx hy
  obtain⟨c,hk,hc⟩:=X7 h
  refine⟨_,hk,fun C G ρ w a hM hop=> ?_⟩
  have h1:=aV (hop x (by simp[ho,Op.operands])) hx
  have h2:=aV (hop y (by simp[ho,Op.operands])) hy
  obtain⟨v,hr,hv⟩:=hc X.P G ρ w t
  refine⟨v, ?_,hv⟩
  simp only[execOp,ho,Sem.run_bind,show a.eval x= .string (bs n) from h1,show a.eval y= .string (bs m) from h2,Un,Result.andThen_ok,hr,Sem.run_pure]
 ·rename_i hni hns
  exact ab6 ho hni hns h
theorem ab9 {op:UnOp} {t:TypeId} {x:Operand} (ho:o.op= .unOp op t x) (h:cZ X o S M k=some r):∃ s,k s=some r/\gF X.P o S M s:=by
 unfold cZ at h
 rw[ho] at h
 simp only at h
 split at h
 ·rename_i b hx
  refine⟨_,h,fun C G ρ w a hM hop=> ?_⟩
  have h1:=aV (hop x (by simp[ho,Op.operands])) hx
  exact⟨.bool !b,by simp only[execOp,ho,show a.eval x= .bool b from h1,Op.unary];rfl,rfl⟩
 ·rename_i ik n hx
  refine⟨_,h,fun C G ρ w a hM hop=> ?_⟩
  have h1:=aV (hop x (by simp[ho,Op.operands])) hx
  exact⟨_,by simp only[execOp,ho,show a.eval x= .int ik n from h1,Op.unary,Op.intArith];rfl,rfl⟩
 ·cases h
theorem Qu {G:Gh}:∀ {l:List Int} {vs:List Value},bQ (ax G (.int .u8)) l vs->vs=l.map (Value.int .u8)
 | [],vs,h=>h
 | x::r,vs,h=>by
  obtain⟨a,b,e,h1,h2⟩:=h
  have h1:a=[.int .u8 x]:=h1
  rw[e,h1,Qu h2]
  rfl
theorem fold_push:∀ (ns:List Int) (s:ByteArray),ns.foldl (fun r n=>r.push (UInt8.ofNat n.toNat)) s=⟨(s.data.toList++ns.map fun n=>UInt8.ofNat n.toNat).toArray⟩
 | [],s=>by simp
 | n::r,s=>by
  rw[aed,fold_push r]
  simp[ByteArray.push]
theorem T8 {P:Program} (w:World) {t u e e':TypeId} (hd:P.underlying t=some (.slice e)) (he:P.underlying e=some (.int .u8)) (hu:P.underlying u=some .string) (v:Value) (ql:List Int) {xs:List Value} (hown:w.ownsRow 0 e' 1 v ql.length xs) (hxs:xs=ql.map (Value.int .u8)):(convert t u v).run P w= .ok (.string (bs (ql.map fun n=>UInt8.ofNat n.toNat))) w:=by
 obtain⟨hlen,hv⟩:=hown
 rcases hv with ⟨hv,h0⟩ | ⟨g,cap,cur,hv,_,hheap,hle,qJ,hsz,htake⟩
 ·have:ql=[]:=List.length_eq_zero_iff.1 h0
  subst this
  rw[hv,run_convert_bytes_string w t u e none 0 0 hd he hu]
  rfl
 ·have hcell:∀ i v,(ql.map (Value.int .u8))[i]? =some v->w.cell? ((⟨g,0,none⟩:Addr).add i)=some v:=fun i v hi=>by
   rw[<- hxs, <- htake] at hi
   have hlt:i<ql.length*1:=by
    have:=(aen.1 hi).1
    rw[aeH] at this
    exact aft this (Nat.min_le_left _ _)
   rw[aeu hlt] at hi
   have hi:cur[i]? =some v:=by simpa using hi
   by_cases h0:i=0
   ·subst h0;simp[World.cell?,Addr.add,hheap,hi]
   ·simp[World.cell?,Addr.add,h0,hheap,hi]
  have h:=run_loadCells_list (P:=P) (w:=w) ⟨g,0,none⟩ (ql.map (Value.int .u8)) hcell
  rw[aeB] at h
  rw[hv,run_convert_bytes_string w t u e _ _ _ hd he hu,run_bytesToString w _ _ _ ql h,fold_push]
  rfl
theorem Zf {t u:TypeId} {x:Operand} (ho:o.op= .convert t u x) (h:cZ X o S M k=some r):∃ s,k s=some r/\gF X.P o S M s:=by
 unfold cZ at h
 rw[ho] at h
 simp only at h
 split at h
 ·rename_i d ik ik' n hd hu hx
  refine⟨_,h,fun C G ρ w a hM hop=> ?_⟩
  have h1:=aV (hop x (by simp[ho,Op.operands])) hx
  refine⟨.int ik (ik.wrap n), ?_,rfl⟩
  simp only[execOp,ho,show a.eval x= .int ik' n from h1,convert,Sem.run_bind,run_underlying hd,run_underlying hu,Result.andThen_ok,Conv.intToInt,Sem.run_pure]
 ·rename_i d s hd hu hx
  refine⟨_,h,fun C G ρ w a hM hop=> ?_⟩
  have h1:=aV (hop x (by simp[ho,Op.operands])) hx
  refine⟨.string (bs s), ?_,rfl⟩
  simp only[execOp,ho,show a.eval x= .string (bs s) from h1,convert,Sem.run_bind,run_underlying hd,run_underlying hu,Result.andThen_ok,Sem.run_pure]
 ·rename_i d ik n hd hu hx
  obtain⟨hc,h⟩:=dX h
  simp only[adj,af1] at hc
  refine⟨_,h,fun C G ρ w a hM hop=> ?_⟩
  have h1:=aV (hop x (by simp[ho,Op.operands])) hx
  have he:Utf8.encode n=bs [UInt8.ofNat n.toNat]:=by
   have hv:Utf8.valid n=true:=by
    unfold Utf8.valid
    rw[adx,adj,af1,af1]
    exact .inl ⟨hc.1,by omega⟩
   unfold Utf8.encode
   rw[hv]
   simp only[aga]
   rw[af9 (show n.toNat<128 by omega)]
   rfl
  refine⟨.string (bs [UInt8.ofNat n.toNat]), ?_,rfl⟩
  simp only[execOp,ho,show a.eval x= .int ik n from h1,convert,Sem.run_bind,run_underlying hd,run_underlying hu,Result.andThen_ok,Conv.intToString,Sem.run_pure,he]
 ·rename_i d e j hd hu hx
  split at h
  ·rename_i q he hq
   split at h
   ·cases h
   ·rename_i hfz
    cases hc:nw (b:= .int .u8) q.l with
    | none=>rw[hc] at h;cases h
    | some l=>
     rw[hc] at h
     simp only at h
     refine⟨_,h,fun C G ρ w a hM hop=> ?_⟩
     have h1:a.eval x=ρ.rw j:=by
      exact (aV (hop x (by simp[ho,Op.operands])) hx).1
     have hr:=hM.rows j q hq
     obtain⟨fz,e',t',ql⟩:=q
     obtain⟨et,hl⟩:=gN hc
     simp only at et hl hfz
     subst et
     subst hl
     unfold cN at hr
     simp only at hr
     rw[af8 hfz] at hr
     obtain⟨xs,⟨hlen,hv⟩,hrep,_⟩:=hr
     have hxs:=Qu hrep
     have hrun:(convert t u (a.eval x)).run X.P w= .ok (.string (bs (ql.map fun n=>UInt8.ofNat n.toNat))) w:=by
      rw[h1]
      exact T8 w hd he hu _ ql ⟨hlen,hv⟩ hxs
     exact⟨_,by simp only[execOp,ho,Sem.run_bind,hrun,Result.andThen_ok,Sem.run_pure],rfl⟩
  ·cases h
 ·cases h
theorem Zh {x:Operand} (ho:o.op= .move x\/o.op= .assign x) (h:cZ X o S M k=some r):∃ s,k s=some r/\gF X.P o S M s:=by
 unfold cZ at h
 rcases ho with ho | ho<;>rw[ho] at h<;>simp only at h
 all_goals exact⟨_,h,fun C G ρ w a hM hop=>⟨a.eval x,by simp only[execOp,ho,Sem.run_pure],hop x (by simp[ho,Op.operands])⟩⟩
theorem ab8 {c x y:Operand} (ho:o.op= .pick c x y) (h:cZ X o S M k=some r):∃ s,k s=some r/\gF X.P o S M s:=by
 unfold cZ at h
 rw[ho] at h
 simp only at h
 split at h
 ·rename_i t hc
  cases t with
  | true=>
   refine⟨_,h,fun C G ρ w a hM hop=>⟨a.eval x, ?_,hop x (by simp[ho,Op.operands])⟩⟩
   have h1:=aV (hop c (by simp[ho,Op.operands])) hc
   simp only[execOp,ho,show a.eval c= .bool true from h1,asBool,Sem.run_bind,Sem.run_pure,Result.andThen_ok,aga]
  | false=>
   refine⟨_,h,fun C G ρ w a hM hop=>⟨a.eval y, ?_,hop y (by simp[ho,Op.operands])⟩⟩
   have h1:=aV (hop c (by simp[ho,Op.operands])) hc
   simp[execOp,ho,show a.eval c= .bool false from h1,asBool]
 ·cases h
theorem Xr {x:Operand} (ho:o.op= .nilCheck x) (h:cZ X o S M k=some r):∃ s,k s=some r/\gF X.P o S M s:=by
 unfold cZ at h
 rw[ho] at h
 simp only at h
 split at h
 ·rename_i i j hx
  refine⟨_,h,fun C G ρ w a hM hop=> ?_⟩
  have h1:=aV (hop x (by simp[ho,Op.operands])) hx
  exact⟨_,by simp only[execOp,ho,show a.eval x=_ from h1];rfl,rfl⟩
 ·rename_i t y j hx
  refine⟨_,h,fun C G ρ w a hM hop=> ?_⟩
  have h1:=aV (hop x (by simp[ho,Op.operands])) hx
  obtain⟨b,off,c,T,fz,e,rest⟩:=h1
  exact⟨_,by simp only[execOp,ho,e];rfl,b,off,c,T,fz,rfl,rest⟩
 ·rename_i i sz j l hx
  refine⟨_,h,fun C G ρ w a hM hop=> ?_⟩
  have h1:=aV (hop x (by simp[ho,Op.operands])) hx
  obtain⟨b,len,cap,e1,e2⟩:=h1
  exact⟨_,by simp only[execOp,ho,e2];rfl,b,len,cap,e1,rfl⟩
 ·rename_i g t y hx
  refine⟨_,h,fun C G ρ w a hM hop=> ?_⟩
  have h1:=aV (hop x (by simp[ho,Op.operands])) hx
  obtain⟨caps,e,hc⟩:=h1
  exact⟨_,by simp only[execOp,ho,e];rfl,caps,rfl,hc⟩
 ·rename_i g ks hx
  refine⟨_,h,fun C G ρ w a hM hop=> ?_⟩
  have h1:=aV (hop x (by simp[ho,Op.operands])) hx
  exact⟨_,by simp only[execOp,ho,show a.eval x=_ from h1];rfl,rfl⟩
 ·rename_i oh j hx
  obtain⟨i,hi,h⟩:=bind_some h
  subst hi
  refine⟨_,h,fun C G ρ w a hM hop=> ?_⟩
  have h1:=aV (hop x (by simp[ho,Op.operands])) hx
  obtain⟨b,hb,e⟩:=h1
  exact⟨_,by simp only[execOp,ho,e];rfl,b,hb,rfl⟩
 ·cases h
theorem US {t:TypeId} {x:Operand} {f:Nat} (ho:o.op= .fieldAddr t x f) (h:cZ X o S M k=some r):∃ s,k s=some r/\gF X.P o S M s:=by
 unfold cZ at h
 rw[ho] at h
 simp only at h
 split at h
 ·rename_i fs c ht hx
  split at h
  ·rename_i fd hf
   split at h
   ·rename_i hok
    simp only[adj,adt] at hok
    obtain⟨d,i,hd,hi⟩:=iG hok.1
    split at h
    ·rename_i c' hc
     refine⟨_,h,fun C G ρ w a hM hop=> ?_⟩
     have h1:=aV (hop x (by simp[ho,Op.operands])) hx
     obtain⟨b,off,e,hc'⟩:=PL hc h1
     have hadd:(⟨b,off,none⟩:Addr).add fd.offset=⟨b,off+fd.offset,none⟩:=by unfold Addr.add;split<;>simp_all
     have hz:b6 X.P fd.type≠0:=fun e0=>by rw[e0] at hok;simp at hok
     refine⟨_, ?_,hc'⟩
     simp only[execOp,ho,e,Instr.fieldAt,Sem.run_bind,run_underlying ht,Result.andThen_ok,hf,Instr.sureAddr,Sem.run_pure,fieldPlace,run_sizeOf hi,hz,af7,hadd]
    ·cases h
   ·cases h
  ·cases h
 ·cases h
theorem ab7 {t:TypeId} {x:Operand} (ho:o.op= .load t x) (h:cZ X o S M k=some r):∃ s,k s=some r/\gF X.P o S M s:=by
 unfold cZ at h
 rw[ho] at h
 simp only at h
 split at h
 ·rename_i bk off hx
  split at h
  ·rename_i l hl
   obtain⟨s,hs,hld⟩:=zB h
   refine⟨s,hs,fun C G ρ w a hM hop=> ?_⟩
   have h1:=aV (hop x (by simp[ho,Op.operands])) hx
   obtain⟨_,vs,T,hw,hv⟩:=hM.boxes bk l hl
   obtain⟨v,hr,hsv⟩:=hld G ρ w (ρ.bx bk) 0 vs hv (fun j v hj=>by
    have hadd:(⟨ρ.bx bk,0,none⟩:Addr).add j=⟨ρ.bx bk,j,none⟩:=by unfold Addr.add;split<;>simp_all
    rw[hadd,cell_of_row w _ j _ T (0,0) hw];simpa using hj)
   refine⟨v, ?_,hsv⟩
   simp only[afH] at hr
   simp only[execOp,ho,show a.eval x=_ from h1,Instr.loadAt,Instr.sureAddr,Sem.run_bind,Sem.run_pure,Result.andThen_ok,hr]
  ·cases h
 ·rename_i ty y off hx
  obtain⟨s,hs,hld⟩:=zB h
  refine⟨s,hs,fun C G ρ w a hM hop=> ?_⟩
  have h1:=aV (hop x (by simp[ho,Op.operands])) hx
  obtain⟨b,base,c,T,fz,e,hb,hsz,hl⟩:=h1
  obtain⟨v,hr,hsv⟩:=hld G ρ w b base _ (fW ρ hl) (xI (hM.agr b _ hb) _)
  refine⟨v, ?_,hsv⟩
  simp only[execOp,ho,e,Instr.loadAt,Instr.sureAddr,Sem.run_bind,Sem.run_pure,Result.andThen_ok,hr]
 ·rename_i j sz i off hx
  split at h
  ·rename_i q hq
   obtain⟨y,hy,h⟩:=bind_some h
   split at h
   ·rename_i hcond
    simp only[adj,adt] at hcond
    obtain⟨s,hs,hld⟩:=zB h
    refine⟨s,hs,fun C G ρ w a hM hop=> ?_⟩
    have h1:=aV (hop x (by simp[ho,Op.operands])) hx
    obtain⟨b,len,cap,e1,e2⟩:=h1
    have hrow:=hM.rows j q hq
    unfold cN at hrow
    rw[af8 (by simp[hcond.1])] at hrow
    obtain⟨xs,⟨hlen,hn | ⟨g,cap',cur,hv,_,hg,hnc,hcm,hcs,htake⟩⟩,hl,hown⟩:=hrow
    ·have:q.l=[]:=ad8 hn.2
     rw[this] at hy;simp at hy
    ·rw[e1] at hv
     cases hv
     have hyr:=hl.get (fun x cs hr=>ax.len hr) hy
     have hsz:=afm hcond.2
     obtain⟨v,hr,hsv⟩:=hld G ρ w b (i*sz) _ (fW ρ hyr) (fun n u hu=>by
      rw[aet] at hu
      split at hu
      ·rw[aek, <- htake,aet] at hu
       split at hu
       ·have hadd:(⟨b,i*sz,none⟩:Addr).add n=⟨b,i*sz+n,none⟩:=by unfold Addr.add;split<;>simp_all
        rw[hadd,cell_of_row w _ _ _ _ _ hg,hsz];simpa using hu
       ·cases hu
      ·cases hu)
     refine⟨v, ?_,hsv⟩
     simp only[execOp,ho,e2,Instr.loadAt,Instr.sureAddr,Sem.run_bind,Sem.run_pure,Result.andThen_ok,hr]
   ·cases h
  ·cases h
 ·rename_i i off hx
  split at h
  ·rename_i fz ty l hl
   obtain⟨y,hy,h⟩:=bind_some h
   obtain⟨s,hs,hld⟩:=zB h
   refine⟨s,hs,fun C G ρ w a hM hop=> ?_⟩
   have h1:=aV (hop x (by simp[ho,Op.operands])) hx
   obtain⟨b,hb,e⟩:=h1
   obtain⟨b',vs,T,hb',_,_,hw,hrep⟩:=(hM.objs br _ hl).2.2.2 i y hy
   rw[hb] at hb'
   cases hb'
   obtain⟨v,hr,hsv⟩:=hld G ρ w b 0 vs (fW ρ hrep) (fun j v hj=>by
    have hadd:(⟨b,0,none⟩:Addr).add j=⟨b,j,none⟩:=by unfold Addr.add;split<;>simp_all
    rw[hadd,cell_of_row w _ j _ T (0,0) hw];simpa using hj)
   refine⟨v, ?_,hsv⟩
   simp only[afH] at hr
   simp only[execOp,ho,e,Instr.loadAt,Instr.sureAddr,Sem.run_bind,Sem.run_pure,Result.andThen_ok,hr]
  ·cases h
 ·cases h
theorem Ng {ik:IntKind}:∀ {cs:List CV} {l:List Int} {i:Nat} {m:Int},Ix ik cs=some l->l[i]? =some m->cs[i]? =some (.int ik m)
 | [],l,i,m,h,hg=>by simp only[Ix,Option.some.injEq] at h;subst h;simp at hg
 | c::cs,l,i,m,h,hg=>by
  cases c<;>simp only[Ix] at h<;>try cases h
  split at h
  ·rename_i k n hk
   subst hk
   split at h
   ·rename_i l' hl'
    cases h
    cases i with
    | zero=>simp at hg;subst hg;rfl
    | succ i=>simp at hg ⊢;exact Ng hl' hg
   ·cases h
  ·cases h
theorem UT {t:TypeId} {x ix:Operand} (ho:o.op= .indexAddr t x ix) (h:cZ X o S M k=some r):∃ s,k s=some r/\gF X.P o S M s:=by
 unfold cZ at h
 rw[ho] at h
 simp only at h
 split at h
 ·rename_i e ty l ik i ht hx hix
  split at h
  ·rename_i hok
   simp only[adj] at hok
   obtain⟨y,hy,h⟩:=bind_some h
   obtain⟨h0,h1,hget⟩:=LR hy
   refine⟨_,h,fun C G ρ w a hM hop=> ?_⟩
   have hv1:=aV (hop x (by simp[ho,Op.operands])) hx
   have hv2:=aV (hop ix (by simp[ho,Op.operands])) hix
   obtain⟨b,off,c,T,fz,cap,ev,hb,hs,hrep⟩:=bJ.at hv1 hget
   have hsz:=afm hok.2
   refine⟨_, ?_,b,off+i.toNat*ty.size,c,T,fz,rfl,hb,hs,hrep⟩
   simp only[execOp,ho,ev,show a.eval ix= .int ik i from hv2,Sem.run_bind,run_indexAt_slice ht hok.1 h0 h1,Result.andThen_ok,Sem.run_pure,hsz,afj]
  ·cases h
 ·rename_i e j ik i ht hx hix
  split at h
  ·rename_i q hq
   split at h
   ·rename_i hok
    simp only[adj] at hok
    have hsz:=afm hok.2
    split at h
    ·rename_i hfz
     obtain⟨y,hy,h⟩:=bind_some h
     obtain⟨h0,h1,hget⟩:=LR hy
     refine⟨_,h,fun C G ρ w a hM hop=> ?_⟩
     have hv1:=aV (hop x (by simp[ho,Op.operands])) hx
     have hv2:=aV (hop ix (by simp[ho,Op.operands])) hix
     have hrow:=hM.frozen j q hq hfz
     obtain⟨b,off,c,T,fz,cap,ev,hb,hs,hrep⟩:=bJ.at hrow hget
     refine⟨_, ?_,b,off+i.toNat*q.t.size,c,T,fz,rfl,hb,hs,hrep⟩
     simp only[execOp,ho,show a.eval x=ρ.rw j from hv1.1,ev,show a.eval ix= .int ik i from hv2,Sem.run_bind,run_indexAt_slice ht hok.1 h0 h1,Result.andThen_ok,Sem.run_pure,hsz,afj]
    ·rename_i hfz
     obtain⟨hc,h⟩:=dX h
     simp only[adj,af1] at hc
     refine⟨_,h,fun C G ρ w a hM hop=> ?_⟩
     have hv1:=aV (hop x (by simp[ho,Op.operands])) hx
     have hv2:=aV (hop ix (by simp[ho,Op.operands])) hix
     have hrow:=hM.rows j q hq
     unfold cN at hrow
     rw[af8 hfz] at hrow
     obtain⟨xs,⟨hlen,hn | ⟨g,cap',cur,hv,_,hg,_⟩⟩,hl,hown⟩:=hrow
     ·omega
     ·refine⟨_, ?_,g,q.l.length,cap',hv,rfl⟩
      simp only[execOp,ho,show a.eval x=ρ.rw j from hv1.1,hv,show a.eval ix= .int ik i from hv2,Sem.run_bind,run_indexAt_slice ht hok.1 hc.1 hc.2,Result.andThen_ok,Sem.run_pure,hsz,afH,afj]
   ·cases h
  ·cases h
 ·rename_i n e c ik i ht hx hix
  split at h
  ·rename_i hok
   obtain⟨m,rfl,hlt,h⟩:=Nz h
   rw[afH] at hlt
   split at h
   ·rename_i c' hc
    refine⟨_,h,fun C G ρ w a hM hop=> ?_⟩
    have h1:=aV (hop x (by simp[ho,Op.operands])) hx
    have hv2:=aV (hop ix (by simp[ho,Op.operands])) hix
    obtain⟨b,off,e1,hc'⟩:=PL hc h1
    obtain⟨d,j,hd,hj⟩:=iG hok
    have hadd:(⟨b,off,none⟩:Addr).add (m*b6 X.P e)=⟨b,off+m*b6 X.P e,none⟩:=by unfold Addr.add;split<;>simp_all
    refine⟨_, ?_,hc'⟩
    have h0:(0:Int)<=(m:Int)/\(m:Int)<(n:Int):=⟨Int.natCast_nonneg m,Int.ofNat_lt.2 hlt⟩
    simp only[execOp,ho,e1,show a.eval ix= .int ik (m:Int) from hv2,Instr.indexAt,asIntOf,Instr.sureAddr,Sem.run_bind,Sem.run_pure,run_underlying ht,Result.andThen_ok,af9 h0,run_sizeOf hj,show ((m:Int)).toNat=m from rfl,hadd]
   ·cases h
  ·cases h
 ·cases h
theorem abu {t:TypeId} {x ix:Operand} (ho:o.op= .index t x ix) (h:cZ X o S M k=some r):∃ s,k s=some r/\gF X.P o S M s:=by
 unfold cZ at h
 rw[ho] at h
 simp only at h
 split at h
 ·rename_i s ik i ht hx hix
  obtain⟨b,hb,h⟩:=bind_some h
  refine⟨_,h,fun C G ρ w a hM hop=> ?_⟩
  have hv1:=aV (hop x (by simp[ho,Op.operands])) hx
  have hv2:=aV (hop ix (by simp[ho,Op.operands])) hix
  unfold iS at hb
  split at hb
  ·rename_i h0
   refine⟨.int .u8 b.toNat, ?_,rfl⟩
   have hb':(bs s)[i.toNat]? =some b:=by
    obtain⟨hlt,he⟩:=aen.1 hb
    rw[getElem?_pos (bs s) i.toNat (by rw[DV];exact hlt)]
    simp only[bs,Option.some.injEq]
    rw[<- he];rfl
   simp only[execOp,ho,show a.eval x= .string (bs s) from hv1,show a.eval ix= .int ik i from hv2,Instr.index,asIntOf,Sem.run_bind,Sem.run_pure,Result.andThen_ok,run_underlying ht,h0,aga,hb']
  ·cases hb
 ·rename_i n e cs ik i ht hx hix
  split at h
  ·rename_i ek he
   split at h
   ·rename_i l hl
    split at h
    ·rename_i hc
     simp only[adj,adt] at hc
     obtain⟨⟨⟨c1,c2⟩,c3⟩,c4⟩:=hc
     obtain⟨d,j,hd,hj⟩:=iG c1
     have hsz:=afm c2
     have hln:=afm c4
     obtain⟨m,hm,h⟩:=bind_some h
     obtain⟨h0,h1,hget⟩:=LR hm
     refine⟨_,h,fun C G ρ w a hM hop=> ?_⟩
     have hv:=hop x (by simp[ho,Op.operands])
     rw[hx] at hv
     obtain⟨vs,ev,hall⟩:=hv
     have hv2:=aV (hop ix (by simp[ho,Op.operands])) hix
     have hcell:=Ng hl hget
     obtain⟨v,hv3,hv4⟩:=hall.get hcell
     refine⟨v, ?_,hv4⟩
     have hb:0<=i/\i<(n:Int):=⟨h0,by rw[<- hln];exact h1⟩
     simp only[execOp,ho,ev,show a.eval ix= .int ik i from hv2,Instr.index,asIntOf,Sem.run_bind,Sem.run_pure,Result.andThen_ok,run_underlying ht,af9 hb,run_sizeOf hj,hsz,afC,part,ov hd,c3,ado,af7]
     simp[hv3]
    ·cases h
   ·cases h
  ·cases h
 ·cases h
theorem Zg {x:Operand} {i:Nat} (ho:o.op= .extract x i) (h:cZ X o S M k=some r):∃ s,k s=some r/\gF X.P o S M s:=by
 unfold cZ at h
 rw[ho] at h
 simp only at h
 split at h
 ·rename_i l hx
  split at h
  ·rename_i p hp
   refine⟨_,h,fun C G ρ w a hM hop=> ?_⟩
   have hv1:=hop x (by simp[ho,Op.operands])
   rw[hx] at hv1
   obtain⟨vs,e,hl⟩:=hv1
   obtain⟨v,hv,hsv⟩:=hl.get hp
   refine⟨v, ?_,hsv⟩
   simp[execOp,ho,e,Instr.extract,hv]
  ·cases h
 ·cases h
end
end Go.Dn
namespace Go.Dn
variable {P:Program} {G:Gh} {w:World}
theorem Yd (a b:List UInt8):(bs a==bs b)=(a==b):=by
 have h:(bs a==bs b)=((bs a).data==(bs b).data):=rfl
 rw[h]
 simp[bs]
theorem zz {t:TypeId} {k:Ty} (h:gm P t k=true) (hn:∀ s,k≠ .st s):bP P t k=true:=by
 cases k with
 | st s=>exact absurd rfl (hn s)
 | _=>exact h
theorem DG {t:TypeId} {k:Ty} (h:bP P t k=true) (d:Nat) (a b:k.den):∃ c1 c2,unpack k a=[c1]/\unpack k b=[c2]/\tc P (d+1) t (.v false [c1]) (.v false [c2])=some (k.beq a b)/\nX k a= .v false [c1]/\nX k b= .v false [c2]:=by
 cases k with
 | int kk=>
  simp only[bP] at h
  split at h
  ·rename_i hu
   exact⟨_,_,rfl,rfl,by simp[tc,hu,Ty.beq,WK],rfl,rfl⟩
  ·cases h
 | bool=>
  simp only[bP] at h
  split at h
  ·rename_i hu
   exact⟨_,_,rfl,rfl,by simp[tc,hu,Ty.beq,Wi],rfl,rfl⟩
  ·cases h
 | str=>
  simp only[bP] at h
  split at h
  ·rename_i hu
   exact⟨_,_,rfl,rfl,by simp[tc,hu,Ty.beq,acq],rfl,rfl⟩
  ·cases h
 | _=>simp[bP] at h
theorem ud {t:TypeId} {k:Ty} (h:bP P t k=true):okT P t=true/\pE P t=false/\k.size=1:=by
 cases k with
 | int kk=>
  simp only[bP] at h
  split at h
  ·rename_i hu;exact⟨by simp[okT,hu],by simp[pE,hu],rfl⟩
  ·cases h
 | bool=>
  simp only[bP] at h
  split at h
  ·rename_i hu;exact⟨by simp[okT,hu],by simp[pE,hu],rfl⟩
  ·cases h
 | str=>
  simp only[bP] at h
  split at h
  ·rename_i hu;exact⟨by simp[okT,hu],by simp[pE,hu],rfl⟩
  ·cases h
 | _=>simp[bP] at h
theorem FA {T:TypeId} (hok:okT P T=true) (hag:pE P T=false) (hsz:b6 P T=1) {l:List CV} {n:Nat} {c:CV} {r:List CV} (h:l.drop n=c::r):kU P T l n some=some (.v false [c]):=by
 have:(l.drop n).take 1=[c]:=by rw[h];rfl
 simp[kU,hok,Jv,hsz,this,hag]
theorem P7 {l:List CV} {n:Nat} {c:CV} {r:List CV} (h:l.drop n=c::r):l.drop (n+1)=r:=by
 have:l.drop (n+1)=(l.drop n).drop 1:=by rw[ad0]
 rw[this,h];rfl
theorem P8 {d:Nat} {xs ys:List CV}:∀ {fs:List Field} {n:Nat} {t:Ty} {a b:t.den},cq P fs n t=true->xs.drop n=unpack t a->ys.drop n=unpack t b->Ic P (tc P (d+1)) xs ys fs=some (t.beq a b)
 | [],n,t,a,b,h,_,_=>by simp[cq] at h
 | [f],n,t,a,b,h,hx,hy=>by
  simp only[cq,adj,af1] at h
  obtain⟨⟨⟨h1,h2⟩,h3⟩,h4⟩:=h
  have e2:=afm h2
  have e3:=afm h3
  obtain⟨k1,k2,k3⟩:=ud h4
  obtain⟨c1,c2,u1,u2,he,_,_⟩:=DG h4 d a b
  simp only[Ic,af8 h1,e2]
  rw[FA k1 k2 e3 (hx.trans u1),FA k1 k2 e3 (hy.trans u2)]
  simp only[he,adm]
 | f::g::r,n,t,a,b,h,hx,hy=>by
  cases t with
  | pair s t=>
   simp only[cq,adj,af1] at h
   obtain⟨⟨⟨⟨h1,h2⟩,h3⟩,h4⟩,h5⟩:=h
   have e2:=afm h2
   have e3:=afm h3
   obtain⟨k1,k2,k3⟩:=ud h4
   obtain⟨c1,c2,u1,u2,he,_,_⟩:=DG h4 d a.1 b.1
   simp only[unpack,u1,u2,ae8] at hx hy
   have ih:=P8 (d:=d) h5 (P7 hx) (P7 hy)
   rw[Ic,af8 h1,e2]
   rw[FA k1 k2 e3 hx,FA k1 k2 e3 hy]
   simp only[he,ih,Ty.beq]
  | _=>simp[cq] at h
theorem aai {t:TypeId} {k:Ty} (h:gm P t k=true) (a b:k.den):tc P 9 t (nX k a) (nX k b)=some (k.beq a b):=by
 cases k with
 | st s=>
  simp only[gm] at h
  split at h
  ·rename_i fs hu
   simp only[adj,adt] at h
   simp only[nX,tc,hu,h.1,ado,af7]
   exact P8 (t:=s) (a:=a) (b:=b) (d:=7) (n:=0) h.2 (by simp) (by simp)
  ·cases h
 | _=>
  obtain⟨c1,c2,u1,u2,he,e1,e2⟩:=DG (P:=P) (t:=t) (zz h (by intro s e;cases e)) 8 a b
  rw[e1,e2]
  exact he
theorem Qf {t:TypeId} {k:Ty} (h:gm P t k=true) {a b:k.den} {va vb:Value} (ha:bT G k a va) (hb:bT G k b vb) (w:World):(Op.equal t va vb).run P w= .ok (k.beq a b) w:=by
 let ρ:Env:=⟨fun _=>0,fun _=> .nilFunc,fun _=>none,fun _=> .nilFunc,fun _ _=>0⟩
 exact OH (aai h a b) Op.maxDepth (by decide) G ρ w va vb (EK ρ ha) (EK ρ hb)
theorem YF {t:TypeId} {k:Ty} (h:gm P t k=true) {a b:k.den} (e:k.beq a b=true):a=b:=by
 have sc:∀ {t:TypeId} {k:Ty},bP P t k=true->∀ {a b:k.den},k.beq a b=true->a=b:=by
  intro t k h a b e
  cases k with
  | int kk=>exact eq_of_beq (α:=Int) (a:=a) (b:=b) e
  | bool=>exact eq_of_beq (α:=Bool) (a:=a) (b:=b) e
  | str=>exact eq_of_beq (α:=List UInt8) (a:=a) (b:=b) e
  | _=>simp[bP] at h
 have fc:∀ (fs:List Field) (n:Nat) (t:Ty) (a b:t.den),cq P fs n t=true->t.beq a b=true->a=b:=by
  intro fs
  induction fs with
  | nil=>intro n t a b h;simp[cq] at h
  | cons f r ih=>
   intro n t a b h e
   cases r with
   | nil=>
    simp only[cq,adj] at h
    exact sc h.2 e
   | cons g r=>
    cases t with
    | pair s t=>
     simp only[cq,adj] at h
     simp only[Ty.beq,adj] at e
     exact Prod.ext (sc h.1.2 (a:=a.1) (b:=b.1) e.1) (ih (n+1) t a.2 b.2 h.2 e.2)
    | _=>simp[cq] at h
 cases k with
 | st s=>
  simp only[gm] at h
  split at h
  ·rename_i fs hu
   simp only[adj] at h
   exact fc fs.toList 0 s a b h.2 e
  ·cases h
 | _=>exact sc (t:=t) (a:=a) (b:=b) (zz h (by intro s e;cases e)) e
theorem Vc {t:TypeId} {k:Ty} (h:gm P t k=true) {a:k.den} {va vb:Value} (ha:bT G k a va) (hb:bT G k a vb):va=vb:=by
 have sc:∀ {t:TypeId} {k:Ty},bP P t k=true->∀ {a:k.den} {u v:List Value},ax G k a u->ax G k a v->u=v:=by
  intro t k h a u v hu hv
  cases k with
  | int kk=>exact hu.trans hv.symm
  | bool=>exact hu.trans hv.symm
  | str=>exact hu.trans hv.symm
  | _=>simp[bP] at h
 have fc:∀ (fs:List Field) (n:Nat) (t:Ty) (a:t.den) (u v:List Value),cq P fs n t=true->ax G t a u->ax G t a v->u=v:=by
  intro fs
  induction fs with
  | nil=>intro n t a u v h;simp[cq] at h
  | cons f r ih=>
   intro n t a u v h hu hv
   cases r with
   | nil=>
    simp only[cq,adj] at h
    exact sc h.2 hu hv
   | cons g r=>
    cases t with
    | pair s t=>
     simp only[cq,adj] at h
     obtain⟨c1,r1,e1,p1,q1⟩:=hu
     obtain⟨c2,r2,e2,p2,q2⟩:=hv
     rw[e1,e2,sc h.1.2 p1 p2,ih (n+1) t a.2 r1 r2 h.2 q1 q2]
    | _=>simp[cq] at h
 cases k with
 | st s=>
  simp only[gm] at h
  split at h
  ·rename_i fs hu
   simp only[adj] at h
   obtain⟨us,e1,h1⟩:=ha
   obtain⟨vs,e2,h2⟩:=hb
   rw[e1,e2,fc fs.toList 0 s a us vs h.2 h1 h2]
  ·cases h
 | _=>
  have:=sc (t:=t) (a:=a) (zz h (by intro s e;cases e)) ha hb
  simpa using this
theorem sameBits_self {t:TypeId} {k:Ty} (h:gm P t k=true) {a:k.den} {v:Value} (hv:bT G k a v):Instr.sameBits 10000 v v=true:=by
 have sc:∀ {t:TypeId} {k:Ty},bP P t k=true->∀ {a:k.den} {cs:List Value},ax G k a cs->∀ n u,u∈cs->Instr.sameBits n u u=true:=by
  intro t k h a cs hc n u hu
  cases k with
  | int kk=>
   have e:cs=[_]:=hc
   rw[e] at hu
   rcases aeY.1 hu with rfl
   exact (fun x:Int=>by cases n<;>simp[Instr.sameBits]:∀ x:Int,Instr.sameBits n (.int kk x) (.int kk x)=true) a
  | bool=>
   have e:cs=[_]:=hc
   rw[e] at hu
   rcases aeY.1 hu with rfl
   exact (fun x:Bool=>by cases n<;>simp[Instr.sameBits]:∀ x:Bool,Instr.sameBits n (.bool x) (.bool x)=true) a
  | str=>
   have e:cs=[_]:=hc
   rw[e] at hu
   rcases aeY.1 hu with rfl
   exact (fun x:List UInt8=>by cases n<;>simp[Instr.sameBits,Yd]:∀ x:List UInt8,Instr.sameBits n (.string (bs x)) (.string (bs x))=true) a
  | _=>simp[bP] at h
 have fc:∀ (fs:List Field) (n:Nat) (t:Ty) (a:t.den) (cs:List Value),cq P fs n t=true->ax G t a cs->∀ m u,u∈cs->Instr.sameBits m u u=true:=by
  intro fs
  induction fs with
  | nil=>intro n t a cs h;simp[cq] at h
  | cons f r ih=>
   intro n t a cs h hc m u hu
   cases r with
   | nil=>
    simp only[cq,adj] at h
    exact sc h.2 hc m u hu
   | cons g r=>
    cases t with
    | pair s t=>
     simp only[cq,adj] at h
     obtain⟨c1,r1,e1,p1,q1⟩:=hc
     rw[e1,aeN] at hu
     rcases hu with hu | hu
     ·exact sc h.1.2 p1 m u hu
     ·exact ih (n+1) t a.2 r1 h.2 q1 m u hu
    | _=>simp[cq] at h
 cases k with
 | st s=>
  simp only[gm] at h
  split at h
  ·rename_i fs hu
   simp only[adj] at h
   obtain⟨us,e1,h1⟩:=hv
   rw[e1]
   have key:=fc fs.toList 0 s a us h.2 h1
   have:∀ (l:List Value),(∀ u,u∈l->Instr.sameBits 9999 u u=true)->((l.zip l).all fun p=>Instr.sameBits 9999 p.1 p.2)=true:=by
    intro l hl
    induction l with
    | nil=>rfl
    | cons x l ih=>simp only[List.zip_cons_cons,adP,adj];exact⟨hl x (by simp),ih fun u hu=>hl u (by simp[hu])⟩
   show Instr.sameBits (9999+1) _ _=true
   simp only[Instr.sameBits,afU,ady]
   exact this us fun u hu=>key 9999 u hu
  ·cases h
 | _=>exact sc (t:=t) (a:=a) (zz h (by intro s e;cases e)) hv 10000 v (by simp)
inductive AL {k v:Ty} (a:k.den) (l:List (k.den×v.den)) (es:List MapEntry):Option (Nat×Value)->Prop
 | no (h:∀ p,p∈l->k.beq a p.1=false):AL a l es none
 | yes (i:Nat) (p:k.den×v.den) (e:MapEntry) (hp:l[i]? =some p) (he:es[i]? =some e) (hb:k.beq a p.1=true) (hn:∀ j q,j<i->l[j]? =some q->k.beq a q.1=false):AL a l es (some (i,e.val))
theorem Gt {t:TypeId} {k v:Ty} (h:gm P t k=true) {a:k.den} {va:Value} (ha:bT G k a va):∀ {l:List (k.den×v.den)} {es:List MapEntry} (n:Nat),aG (vU G k v) l es-> ∃ r,(Instr.findAsking t va es n).run P w= .ok (r.map fun p:Nat×Value=>(n+p.1,p.2)) w/\AL a l es r
 | [],es,n,he=>by cases he;exact⟨none,rfl,.no (by simp)⟩
 | p::l,_,n,⟨e,es,ee,hp,hl⟩=>by
  subst ee
  obtain⟨r,hr,hf⟩:=Gt h ha (n+1) hl
  cases hb:k.beq a p.1 with
  | true=>
   refine⟨some (0,e.val), ?_,.yes 0 p e rfl rfl hb (fun j q hj=>by omega)⟩
   simp[Instr.findAsking,Qf h ha hp.1 w,hb]
  | false=>
   refine⟨r.map fun q=>(q.1+1,q.2), ?_, ?_⟩
   ·simp only[Instr.findAsking,Sem.run_bind,Qf h ha hp.1 w,hb,Result.andThen_ok,ado,af7,hr,afO]
    congr 1
    cases r<;>simp;omega
   ·cases hf with
    | no hn=>
     refine .no fun q hq=> ?_
     rcases aeO.1 hq with rfl | hq
     ·exact hb
     ·exact hn q hq
    | yes i q e' h1 h2 h3 h4=>
     refine .yes (i+1) q e' (by simpa using h1) (by simpa using h2) h3 (fun j q' hj hq=> ?_)
     cases j with
     | zero=>simp only[aej,Option.some.injEq] at hq;subst hq;exact hb
     | succ j=>exact h4 j q' (by omega) (by simpa using hq)
theorem M8 {t:TypeId} {k v:Ty} (h:bP P t k=true) {dsc:TypeDesc} (hd:P.underlying t=some dsc) {a:k.den} {va:Value} (ha:bT G k a va):∀ {l:List (k.den×v.den)} {es:List MapEntry} (n:Nat),aG (vU G k v) l es-> ∃ r,Instr.findNow dsc va es n=some (r.map fun p:Nat×Value=>(n+p.1,p.2))/\AL a l es r
 | [],es,n,he=>by cases he;exact⟨none,rfl,.no (by simp)⟩
 | p::l,_,n,⟨e,es,ee,hp,hl⟩=>by
  subst ee
  obtain⟨r,hr,hf⟩:=M8 h hd ha (n+1) hl
  have hs:Instr.sameNow dsc va e.key=some (k.beq a p.1):=by
   obtain⟨p1,p2⟩:=p
   have hp1:=hp.1
   dsimp only at hp1 ⊢
   cases k with
   | int kk=>
    have e1:va= .int kk a:=by simpa [bT,ax] using ha
    have e2:e.key= .int kk p1:=by simpa [bT,ax] using hp1
    simp only[bP,hd] at h
    cases dsc<;>simp at h
    rw[e1,e2];exact (fun x y:Int=>by simp[Instr.sameNow,WK]:∀ x y:Int,Instr.sameNow (.int _) (.int kk x) (.int kk y)=some (WK x y)) a p1
   | bool=>
    have e1:va= .bool a:=by simpa [bT,ax] using ha
    have e2:e.key= .bool p1:=by simpa [bT,ax] using hp1
    simp only[bP,hd] at h
    cases dsc<;>simp at h
    rw[e1,e2];exact (fun x y:Bool=>by simp[Instr.sameNow,Wi]:∀ x y:Bool,Instr.sameNow .bool (.bool x) (.bool y)=some (Wi x y)) a p1
   | str=>
    have e1:va= .string (bs a):=by simpa [bT,ax] using ha
    have e2:e.key= .string (bs p1):=by simpa [bT,ax] using hp1
    simp only[bP,hd] at h
    cases dsc<;>simp at h
    rw[e1,e2]
    exact congrArg some (Yd a p1)
   | _=>simp[bP] at h
  cases hb:k.beq a p.1 with
  | true=>
   refine⟨some (0,e.val), ?_,.yes 0 p e rfl rfl hb (fun j q hj=>by omega)⟩
   simp[Instr.findNow,hs,hb]
  | false=>
   refine⟨r.map fun q=>(q.1+1,q.2), ?_, ?_⟩
   ·simp only[Instr.findNow,hs,hb,hr,afO]
    congr 1
    cases r<;>simp;omega
   ·cases hf with
    | no hn=>
     refine .no fun q hq=> ?_
     rcases aeO.1 hq with rfl | hq
     ·exact hb
     ·exact hn q hq
    | yes i q e' h1 h2 h3 h4=>
     refine .yes (i+1) q e' (by simpa using h1) (by simpa using h2) h3 (fun j q' hj hq=> ?_)
     cases j with
     | zero=>simp only[aej,Option.some.injEq] at hq;subst hq;exact hb
     | succ j=>exact h4 j q' (by omega) (by simpa using hq)
theorem M7 {t:TypeId} {k v:Ty} (h:gm P t k=true) {a:k.den} {va:Value} (ha:bT G k a va) {l:List (k.den×v.den)} {es:List MapEntry} (he:aG (vU G k v) l es): ∃ r,(Instr.findKey t va es).run P w= .ok r w/\AL a l es r:=by
 by_cases hst:∃ s,k= .st s
 ·obtain⟨s,rfl⟩:=hst
  have h0:=h
  simp only[gm] at h
  split at h
  ·rename_i fs hu
   obtain⟨us,eu,_⟩:=ha
   have ha':bT G (.st s) a va:=⟨us,eu,by assumption⟩
   obtain⟨r,hr,hf⟩:=Gt (w:=w) h0 ha' 0 he
   have hid:(r.map fun p:Nat×Value=>(0+p.1,p.2))=r:=by cases r<;>simp
   rw[hid] at hr
   cases es with
   | nil=>
    refine⟨none,by simp[Instr.findKey,run_underlying hu,Instr.findNow], ?_⟩
    have:l=[]:=by
     cases l with
     | nil=>rfl
     | cons p l=>obtain⟨y,s',e,_⟩:=he;cases e
    subst this
    exact .no (by simp)
   | cons e es=>
    refine⟨r, ?_,hf⟩
    have hn:Instr.findNow (.struct fs) va (e::es) 0=none:=by simp[Instr.findNow,Instr.sameNow]
    simp only[Instr.findKey,Sem.run_bind,run_underlying hu,Result.andThen_ok,hn,hr]
  ·cases h
 ·have hs:bP P t k=true:=by
   cases k with
   | st s=>exact absurd ⟨s,rfl⟩ hst
   | _=>exact h
  obtain⟨d,i,hd,_⟩:=iG (ud hs).1
  obtain⟨r,hr,hf⟩:=M8 hs hd ha 0 he
  have hid:(r.map fun p:Nat×Value=>(0+p.1,p.2))=r:=by cases r<;>simp
  rw[hid] at hr
  exact⟨r,by simp[Instr.findKey,run_underlying hd,hr],hf⟩
theorem AL.get {k v:Ty} {a:k.den} {l:List (k.den×v.den)} {es:List MapEntry} {r:Option (Nat×Value)} (h:AL a l es r):match r with
 | none=>jy l a=none
 | some (i,u)=>∃ p e,l[i]? =some p/\es[i]? =some e/\u=e.val/\jy l a=some p.2:=by
 cases h with
 | no hn=>
  simp only[jy]
  have:l.find? (fun p=>k.beq a p.1)=none:=by
   rw[List.find?_eq_none];intro p hp;simp[hn p hp]
  rw[this]
 | yes i p e h1 h2 h3 h4=>
  refine⟨p,e,h1,h2,rfl, ?_⟩
  have:l.find? (fun p=>k.beq a p.1)=some p:=by
   rw[List.find?_eq_some_iff_getElem]
   obtain⟨hlt,hp⟩:=aen.1 h1
   exact⟨h3,i,hlt,hp,fun j hj=>by simp[h4 j l[j] hj (ael (by omega))]⟩
  simp[jy,this]
theorem AL.set {k v:Ty} {a:k.den} (y:v.den) {l:List (k.den×v.den)} {es:List MapEntry} {r:Option (Nat×Value)} (h:AL a l es r):match r with
 | none=>wF l a y=l++[(a,y)]
 | some (i,_)=>wF l a y=l.set i (a,y):=by
 cases h with
 | no hn=>
  simp only
  clear es
  induction l with
  | nil=>rfl
  | cons p l ih=>
   simp only[wF,hn p (by simp),afW,adV]
   rw[ih fun q hq=>hn q (by simp[hq])]
 | yes i p e h1 h2 h3 h4=>
  simp only
  clear h2
  induction l generalizing i with
  | nil=>simp at h1
  | cons q l ih=>
   cases i with
   | zero=>
    simp only[aej,Option.some.injEq] at h1
    subst h1
    simp[wF,h3]
   | succ i=>
    have hq:=h4 0 q (by omega) rfl
    simp only[wF,hq,afW,ae6]
    rw[ih i (by simpa using h1) (fun j q' hj hq'=>h4 (j+1) q' (by omega) (by simpa using hq'))]
theorem Cz {b:Bool} {t:TypeId} {k:Ty} (h:bP P t k=true) {u:Value} (n:Nat):(Instr.checkKey b (n+1) t u).run P w= .ok () w:=by
 cases k with
 | int kk=>
  simp only[bP] at h
  split at h
  ·rename_i hu;simp[Instr.checkKey,run_underlying hu]
  ·cases h
 | bool=>
  simp only[bP] at h
  split at h
  ·rename_i hu;simp[Instr.checkKey,run_underlying hu]
  ·cases h
 | str=>
  simp only[bP] at h
  split at h
  ·rename_i hu;simp[Instr.checkKey,run_underlying hu]
  ·cases h
 | _=>simp[bP] at h
def MC (b:Bool) (n:Nat) (us:List Value) (f:Field) (_:PUnit):Sem (ForInStep PUnit):=
 if f.name≠ "_" then do
  let x <- part f.type us.toArray f.offset
  Instr.checkKey b (n+1) f.type x
  pure (ForInStep.yield PUnit.unit)
 else pure (ForInStep.yield PUnit.unit)
theorem Yh {b:Bool} {n m:Nat} {us pre c1 rest:List Value} {f:Field} {t1:Ty} {x1:t1.den} (q1:f.name≠ "_") (q2:f.offset=m) (q4:bP P f.type t1=true) (q5:ax G t1 x1 c1) (hpre:pre.length=m) (q6:us=pre++(c1++rest)): (MC b n us f PUnit.unit).run P w= .ok (.yield PUnit.unit) w:=by
 obtain⟨k1,k2,k3⟩:=ud q4
 obtain⟨d,i,hd,_⟩:=iG k1
 have hl1:c1.length=1:=by rw[q5.len,k3]
 obtain⟨u,rfl⟩:∃ u,c1=[u]:=by
  match c1,hl1 with
  | [u],_=>exact⟨u,rfl⟩
 have hget:us[m]? =some u:=by rw[q6,aeh (by omega),hpre];simp
 have hp:(part f.type us.toArray f.offset).run P w= .ok u w:=by
  simp[part,ov hd,k2,q2,hget]
 simp only[MC,af9 q1,Sem.run_bind,hp,Result.andThen_ok,Cz q4 n,Sem.run_pure]
theorem Yg {b:Bool} {n:Nat} {us:List Value}:∀ (l:List Field) (m:Nat) (t:Ty) (x:t.den) (pre c:List Value),cq P l m t=true->us=pre++c->pre.length=m->ax G t x c-> (forIn l PUnit.unit (MC b n us)).run P w= .ok PUnit.unit w
 | [],m,t,x,pre,c,h,_,_,_=>by simp[cq] at h
 | [f],m,t,x,pre,c,h,hus,hpre,hc=>by
  simp only[cq,adj,af1] at h
  have:=Yh (P:=P) (w:=w) (b:=b) (n:=n) (rest:=[]) h.1.1.1 (afm h.1.1.2) h.2 hc hpre (by simpa using hus)
  rw[List.forIn_cons,Sem.run_bind,this]
  rfl
 | f::g::r,m,t,x,pre,c,h,hus,hpre,hc=>by
  cases t with
  | pair s t=>
   simp only[cq,adj,af1] at h
   obtain⟨c1,r1,e1,p1,q1⟩:=hc
   obtain⟨⟨⟨⟨f1,f2⟩,f3⟩,f4⟩,f5⟩:=h
   have o1:=Yh (P:=P) (w:=w) (b:=b) (n:=n) (us:=us) (rest:=r1) f1 (afm f2) f4 p1 hpre (by rw[hus,e1])
   have hl1:c1.length=1:=by rw[p1.len,(ud f4).2.2]
   have o2:=Yg (b:=b) (n:=n) (us:=us) (g::r) (m+1) t x.2 (pre++c1) r1 f5 (by rw[hus,e1];simp) (by simp;omega) q1
   rw[List.forIn_cons,Sem.run_bind,o1]
   exact o2
  | _=>simp[cq] at h
theorem Sc {t:TypeId} {k:Ty} (h:gm P t k=true) {a:k.den} {v:Value} (hv:bT G k a v) (b:Bool) (n:Nat):(Instr.checkKey b (n+1+1) t v).run P w= .ok () w:=by
 cases k with
 | st s=>
  simp only[gm] at h
  split at h
  ·rename_i fs hu
   simp only[adj] at h
   obtain⟨us,e1,h1⟩:=hv
   subst e1
   have:=Yg (P:=P) (w:=w) (b:=b) (n:=n) (us:=us) fs.toList 0 s a [] us h.2 rfl rfl h1
   rw[Array.forIn_toList] at this
   rw[Instr.checkKey]
   simp only[Sem.run_bind,run_underlying hu,Result.andThen_ok]
   have e2:∀ (X:Sem PUnit),X=forIn fs PUnit.unit (MC b n us)->(X.run P w).andThen (fun _ w'=>Sem.run P (pure ()) w')= .ok () w:=by
    intro X hX;rw[hX,this];rfl
   exact e2 _ rfl
  ·cases h
 | _=>exact Cz (zz h (by intro s e;cases e)) (n+1)
theorem yF {t:TypeId} {k:Ty} (h:gm P t k=true) {a:k.den} {v:Value} (hv:bT G k a v) (b:Bool):(Instr.checkKey b 10000 t v).run P w= .ok () w:=
 Sc h hv b 9998
end Go.Dn
