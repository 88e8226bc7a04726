/-
  An executor of Go code on plain data, proved sound against the model: values, states, operations. No condition.
-/
import Derived.Laws.AppendOwn
import Derived.Orders
import Derived.Below
import Derived.KernelRfl
import Derived.StillTail
import Derived.Laws.Cells
import Derived.Laws.Strings
import Derived.Great.BuildSlice
import Derived.Laws.StructEq
set_option linter.all false
namespace Go.Dn
abbrev Z0:= @Bool.true_and
abbrev Z1:= @Int.fdiv_eq_ediv_of_nonneg
abbrev Z2:= @Int.le_refl
abbrev Z3:= @Int.mul_add
abbrev Z4:= @Int.mul_assoc
abbrev Z5:= @Int.mul_le_mul_of_nonneg_left
abbrev Z6:= @Int.mul_nonneg
abbrev Z7:= @Int.mul_one
abbrev Z8:= @Int.mul_sub
abbrev Z9:= @Int.pow_add
abbrev ZA:= @Array.getElem?_replicate
abbrev ZB:= @Array.getElem?_setIfInBounds_ne
abbrev ZC:= @Array.getElem?_setIfInBounds_self_of_lt
abbrev ZD:= @Array.getElem?_toList
abbrev ZE:= @Array.length_toList
abbrev ZF:= @Array.mem_toList_iff
abbrev ZG:= @Array.replicate_succ
abbrev ZH:= @Array.replicate_zero
abbrev ZI:= @Array.size_append
abbrev ZJ:= @Array.toArray_toList
abbrev ZK:= @Array.toList_push
abbrev ZL:= @BitVec.ofInt_natCast
abbrev ZM:= @BitVec.toNat_ofNat
abbrev ZN:= @Bool.and_eq_true
abbrev ZO:= @Bool.and_false
abbrev ZP:= @Bool.and_true
abbrev ZQ:= @Bool.false_eq_true
abbrev ZR:= @Bool.false_ne_true
abbrev ZS:= @Bool.false_or
abbrev ZT:= @Bool.not_eq_false'
abbrev ZU:= @Bool.not_eq_true
abbrev ZV:= @Bool.not_eq_true'
abbrev ZW:= @Bool.not_false
abbrev ZX:= @Bool.not_true
abbrev ZY:= @Bool.or_eq_false_iff
abbrev ZZ:= @Bool.or_eq_true
abbrev Zv:= @Array.getD_eq_getD_getElem?
abbrev Zw:= @Array.getElem?_eq_getElem
abbrev Zx:= @Array.getElem?_eq_none
abbrev Zy:= @Array.getElem?_eq_some_iff
abbrev Zz:= @Array.getElem?_modify
abbrev aa0:= @List.length_nil
abbrev aa1:= @List.length_replicate
abbrev aa2:= @List.length_set
abbrev aa3:= @List.length_take
abbrev aa4:= @List.map_congr_left
abbrev aa5:= @List.map_cons
abbrev aa6:= @List.map_map
abbrev aa7:= @List.map_nil
abbrev aa8:= @List.mem_append
abbrev aa9:= @List.mem_cons
abbrev aaA:= @List.filter_cons
abbrev aaB:= @List.flatMap_cons
abbrev aaC:= @List.getD_eq_getElem?_getD
abbrev aaD:= @List.getElem?_append
abbrev aaE:= @List.getElem?_append_left
abbrev aaF:= @List.getElem?_append_right
abbrev aaG:= @List.getElem?_cons_succ
abbrev aaH:= @List.getElem?_cons_zero
abbrev aaI:= @List.getElem?_drop
abbrev aaJ:= @List.getElem?_eq_getElem
abbrev aaK:= @List.getElem?_eq_none
abbrev aaL:= @List.getElem?_eq_some_iff
abbrev aaM:= @List.getElem?_map
abbrev aaN:= @List.getElem?_range
abbrev aaO:= @List.getElem?_replicate
abbrev aaP:= @List.getElem?_set
abbrev aaQ:= @List.getElem?_set_ne
abbrev aaR:= @List.getElem?_set_self
abbrev aaS:= @List.getElem?_take
abbrev aaT:= @List.getElem?_take_of_lt
abbrev aaU:= @List.getElem?_toArray
abbrev aaV:= @List.getElem_mem
abbrev aaW:= @List.length_append
abbrev aaX:= @List.length_cons
abbrev aaY:= @List.length_drop
abbrev aaZ:= @List.length_map
abbrev aaa:= @Int.pow_succ
abbrev aab:= @Int.sign_eq_neg_one_of_neg
abbrev aac:= @Int.sign_eq_one_of_pos
abbrev aad:= @Int.tdiv_eq_ediv_of_nonneg
abbrev aae:= @Int.tmod_eq_emod_of_nonneg
abbrev aaf:= @Int.toNat_natCast
abbrev aag:= @List.all_cons
abbrev aah:= @List.all_eq_true
abbrev aai:= @List.any_eq_false
abbrev aaj:= @List.any_eq_true
abbrev aak:= @List.append_assoc
abbrev aal:= @List.append_nil
abbrev aam:= @List.append_toArray
abbrev aan:= @List.cons_append
abbrev aao:= @List.countP_eq_zero
abbrev aap:= @List.countP_pos_iff
abbrev aaq:= @List.drop_drop
abbrev aar:= @List.drop_eq_getElem_cons
abbrev aas:= @List.drop_left
abbrev aat:= @List.drop_of_length_le
abbrev aau:= @List.drop_succ_cons
abbrev aav:= @List.drop_zero
abbrev aaw:= @List.eq_nil_iff_forall_not_mem
abbrev aax:= @List.eq_nil_of_length_eq_zero
abbrev aay:= @List.ext_getElem?
abbrev aaz:= @List.filter_append
abbrev ab0:= @Nat.min_eq_left
abbrev ab1:= @Nat.mod_eq_of_lt
abbrev ab2:= @Nat.mul_comm
abbrev ab3:= @Nat.mul_le_mul_right
abbrev ab4:= @Nat.not_lt_zero
abbrev ab5:= @Nat.one_mul
abbrev ab6:= @Nat.pow_add
abbrev ab7:= @Nat.pow_le_pow_right
abbrev ab8:= @Nat.pow_succ
abbrev ab9:= @Nat.zero_add
abbrev abA:= @List.take_append_drop
abbrev abB:= @List.take_append_of_le_length
abbrev abC:= @List.take_left
abbrev abD:= @List.take_of_length_le
abbrev abE:= @List.take_succ_cons
abbrev abF:= @List.take_take
abbrev abG:= @Nat.add_assoc
abbrev abH:= @Nat.add_mul
abbrev abI:= @Nat.add_zero
abbrev abJ:= @Nat.div_eq_of_lt
abbrev abK:= @Nat.div_lt_self
abbrev abL:= @Nat.eq_of_beq_eq_true
abbrev abM:= @Nat.eq_zero_or_pos
abbrev abN:= @Nat.le_of_ble_eq_true
abbrev abO:= @Nat.le_of_lt
abbrev abP:= @Nat.le_refl
abbrev abQ:= @Nat.le_trans
abbrev abR:= @Nat.lt_add_left
abbrev abS:= @Nat.lt_add_of_pos_right
abbrev abT:= @Nat.lt_of_le_of_lt
abbrev abU:= @Nat.lt_of_lt_of_le
abbrev abV:= @Nat.lt_or_ge
abbrev abW:= @Nat.lt_or_gt_of_ne
abbrev abX:= @Nat.lt_succ_iff_lt_or_eq
abbrev abY:= @Nat.lt_succ_self
abbrev abZ:= @Nat.lt_trichotomy
abbrev aba:= @List.mem_cons_of_mem
abbrev abb:= @List.mem_cons_self
abbrev abc:= @List.mem_filterMap
abbrev abd:= @List.mem_iff_getElem?
abbrev abe:= @List.mem_map
abbrev abf:= @List.mem_of_getElem?
abbrev abg:= @List.mem_of_mem_take
abbrev abh:= @List.mem_or_eq_of_mem_set
abbrev abi:= @List.mem_range
abbrev abj:= @List.mem_replicate
abbrev abk:= @List.mem_singleton
abbrev abl:= @List.mergeSort_perm
abbrev abm:= @List.nil_append
abbrev abn:= @List.nodup_cons
abbrev abo:= @List.pairwise_append
abbrev abp:= @List.pairwise_cons
abbrev abq:= @List.pairwise_iff_getElem
abbrev abr:= @List.pairwise_map
abbrev abt:= @List.pairwise_mergeSort
abbrev abu:= @List.push_toArray
abbrev abv:= @List.replicate_succ
abbrev abw:= @List.set_comm
abbrev abx:= @List.set_set
abbrev aby:= @List.size_toArray
abbrev abz:= @List.tail_drop
abbrev acA:= @decide_true
abbrev acB:= @false_and
abbrev acC:= @false_or
abbrev acD:= @if_false
abbrev acE:= @if_neg
abbrev acF:= @if_pos
abbrev acG:= @if_true
abbrev acH:= @not_and
abbrev acI:= @not_exists
abbrev acJ:= @not_or
abbrev acK:= @of_decide_eq_true
abbrev acd:= @Nat.zero_le
abbrev ace:= @Option.bind_some
abbrev acf:= @Option.getD_some
abbrev acg:= @Option.isNone_iff_eq_none
abbrev ach:= @Option.isSome_iff_exists
abbrev aci:= @Option.map_map
abbrev acj:= @Option.map_some
abbrev ack:= @UInt8.not_lt
abbrev acm:= @and_true
abbrev acn:= @beq_eq_false_iff_ne
abbrev aco:= @beq_self_eq_true
abbrev acp:= @bne_self_eq_false
abbrev acq:= @cond_false
abbrev acr:= @cond_true
abbrev acs:= @decide_eq_decide
abbrev acu:= @decide_eq_false
abbrev acv:= @decide_eq_false_iff_not
abbrev acw:= @decide_eq_true
abbrev acy:= @decide_eq_true_eq
abbrev acz:= @decide_false
inductive Ty where
 | int (k:IntKind)
 | bool
 | str
 | unit
 | pair (a b:Ty)
 | st (t:Ty)
 | slice (t:Ty)
 | ptr (t:Ty)
 | clo (g:Nat) (t:Ty)
 | hnd
 deriving DecidableEq
def Ty.den:Ty→Type
 | .int _=>Int
 | .bool=>Bool
 | .str=>List UInt8
 | .unit=>Unit
 | .pair a b=>a.den×b.den
 | .st t=>t.den
 | .slice t=>List t.den
 | .ptr t=>t.den
 | .clo _ t=>t.den
 | .hnd=>Option Nat
def Ty.size:Ty→Nat
 | .unit=>0
 | .pair a b=>a.size+b.size
 | .st t=>t.size
 | _=>1
def Ty.flat:Ty→Bool
 | .pair a b=>a.flat&&b.flat
 | .st t=>t.flat
 | .slice _ | .ptr _ | .clo _ _=>false
 | _=>true
def Ty.aZ:Ty→Bool
 | .pair a b=>a.aZ&&b.aZ
 | .st t=>t.aZ
 | .slice t=>t.aZ
 | .ptr t=>t.aZ
 | .clo _ t=>t.aZ
 | .hnd=>false
 | _=>true
structure Gh where
 blk:Nat→Option Obj
 hnd:Nat→Option Nat
instance:CoeFun Gh fun _=>Nat→Option Obj:=⟨Gh.blk⟩
structure Gh.le (G G':Gh):Prop where
 blk:∀ b o,G b=some o→G' b=some o
 hnd:∀ h b,G.hnd h=some b→G'.hnd h=some b
instance {G G':Gh}:CoeFun (G.le G') fun _=>∀ b o,G b=some o→G' b=some o:=⟨Gh.le.blk⟩
theorem Gh.le_refl (G:Gh):G.le G:=⟨fun _ _ h=>h,fun _ _ h=>h⟩
theorem Gh.le_trans {A B C:Gh} (h:A.le B) (k:B.le C):A.le C:=⟨fun b o x=>k b o (h b o x),fun b o x=>k.hnd b o (h.hnd b o x)⟩
def bs (l:List UInt8):ByteArray:=⟨l.toArray⟩
def Agr (G:Gh) (w:World):Prop:=∀ b o,G b=some o→w.heap[b]? =some o
def bH {α:Type} (R:α→List Value→Prop):List α→List Value→Prop
 | [],cs=>cs=[]
 | x::l,cs=>∃ c r,cs=c++r∧R x c∧bH R l r
def dH {α:Type} (G:Gh) (sz:Nat) (R:α→List Value→Prop) (l:List α) (v:Value):Prop:=
 ∃ a cap,v= .slice a l.length cap∧l.length≤cap∧cap≤maxLen∧
  (l=[]∨∃ b off c T fz,a=some ⟨b,off,none⟩∧G b=some (.cells c T fz)∧off+l.length*sz≤c.size∧
    bH R l ((c.toList.drop off).take (l.length*sz)))
def aB (G:Gh):(t:Ty)→t.den→List Value→Prop
 | .int k,n,cs=>cs=[.int k n]
 | .bool,b,cs=>cs=[.bool b]
 | .str,s,cs=>cs=[.string (bs s)]
 | .unit,_,cs=>cs=[]
 | .pair a b,(x,y),cs=>∃ c r,cs=c++r∧aB G a x c∧aB G b y r
 | .st t,x,cs=>aB G t x cs
 | .slice t,l,cs=>∃ v,cs=[v]∧dH G t.size (aB G t) l v
 | .ptr t,x,cs=>∃ b off c T fz,cs=[.pointer (some ⟨b,off,none⟩)]∧G b=some (.cells c T fz)∧off+t.size≤c.size∧
  aB G t x ((c.toList.drop off).take t.size)
 | .clo g t,x,cs=>∃ caps:List Value,cs=[.func (.func g) #[] caps.toArray]∧aB G t x caps
 | .hnd,none,cs=>cs=[.pointer none]
 | .hnd,some h,cs=>∃ b,G.hnd h=some b∧cs=[.pointer (some ⟨b,0,none⟩)]
theorem bH.mono {α:Type} {R R':α→List Value→Prop} (h:∀ x cs,R x cs→R' x cs):∀ {l:List α} {cs:List Value},bH R l cs→bH R' l cs
 | [],_,hh=>hh
 | _::_,_,⟨c,r,e,hx,hl⟩=>⟨c,r,e,h _ _ hx,bH.mono h hl⟩
theorem aB.mono {G G':Gh} (hG:G.le G'):∀ (t:Ty) (x:t.den) (cs:List Value),aB G t x cs→aB G' t x cs
 | .int _,_,_,h=>h
 | .bool,_,_,h=>h
 | .str,_,_,h=>h
 | .unit,_,_,h=>h
 | .pair a b,(x,y),_,⟨c,r,e,hx,hy⟩=>⟨c,r,e,aB.mono hG a x c hx,aB.mono hG b y r hy⟩
 | .st t,x,cs,h=>aB.mono hG t x cs h
 | .slice t,_,_,⟨v,e,a,cap,hv,h1,h2,h3⟩=>⟨v,e,a,cap,hv,h1,h2,h3.imp id fun ⟨b,off,c,T,fz,ha,hb,hs,hl⟩=>
  ⟨b,off,c,T,fz,ha,hG _ _ hb,hs,hl.mono (aB.mono hG t)⟩⟩
 | .ptr t,x,_,⟨b,off,c,T,fz,e,hb,hs,hl⟩=>⟨b,off,c,T,fz,e,hG _ _ hb,hs,aB.mono hG t x _ hl⟩
 | .clo _ t,x,_,⟨caps,e,h⟩=>⟨caps,e,aB.mono hG t x _ h⟩
 | .hnd,none,_,h=>h
 | .hnd,some _,_,⟨b,hb,e⟩=>⟨b,hG.hnd _ _ hb,e⟩
theorem dH.mono {G G':Gh} (hG:G.le G') {t:Ty} {l:List t.den} {v:Value} (h:dH G t.size (aB G t) l v):dH G' t.size (aB G' t) l v:=by
 obtain⟨a,cap,hv,h1,h2,h3⟩:=h
 exact⟨a,cap,hv,h1,h2,h3.imp id fun ⟨b,off,c,T,fz,ha,hb,hs,hl⟩=>⟨b,off,c,T,fz,ha,hG _ _ hb,hs,hl.mono (aB.mono hG t)⟩⟩
theorem aB.len {G:Gh}:∀ {t:Ty} {x:t.den} {cs:List Value},aB G t x cs→cs.length=t.size
 | .int _,_,_,h=>by cases h;rfl
 | .bool,_,_,h=>by cases h;rfl
 | .str,_,_,h=>by cases h;rfl
 | .unit,_,_,h=>by cases h;rfl
 | .pair a b,(x,y),_,⟨c,r,e,hx,hy⟩=>by
  subst e;rw[aaW,hx.len,hy.len];rfl
 | .st t,x,cs,h=>aB.len (t:=t) (x:=x) h
 | .slice t,_,_,⟨v,e,_⟩=>by subst e;rfl
 | .ptr t,x,_,⟨b,off,c,T,fz,e,_⟩=>by subst e;rfl
 | .clo _ t,x,_,⟨caps,e,h⟩=>by subst e;rfl
 | .hnd,none,_,h=>by cases h;rfl
 | .hnd,some _,_,⟨b,hb,e⟩=>by subst e;rfl
theorem bH.len {α:Type} {R:α→List Value→Prop} {n:Nat} (h:∀ x cs,R x cs→cs.length=n):∀ {l:List α} {cs:List Value},bH R l cs→cs.length=l.length*n
 | [],_,hh=>by cases hh;simp
 | _::l,_,⟨c,r,e,hx,hl⟩=>by
  subst e
  rw[aaW,h _ _ hx,hl.len h,aaX,abH]
  omega
theorem bH.append {α:Type} {R:α→List Value→Prop}:∀ {l l':List α} {cs cs':List Value},bH R l cs→bH R l' cs'→bH R (l++l') (cs++cs')
 | [],_,_,_,hh,h'=>by cases hh;simpa using h'
 | x::l,_,_,_,⟨c,r,e,hx,hl⟩,h'=>by
  subst e
  exact⟨c,r++_,by simp,hx,hl.append h'⟩
theorem Ao {α:Type} (c r:List α) (k:Nat):(c++r).drop (c.length+k)=r.drop k:=by
 rw[List.drop_append,aat (by omega)];simp
theorem HN {α:Type} (c r:List α) (k:Nat):(c++r).take (c.length+k)=c++r.take k:=by
 rw[List.take_append,abD (by omega)];simp
theorem bH.get {α:Type} {R:α→List Value→Prop} {n:Nat} (h:∀ x cs,R x cs→cs.length=n):∀ {l:List α} {cs:List Value},bH R l cs→∀ {i:Nat} {x:α},l[i]? =some x→R x ((cs.drop (i*n)).take n)
 | [],_,_,_,_,hi=>by simp at hi
 | y::l,_,⟨c,r,e,hx,hl⟩,0,x,hi=>by
  subst e
  have hc:=h _ _ hx
  have hy:y=x:=by simpa using hi
  subst hy
  simp only[Nat.zero_mul,aav]
  rw[← hc,abC]
  exact hx
 | y::l,_,⟨c,r,e,hx,hl⟩,i+1,x,hi=>by
  subst e
  have hc:=h _ _ hx
  have:=hl.get h (i:=i) (x:=x) (by simpa using hi)
  rw[show (i+1)*n=c.length+i*n by rw[abH];omega,Ao]
  exact this
theorem bH.take {α:Type} {R:α→List Value→Prop} {n:Nat} (h:∀ x cs,R x cs→cs.length=n):∀ {l:List α} {cs:List Value},bH R l cs→∀ (i:Nat),bH R (l.take i) (cs.take (i*n))
 | l,cs,hl,0=>by simp[bH]
 | [],_,hh,i+1=>by cases hh;simp[bH]
 | y::l,_,⟨c,r,e,hx,hl⟩,i+1=>by
  subst e
  have hc:=h _ _ hx
  refine⟨c,r.take (i*n), ?_,hx,hl.take h i⟩
  rw[show (i+1)*n=c.length+i*n by rw[abH];omega,HN]
theorem bH.drop {α:Type} {R:α→List Value→Prop} {n:Nat} (h:∀ x cs,R x cs→cs.length=n):∀ {l:List α} {cs:List Value},bH R l cs→∀ (i:Nat),bH R (l.drop i) (cs.drop (i*n))
 | l,cs,hl,0=>by simpa using hl
 | [],_,hh,i+1=>by cases hh;simp[bH]
 | y::l,_,⟨c,r,e,hx,hl⟩,i+1=>by
  subst e
  have hc:=h _ _ hx
  rw[show (i+1)*n=c.length+i*n by rw[abH];omega,Ao]
  exact hl.drop h i
theorem bH.set {α:Type} {R:α→List Value→Prop} {n:Nat} (h:∀ x cs,R x cs→cs.length=n) {y:α} {d:List Value} (hy:R y d):∀ {l:List α} {cs:List Value},bH R l cs→∀ {i:Nat},i<l.length→
 bH R (l.set i y) (cs.take (i*n)++d++cs.drop (i*n+n))
 | [],_,_,_,hi=>by simp at hi
 | x::l,_,⟨c,r,e,hx,hl⟩,0,_=>by
  subst e
  have hc:=h _ _ hx
  exact⟨d,r,by simp[← hc],hy,hl⟩
 | x::l,_,⟨c,r,e,hx,hl⟩,i+1,hi=>by
  subst e
  have hc:=h _ _ hx
  refine⟨c,r.take (i*n)++d++r.drop (i*n+n), ?_,hx,hl.set h hy (by simpa using hi)⟩
  rw[show (i+1)*n=c.length+i*n by rw[abH];omega,abG,HN,Ao]
  simp
theorem aB.aZ {G G':Gh} (hG:∀ b o,G b=some o→G' b=some o):∀ (t:Ty) (x:t.den) (cs:List Value),t.aZ=true→aB G t x cs→aB G' t x cs
 | .int _,_,_,_,h=>h
 | .bool,_,_,_,h=>h
 | .str,_,_,_,h=>h
 | .unit,_,_,_,h=>h
 | .pair a b,(x,y),_,hn,⟨c,r,e,hx,hy⟩=>by
  simp only[Ty.aZ,ZN] at hn
  exact⟨c,r,e,aB.aZ hG a x c hn.1 hx,aB.aZ hG b y r hn.2 hy⟩
 | .st t,x,cs,hn,h=>aB.aZ hG t x cs hn h
 | .slice t,_,_,hn,⟨v,e,a,cap,hv,h1,h2,h3⟩=>⟨v,e,a,cap,hv,h1,h2,h3.imp id fun ⟨b,off,c,T,fz,ha,hb,hs,hl⟩=>
  ⟨b,off,c,T,fz,ha,hG _ _ hb,hs,hl.mono fun x cs=>aB.aZ hG t x cs hn⟩⟩
 | .ptr t,x,_,hn,⟨b,off,c,T,fz,e,hb,hs,hl⟩=>⟨b,off,c,T,fz,e,hG _ _ hb,hs,aB.aZ hG t x _ hn hl⟩
 | .clo _ t,x,_,hn,⟨caps,e,h⟩=>⟨caps,e,aB.aZ hG t x _ hn h⟩
 | .hnd,_,_,hn,_=>by cases hn
def bL (G:Gh) (t:Ty) (x:t.den) (v:Value):Prop:=
 match t,x with
 | .st t,x=>∃ vs:List Value,v= .agg vs.toArray∧aB G t x vs
 | t,x=>aB G t x [v]
theorem bL.mono {G G':Gh} (hG:G.le G') {t:Ty} {x:t.den} {v:Value} (h:bL G t x v):bL G' t x v:=by
 cases t with
 | st t=>obtain⟨vs,e,hv⟩:=h;exact⟨vs,e,aB.mono hG _ _ _ hv⟩
 | _=>exact aB.mono hG _ _ _ h
end Go.Dn
namespace Go.Dn
inductive CV where
 | int (k:IntKind) (n:Int)
 | bool (b:Bool)
 | str (s:List UInt8)
 | sl (t:Ty) (l:List t.den)
 | cp (t:Ty) (x:t.den) (off:Nat)
 | clo (g:Nat) (t:Ty) (x:t.den)
 | ref (k off:Nat)
 | row (j:Nat)
 | rp (j sz i off:Nat)
 | fn (g:Nat) (ks:List Nat)
 | nilp
 | nils
 | any
 | mp (j:Nat)
 | hnd (o:Option Nat) (off:Nat)
 | stp (j i:Nat)
 | kseq (g j:Nat)
 | nb (b:Bool)
 | opq (v:Value)
inductive SV where
 | v (agg:Bool) (cs:List CV)
 | tup (l:List (Bool×List CV))
structure kE where
 fz:Bool
 e:TypeId
 t:Ty
 l:List t.den
inductive mF where
 | map (k v:Ty) (l:List (k.den×v.den))
 | ar (fz:Bool) (t:Ty) (l:List t.den)
structure St where
 tmps:List SV
 boxes:List (Nat×List CV)
 rows:List (Nat×kE)
 objs:List (Nat×mF)
def look {α:Type}:List (Nat×α)→Nat→Option α
 | [],_=>none
 | (j,x)::r,k=>bif Nat.beq j k then some x else look r k
inductive bp where
 | inl (k:Nat)
 | inr (j:Nat)
 | ob (j:Nat)
 deriving DecidableEq
structure Env where
 bx:Nat→Nat
 rw:Nat→Value
 own:Nat→Option bp
 ob:Nat→Value
 st:Nat→Nat→Int
def aK {α β:Type} (R:α→β→Prop):List α→List β→Prop
 | [],l=>l=[]
 | x::r,l=>∃ y s,l=y::s∧R x y∧aK R r s
def bf (G:Gh) (ρ:Env):CV→Value→Prop
 | .int k n,v=>v= .int k n
 | .bool b,v=>v= .bool b
 | .str s,v=>v= .string (bs s)
 | .sl t l,v=>dH G t.size (aB G t) l v
 | .cp t x o,v=>∃ b off c T fz,v= .pointer (some ⟨b,off+o,none⟩)∧G b=some (.cells c T fz)∧off+t.size≤c.size∧
  aB G t x ((c.toList.drop off).take t.size)
 | .clo g t x,v=>∃ caps:List Value,v= .func (.func g) #[] caps.toArray∧aB G t x caps
 | .ref k o,v=>v= .pointer (some ⟨ρ.bx k,o,none⟩)
 | .row j,v=>v=ρ.rw j∧∃ a n c,v= .slice a n c
 | .rp j sz i o,v=>∃ b len cap,ρ.rw j= .slice (some ⟨b,0,none⟩) len cap∧v= .pointer (some ⟨b,i*sz+o,none⟩)
 | .fn g ks,v=>v= .func (.func g) #[] (ks.map fun k=>Value.pointer (some ⟨ρ.bx k,0,none⟩)).toArray
 | .nilp,v=>v= .pointer none
 | .nils,v=>v= .slice none 0 0
 | .any,_=>True
 | .mp j,v=>v=ρ.ob j∧∃ b,v= .map (some b)
 | .hnd none o,v=>v= .pointer none∧o=0
 | .hnd (some h) o,v=>∃ b,G.hnd h=some b∧v= .pointer (some ⟨b,o,none⟩)
 | .stp j i,v=>v= .int .i64 (ρ.st j i)
 | .kseq g j,v=>∃ b T fz,v= .func (.func g) #[] #[.pointer (some ⟨b,0,none⟩)]∧G b=some (.cells #[ρ.ob j] T fz)
 | .nb b,v=>∃ c,v= .bool c∧(b=false→c=false)
 | .opq u,v=>v=u
def jg (G:Gh) (ρ:Env):Bool→List CV→Value→Prop
 | true,cs,v=>∃ vs:List Value,v= .agg vs.toArray∧aK (bf G ρ) cs vs
 | false,[c],v=>bf G ρ c v
 | false,_,_=>False
def bB (G:Gh) (ρ:Env):SV→Value→Prop
 | .v a cs,v=>jg G ρ a cs v
 | .tup l,v=>∃ vs:List Value,v= .tuple vs.toArray∧aK (fun p=>jg G ρ p.1 p.2) l vs
def AP:List Int:=(List.range 20).map fun i=>((10 ^ i:Nat):Int)
structure nx (P:Program) (G:Gh):Prop where
 pow:∀ g,P.globalNamed "internal/strconv.uint64pow10" =some g→∃ T fz,G g=some (.cells (AP.map fun z=>Value.int .u64 z).toArray T fz)
 maxLen:∀ g,P.globalNamed "internal/bytealg.MaxLen" =some g→∃ n T fz,G g=some (.cells #[Value.int .i64 n] T fz)
theorem nx.mono {P:Program} {G G':Gh} (h:nx P G) (hG:G.le G'):nx P G':=
 ⟨fun g hg=>let ⟨T,fz,e⟩:=h.pow g hg;⟨T,fz,hG.blk _ _ e⟩,fun g hg=>let ⟨n,T,fz,e⟩:=h.maxLen g hg;⟨n,T,fz,hG.blk _ _ e⟩⟩
structure Fr (P:Program) where
 n0:Nat
 pin:Nat→Nat
 pinR:Nat→Value
 B:Nat→Prop
 w0:World
 G0:Gh
 noAr:Prop
 tab:nx P G0
def b9 (G:Gh) (ρ:Env) (w:World) (j:Nat) (r:kE):Prop:=
 if r.fz then dH G r.t.size (aB G r.t) r.l (ρ.rw j)
 else ∃ xs,w.ownsRow 0 r.e r.t.size (ρ.rw j) r.l.length xs∧bH (aB G r.t) r.l xs∧∀ b,(ρ.rw j).ownBlock=some b→ρ.own b=some (.inr j)
def nv (G:Gh) (k v:Ty) (p:k.den×v.den) (e:MapEntry):Prop:=bL G k p.1 e.key∧bL G v p.2 e.val
def iN (G:Gh) (w:World) (own:Nat→Prop) (fz:Bool) (t:Ty) (l:List t.den):Prop:=
 (∀ h b,G.hnd h=some b→h<l.length)∧(∀ h h' b,G.hnd h=some b→G.hnd h'=some b→h=h')∧
   ∀ h x,l[h]? =some x→∃ b vs T,G.hnd h=some b∧(fz=true→G b=some (.cells (List.toArray vs) T (0,0)))∧(fz=false→own b)∧w.heap[b]? =some (.cells (List.toArray vs) T (0,0))∧aB G t x vs
def bF:Nat:=9999
def kV (G:Gh) (ρ:Env) (w:World) (j:Nat):mF→Prop
 | .map k v l=>∃ b es clock,ρ.ob j= .map (some b)∧ρ.own b=some (.ob j)∧w.heap[b]? =some (.map es clock)∧aK (nv G k v) l es.toList∧
  (∀ (i:Nat) (e:MapEntry),es.toList[i]? =some e→(e.born:Int)=ρ.st j i∧e.born<clock)∧es.toList.Pairwise (fun a b=>a.born<b.born)
 | .ar fz t l=>j=bF∧iN G w (fun b=>ρ.own b=some (.ob j)) fz t l
structure Mem {P0:Program} (C:Fr P0) (G:Gh) (ρ:Env) (S:St) (w:World):Prop where
 agr:Agr G w
 le0:C.G0.le G
 old:∀ b,b<C.n0→¬ C.B b→G b=C.G0 b
 frame:∀ b,b<C.n0→¬ C.B b→w.heap[b]? =C.w0.heap[b]?
 size:C.n0≤w.heap.size
 os:w.os=C.w0.os
 output:w.output=C.w0.output
 pin:∀ k,2000≤k→ρ.bx k=C.pin k
 pinR:∀ k,10000000≤k→ρ.rw k=C.pinR k∧ρ.ob k=C.pinR k
 owned:∀ b o,ρ.own b=some o→G b=none∧b<w.heap.size∧(C.n0≤b∨C.B b)
 boxes:∀ k cs,look S.boxes k=some cs→ρ.own (ρ.bx k)=some (.inl k)∧
  ∃ vs T,w.heap[ρ.bx k]? =some (.cells (List.toArray vs) T (0,0))∧aK (bf G ρ) cs vs
 rows:∀ j r,look S.rows j=some r→b9 G ρ w j r
 objs:∀ j r,look S.objs j=some r→kV G ρ w j r
 hndI:C.noAr→G.hnd=C.G0.hnd∧∀ t l,look S.objs bF≠some (.ar false t l)
def eE (G:Gh) (ρ:Env) (S:St) (a:Act):Prop:=
 a.tmps.size=S.tmps.length∧∀ (i:Nat) (s:SV),S.tmps[i]? =some s→bB G ρ s (a.tmps.getD i undef)
structure Mod {P0:Program} (C:Fr P0) (G:Gh) (ρ:Env) (S:St) (w:World) (a:Act):Prop extends Mem C G ρ S w where
 tmps:eE G ρ S a
 defers:a.defers=[]
theorem aK.mono {α β:Type} {R R':α→β→Prop} (h:∀ x y,R x y→R' x y):∀ {l:List α} {r:List β},aK R l r→aK R' l r
 | [],_,hh=>hh
 | _::_,_,⟨y,s,e,hx,hl⟩=>⟨y,s,e,h _ _ hx,hl.mono h⟩
theorem aK.tG {α β:Type} {R R':α→β→Prop}:∀ {l:List α} {r:List β},(∀ x,x∈l→∀ y,R x y→R' x y)→aK R l r→aK R' l r
 | [],_,_,hh=>hh
 | x::l,_,h,⟨y,s,e,hx,hl⟩=>⟨y,s,e,h x (by simp) _ hx,aK.tG (fun z hz=>h z (by simp[hz])) hl⟩
theorem aK.len {α β:Type} {R:α→β→Prop}:∀ {l:List α} {r:List β},aK R l r→r.length=l.length
 | [],_,hh=>by cases hh;rfl
 | _::_,_,⟨y,s,e,_,hl⟩=>by subst e;simp[hl.len]
theorem aK.get {α β:Type} {R:α→β→Prop}:∀ {l:List α} {r:List β},aK R l r→∀ {i:Nat} {x:α},l[i]? =some x→∃ y,r[i]? =some y∧R x y
 | [],_,_,_,_,hi=>by simp at hi
 | _::_,_,⟨y,s,e,hx,_⟩,0,x,hi=>by subst e;simp at hi;subst hi;exact⟨y,by simp,hx⟩
 | _::_,_,⟨y,s,e,_,hl⟩,i+1,x,hi=>by
  subst e
  obtain⟨z,hz,hr⟩:=hl.get (i:=i) (x:=x) (by simpa using hi)
  exact⟨z,by simpa using hz,hr⟩
theorem aK.append {α β:Type} {R:α→β→Prop}:∀ {l l':List α} {r r':List β},aK R l r→aK R l' r'→aK R (l++l') (r++r')
 | [],_,_,_,hh,h'=>by cases hh;simpa using h'
 | _::_,_,_,_,⟨y,s,e,hx,hl⟩,h'=>by subst e;exact⟨y,s++_,by simp,hx,hl.append h'⟩
theorem aK.drop {α β:Type} {R:α→β→Prop}:∀ {l:List α} {r:List β},aK R l r→∀ n,aK R (l.drop n) (r.drop n)
 | _,_,h,0=>by simpa using h
 | [],_,hh,n+1=>by cases hh;simp[aK]
 | _::_,_,⟨y,s,e,_,hl⟩,n+1=>by subst e;simpa using hl.drop n
theorem aK.take {α β:Type} {R:α→β→Prop}:∀ {l:List α} {r:List β},aK R l r→∀ n,aK R (l.take n) (r.take n)
 | _,_,_,0=>by simp[aK]
 | [],_,hh,n+1=>by cases hh;simp[aK]
 | _::_,_,⟨y,s,e,hx,hl⟩,n+1=>by subst e;exact⟨y,s.take n,by simp,hx,hl.take n⟩
theorem aK.set {α β:Type} {R:α→β→Prop} {x:α} {y:β} (hxy:R x y):∀ {l:List α} {r:List β},aK R l r→∀ n,aK R (l.set n x) (r.set n y)
 | [],_,hh,n=>by cases hh;simp[aK]
 | _::_,_,⟨z,s,e,_,hl⟩,0=>by subst e;exact⟨y,s,by simp,hxy,hl⟩
 | _::_,_,⟨z,s,e,hx,hl⟩,n+1=>by subst e;exact⟨z,s.set n y,by simp,hx,hl.set hxy n⟩
theorem aK.single {α β:Type} {R:α→β→Prop} {x:α} {r:List β} (h:aK R [x] r):∃ y,r=[y]∧R x y:=by
 obtain⟨y,s,e,hx,hl⟩:=h;cases hl;exact⟨y,e,hx⟩
def CV.bS (k:Nat):CV→Bool
 | .ref j _=>Nat.beq j k
 | .fn _ ks=>ks.any (Nat.beq · k)
 | _=>false
def CV.bn (k:Nat):CV→Bool
 | .row j=>Nat.beq j k
 | .rp j _ _ _=>Nat.beq j k
 | _=>false
def CV.bG (k:Nat):CV→Bool
 | .mp j=>Nat.beq j k
 | .kseq _ j=>Nat.beq j k
 | _=>false
def CV.bw (k:Nat):CV→Bool
 | .stp j _=>Nat.beq j k
 | _=>false
def SV.bS (k:Nat):SV→Bool
 | .v _ cs=>cs.any (CV.bS k)
 | .tup l=>l.any fun p=>p.2.any (CV.bS k)
def SV.bn (k:Nat):SV→Bool
 | .v _ cs=>cs.any (CV.bn k)
 | .tup l=>l.any fun p=>p.2.any (CV.bn k)
def SV.bG (k:Nat):SV→Bool
 | .v _ cs=>cs.any (CV.bG k)
 | .tup l=>l.any fun p=>p.2.any (CV.bG k)
def St.bG (k:Nat) (S:St):Bool:=S.tmps.any (SV.bG k)||S.boxes.any fun p=>p.2.any (CV.bG k)
def SV.bw (k:Nat):SV→Bool
 | .v _ cs=>cs.any (CV.bw k)
 | .tup l=>l.any fun p=>p.2.any (CV.bw k)
def St.bw (k:Nat) (S:St):Bool:=S.tmps.any (SV.bw k)||S.boxes.any fun p=>p.2.any (CV.bw k)
def St.bS (k:Nat) (S:St):Bool:=S.tmps.any (SV.bS k)||S.boxes.any fun p=>p.2.any (CV.bS k)
def St.bn (k:Nat) (S:St):Bool:=S.tmps.any (SV.bn k)||S.boxes.any fun p=>p.2.any (CV.bn k)
structure CV.dJ (ρ ρ':Env) (c:CV):Prop where
 bx:∀ k,c.bS k=true→ρ'.bx k=ρ.bx k
 rw:∀ k,c.bn k=true→ρ'.rw k=ρ.rw k
 ob:∀ k,c.bG k=true→ρ'.ob k=ρ.ob k
 st:∀ k,c.bw k=true→ρ'.st k=ρ.st k
theorem bf.congr {G G':Gh} (hG:G.le G') {ρ ρ':Env}:∀ {c:CV} {v:Value},c.dJ ρ ρ'→bf G ρ c v→bf G' ρ' c v
 | .int _ _,_,_,h=>h
 | .bool _,_,_,h=>h
 | .str _,_,_,h=>h
 | .sl _ _,_,_,h=>dH.mono hG h
 | .cp t x _,_,_,⟨b,off,c,T,fz,e,hb,hs,hl⟩=>⟨b,off,c,T,fz,e,hG _ _ hb,hs,aB.mono hG t x _ hl⟩
 | .clo _ t x,_,_,⟨caps,e,h⟩=>⟨caps,e,aB.mono hG t x _ h⟩
 | .ref k _,_,s,h=>by
  have:=s.bx k (by simp[CV.bS]);simp only[bf] at h ⊢;rw[this];exact h
 | .row j,_,s,h=>by
  have:=s.rw j (by simp[CV.bn]);simp only[bf] at h ⊢;rw[this];exact h
 | .rp j _ _ _,_,s,h=>by
  have:=s.rw j (by simp[CV.bn]);simp only[bf] at h ⊢;rw[this];exact h
 | .fn g ks,_,s,h=>by
  simp only[bf] at h ⊢
  rw[h]
  congr 2
  refine aa4 fun k hk=> ?_
  rw[s.bx k (by simp[CV.bS,hk])]
 | .nilp,_,_,h=>h
 | .nils,_,_,h=>h
 | .any,_,_,_=>trivial
 | .nb _,_,_,h=>h
 | .opq _,_,_,h=>h
 | .mp j,_,s,h=>by
  have:=s.ob j (by simp[CV.bG]);simp only[bf] at h ⊢;rw[this];exact h
 | .hnd none _,_,_,h=>h
 | .hnd (some _) _,_,_,⟨b,hb,e⟩=>⟨b,hG.hnd _ _ hb,e⟩
 | .stp j i,_,s,h=>by
  have:=s.st j (by simp[CV.bw]);simp only[bf] at h ⊢;rw[this];exact h
 | .kseq g j,_,s,h=>by
  have:=s.ob j (by simp[CV.bG]);simp only[bf] at h ⊢;rw[this]
  obtain⟨b,T,fz,e,hb⟩:=h
  exact⟨b,T,fz,e,hG _ _ hb⟩
theorem jg.congr {G G':Gh} (hG:G.le G') {ρ ρ':Env} {a:Bool} {cs:List CV} {v:Value} (hs:∀ c,c∈cs→c.dJ ρ ρ') (h:jg G ρ a cs v):jg G' ρ' a cs v:=by
 cases a with
 | true=>obtain⟨vs,e,hl⟩:=h;exact⟨vs,e,aK.tG (fun c hc y=>bf.congr hG (hs c hc)) hl⟩
 | false=>
  match cs,hs,h with
  | [c],hs,h=>exact bf.congr hG (hs c (by simp)) h
def SV.dJ (ρ ρ':Env):SV→Prop
 | .v _ cs=>∀ c,c∈cs→c.dJ ρ ρ'
 | .tup l=>∀ p,p∈l→∀ c,c∈p.2→c.dJ ρ ρ'
theorem bB.congr {G G':Gh} (hG:G.le G') {ρ ρ':Env} {s:SV} {v:Value} (hs:s.dJ ρ ρ') (h:bB G ρ s v):bB G' ρ' s v:=by
 cases s with
 | v a cs=>exact jg.congr hG hs h
 | tup l=>
  obtain⟨vs,e,hl⟩:=h
  exact⟨vs,e,aK.tG (fun p hp y=>jg.congr hG (hs p hp)) hl⟩
theorem CV.dJ.refl (ρ:Env) (c:CV):c.dJ ρ ρ:=⟨fun _ _=>rfl,fun _ _=>rfl,fun _ _=>rfl,fun _ _=>rfl⟩
theorem SV.dJ.refl (ρ:Env) (s:SV):s.dJ ρ ρ:=by
 cases s with
 | v a cs=>exact fun c _=> .refl ρ c
 | tup l=>exact fun p _ c _=> .refl ρ c
theorem l9 {α:Type} {l:List (Nat×α)} {k:Nat} {x:α} (h:look l k=some x):(k,x)∈l:=by
 induction l with
 | nil=>simp[look] at h
 | cons p r ih=>
  obtain⟨j,y⟩:=p
  simp only[look] at h
  cases hb:Nat.beq j k with
  | true=>rw[hb] at h;simp only[acr,Option.some.injEq] at h;subst h;have:=abL hb;subst this;simp
  | false=>rw[hb] at h;simp only[acq] at h;exact aba _ (ih h)
theorem au {α:Type} (l:List (Nat×α)) (j k:Nat) (x:α):look ((j,x)::l) k=if j=k then some x else look l k:=by
 simp only[look]
 by_cases h:j=k
 ·subst h;simp
 ·have:Nat.beq j k=false:=by
   cases hb:Nat.beq j k with
   | false=>rfl
   | true=>exact absurd (abL hb) h
  simp[this,h]
structure St.dJ (ρ ρ':Env) (S:St):Prop where
 tmps:∀ s,s∈S.tmps→s.dJ ρ ρ'
 boxes:∀ p,p∈S.boxes→∀ c,c∈p.2→c.dJ ρ ρ'
theorem PR {ρ:Env} {k b:Nat} {S:St} (own:Nat→Option bp) (h:S.bS k=false):S.dJ ρ ⟨fun i=>if i=k then b else ρ.bx i,ρ.rw,own,ρ.ob,ρ.st⟩:=by
 simp only[St.bS,ZY,aai] at h
 have cv:∀ c:CV,c.bS k=false→c.dJ ρ ⟨fun i=>if i=k then b else ρ.bx i,ρ.rw,own,ρ.ob,ρ.st⟩:=fun c hc=>
  ⟨fun i hi=>by
    show (if i=k then b else ρ.bx i)=ρ.bx i
    by_cases e:i=k
    ·subst e;rw[hc] at hi;cases hi
    ·simp[e],fun _ _=>rfl,fun _ _=>rfl,fun _ _=>rfl⟩
 refine⟨fun s hs=> ?_,fun p hp c hc=>cv c ?_⟩
 ·have:=h.1 s hs
  cases s with
  | v a cs=>exact fun c hc=>cv c (by simp only[SV.bS,aaj,acI,acH] at this;simpa using this c hc)
  | tup l=>exact fun p hp c hc=>cv c (by simp only[SV.bS,aaj,acI,acH] at this;simpa using this p hp c hc)
 ·have:=h.2 p hp
  simp only[aaj,acI,acH] at this
  simpa using this c hc
theorem Fp {ρ:Env} {k:Nat} {u:Value} {S:St} (own:Nat→Option bp) (h:S.bn k=false):S.dJ ρ ⟨ρ.bx,fun i=>if i=k then u else ρ.rw i,own,ρ.ob,ρ.st⟩:=by
 simp only[St.bn,ZY,aai] at h
 have cv:∀ c:CV,c.bn k=false→c.dJ ρ ⟨ρ.bx,fun i=>if i=k then u else ρ.rw i,own,ρ.ob,ρ.st⟩:=fun c hc=>
  ⟨fun _ _=>rfl,fun i hi=>by
    show (if i=k then u else ρ.rw i)=ρ.rw i
    by_cases e:i=k
    ·subst e;rw[hc] at hi;cases hi
    ·simp[e],fun _ _=>rfl,fun _ _=>rfl⟩
 refine⟨fun s hs=> ?_,fun p hp c hc=>cv c ?_⟩
 ·have:=h.1 s hs
  cases s with
  | v a cs=>exact fun c hc=>cv c (by simp only[SV.bn,aaj,acI,acH] at this;simpa using this c hc)
  | tup l=>exact fun p hp c hc=>cv c (by simp only[SV.bn,aaj,acI,acH] at this;simpa using this p hp c hc)
 ·have:=h.2 p hp
  simp only[aaj,acI,acH] at this
  simpa using this c hc
theorem PT {ρ:Env} {k:Nat} {u:Value} {S:St} (own:Nat→Option bp) (h:S.bG k=false):S.dJ ρ ⟨ρ.bx,ρ.rw,own,fun i=>if i=k then u else ρ.ob i,ρ.st⟩:=by
 simp only[St.bG,ZY,aai] at h
 have cv:∀ c:CV,c.bG k=false→c.dJ ρ ⟨ρ.bx,ρ.rw,own,fun i=>if i=k then u else ρ.ob i,ρ.st⟩:=fun c hc=>
  ⟨fun _ _=>rfl,fun _ _=>rfl,fun i hi=>by
    show (if i=k then u else ρ.ob i)=ρ.ob i
    by_cases e:i=k
    ·subst e;rw[hc] at hi;cases hi
    ·simp[e],fun _ _=>rfl⟩
 refine⟨fun s hs=> ?_,fun p hp c hc=>cv c ?_⟩
 ·have:=h.1 s hs
  cases s with
  | v a cs=>exact fun c hc=>cv c (by simp only[SV.bG,aaj,acI,acH] at this;simpa using this c hc)
  | tup l=>exact fun p hp c hc=>cv c (by simp only[SV.bG,aaj,acI,acH] at this;simpa using this p hp c hc)
 ·have:=h.2 p hp
  simp only[aaj,acI,acH] at this
  simpa using this c hc
theorem eE.congr {G G':Gh} (hG:G.le G') {ρ ρ':Env} {S:St} {a:Act} (hs:S.dJ ρ ρ') (h:eE G ρ S a):eE G' ρ' S a:=
 ⟨h.1,fun i s hi=>bB.congr hG (hs.tmps s (abf hi)) (h.2 i s hi)⟩
def St.put (S:St) (d:Option Tmp) (s:SV):St:=
 match d with
 | some d=>{ S with tmps:=S.tmps.set d s }
 | none=>S
@[simp] theorem St.Zg (S:St) (d:Option Tmp) (s:SV):(S.put d s).boxes=S.boxes:=by cases d<;>rfl
@[simp] theorem St.Zn (S:St) (d:Option Tmp) (s:SV):(S.put d s).rows=S.rows:=by cases d<;>rfl
@[simp] theorem St.Zm (S:St) (d:Option Tmp) (s:SV):(S.put d s).objs=S.objs:=by cases d<;>rfl
theorem eE.put {G:Gh} {ρ:Env} {S:St} {a:Act} (h:eE G ρ S a) (d:Option Tmp) {s:SV} {v:Value} (hv:∀ t,d=some t→bB G ρ s v):eE G ρ (S.put d s) (a.put d v):=by
 cases d with
 | none=>exact h
 | some d=>
  refine⟨by simp[Act.put,St.put,h.1],fun i s' hi=> ?_⟩
  simp only[St.put,aaP] at hi
  by_cases e:d=i
  ·subst e
   by_cases hlt:d<S.tmps.length
   ·simp only[acF,hlt,Option.some.injEq] at hi
    subst hi
    simp only[Act.put]
    rw[Zv,ZC (by rw[h.1];exact hlt)]
    exact hv _ rfl
   ·simp[hlt] at hi
  ·simp only[e,acD] at hi
   have:=h.2 i s' hi
   simp only[Act.put]
   rw[Zv,ZB (by omega), ← Zv]
   exact this
theorem Mem.Dv {P0:Program} {C:Fr P0} {G:Gh} {ρ:Env} {S S':St} {w:World} (h:Mem C G ρ S w) (hb:S'.boxes=S.boxes) (hr:S'.rows=S.rows) (ho:S'.objs=S.objs):Mem C G ρ S' w:=
 { h with boxes:=by rw[hb];exact h.boxes,rows:=by rw[hr];exact h.rows,objs:=by rw[ho];exact h.objs,hndI:=by rw[ho];exact h.hndI }
theorem Mod.put {P0:Program} {C:Fr P0} {G:Gh} {ρ:Env} {S:St} {w:World} {a:Act} (h:Mod C G ρ S w a) (d:Option Tmp) {s:SV} {v:Value} (hv:∀ t,d=some t→bB G ρ s v):Mod C G ρ (S.put d s) w (a.put d v):=
 { h.toMem.Dv (S':=S.put d s) (by simp) (by simp) (by simp) with tmps:=h.tmps.put d hv,defers:=by cases d<;>exact h.defers }
theorem b9.of_heap {G:Gh} {ρ:Env} {w w':World} {j:Nat} {r:kE} (hh:w'.heap=w.heap) (h:b9 G ρ w j r):b9 G ρ w' j r:=by
 unfold b9 at*
 split
 ·rename_i hf;rw[acF hf] at h;exact h
 ·rename_i hf;rw[acE hf] at h
  obtain⟨xs,ho,hl,hb⟩:=h
  exact⟨xs,by simpa [World.ownsRow,hh] using ho,hl,hb⟩
theorem iN.of_heap {G:Gh} {w w':World} {own:Nat→Prop} {fz:Bool} {t:Ty} {l:List t.den} (hh:∀ h b,G.hnd h=some b→w'.heap[b]? =w.heap[b]?) (h:iN G w own fz t l):iN G w' own fz t l:=
 ⟨h.1,h.2.1,fun i x hx=>by
   obtain⟨b,vs,T,h1,h2,h3,h4,h5⟩:=h.2.2 i x hx
   exact⟨b,vs,T,h1,h2,h3,by rw[hh i b h1];exact h4,h5⟩⟩
theorem kV.of_heap {G:Gh} {ρ:Env} {w w':World} {j:Nat} {r:mF} (hh:w'.heap=w.heap) (h:kV G ρ w j r):kV G ρ w' j r:=by
 cases r with
 | map k v l=>obtain⟨b,es,clock,h1,h2,h3,h4,h5⟩:=h;exact⟨b,es,clock,h1,h2,by rw[hh];exact h3,h4,h5⟩
 | ar fz t l=>exact⟨h.1,iN.of_heap (fun _ _ _=>by rw[hh]) h.2⟩
theorem Mem.of_heap {P0:Program} {C:Fr P0} {G:Gh} {ρ:Env} {S:St} {w w':World} (h:Mem C G ρ S w) (hh:w'.heap=w.heap) (ho:w'.os=w.os) (hu:w'.output=w.output):Mem C G ρ S w' where
 agr:=fun b o hb=>by rw[hh];exact h.agr b o hb
 le0:=h.le0
 old:=h.old
 frame:=by rw[hh];exact h.frame
 size:=by rw[hh];exact h.size
 os:=ho.trans h.os
 output:=hu.trans h.output
 pin:=h.pin
 pinR:=h.pinR
 owned:=by rw[hh];exact h.owned
 boxes:=by rw[hh];exact h.boxes
 rows:=fun j r hr=>(h.rows j r hr).of_heap hh
 objs:=fun j r hr=>(h.objs j r hr).of_heap hh
 hndI:=h.hndI
theorem Mod.of_heap {P0:Program} {C:Fr P0} {G:Gh} {ρ:Env} {S:St} {w w':World} {a:Act} (h:Mod C G ρ S w a) (hh:w'.heap=w.heap) (ho:w'.os=w.os) (hu:w'.output=w.output):Mod C G ρ S w' a:=
 { h.toMem.of_heap hh ho hu with tmps:=h.tmps,defers:=h.defers }
structure Grow (ρ:Env) (w w':World) (blk:Option Nat):Prop where
 os:w'.os=w.os
 output:w'.output=w.output
 size:w.heap.size≤w'.heap.size
 block:∀ b,b<w.heap.size→some b≠blk→w'.heap[b]? =w.heap[b]?
theorem b7 {w:World} {b:Nat} {o:Obj} (h:w.heap[b]? =some o):b<w.heap.size:=(Zy.1 h).1
theorem b9.kept {G:Gh} {ρ:Env} {w w':World} {j:Nat} {r:kE} {blk:Option Nat} (hg:Grow ρ w w' blk) (hne:∀ b,blk=some b→ρ.own b≠some (.inr j)) (h:b9 G ρ w j r):b9 G ρ w' j r:=by
 unfold b9 at*
 split
 ·rename_i hf;rw[acF hf] at h;exact h
 ·rename_i hf;rw[acE hf] at h
  obtain⟨xs,⟨hlen,ho⟩,hl,hb⟩:=h
  refine⟨xs,⟨hlen, ?_⟩,hl,hb⟩
  rcases ho with hn | ⟨g,cap,cur,hv,h0,hgg,rest⟩
  ·exact .inl hn
  ·refine .inr ⟨g,cap,cur,hv,h0, ?_,rest⟩
   rw[hg.block g (b7 hgg) ?_]
   ·exact hgg
   ·intro e
    exact hne g e.symm (hb g (by rw[hv];rfl))
theorem kV.kept {G:Gh} {ρ:Env} {w w':World} {j:Nat} {r:mF} {blk:Option Nat} (hg:Grow ρ w w' blk) (hgn:∀ b,blk=some b→G b=none) (hne:∀ b,blk=some b→ρ.own b≠some (.ob j)) (h:kV G ρ w j r):kV G ρ w' j r:=by
 cases r with
 | map k v l=>
  obtain⟨b,es,clock,h1,h2,h3,h4,h5⟩:=h
  refine⟨b,es,clock,h1,h2, ?_,h4,h5⟩
  rw[hg.block b (b7 h3) (fun e=>hne b e.symm h2)];exact h3
 | ar fz t l=>
  obtain⟨hj,h⟩:=h
  refine⟨hj,h.1,h.2.1,fun i x hx=> ?_⟩
  obtain⟨b,vs,T,h1,h2,h3,h4,h5⟩:=h.2.2 i x hx
  refine⟨b,vs,T,h1,h2,h3, ?_,h5⟩
  rw[hg.block b (b7 h4) (fun e=> ?_)]
  ·exact h4
  ·cases fz with
   | true=>have:=hgn b e.symm;rw[h2 rfl] at this;cases this
   | false=>exact hne b e.symm (h3 rfl)
theorem nv.mono {G G':Gh} (hG:G.le G') {k v:Ty} {p:k.den×v.den} {e:MapEntry} (h:nv G k v p e):nv G' k v p e:=⟨h.1.mono hG,h.2.mono hG⟩
theorem kV.congr {G G':Gh} (hG:G.le G') (hh:G'.hnd=G.hnd) {ρ ρ':Env} {w:World} {j:Nat} {r:mF} (hr:ρ'.ob j=ρ.ob j) (hst:ρ'.st j=ρ.st j) (ho:∀ b,ρ.own b=some (.ob j)→ρ'.own b=some (.ob j)) (h:kV G ρ w j r):kV G' ρ' w j r:=by
 cases r with
 | map k v l=>
  obtain⟨b,es,clock,h1,h2,h3,h4,h5,h6⟩:=h
  exact⟨b,es,clock,by rw[hr];exact h1,ho b h2,h3,h4.mono fun x y hxy=>hxy.mono hG,by rw[hst];exact h5,h6⟩
 | ar fz t l=>
  obtain⟨hj,h⟩:=h
  refine⟨hj,fun i b hb=>h.1 i b (by rw[← hh];exact hb),fun i i' b hb hb'=>h.2.1 i i' b (by rw[← hh];exact hb) (by rw[← hh];exact hb'),fun i x hx=> ?_⟩
  obtain⟨b,vs,T,h1,h2,h3,h4,h5⟩:=h.2.2 i x hx
  exact⟨b,vs,T,by rw[hh];exact h1,fun e=>hG _ _ (h2 e),fun e=>ho b (h3 e),h4,aB.mono hG t x _ h5⟩
theorem b9.congr {G G':Gh} (hG:G.le G') {ρ ρ':Env} {w:World} {j:Nat} {r:kE} (hr:ρ'.rw j=ρ.rw j) (ho:∀ b,ρ.own b=some (.inr j)→ρ'.own b=some (.inr j)) (h:b9 G ρ w j r):b9 G' ρ' w j r:=by
 unfold b9 at*
 rw[hr]
 split
 ·rename_i hf;rw[acF hf] at h;exact dH.mono hG h
 ·rename_i hf;rw[acE hf] at h
  obtain⟨xs,hown,hl,hb⟩:=h
  exact⟨xs,hown,hl.mono (aB.mono hG r.t),fun b e=>ho b (hb b e)⟩
end Go.Dn
namespace Go.Dn
def unpack:(t:Ty)→t.den→List CV
 | .int k,n=>[.int k n]
 | .bool,b=>[.bool b]
 | .str,s=>[.str s]
 | .unit,_=>[]
 | .pair a b,p=>unpack a p.1++unpack b p.2
 | .st t,x=>unpack t x
 | .slice t,l=>[.sl t l]
 | .ptr t,x=>[.cp t x 0]
 | .clo g t,x=>[.clo g t x]
 | .hnd,o=>[.hnd o 0]
def dO (t:Ty) (x:t.den):SV:=
 match t,x with
 | .st t,x=> .v true (unpack t x)
 | t,x=> .v false (unpack t x)
def Ss (t:Ty) (x:t.den):Bool×List CV:=
 match t,x with
 | .st t,x=>(true,unpack t x)
 | t,x=>(false,unpack t x)
def pH {a b:Ty} (l:List a.den):Option (List b.den):=if h:a=b then some (h ▸ l) else none
def PY {a b:Ty} (x:a.den):Option b.den:=if h:a=b then some (h ▸ x) else none
def Uv {k v k' v':Ty} (l:List (k.den×v.den)):Option (List (k'.den×v'.den)):=if h:k=k'∧v=v' then some (h.1 ▸ h.2 ▸ l) else none
def T9 (k:IntKind):CV→Option Int
 | .int k' n=>if k=k' then some n else none
 | _=>none
def RX:CV→Option Bool
 | .bool b=>some b
 | _=>none
def Ua:CV→Option (List UInt8)
 | .str s=>some s
 | _=>none
def L2 (S:St) (t:Ty):CV→Option (List t.den)
 | .sl _ l=>pH (b:=t) l
 | .nils=>some []
 | .row j=>match look S.rows j with
  | some q=>if q.fz then pH (b:=t) q.l else none
  | none=>none
 | _=>none
def T8:CV→Option (Option Nat)
 | .hnd o k=>if Nat.beq k 0 then some o else none
 | .nilp=>some none
 | _=>none
def qq {α:Type} (f:CV→Option α):List CV→Option (α×List CV)
 | c::r=>match f c with | some x=>some (x,r) | none=>none
 | []=>none
def fK {α:Type}:Option (α×List CV)→Option α
 | some (x,[])=>some x
 | _=>none
def inL (l:List Nat) (j:Nat):Bool:=l.any (Nat.beq j)
def NH (S:St) (fb:List Nat) {t:Ty} (g:List CV→Option (t.den×List CV)):CV→Option t.den
 | .cp _ x o=>if Nat.beq o 0 then PY (b:=t) x else none
 | .ref k o=>if Nat.beq o 0&&inL fb k then (match look S.boxes k with
  | some cs=>fK (g cs)
  | none=>none) else none
 | _=>none
def T7 {t:Ty} (g:Nat) (p:List CV→Option (t.den×List CV)):CV→Option t.den
 | .clo g' _ x=>if Nat.beq g g' then PY (b:=t) x else none
 | .fn g' ks=>if Nat.beq g g' then fK (p (ks.map fun k=> .ref k 0)) else none
 | _=>none
def dY (S:St) (fb:List Nat):(t:Ty)→List CV→Option (t.den×List CV)
 | .int k,r=>qq (T9 k) r
 | .bool,r=>qq RX r
 | .str,r=>qq Ua r
 | .unit,r=>some ((),r)
 | .pair a b,r=>match dY S fb a r with
  | some (x,r)=>match dY S fb b r with
   | some (y,r)=>some ((x,y),r)
   | none=>none
  | none=>none
 | .st t,r=>dY S fb t r
 | .slice t,r=>qq (L2 S t) r
 | .ptr t,r=>qq (NH S fb (t:=t) (dY S fb t)) r
 | .clo g t,r=>qq (T7 (t:=t) g (dY S fb t)) r
 | .hnd,r=>qq T8 r
abbrev pack (S:St) (t:Ty) (cs:List CV):Option (t.den×List CV):=dY S [] t cs
def gH (S:St) (fb:List Nat) (t:Ty) (s:SV):Option t.den:=
 match t,s with
 | .st t,.v true cs=>fK (dY S fb t cs)
 | .st _,_=>none
 | t,.v false cs=>fK (dY S fb t cs)
 | _,_=>none
inductive OT where
 | val (t:Ty)
 | row (e:TypeId) (t:Ty)
 | map (k v:Ty)
def OT.den:OT→Type
 | .val t=>t.den
 | .row _ t=>List t.den
 | .map k v=>List (k.den×v.den)
def jX:List OT→Type
 | []=>Unit
 | o::r=>o.den×jX r
inductive PM where
 | val (t:Ty)
 | row (e:TypeId) (t:Ty)
 | mrow (e:TypeId) (t:Ty)
 | map (k v:Ty)
 | box (l:List OT)
 | ar (t:Ty)
 | arR (t:Ty)
inductive RM where
 | val (t:Ty)
 | row (e:TypeId) (t:Ty)
 | map (k v:Ty)
 | box (l:List OT)
def PM.den:PM→Type
 | .val t=>t.den
 | .row _ t=>List t.den
 | .mrow _ t=>List t.den
 | .map k v=>List (k.den×v.den)
 | .box l=>jX l
 | .ar t=>List t.den
 | .arR t=>List t.den
def RM.den:RM→Type
 | .val t=>t.den
 | .row _ t=>List t.den
 | .map k v=>List (k.den×v.den)
 | .box l=>jX l
def PM.arg:PM→Bool
 | .ar _=>false
 | .arR _=>false
 | _=>true
def dX:List PM→Type
 | []=>Unit
 | p::r=>p.den×dX r
def dL:List PM→Type
 | []=>Unit
 | .mrow _ t::r=>List t.den×dL r
 | .map k v::r=>List (k.den×v.den)×dL r
 | .box l::r=>jX l×dL r
 | .ar t::r=>List t.den×dL r
 | .val _::r=>dL r
 | .row _ _::r=>dL r
 | .arR _::r=>dL r
def cG (ps:List PM):List RM→Type
 | []=>dL ps
 | q::r=>q.den×cG ps r
structure ay where
 ps:List PM
 rs:List RM
 m:dX ps→Option (cG ps rs)
inductive vZ where
 | mk (g:Nat)
 | srt (g:Nat) (kt e:TypeId)
 | elt (lo nb:Nat) (tb te:Ty) (m:List tb.den→List te.den→Nat→Option (List te.den))
 | nest (p:Nat) (sp:ay)
 | srt2 (g:Nat) (kt e:TypeId) (cl:Nat) (cf:List UInt8×List UInt8→List UInt8×List UInt8→Int)
 | cop (sz lo b:Nat) (e:TypeId) (t:Ty)
 | own
structure Cx where
 P:Program
 specs:List (Nat×ay)
 keys:List (Nat×vZ):=[]
def P7 {α:Type} (l:List (Int×α)):List Int:=(l.map (·.1)).mergeSort fun x y=>decide (x≤y)
def V2 {α:Type} (l:List (Int×α)):Bool:=decide (l.length≤1000000)&&((l.all fun p=>decide (-9223372036854775808≤p.1∧p.1≤9223372036854775807))&&decide (l.map (·.1)).Nodup)
def gP {α:Type} (cf:List UInt8×List UInt8→List UInt8×List UInt8→Int) (l:List ((List UInt8×List UInt8)×α)):List (List UInt8×List UInt8):=(l.map (·.1)).mergeSort fun x y=> !decide (cf y x<0)
theorem B0 {α:Type} (cf:List UInt8×List UInt8→List UInt8×List UInt8→Int) (l:List ((List UInt8×List UInt8)×α)):(gP cf l).length=l.length:=by
 unfold gP
 rw[List.length_mergeSort,aaZ]
def uy {α:Type} (cf:List UInt8×List UInt8→List UInt8×List UInt8→Int) (l:List ((List UInt8×List UInt8)×α)):Bool:=decide (l.length≤1000000)&&((l.all fun p=>decide (p.1.1.length≤9223372036854775807)&&decide (p.1.2.length≤9223372036854775807))&&(decide (l.map (·.1)).Nodup&&((l.map (·.1)).all fun x=>(l.map (·.1)).all fun y=>decide (cf x y<0)||(decide (cf y x<0)||decide (x=y)))))
inductive CK where
 | val (t:Ty)
 | own (e:TypeId) (t:Ty)
 | map (k v:Ty)
 | ref (k off:Nat)
 | fn (g:Nat) (ks:List Nat)
 | ar (t:Ty)
 | arF (t:Ty)
 | rowR (j:Nat)
 | rpR (j sz:Nat)
 | rowC (j:Nat) (e:TypeId) (t:Ty)
 | mapR (j:Nat)
 | mapC (j:Nat) (k v:Ty)
def cm:List CK→Type
 | []=>Unit
 | .val t::r=>t.den×cm r
 | .own _ t::r=>List t.den×cm r
 | .map k v::r=>List (k.den×v.den)×cm r
 | .ref _ _::r=>cm r
 | .fn _ _::r=>cm r
 | .ar t::r=>List t.den×cm r
 | .arF t::r=>List t.den×cm r
 | .rowR _::r=>cm r
 | .rpR _ _::r=>Nat×cm r
 | .rowC _ _ t::r=>List t.den×cm r
 | .mapR _::r=>cm r
 | .mapC _ k v::r=>List (k.den×v.den)×cm r
def CK.size:CK→Nat
 | .val t=>t.size
 | .ar _=>0
 | .arF _=>0
 | .rowC _ _ _=>0
 | .mapC _ _ _=>0
 | _=>1
def kX:List CK→Nat
 | []=>0
 | c::r=>c.size+kX r
def Vr (tmps:List (Nat×CK)) (boxes:List (Nat×List CK)) (cts:List CK):List CK:=
 tmps.map (·.2)++(boxes.flatMap (·.2)++cts)
structure Ann where
 tmps:List (Nat×CK)
 boxes:List (Nat×List CK)
 cts:List CK
 fuel:cm (Vr tmps boxes cts)→Nat
def Ann.cks (A:Ann):List CK:=Vr A.tmps A.boxes A.cts
def iter {X β:Type}:Nat→X→(X→(X→Option β)→Option β)→Option β
 | 0,_,_=>none
 | n+1,x,f=>f x fun y=>iter n y f
def oy (P:Program) (t:TypeId):Bool:=
 match P.underlying t with
 | some (.struct _) | some (.array _ _)=>true
 | _=>false
def bN (P:Program) (t:TypeId):Nat:=((P.info? t).map (·.size)).getD 0
def okT (P:Program) (t:TypeId):Bool:=(P.underlying t).isSome
def Gr:Value→CV
 | .int k n=> .int k n
 | .bool b=> .bool b
 | .string s=> .str s.data.toList
 | .slice none 0 0=> .nils
 | .pointer none=> .nilp
 | .func (.func g) f c=>if f.isEmpty&&c.isEmpty then .fn g [] else .any
 | _=> .any
def Il:Value→SV
 | .agg cs=> .v true (cs.toList.map Gr)
 | v=> .v false [Gr v]
def St.ev (S:St):Operand→SV
 | .tmp t=>S.tmps.getD t (.v false [.any])
 | .const v=>Il v
 | .global _=> .v false [.any]
 | .func f=> .v false [.fn f []]
variable {β:Type}
def chk (b:Bool) (x:Option β):Option β:=bif b then x else none
def idx {α:Type} (l:List α) (i:Int):Option α:=if 0≤i then l[i.toNat]? else none
def mW (s:List UInt8) (i:Int):Option UInt8:=if 0≤i then s[i.toNat]? else none
def Qp (op:BinOp) (ka:IntKind) (a:Int) (kb:IntKind) (b:Int) (k:CV→Option β):Option β:=
 match op with
 | .shl=>chk (decide (0≤b)) (k (.int ka (ka.wrap (a*2 ^ (min b.toNat ka.bits)))))
 | .shr=>chk (decide (0≤b)) (k (.int ka (a.fdiv (2 ^ (min b.toNat ka.bits)))))
 | _=>if ka≠kb then none else
  match op with
  | .add=>k (.int ka (ka.wrap (a+b)))
  | .sub=>k (.int ka (ka.wrap (a - b)))
  | .mul=>k (.int ka (ka.wrap (a*b)))
  | .quo=>chk (b != 0) (k (.int ka (ka.wrap (a.tdiv b))))
  | .rem=>chk (b != 0) (k (.int ka (a.tmod b)))
  | .and=>k (.int ka (ka.wrap (BitVec.ofInt ka.bits a &&& BitVec.ofInt ka.bits b).toNat))
  | .or=>k (.int ka (ka.wrap (BitVec.ofInt ka.bits a ||| BitVec.ofInt ka.bits b).toNat))
  | .eql=>k (.bool (a==b))
  | .neq=>k (.bool (a != b))
  | .lss=>k (.bool (decide (a<b)))
  | .leq=>k (.bool (decide (a≤b)))
  | .gtr=>k (.bool (decide (a>b)))
  | .geq=>k (.bool (decide (a≥b)))
  | _=>none
def Qq (op:BinOp) (a b:List UInt8) (k:CV→Option β):Option β:=
 match op with
 | .eql=>k (.bool (a==b))
 | .neq=>k (.bool !(a==b))
 | .lss=>k (.bool (Op.bytesLess a b))
 | .leq=>k (.bool (Op.bytesLess a b||a==b))
 | .gtr=>k (.bool !(Op.bytesLess a b||a==b))
 | .geq=>k (.bool !(Op.bytesLess a b))
 | .add=>chk (decide (a.length+b.length≤maxLen)) (k (.str (a++b)))
 | _=>none
def HV (l:List CV) (off n:Nat):Option (List CV):=
 let c:=(l.drop off).take n
 if Nat.beq c.length n then some c else none
def jH (P:Program) (T:TypeId) (l:List CV) (off:Nat) (k:SV→Option β):Option β:=
 if okT P T then
 match HV l off (bN P T) with
 | some cs=>if oy P T then k (.v true cs) else (match cs with | [c]=>k (.v false [c]) | _=>none)
 | none=>none
 else none
def GM (P:Program) (g:TypeId→SV→SV→Option Bool) (xs ys:List CV):List Field→Option Bool
 | []=>some true
 | f::fs=>if f.name= "_" then none else
  match jH P f.type xs f.offset some,jH P f.type ys f.offset some with
  | some a,some b=>match g f.type a b with
   | some r=>match GM P g xs ys fs with
    | some q=>some (r&&q)
    | none=>none
   | none=>none
  | _,_=>none
def CV.P6:CV→Bool
 | .ref _ _ | .cp _ _ _ | .rp _ _ _ _=>true
 | _=>false
def rJ (P:Program):Nat→TypeId→SV→SV→Option Bool
 | 0,_,_,_=>none
 | d+1,t,x,y=>match P.underlying t with
  | some (.int _)=>match x,y with
   | .v false [.int k a],.v false [.int k' b]=>if k=k' then some (a==b) else none
   | _,_=>none
  | some .bool=>match x,y with
   | .v false [.bool a],.v false [.bool b]=>some (a==b)
   | _,_=>none
  | some .string=>match x,y with
   | .v false [.str a],.v false [.str b]=>some (a==b)
   | _,_=>none
  | some (.pointer _)=>match x,y with
   | .v false [.nilp],.v false [.nilp]=>some true
   | .v false [.nilp],.v false [.hnd o _]=>some o.isNone
   | .v false [.hnd o _],.v false [.nilp]=>some o.isNone
   | .v false [.nilp],.v false [c]=>if c.P6 then some false else none
   | .v false [c],.v false [.nilp]=>if c.P6 then some false else none
   | _,_=>none
  | some (.struct fs)=>match x,y with
   | .v true xs,.v true ys=>if P.stoodInHeld t then none else GM P (rJ P d) xs ys fs.toList
   | _,_=>none
  | _=>none
def XA:SV→SV→Option Bool
 | .v false [.sl _ l],.v false [.nils]=>some l.isEmpty
 | _,_=>none
def WV (P:Program) (op:BinOp) (t:TypeId) (x y:SV) (k:SV→Option β):Option β:=
 if P.eqGuardType P.depth t then none else match op with
 | .eql=>match rJ P 9 t x y with
  | some r=>k (.v false [.bool r])
  | none=>match P.underlying t,XA x y with
   | some (.slice _),some b=>k (.v false [.nb b])
   | _,_=>none
 | .neq=>match rJ P 9 t x y with
  | some r=>k (.v false [.bool !r])
  | none=>none
 | _=>none
def Xw (P:Program) (op:BinOp) (t:TypeId) (x y:SV) (k:SV→Option β):Option β:=
 match x,y with
 | .v false [.int ka a],.v false [.int kb b]=>Qp op ka a kb b fun c=>k (.v false [c])
 | .v false [.str a],.v false [.str b]=>Qq op a b fun c=>k (.v false [c])
 | x,y=>WV P op t x y k
def KC (n:Nat):CV→Option CV
 | .ref k o=>some (.ref k (o+n))
 | .cp t x o=>some (.cp t x (o+n))
 | .rp j sz i o=>some (.rp j sz i (o+n))
 | .hnd (some h) o=>some (.hnd (some h) (o+n))
 | _=>none
def CV.ok:CV→Bool
 | .any=>false
 | .opq _=>false
 | _=>true
def setAt (l:List CV) (off:Nat) (new:List CV):Option (List CV):=
 if Nat.ble (off+new.length) l.length then some (l.take off++new++l.drop (off+new.length)) else none
def Ed (place:Nat→Option (Nat×Nat)):List CV→List (Nat×SV)→Option (List CV)
 | cells,[]=>some cells
 | cells,(i,.v _ cs)::rest=>
  match place i with
  | none=>none
  | some (off,size)=>if Nat.beq cs.length size&&cs.all CV.ok then (match setAt cells off cs with | some c=>Ed place c rest | none=>none) else none
 | _,_=>none
def Cw (P:Program) (fs:Array Field) (i:Nat):Option (Nat×Nat):=match fs[i]? with | some f=>some (f.offset,bN P f.type) | none=>none
def zeroCells (P:Program) (t:TypeId):Option (List CV):=
 match (P.info? t).bind (·.zero) with
 | some (.agg cs)=>some (cs.toList.map Gr)
 | some v=>some [Gr v]
 | none=>none
def NY:List Ty→Ty
 | []=> .unit
 | [a]=>a
 | a::b::r=> .pair a (NY (b::r))
def E4 (P:Program):Nat→TypeId→Option Ty
 | 0,_=>none
 | n+1,t=>match P.underlying t with
  | some (.int k)=>some (.int k)
  | some .bool=>some .bool
  | some .string=>some .str
  | some (.slice e)=>(E4 P n e).map .slice
  | some (.pointer _)=>some .hnd
  | some (.array m e)=>(E4 P n e).map fun t=> .st (NY (List.replicate m t))
  | some (.struct fs)=>(fs.toList.mapM fun f=>E4 P n f.type).map fun l=> .st (NY l)
  | _=>none
def uF (P:Program) (t:TypeId) (ty:Ty):Option ty.den:=
 match (P.info? t).bind (·.zero) with
 | some v=>gH ⟨[],[],[],[]⟩ [] ty (Il v)
 | none=>none
def UI (a b:Int):Bool:=a==b
def Ut (a b:Bool):Bool:=a==b
def Kv (a b:List UInt8):Bool:=a==b
def Ty.beq:(t:Ty)→t.den→t.den→Bool
 | .int _,a,b=>UI a b
 | .bool,a,b=>Ut a b
 | .str,a,b=>Kv a b
 | .unit,_,_=>true
 | .pair s t,a,b=>s.beq a.1 b.1&&t.beq a.2 b.2
 | .st t,a,b=>t.beq a b
 | _,_,_=>false
def bJ (P:Program) (t:TypeId):Ty→Bool
 | .int _=>match P.underlying t with | some (.int _)=>true | _=>false
 | .bool=>match P.underlying t with | some .bool=>true | _=>false
 | .str=>match P.underlying t with | some .string=>true | _=>false
 | _=>false
def bU (P:Program):List Field→Nat→Ty→Bool
 | [f],n,t=>f.name≠ "_" &&Nat.beq f.offset n&&Nat.beq (bN P f.type) 1&&bJ P f.type t
 | f::g::r,n,.pair a b=>f.name≠ "_" &&Nat.beq f.offset n&&Nat.beq (bN P f.type) 1&&bJ P f.type a&&bU P (g::r) (n+1) b
 | _,_,_=>false
def dN (P:Program) (t:TypeId):Ty→Bool
 | .st s=>match P.underlying t with | some (.struct fs)=> !P.stoodInHeld t&&bU P fs.toList 0 s | _=>false
 | ty=>bJ P t ty
def bZ {k v:Ty} (l:List (k.den×v.den)) (x:k.den):Option v.den:=match l.find? (fun p=>k.beq x p.1) with | some p=>some p.2 | none=>none
def gJ {k v:Ty} (l:List (k.den×v.den)) (x:k.den) (y:v.den):List (k.den×v.den):=
 match l with
 | []=>[(x,y)]
 | p::r=>bif k.beq x p.1 then (x,y)::r else p::gJ r x y
def allRefs:List SV→Option (List Nat)
 | []=>some []
 | .v false [.ref k o]::r=>if Nat.beq o 0 then (match allRefs r with | some l=>some (k::l) | none=>none) else none
 | _=>none
def bnd (d:Int):Option SV→Option Int
 | none=>some d
 | some (.v false [.int _ a])=>some a
 | _=>none
def UP (M:St) (d:TypeDesc):CV→Option Int
 | .str s=>match d with | .string=>some s.length | _=>none
 | .sl _ l=>match d with | .slice _=>some l.length | _=>none
 | .nils=>match d with | .slice _=>some 0 | _=>none
 | .row j=>match d with
  | .slice _=>match look M.rows j with
   | some q=>some q.l.length
   | none=>none
  | _=>none
 | .mp j=>match d with
  | .map _ _=>match look M.objs j with
   | some (.map _ _ l)=>some l.length
   | _=>none
  | _=>none
 | _=>none
def VA (P:Program) (b:Builtin) (c:Call) (S M:St) (k:SV→Option β):Option β:=
 match b with
 | .len=>match c.args.toList.map S.ev,c.argTypes.toList with
  | [.v false [x]],[t]=>match P.underlying t with
   | some d=>match UP M d x with
    | some n=>k (.v false [.int .i64 n])
    | none=>none
   | none=>none
  | _,_=>none
 | .min=>match c.args.toList.map S.ev with
  | [.v false [.int ik a],.v false [.int _ b]]=>k (.v false [.int ik (if b<a then b else a)])
  | _=>none
 | .max=>match c.args.toList.map S.ev with
  | [.v false [.int ik a],.v false [.int _ b]]=>k (.v false [.int ik (if b>a then b else a)])
  | _=>none
 | _=>none
def L4:Nat→Nat→Int→(Nat→Option β)→Option β
 | 0,_,_,_=>none
 | n+1,j,i,k=>bif i==(j:Int) then k j else L4 n (j+1) i k
theorem L5 {r:β}:∀ {n j:Nat} {i:Int} {k:Nat→Option β},L4 n j i k=some r→∃ m:Nat,i=(m:Int)∧m<j+n∧k m=some r
 | 0,_,_,_,h=>by cases h
 | n+1,j,i,k,h=>by
  unfold L4 at h
  cases hb:i==(j:Int) with
  | true=>rw[hb] at h;exact⟨j,by simpa using hb,by omega,h⟩
  | false=>
   rw[hb] at h
   obtain⟨m,h1,h2,h3⟩:=L5 (h:L4 n (j+1) i k=some r)
   exact⟨m,h1,by omega,h3⟩
def GZ (ik:IntKind):List CV→Option (List Int)
 | []=>some []
 | .int k n::r=>if k=ik then (match GZ ik r with | some l=>some (n::l) | none=>none) else none
 | _=>none
def cn (X:Cx) (o:Oper) (S M:St) (k:SV→Option β):Option β:=
 match o.op with
 | .move x | .assign x=>k (S.ev x)
 | .pick c a b=>match S.ev c with
  | .v false [.bool t]=>bif t then k (S.ev a) else k (S.ev b)
  | _=>none
 | .binOp op t x y _=>Xw X.P op t (S.ev x) (S.ev y) k
 | .unOp op _ x=>match op,S.ev x with
  | .not,.v false [.bool b]=>k (.v false [.bool !b])
  | .neg,.v false [.int ik n]=>k (.v false [.int ik (ik.wrap (0 - n))])
  | _,_=>none
 | .convert src dst x=>match X.P.underlying src,X.P.underlying dst,S.ev x with
  | some _,some (.int ik),.v false [.int _ n]=>k (.v false [.int ik (ik.wrap n)])
  | some _,some .string,.v false [.str s]=>k (.v false [.str s])
  | some _,some .string,.v false [.int _ n]=>chk (decide (0≤n)&&decide (n<128)) (k (.v false [.str [UInt8.ofNat n.toNat]]))
  | _,_,_=>none
 | .nilCheck x=>match S.ev x with
  | .v false [.ref i j]=>k (.v false [.ref i j])
  | .v false [.cp t y j]=>k (.v false [.cp t y j])
  | .v false [.rp i sz j l]=>k (.v false [.rp i sz j l])
  | .v false [.clo g t y]=>k (.v false [.clo g t y])
  | .v false [.fn g ks]=>k (.v false [.fn g ks])
  | .v false [.hnd o j]=>o.bind fun h=>k (.v false [.hnd (some h) j])
  | _=>none
 | .fieldAddr s x f=>match X.P.underlying s,S.ev x with
  | some (.struct fs),.v false [c]=>match fs[f]? with
   | some fd=>if okT X.P fd.type&& !Nat.beq (bN X.P fd.type) 0 then (match KC fd.offset c with
    | some c=>k (.v false [c])
    | none=>none) else none
   | none=>none
  | _,_=>none
 | .field s x f=>match X.P.underlying s,S.ev x with
  | some (.struct fs),.v true cs=>match fs[f]? with
   | some fd=>jH X.P fd.type cs fd.offset k
   | none=>none
  | _,_=>none
 | .load t x=>match S.ev x with
  | .v false [.ref b off]=>match look M.boxes b with
   | some l=>jH X.P t l off k
   | none=>none
  | .v false [.cp ty y off]=>jH X.P t (unpack ty y) off k
  | .v false [.rp j sz i off]=>match look M.rows j with
   | some q=>(q.l[i]?).bind fun y=>if !q.fz&&Nat.beq sz q.t.size then jH X.P t (unpack q.t y) off k else none
   | none=>none
  | .v false [.hnd (some h) off]=>match look M.objs bF with
   | some (.ar _ ty l)=>(l[h]?).bind fun y=>jH X.P t (unpack ty y) off k
   | _=>none
  | _=>none
 | .indexAddr t x ix=>match X.P.underlying t,S.ev x,S.ev ix with
  | some (.slice e),.v false [.sl ty l],.v false [.int _ i]=>
   if okT X.P e&&Nat.beq (bN X.P e) ty.size then (idx l i).bind fun y=>k (.v false [.cp ty y 0]) else none
  | some (.slice e),.v false [.row j],.v false [.int _ i]=>match look M.rows j with
   | some q=>if okT X.P e&&Nat.beq (bN X.P e) q.t.size then
    (if q.fz then (idx q.l i).bind fun y=>k (.v false [.cp q.t y 0])
     else chk (decide (0≤i)&&decide (i<q.l.length)) (k (.v false [.rp j q.t.size i.toNat 0]))) else none
   | none=>none
  | some (.array n e),.v false [c],.v false [.int _ i]=>
   if okT X.P e then L4 n 0 i fun j=>(match KC (j*bN X.P e) c with
    | some c=>k (.v false [c])
    | none=>none) else none
  | _,_,_=>none
 | .index t x ix=>match X.P.underlying t,S.ev x,S.ev ix with
  | some .string,.v false [.str s],.v false [.int _ i]=>(mW s i).bind fun b=>k (.v false [.int .u8 b.toNat])
  | some (.array n e),.v true cs,.v false [.int _ i]=>match X.P.underlying e with
   | some (.int ik)=>match GZ ik cs with
    | some l=>if okT X.P e&&Nat.beq (bN X.P e) 1&& !oy X.P e&&Nat.beq l.length n then (idx l i).bind fun m=>k (.v false [.int ik m]) else none
    | none=>none
   | _=>none
  | _,_,_=>none
 | .extract x i=>match S.ev x with
  | .tup l=>match l[i]? with
   | some p=>k (.v p.1 p.2)
   | none=>none
  | _=>none
 | .build t parts=>match X.P.underlying t,zeroCells X.P t with
  | some (.struct fs),some z=>if !fs.all (fun f=>okT X.P f.type) then none else match Ed (Cw X.P fs) z (parts.toList.map fun p=>(p.1,S.ev p.2)) with
   | some cs=>k (.v true cs)
   | none=>none
  | some (.array _ e),some z=>if !okT X.P e then none else match Ed (fun i=>some (i*bN X.P e,bN X.P e)) z (parts.toList.map fun p=>(p.1,S.ev p.2)) with
   | some cs=>k (.v true cs)
   | none=>none
  | _,_=>none
 | .slice t x lo hi none=>match X.P.underlying t,S.ev x with
  | some .string,.v false [.str s]=>match bnd 0 (lo.map S.ev),bnd s.length (hi.map S.ev) with
   | some a,some b=>chk (decide (0≤a)&&decide (a≤b)&&decide (b≤s.length)) (k (.v false [.str ((s.take b.toNat).drop a.toNat)]))
   | _,_=>none
  | some (.slice e),.v false [.sl ty l]=>
   if okT X.P e&&Nat.beq (bN X.P e) ty.size then
   (match bnd 0 (lo.map S.ev),bnd l.length (hi.map S.ev) with
   | some a,some b=>chk (decide (0≤a)&&decide (a≤b)&&decide (b≤l.length)) (k (.v false [.sl ty ((l.take b.toNat).drop a.toNat)]))
   | _,_=>none)
   else none
  | some (.slice e),.v false [.row j]=>match look M.rows j with
   | some q=>if q.fz&&okT X.P e&&Nat.beq (bN X.P e) q.t.size then
    (match bnd 0 (lo.map S.ev),bnd q.l.length (hi.map S.ev) with
    | some a,some b=>chk (decide (0≤a)&&decide (a≤b)&&decide (b≤q.l.length)) (k (.v false [.sl q.t ((q.l.take b.toNat).drop a.toNat)]))
    | _,_=>none)
    else none
   | none=>none
  | _,_=>none
 | .makeFunc (.func g) first caps=>match allRefs (caps.toList.map S.ev) with
  | some ks=>if first.isEmpty then k (.v false [.fn g ks]) else none
  | none=>none
 | .lookup t x ix ok=>match X.P.underlying t,S.ev x with
  | some (.map kt et),.v false [.mp j]=>match look M.objs j with
   | some (.map kk vv l)=>match gH M [] kk (S.ev ix),uF X.P et vv with
    | some key,some z=>if dN X.P kt kk then
     (if ok then k (.tup [Ss vv ((bZ l key).getD z),(false,[.bool (bZ l key).isSome])]) else k (dO vv ((bZ l key).getD z))) else none
    | _,_=>none
   | _=>none
  | _,_=>none
 | .call c=>match c.callee with
  | .builtin b=>VA X.P b c S M k
  | _=>none
 | _=>none
end Go.Dn
namespace Go.Dn
variable {β:Type}
structure Del where
 sv:SV
 box:Option (List CV)
 row:Option kE
 obj:Option mF
def St.app (S:St) (d:Option Tmp) (x:Del):St:=
 match d with
 | none=>S
 | some d=>
  { tmps:=S.tmps.set d x.sv,
    boxes:=match x.box with | some c=>(d,c)::S.boxes | none=>S.boxes,
    rows:=match x.row with | some r=>(d,r)::S.rows | none=>S.rows,
    objs:=match x.obj with | some r=>(d,r)::S.objs | none=>S.objs }
def Hp:SV→Option (Option Nat)
 | .v false [.row j]=>some (some j)
 | .v false [.nils]=>some none
 | _=>none
def mK:SV→Option Nat
 | .v false [.ref k o]=>if Nat.beq o 0 then some k else none
 | _=>none
def Ho:SV→Option Nat
 | .v false [.mp j]=>some j
 | _=>none
def fZ (S:St) (e:TypeId) (t:Ty):CV→Option (List t.den)
 | .row j=>match look S.rows j with
  | some q=>if q.fz|| !Nat.beq q.e e then none else pH (b:=t) q.l
  | none=>none
 | .nils=>some []
 | _=>none
def mj (S:St) (k v:Ty):CV→Option (List (k.den×v.den))
 | .mp j=>match look S.objs j with
  | some (.map _ _ l)=>Uv l
  | _=>none
 | _=>none
def pJ:SV→Option CV
 | .v false [c]=>some c
 | _=>none
def lC (S:St):(l:List OT)→List CV→Option (jX l)
 | [],[]=>some ()
 | [],_::_=>none
 | .val t::r,cs=>match pack S t cs with
  | some (x,cs')=>match lC S r cs' with
   | some y=>some (x,y)
   | none=>none
  | none=>none
 | .row e t::r,c::cs=>match fZ S e t c with
  | some x=>match lC S r cs with
   | some y=>some (x,y)
   | none=>none
  | none=>none
 | .row _ _::_,[]=>none
 | .map k v::r,c::cs=>match mj S k v c with
  | some x=>match lC S r cs with
   | some y=>some (x,y)
   | none=>none
  | none=>none
 | .map _ _::_,[]=>none
def si (S:St) (fz:Bool) (t:Ty):Option (List t.den):=
 match look S.objs bF with
 | some (.ar f _ l)=>if f&& !fz then none else pH (b:=t) l
 | _=>none
def uB (S:St) (fb:List Nat) (p:PM) (s:SV):Option p.den:=
 match p with
 | .val t=>gH S fb t s
 | .row e t=>match pJ s with | some c=>fZ S e t c | none=>none
 | .mrow e t=>match pJ s with | some c=>fZ S e t c | none=>none
 | .map k v=>match pJ s with | some c=>mj S k v c | none=>none
 | .box l=>match mK s with
  | some k=>match look S.boxes k with
   | some cs=>lC S l cs
   | none=>none
  | none=>none
 | .ar t=>si S false t
 | .arR t=>si S true t
def fL (S:St) (fb:List Nat):(ps:List PM)→List SV→Option (dX ps)
 | [],[]=>some ()
 | [],_::_=>none
 | p::r,l=>match (bif p.arg then l.head? else some (.v false [.any])) with
  | some s=>match uB S fb p s with
   | some x=>match fL S fb r (bif p.arg then l.tail else l) with
    | some y=>some (x,y)
    | none=>none
   | none=>none
  | none=>none
def PM.isVal:PM→Bool
 | .val _=>true
 | .arR _=>true
 | _=>false
def ET:List RM→Bool
 | []=>true
 | .val _::r=>ET r
 | _=>false
def Ie (ps:List PM):(rs:List RM)→cG ps rs→List (Bool×List CV)
 | [],_=>[]
 | .val t::r,x=>Ss t x.1::Ie ps r x.2
 | .row _ _::r,x=>(false,[.any])::Ie ps r x.2
 | .map _ _::r,x=>(false,[.any])::Ie ps r x.2
 | .box _::r,x=>(false,[.any])::Ie ps r x.2
def DM:List (Bool×List CV)→SV
 | [p]=> .v p.1 p.2
 | []=> .v false [.any]
 | l=> .tup l
def cT (S:St) (c:Call):Option (Nat×List SV):=
 match c.callee with
 | .value f=>match S.ev f with
  | .v false [.fn g ks]=>some (g,c.args.toList.map S.ev++ks.map fun k=> .v false [.ref k 0])
  | .v false [.clo g t x]=>some (g,c.args.toList.map S.ev++(unpack t x).map fun c=> .v false [c])
  | _=>none
 | _=>none
def LN:List SV→List Nat
 | []=>[]
 | .v _ cs::r=>(cs.flatMap fun | .ref k _=>[k] | .fn _ ks=>ks | _=>[])++LN r
 | .tup _::r=>LN r
def ff (cs:List CV):List Nat:=cs.filterMap fun | .row j=>some j | _=>none
def CB:List SV→List Nat
 | []=>[]
 | .v _ cs::r=>ff cs++CB r
 | .tup _::r=>CB r
def um (S:St):List Nat→List Nat
 | []=>[]
 | k::r=>(match look S.boxes k with | some cs=>ff cs | none=>[])++um S r
def KZ (S:St):List Nat→List Nat
 | []=>[]
 | k::r=>(match look S.boxes k with | some cs=>LN [.v false cs] | none=>[])++KZ S r
def fV (S:St) (args:List SV):List Nat:=LN args++KZ S (LN args)
def dR (S:St) (args:List SV):List Nat:=CB args++um S (fV S args)
def aR (S:St) (js:List Nat):St:=
 { S with rows:=js.foldl (fun rs j=>match look rs j with | some q=>(j,{ q with fz:=true })::rs | none=>rs) S.rows }
def Du (S:St) (args:List SV):Bool:=(fV S args).isEmpty&&((CB args).all fun j=>match look S.rows j with | some q=>q.fz | none=>true)
def DG:List RM→Bool
 | []=>true
 | .val t::r=>t.flat&&DG r
 | _=>false
def TL (sp:ay) (M:St) (args:List SV) (k:SV→Option β):Option β:=
 if sp.ps.all PM.isVal&&ET sp.rs&&(DG sp.rs||(Du M args&&sp.ps.all PM.arg)) then
  match fL (aR M (dR M args)) (fV M args) sp.ps args with
  | some x=>(sp.m x).bind fun y=>k (DM (Ie sp.ps sp.rs y))
  | none=>none
 else none
def z8 (S:St) (t:Ty):List SV→Option (List t.den)
 | []=>some []
 | s::r=>match gH S [] t s with
  | some x=>match z8 S t r with
   | some l=>some (x::l)
   | none=>none
  | none=>none
def Ww (d:Nat) (ps:List PM):(rs:List RM)→cG ps rs→(Del→Option β)→Option β
 | [.row e t],x,k=>k ⟨.v false [.row d],none,some ⟨false,e,t,x.1⟩,none⟩
 | [.row e t,.map kk vv],x,k=>k ⟨.tup [(false,[.row d]),(false,[.mp d])],none,some ⟨false,e,t,x.1⟩,some (.map kk vv x.2.1)⟩
 | _,_,_=>none
def Zc:List RM→Bool
 | [.row _ _]=>true
 | [.row _ _,.map _ _]=>true
 | _=>false
def qC:List RM→Bool
 | [.row _ t]=>t.flat
 | [.row _ t,.map kk vv]=>t.flat&&(kk.flat&&vv.flat)
 | _=>false
def Mz (sp:ay) (S M:St) (args:List SV) (d:Nat) (k:Del→Option β):Option β:=
 if sp.ps.all PM.isVal&&(qC sp.rs||(Du M args&&sp.ps.all PM.arg))&& !S.bn d&&Nat.blt d 2000&& !S.bG d&& !S.bw d then
  match fL (aR M (dR M args)) (fV M args) sp.ps args with
  | some x=>(sp.m x).bind fun y=>Ww d sp.ps sp.rs y k
  | none=>none
 else none
def L6 (X:Cx) (o:Oper) (t:TypeId) (len:Nat) (parts:Array (Nat×Operand)) (S M:St) (k:Del→Option β):Option β:=
 match X.P.underlying t,o.dst with
 | some (.slice e),some d=>match E4 X.P 9 e,zeroCells X.P e with
  | some ty,some _=>
   if S.bn d|| !Nat.blt d 2000|| !Nat.beq parts.size len|| !((parts.toList.map (·.1))==List.range len)|| !Nat.beq (bN X.P e) ty.size||Nat.beq ty.size 0|| !Nat.ble (len*ty.size) 16777216 then none else
   match z8 M ty (parts.toList.map fun p=>S.ev p.2) with
   | some l=>k ⟨.v false [.row d],none,some ⟨false,e,ty,l⟩,none⟩
   | none=>none
  | _,_=>none
 | _,_=>none
def V8 (X:Cx) (o:Oper):Bool:=match o.dst with
 | some d=>(match look X.keys (100000+d) with | some .own=>true | _=>false)
 | none=>false
def Rp (X:Cx) (S M:St) (f:Nat) (args:List SV) (d:Option Tmp) (k:Del→Option β):Option β:=
 match look X.keys f with
 | some (.mk g)=>match args with
  | [.v false [.mp j]]=>k ⟨.v false [.kseq g j],none,none,none⟩
  | _=>none
 | some (.srt g _ e)=>match args,d with
  | [.v false [.kseq g' j]],some d=>match look M.objs j with
   | some (.map (.int .i64) _ l)=>if Nat.beq g g'&& !S.bn d&&Nat.blt d 2000 then chk (V2 l) (k ⟨.v false [.row d],none,some ⟨false,e,.int .i64,P7 l⟩,none⟩) else none
   | _=>none
  | _,_=>none
 | some (.srt2 g _ e cl cf)=>match args,d with
  | [.v false [.kseq g' j],.v false [.fn cl' []]],some d=>match look M.objs j with
   | some (.map (.st (.pair .str .str)) _ l)=>if Nat.beq g g'&&Nat.beq cl cl'&& !S.bn d&&Nat.blt d 2000 then chk (uy cf l) (k ⟨.v false [.row d],none,some ⟨false,e,.st (.pair .str .str),gP cf l⟩,none⟩) else none
   | _=>none
  | _,_=>none
 | some (.cop sz lo b e t)=>match args,d with
  | [.v true cs],some d=>match cs[lo]? with
   | some (.sl t' l)=>match pH (b:=t) (show List t'.den from l) with
    | some l=>if !Nat.beq cs.length sz||(S.bn d||(cs.any (CV.bn d)|| !Nat.blt d 2000)) then none else
     chk (decide (l.length*b≤140737488355328)&&decide (l.length≤maxLen)) (k ⟨.v true (cs.set lo (.row d)),none,some ⟨false,e,t,l⟩,none⟩)
    | none=>none
   | _=>none
  | _,_=>none
 | _=>none
def dz (X:Cx) (o:Oper) (S M:St) (k:Del→Option β):Option β:=
 match o.op with
 | .alloc t=>match zeroCells X.P t,o.dst with
  | some z,some d=>if S.bS d||z.any (CV.bS d)|| !Nat.blt d 2000 then none else k ⟨.v false [.ref d 0],some z,none,none⟩
  | _,_=>none
 | .box t x=>match S.ev x,o.dst with
  | .v a cs,some d=>if S.bS d||cs.any (CV.bS d)|| !Nat.blt d 2000|| !Nat.beq cs.length (bN X.P t)||(a != oy X.P t)|| !cs.all CV.ok then none else k ⟨.v false [.ref d 0],some cs,none,none⟩
  | _,_=>none
 | .buildSlice t len parts=>if V8 X o then L6 X o t len parts S M k else match X.P.underlying t with
  | some (.slice e)=>match E4 X.P 9 e,zeroCells X.P e with
   | some ty,some _=>
    if !Nat.beq parts.size len|| !((parts.toList.map (·.1))==List.range len)|| !Nat.beq (bN X.P e) ty.size||Nat.beq ty.size 0|| !Nat.ble (len*ty.size) 16777216 then none else
    match z8 M ty (parts.toList.map fun p=>S.ev p.2) with
    | some l=>k ⟨.v false [.sl ty l],none,none,none⟩
    | none=>none
   | _,_=>none
  | _=>none
 | .makeSlice t l c=>match X.P.underlying t,o.dst,S.ev l,S.ev c with
  | some (.slice e),some d,.v false [.int _ l],.v false [.int _ c]=>match E4 X.P 9 e with
   | some ty=>match uF X.P e ty with
    | some z=>
     if S.bn d|| !Nat.blt d 2000|| !Nat.beq (bN X.P e) ty.size||Nat.beq ty.size 0 then none else
     chk (decide (0≤l)&&decide (l≤c)&&decide (((((X.P.info? e).map (·.bytes)).getD 0:Nat):Int)*c≤281474976710656)&&decide (c≤9223372036854775807)) (k ⟨.v false [.row d],none,some ⟨false,e,ty,List.replicate l.toNat z⟩,none⟩)
    | _=>none
   | _=>none
  | _,_,_,_=>none
 | .makeMap t none=>match X.P.underlying t,o.dst with
  | some (.map kt et),some d=>match E4 X.P 9 kt,E4 X.P 9 et with
   | some kk,some vv=>if S.bG d||S.bw d|| !dN X.P kt kk|| !Nat.blt d 2000 then none else k ⟨.v false [.mp d],none,none,some (.map kk vv [])⟩
   | _,_=>none
  | _,_=>none
 | .call c=>match cT S c with
  | some (f,args)=>match look X.specs f with
   | some sp=>if Zc sp.rs then (match o.dst with | some d=>Mz sp S M args d k | none=>none) else TL sp M args fun s=>k ⟨s,none,none,none⟩
   | none=>Rp X S M f args o.dst k
  | none=>cn X o S M fun s=>k ⟨s,none,none,none⟩
 | _=>cn X o S M fun s=>k ⟨s,none,none,none⟩
def bp.beq:bp→bp→Bool
 | .inl a,.inl b=>Nat.beq a b
 | .inr a,.inr b=>Nat.beq a b
 | .ob a,.ob b=>Nat.beq a b
 | _,_=>false
def bK:List (bp×Nat)→bp→Option Nat
 | [],_=>none
 | (o,n)::r,x=>bif bp.beq o x then some n else bK r x
def wu:List (bp×Nat)→Bool
 | []=>false
 | (o,_)::r=>(bK r o).isSome||wu r
def lB (n:Nat):CV→List (bp×Nat)
 | .row j=>[(.inr j,n)]
 | .mp j=>[(.ob j,n)]
 | _=>[]
def mL (n:Nat):List OT→List CV→List (bp×Nat)
 | .val t::r,cs=>mL (n+1) r (cs.drop t.size)
 | .row _ _::r,c::cs=>lB n c++mL (n+1) r cs
 | .map _ _::r,c::cs=>lB n c++mL (n+1) r cs
 | _,_=>[]
def gK (S:St) (i:Nat) (p:PM) (s:SV):List (bp×Nat):=
 match p with
 | .row _ _=>match pJ s with | some c=>lB (64*i) c | none=>[]
 | .mrow _ _=>match pJ s with | some c=>lB (64*i) c | none=>[]
 | .map _ _=>match pJ s with | some c=>lB (64*i) c | none=>[]
 | .box l=>match mK s with
  | some k=>(.inl k,64*i)::(match look S.boxes k with | some cs=>mL (64*i+1) l cs | none=>[])
  | none=>[]
 | .ar _=>[(.ob bF,64*i)]
 | _=>[]
def dS (S:St):Nat→List PM→List SV→List (bp×Nat)
 | _,[],_=>[]
 | i,p::r,l=>(match (bif p.arg then l.head? else some (.v false [.any])) with
  | some s=>gK S i p s
  | none=>[])++dS S (i+1) r (bif p.arg then l.tail else l)
def gu:List PM→List SV→List SV
 | .val _::r,s::q=>s::gu r q
 | .ar _::r,q=>gu r q
 | .arR _::r,q=>gu r q
 | _::r,_::q=>gu r q
 | _,_=>[]
def oA:List OT→Bool
 | []=>true
 | .val t::r=>t.flat&&oA r
 | .row _ t::r=>t.flat&&oA r
 | .map k v::r=>k.flat&&v.flat&&oA r
def fG:List PM→Bool
 | []=>true
 | .mrow _ t::r=>t.flat&&fG r
 | .map k v::r=>k.flat&&v.flat&&fG r
 | .box l::r=>oA l&&fG r
 | .ar t::r=>t.flat&&fG r
 | _::r=>fG r
def gq:List RM→Bool
 | []=>true
 | .val t::r=>t.flat&&gq r
 | .row _ t::r=>t.flat&&gq r
 | .map k v::r=>k.flat&&v.flat&&gq r
 | .box l::r=>oA l&&gq r
def dup:List Nat→Bool
 | []=>false
 | x::r=>r.any (Nat.beq x)||dup r
def nid (d i c:Nat):Nat:=10000+2048*d+64*i+c
def Hq (d i:Nat):Nat→(l:List OT)→jX l→List CV
 | _,[],_=>[]
 | c,.val t::r,x=>unpack t x.1++Hq d i (c+1) r x.2
 | c,.row _ _::r,x=> .row (nid d i c)::Hq d i (c+1) r x.2
 | c,.map _ _::r,x=> .mp (nid d i c)::Hq d i (c+1) r x.2
def oB (d i:Nat):Nat→(l:List OT)→jX l→List (Nat×kE)
 | _,[],_=>[]
 | c,.val _::r,x=>oB d i (c+1) r x.2
 | c,.row e t::r,x=>(nid d i c,⟨false,e,t,x.1⟩)::oB d i (c+1) r x.2
 | c,.map _ _::r,x=>oB d i (c+1) r x.2
def jJ (d i:Nat):Nat→(l:List OT)→jX l→List (Nat×mF)
 | _,[],_=>[]
 | c,.val _::r,x=>jJ d i (c+1) r x.2
 | c,.row _ _::r,x=>jJ d i (c+1) r x.2
 | c,.map k v::r,x=>(nid d i c,.map k v x.1)::jJ d i (c+1) r x.2
def yo (ps:List PM) (d:Nat):(rs:List RM)→Nat→cG ps rs→List (Bool×List CV)
 | [],_,_=>[]
 | .val t::r,c,x=>Ss t x.1::yo ps d r (c+1) x.2
 | .row _ _::r,c,x=>(false,[.row (nid d (24+c) 0)])::yo ps d r (c+1) x.2
 | .map _ _::r,c,x=>(false,[.mp (nid d (24+c) 0)])::yo ps d r (c+1) x.2
 | .box _::r,c,x=>(false,[.ref d 0])::yo ps d r (c+1) x.2
def oD (ps:List PM) (d:Nat):(rs:List RM)→Nat→cG ps rs→List (Nat×kE)
 | [],_,_=>[]
 | .val _::r,c,x=>oD ps d r (c+1) x.2
 | .row e t::r,c,x=>(nid d (24+c) 0,⟨false,e,t,x.1⟩)::oD ps d r (c+1) x.2
 | .map _ _::r,c,x=>oD ps d r (c+1) x.2
 | .box l::r,c,x=>oB d (24+c) 1 l x.1++oD ps d r (c+1) x.2
def iX (ps:List PM) (d:Nat):(rs:List RM)→Nat→cG ps rs→List (Nat×mF)
 | [],_,_=>[]
 | .val _::r,c,x=>iX ps d r (c+1) x.2
 | .row _ _::r,c,x=>iX ps d r (c+1) x.2
 | .map k v::r,c,x=>(nid d (24+c) 0,.map k v x.1)::iX ps d r (c+1) x.2
 | .box l::r,c,x=>jJ d (24+c) 1 l x.1++iX ps d r (c+1) x.2
def oC (ps:List PM) (d:Nat):(rs:List RM)→Nat→cG ps rs→List (Nat×List CV)
 | [],_,_=>[]
 | .val _::r,c,x=>oC ps d r (c+1) x.2
 | .row _ _::r,c,x=>oC ps d r (c+1) x.2
 | .map _ _::r,c,x=>oC ps d r (c+1) x.2
 | .box l::r,c,x=>(d,Hq d (24+c) 1 l x.1)::oC ps d r (c+1) x.2
def EH (ps:List PM):(rs:List RM)→cG ps rs→dL ps
 | [],x=>x
 | _::r,x=>EH ps r x.2
def AD:List RM→Nat
 | []=>0
 | .box _::r=>AD r+1
 | _::r=>AD r
def cW (d:Nat):Nat→(ps:List PM)→List SV→dL ps→List (Nat×List CV)
 | _,[],_,_=>[]
 | i,.box l::r,s::q,x=>(match mK s with | some k=>[(k,Hq d i 1 l x.1)] | none=>[])++cW d (i+1) r q x.2
 | i,.mrow _ _::r,_::q,x=>cW d (i+1) r q x.2
 | i,.map _ _::r,_::q,x=>cW d (i+1) r q x.2
 | i,.ar _::r,q,x=>cW d (i+1) r q x.2
 | i,.val _::r,_::q,x=>cW d (i+1) r q x
 | i,.row _ _::r,_::q,x=>cW d (i+1) r q x
 | i,.arR _::r,q,x=>cW d (i+1) r q x
 | _,_::_,[],_=>[]
def eV (d:Nat):Nat→(ps:List PM)→List SV→dL ps→List (Nat×kE)
 | _,[],_,_=>[]
 | i,.box l::r,s::q,x=>(match mK s with | some _=>oB d i 1 l x.1 | none=>[])++eV d (i+1) r q x.2
 | i,.mrow e t::r,s::q,x=>(match Hp s with | some (some j)=>[(j,⟨false,e,t,x.1⟩)] | _=>[])++eV d (i+1) r q x.2
 | i,.map _ _::r,_::q,x=>eV d (i+1) r q x.2
 | i,.ar _::r,q,x=>eV d (i+1) r q x.2
 | i,.val _::r,_::q,x=>eV d (i+1) r q x
 | i,.row _ _::r,_::q,x=>eV d (i+1) r q x
 | i,.arR _::r,q,x=>eV d (i+1) r q x
 | _,_::_,[],_=>[]
def cR (d:Nat):Nat→(ps:List PM)→List SV→dL ps→List (Nat×mF)
 | _,[],_,_=>[]
 | i,.box l::r,s::q,x=>(match mK s with | some _=>jJ d i 1 l x.1 | none=>[])++cR d (i+1) r q x.2
 | i,.mrow _ _::r,_::q,x=>cR d (i+1) r q x.2
 | i,.map k v::r,s::q,x=>(match Ho s with | some j=>[(j,.map k v x.1)] | _=>[])++cR d (i+1) r q x.2
 | i,.ar t::r,q,x=>(bF,.ar false t x.1)::cR d (i+1) r q x.2
 | i,.val _::r,_::q,x=>cR d (i+1) r q x
 | i,.row _ _::r,_::q,x=>cR d (i+1) r q x
 | i,.arR _::r,q,x=>cR d (i+1) r q x
 | _,_::_,[],_=>[]
def CV.gx (a b:Nat):CV→Bool
 | .row j=>Nat.ble a j&&Nat.blt j b
 | .rp j _ _ _=>Nat.ble a j&&Nat.blt j b
 | .mp j=>Nat.ble a j&&Nat.blt j b
 | .stp j _=>Nat.ble a j&&Nat.blt j b
 | .kseq _ j=>Nat.ble a j&&Nat.blt j b
 | _=>false
def SV.gx (a b:Nat):SV→Bool
 | .v _ cs=>cs.any (CV.gx a b)
 | .tup l=>l.any fun p=>p.2.any (CV.gx a b)
def St.gx (a b:Nat) (S:St):Bool:=S.tmps.any (SV.gx a b)||S.boxes.any fun p=>p.2.any (CV.gx a b)
def Ap (d:Nat) (S:St):Bool:= !S.gx (nid d 0 0) (nid (d+1) 0 0)
def dD (d i:Nat):Nat→List OT→List (bp×Nat)
 | _,[]=>[]
 | c,.val _::r=>dD d i (c+1) r
 | c,.row _ _::r=>(.inr (nid d i c),64*i+c)::dD d i (c+1) r
 | c,.map _ _::r=>(.ob (nid d i c),64*i+c)::dD d i (c+1) r
def bY (d:Nat):Nat→List PM→List SV→List (bp×Nat)
 | _,[],_=>[]
 | i,.box l::r,s::q=>(match mK s with | some k=>(.inl k,64*i)::dD d i 1 l | none=>[])++bY d (i+1) r q
 | i,.mrow _ _::r,s::q=>(match Hp s with | some (some j)=>[(.inr j,64*i)] | _=>[])++bY d (i+1) r q
 | i,.map _ _::r,s::q=>(match Ho s with | some j=>[(.ob j,64*i)] | _=>[])++bY d (i+1) r q
 | i,.ar _::r,q=>(.ob bF,64*i)::bY d (i+1) r q
 | i,.val _::r,_::q=>bY d (i+1) r q
 | i,.row _ _::r,_::q=>bY d (i+1) r q
 | i,.arR _::r,q=>bY d (i+1) r q
 | _,_::_,[]=>[]
def dA (d:Nat):Nat→List RM→List (bp×Nat)
 | _,[]=>[]
 | c,.val _::r=>dA d (c+1) r
 | c,.row _ _::r=>(.inr (nid d (24+c) 0),64*(24+c))::dA d (c+1) r
 | c,.map _ _::r=>(.ob (nid d (24+c) 0),64*(24+c))::dA d (c+1) r
 | c,.box l::r=>((.inl d,64*(24+c))::dD d (24+c) 1 l)++dA d (c+1) r
def uV:List PM→Bool
 | []=>false
 | .arR _::_=>true
 | _::r=>uV r
def Ro (S:St) (l:List (bp×Nat)):Bool:=l.all fun p=>match p.1 with | .ob j=> !S.bw j | _=>true
def XH (d:Nat) (l:List (bp×Nat)):Bool:=l.all fun p=>match p.1 with
 | .inr j=> !(Nat.ble (nid d 0 0) j&&Nat.blt j (nid (d+1) 0 0))
 | .ob j=> !(Nat.ble (nid d 0 0) j&&Nat.blt j (nid (d+1) 0 0))
 | .inl _=>true
def mG (sp:ay) (S:St) (args:List SV) (d:Option Tmp) (k:St→Option β):Option β:=
 let va:=gu sp.ps args
 let js:=dR S va
 let V:=aR S js
 let ow:=dS S 0 sp.ps args
 let fb:=fV S va
 let dd:=d.getD 0
 let fl:=gq sp.rs&&fG sp.ps
 let its:=bY dd 0 sp.ps args++dA dd 0 sp.rs
 if wu ow||wu its||dup (its.map (·.2))|| !(its.all fun p=>Nat.blt p.2 2048)||(fb.any fun k=>(bK ow (.inl k)).isSome)||(js.any fun j=>(bK ow (.inr j)).isSome)||(uV sp.ps&&(bK ow (.ob bF)).isSome)|| !Ap dd S|| !XH dd ow|| !Ro S its||
  !(fl||(fb.isEmpty&& !uV sp.ps))||(Nat.blt 0 (AD sp.rs)&&(S.bS dd||d.isNone))|| !Nat.blt dd 2000 then none else
 match fL V fb sp.ps args with
 | some x=>(sp.m x).bind fun y=>
  let R:=if fl then S else V
  let b:=EH sp.ps sp.rs y
  k { tmps:=match d with | some d=>S.tmps.set d (DM (yo sp.ps dd sp.rs 0 y)) | none=>S.tmps,
      boxes:=oC sp.ps dd sp.rs 0 y++(cW dd 0 sp.ps args b++S.boxes.filter fun p=>(bK ow (.inl p.1)).isNone),
      rows:=oD sp.ps dd sp.rs 0 y++(eV dd 0 sp.ps args b++R.rows.filter fun p=>(bK ow (.inr p.1)).isNone),
      objs:=iX sp.ps dd sp.rs 0 y++(cR dd 0 sp.ps args b++S.objs.filter fun p=>(bK ow (.ob p.1)).isNone) }
 | none=>none
def Za {α:Type} (a:Option α) (k:α→Option β) (e:Option β):Option β:=
 match a with
 | some y=>k y
 | none=>e
def JO (sp:ay) (S:St) (args:List SV) (d:Option Tmp) (k:St→Option β) (e:Option β):Option β:=
 let va:=gu sp.ps args
 let js:=dR S va
 let V:=aR S js
 let ow:=dS S 0 sp.ps args
 let fb:=fV S va
 let dd:=d.getD 0
 let fl:=gq sp.rs&&fG sp.ps
 let its:=bY dd 0 sp.ps args++dA dd 0 sp.rs
 if wu ow||wu its||dup (its.map (·.2))|| !(its.all fun p=>Nat.blt p.2 2048)||(fb.any fun k=>(bK ow (.inl k)).isSome)||(js.any fun j=>(bK ow (.inr j)).isSome)||(uV sp.ps&&(bK ow (.ob bF)).isSome)|| !Ap dd S|| !XH dd ow|| !Ro S its||
  !(fl||(fb.isEmpty&& !uV sp.ps))||(Nat.blt 0 (AD sp.rs)&&(S.bS dd||d.isNone))|| !Nat.blt dd 2000 then none else
 match fL V fb sp.ps args with
 | some x=>Za (sp.m x) (fun y=>
  let R:=if fl then S else V
  let b:=EH sp.ps sp.rs y
  k { tmps:=match d with | some d=>S.tmps.set d (DM (yo sp.ps dd sp.rs 0 y)) | none=>S.tmps,
      boxes:=oC sp.ps dd sp.rs 0 y++(cW dd 0 sp.ps args b++S.boxes.filter fun p=>(bK ow (.inl p.1)).isNone),
      rows:=oD sp.ps dd sp.rs 0 y++(eV dd 0 sp.ps args b++R.rows.filter fun p=>(bK ow (.inr p.1)).isNone),
      objs:=iX sp.ps dd sp.rs 0 y++(cR dd 0 sp.ps args b++S.objs.filter fun p=>(bK ow (.ob p.1)).isNone) }) e
 | none=>none
def q7 {α:Type}:List (Nat×α)→Nat→List α
 | [],_=>[]
 | (j,x)::r,k=>bif Nat.beq j k then x::q7 r k else q7 r k
def wk (S:St) (args:List SV) (d:Option Tmp) (k:St→Option β):List ay→Option β
 | []=>none
 | [sp]=>mG sp S args d k
 | sp::sp'::r=>JO sp S args d k (wk S args d k (sp'::r))
def KL (S:St) (e:TypeId) (ty:Ty):CV→Option (List ty.den×Option Nat)
 | .nils=>some ([],none)
 | .row j=>match look S.rows j with
  | some q=>if q.fz|| !Nat.beq q.e e then none else (match pH (b:=ty) q.l with | some l=>some (l,some j) | none=>none)
  | none=>none
 | _=>none
def Ge (S:St) (ty:Ty):CV→Option (List ty.den)
 | .nils=>some []
 | .sl _ l=>pH (b:=ty) l
 | .row j=>match look S.rows j with
  | some q=>pH (b:=ty) q.l
  | none=>none
 | _=>none
def qM (P:Program) (t:TypeId) (S:St) (b off:Nat) (cs:List CV) (k:St→Option β):Option β:=
 match look S.boxes b with
 | some l=>if okT P t&&Nat.beq cs.length (bN P t)&&cs.all CV.ok then (match setAt l off cs with
  | some l=>k { S with boxes:=(b,l)::S.boxes }
  | none=>none) else none
 | none=>none
def w5 (P:Program) (t:TypeId) (S:St) (j sz i off:Nat) (cs:List CV) (k:St→Option β):Option β:=
 match look S.rows j with
 | some q=>if q.fz|| !Nat.beq sz q.t.size|| !okT P t|| !Nat.beq cs.length (bN P t)|| !cs.all CV.ok then none else
  (q.l[i]?).bind fun y=>match setAt (unpack q.t y) off cs with
  | some cs=>match fK (pack S q.t cs) with
   | some y=>k { S with rows:=(j,{ q with l:=q.l.set i y })::S.rows }
   | none=>none
  | none=>none
 | none=>none
def Ab (P:Program) (t:TypeId) (S:St) (h off:Nat) (cs:List CV) (k:St→Option β):Option β:=
 match look S.objs bF with
 | some (.ar false ty l)=>if !okT P t|| !Nat.beq cs.length (bN P t)|| !cs.all CV.ok then none else
  (l[h]?).bind fun y=>match setAt (unpack ty y) off cs with
  | some cs=>match fK (pack S ty cs) with
   | some y=>k { S with objs:=(bF,.ar false ty (l.set h y))::S.objs }
   | none=>none
  | none=>none
 | _=>none
def CV.s9 (k h:Nat):CV→CV
 | .ref j o=>bif Nat.beq j k then .hnd (some h) o else .ref j o
 | c=>c
def SV.s9 (k h:Nat):SV→SV
 | .v a cs=> .v a (cs.map (CV.s9 k h))
 | .tup l=> .tup (l.map fun p=>(p.1,p.2.map (CV.s9 k h)))
def CV.Ef (k:Nat):CV→Bool
 | .fn _ ks=>ks.any (Nat.beq · k)
 | _=>false
def SV.Ef (k:Nat):SV→Bool
 | .v _ cs=>cs.any (CV.Ef k)
 | .tup l=>l.any fun p=>p.2.any (CV.Ef k)
def St.Ef (k:Nat) (S:St):Bool:=S.tmps.any (SV.Ef k)||S.boxes.any fun p=>p.2.any (CV.Ef k)
def z6 (S0:St) (k:Nat):St:=
 match look S0.objs bF,look S0.boxes k with
 | some (.ar false t l),some cs=>
  let S:=aR S0 (ff cs)
  if S.Ef k|| !Nat.blt k 2000 then S0 else
  match fK (pack S t cs) with
  | some x=>
   { tmps:=S.tmps.map (SV.s9 k l.length),boxes:=(S.boxes.filter fun p=> !Nat.beq p.1 k).map (fun p=>(p.1,p.2.map (CV.s9 k l.length))),rows:=S.rows,objs:=(bF,.ar false t (l++[x]))::S.objs }
  | none=>S0
 | _,_=>S0
def Wv (cs:List CV):List Nat:=cs.filterMap fun | .ref k o=>(if Nat.beq o 0 then some k else none) | _=>none
def gv (S:St):List SV→St
 | []=>S
 | .v _ cs::r=>gv ((Wv cs).foldl z6 S) r
 | .tup _::r=>gv S r
def wq (S:St) (d:Option Tmp):St:=
 match d with
 | some d=>(match S.tmps.getD d (.v false [.any]) with
  | .v false [.ref k _]=>bif Nat.beq k d then { S with tmps:=S.tmps.set d (.v false [.any]) } else S
  | _=>S)
 | none=>S
def HY (E:vZ) (S:St) (args:List SV) (d:Option Tmp) (k:St→Option β):Option β:=
 match E with
 | .elt lo nb tb te m=>match args with
  | [.v false [.ref kb o],.v false [.rp j sz i off]]=>
   if !Nat.beq o 0|| !Nat.beq off 0 then none else
   match look S.boxes kb,look S.rows j with
   | some cs,some q=>
    if q.fz|| !Nat.beq sz te.size|| !Nat.beq cs.length nb then none else
    match cs[lo]? with
    | some (.sl _ l)=>match pH (b:=tb) l,pH (b:=te) q.l with
     | some l,some ql=>(m l ql i).bind fun ql'=>k ((⟨S.tmps,(kb,cs)::S.boxes,(j,⟨false,q.e,te,ql'⟩)::S.rows,S.objs⟩:St).put d (.v false [.any]))
     | _,_=>none
    | _=>none
   | _,_=>none
  | _=>none
 | .nest p sp=>match args[p]? with
  | some (.v false [.ref km o])=>
   if !Nat.beq o 0|| !S.bS km then none else
   match look S.boxes km with
   | some [.ref kk o2]=>
    if !Nat.beq o2 0||inL (fV S (gu sp.ps (args.set p (.v false [.ref kk 0])))) km||(bK (dS S 0 sp.ps (args.set p (.v false [.ref kk 0]))) (.inl km)).isSome then none else
    mG sp S (args.set p (.v false [.ref kk 0])) d fun S'=>match look S'.boxes km with
     | some [.ref k' o']=>if Nat.beq k' kk&&Nat.beq o' 0&&S.bS kk then k S' else none
     | _=>none
   | _=>none
  | _=>none
 | _=>none
def vZ.XE:vZ→Bool
 | .elt _ _ _ _ _=>true
 | .nest _ _=>true
 | _=>false
def cq (X:Cx) (o:Oper) (S:St) (k:St→Option β):Option β:=
 match o.op with
 | .store t a x=>if o.dst.isSome then none else match S.ev a,S.ev x with
  | .v false [.ref b off],.v _ cs=>qM X.P t S b off cs k
  | .v false [.rp j sz i off],.v _ cs=>w5 X.P t (aR S (ff cs)) j sz i off cs k
  | .v false [.hnd (some h) off],.v _ cs=>Ab X.P t (aR S (ff cs)) h off cs k
  | _,_=>none
 | .mapUpdate t m kx x=>if o.dst.isSome then none else
  let S:=gv (aR S (CB [S.ev x])) [S.ev x]
  match X.P.underlying t,S.ev m with
  | some (.map kt _),.v false [.mp j]=>match look S.objs j with
   | some (.map kk vv l)=>match gH S [] kk (S.ev kx),gH S [] vv (S.ev x) with
    | some key,some y=>if dN X.P kt kk&& !S.bw j then k { S with objs:=(j,.map kk vv (gJ l key y))::S.objs } else none
    | _,_=>none
   | _=>none
  | _,_=>none
 | .slice _ x _ _ _=>
  let S:=aR S (CB [S.ev x])
  dz X o S S fun x=>k (S.app o.dst x)
 | .alloc _=>dz X o (wq S o.dst) (wq S o.dst) fun x=>k ((wq S o.dst).app o.dst x)
 | .call { callee:= .builtin .append,args,argTypes }=>match args.toList.map S.ev,argTypes.toList,o.dst with
  | [.v false [s],.v false [x]],[t,t'],some d=>match X.P.underlying t with
   | some (.slice e)=>match E4 X.P 9 e,zeroCells X.P e with
    | some ty,some zc=>
     if S.bn d|| !Nat.blt d 2000|| !Nat.beq t t'|| !Nat.beq (bN X.P e) ty.size||Nat.beq ty.size 0|| !Nat.beq zc.length ty.size then none else
     match KL S e ty s,Ge S ty x with
     | some (l,j),some l'=>
      chk (decide ((l.length+l'.length)*(((X.P.info? e).map (·.bytes)).getD 0)≤140737488355328)&&decide (l.length+l'.length≤maxLen))
       (k { tmps:=S.tmps.set d (.v false [.row d]),boxes:=S.boxes,rows:=(d,⟨false,e,ty,l++l'⟩)::(match j with | some j=>S.rows.filter (fun p=> !Nat.beq p.1 j) | none=>S.rows),objs:=S.objs })
     | _,_=>none
    | _,_=>none
   | _=>none
  | _,_,_=>none
 | .buildSlice t len parts=>
  let S:=gv (aR S (CB (parts.toList.map fun p=>S.ev p.2))) (parts.toList.map fun p=>S.ev p.2)
  L6 X o t len parts S S fun x=>k (S.app o.dst x)
 | .call c=>match cT S c with
  | some (f,args)=>match look X.keys f with
   | some kf=>if kf.XE then HY kf S args o.dst k else dz X o S S fun x=>k (S.app o.dst x)
   | none=>wk S args o.dst k (q7 X.specs f)
  | none=>dz X o S S fun x=>k (S.app o.dst x)
 | _=>dz X o S S fun x=>k (S.app o.dst x)
def guardOf (ops:List Oper) (o:Oper) (S:St):Option (Option (Nat×Bool×Bool)):=
 match o.guard with
 | none=>some none
 | some (j,want)=>match ops[j]? with
  | some g=>match g.dst with
   | some d=>match S.ev (.tmp d) with
    | .v false [.bool b]=>some (some (d,b,want))
    | _=>none
   | none=>none
  | none=>none
def ku (ops:List Oper) (o:Oper) (S:St):Bool:=
 match o.guard with
 | none=>false
 | some (j,_)=>match ops[j]? with
  | some g=>match g.dst with
   | some d=>match S.ev (.tmp d) with
    | .tup []=>true
    | _=>false
   | none=>false
  | none=>false
def oe:SV:= .tup []
def fork (S:St) (d:Nat) (b want:Bool) (yes no:St→Option β):Option β:=
 bif want then (bif b then yes (S.put (some d) (.v false [.bool true])) else no (S.put (some d) (.v false [.bool false])))
 else (bif b then no (S.put (some d) (.v false [.bool true])) else yes (S.put (some d) (.v false [.bool false])))
def jN (X:Cx) (ops:List Oper):List Oper→St→(St→Option β)→Option β
 | [],S,k=>k S
 | o::rest,S,k=>match guardOf ops o S with
  | none=>bif ku ops o S then jN X ops rest (S.put o.dst oe) k else none
  | some none=>cq X o S fun S=>jN X ops rest S k
  | some (some (d,b,want))=>fork S d b want (fun S=>cq X o S fun S=>jN X ops rest S k)
   fun S=>jN X ops rest (S.put o.dst oe) k
def NG (S:St) (t:Ty):Option (List t.den):=
 match look S.objs bF with
 | some (.ar true _ l)=>pH (b:=t) l
 | _=>none
def bz (S:St):(cs:List CK)→List CV→Option (cm cs)
 | [],[]=>some ()
 | [],_::_=>none
 | .val t::r,cvs=>match pack S t cvs with
  | some (x,q)=>match bz S r q with
   | some y=>some (x,y)
   | none=>none
  | none=>none
 | .own e t::r,c::q=>match fZ S e t c,bz S r q with
  | some l,some y=>some (l,y)
  | _,_=>none
 | .own _ _::_,[]=>none
 | .map kk vv::r,c::q=>match mj S kk vv c,bz S r q with
  | some l,some y=>some (l,y)
  | _,_=>none
 | .map _ _::_,[]=>none
 | .ref k off::r,c::q=>match c with
  | .ref k' off'=>if Nat.beq k k'&&Nat.beq off off' then bz S r q else none
  | _=>none
 | .ref _ _::_,[]=>none
 | .fn g ks::r,c::q=>match c with
  | .fn g' ks'=>if Nat.beq g g'&&ks==ks' then bz S r q else none
  | _=>none
 | .fn _ _::_,[]=>none
 | .ar t::r,q=>match si S false t,bz S r q with
  | some l,some y=>some (l,y)
  | _,_=>none
 | .arF t::r,q=>match NG S t,bz S r q with
  | some l,some y=>some (l,y)
  | _,_=>none
 | .rowR j::r,c::q=>match c with
  | .row j'=>if Nat.beq j j' then bz S r q else none
  | _=>none
 | .rowR _::_,[]=>none
 | .rpR j sz::r,c::q=>match c with
  | .rp j' sz' i off=>if Nat.beq j j'&&(Nat.beq sz sz'&&Nat.beq off 0) then (match bz S r q with
   | some y=>some (i,y)
   | none=>none) else none
  | _=>none
 | .rpR _ _::_,[]=>none
 | .mapR j::r,c::q=>match c with
  | .mp j'=>if Nat.beq j j' then bz S r q else none
  | _=>none
 | .mapR _::_,[]=>none
 | .rowC j e t::r,q=>match fZ S e t (.row j),bz S r q with
  | some l,some y=>some (l,y)
  | _,_=>none
 | .mapC j k v::r,q=>match mj S k v (.mp j),bz S r q with
  | some l,some y=>some (l,y)
  | _,_=>none
def CK.agg:CK→Bool
 | .val (.st _)=>true
 | _=>false
def HO (S:St):List (Nat×CK)→Option (List CV)
 | []=>some []
 | p::r=>match S.tmps.getD p.1 (.v false [.any]) with
  | .v a cs=>match HO S r with
   | some l=>if (a==p.2.agg)&&(Nat.beq cs.length p.2.size&&(a||Nat.beq p.2.size 1)) then some (cs++l) else none
   | none=>none
  | _=>none
def Gk (S:St):List (Nat×List CK)→Option (List CV)
 | []=>some []
 | p::r=>match look S.boxes p.1 with
  | some cs=>if Nat.beq cs.length (kX p.2) then (match Gk S r with
   | some l=>some (cs++l)
   | none=>none) else none
  | none=>none
def St.places (S:St) (A:Ann):Option (List CV):=
 match HO S A.tmps,Gk S A.boxes with
 | some a,some b=>some (a++b)
 | _,_=>none
def carried (base:Nat):List CK→List CV→List (bp×Nat)
 | .val t::r,cvs=>carried base r (cvs.drop t.size)
 | .own _ _::r,c::q=>lB base c++carried (base+1) r q
 | .map _ _::r,c::q=>lB base c++carried (base+1) r q
 | .ref _ _::r,_::q=>carried base r q
 | .fn _ _::r,_::q=>carried base r q
 | .ar _::r,q=>(.ob bF,bF)::carried base r q
 | .arF _::r,q=>carried base r q
 | .rowR _::r,_::q=>carried base r q
 | .rpR _ _::r,_::q=>carried base r q
 | .mapR _::r,_::q=>carried base r q
 | .rowC j _ _::r,q=>(.inr j,j)::carried base r q
 | .mapC j _ _::r,q=>(.ob j,j)::carried base r q
 | _,_=>[]
def cZ:Nat:=4000
def kG:List CK→Nat
 | []=>0
 | .own _ _::r=>kG r+1
 | .map _ _::r=>kG r+1
 | _::r=>kG r
def CK.pI (n:Nat):CK→Bool
 | .rowR j=>Nat.blt j cZ||Nat.ble (cZ+n) j
 | .rpR j _=>Nat.blt j cZ||Nat.ble (cZ+n) j
 | .rowC j _ _=>Nat.blt j cZ||Nat.ble (cZ+n) j
 | .mapR j=>Nat.blt j cZ||Nat.ble (cZ+n) j
 | .mapC j _ _=>Nat.blt j cZ||Nat.ble (cZ+n) j
 | _=>true
def Qt (A:Ann) (S:St):Option (cm A.cks):=
 match S.places A with
 | some cvs=>if !A.cks.all (CK.pI (kG A.cks))|| !Nat.blt A.cks.length 1000||wu (carried cZ A.cks cvs)||dup ((carried cZ A.cks cvs).map (·.2)) then none else bz S A.cks cvs
 | none=>none
def GO:List CK→List CV→List Nat
 | .val t::r,cvs=>ff (cvs.take t.size)++GO r (cvs.drop t.size)
 | .ar _::r,q=>GO r q
 | .arF _::r,q=>GO r q
 | .rowC _ _ _::r,q=>GO r q
 | .mapC _ _ _::r,q=>GO r q
 | _::r,_::q=>GO r q
 | _,_=>[]
def carry (A:Ann) (S:St):Option (cm A.cks):=
 match S.places A with
 | some cvs=>Qt A (aR S (GO A.cks cvs))
 | none=>none
def jG (base:Nat):(cs:List CK)→cm cs→List CV
 | [],_=>[]
 | .val t::r,x=>unpack t x.1++jG base r x.2
 | .own _ _::r,x=> .row base::jG (base+1) r x.2
 | .map _ _::r,x=> .mp base::jG (base+1) r x.2
 | .ref k off::r,x=> .ref k off::jG base r x
 | .fn g ks::r,x=> .fn g ks::jG base r x
 | .ar _::r,x=>jG base r x.2
 | .arF _::r,x=>jG base r x.2
 | .rowR j::r,x=> .row j::jG base r x
 | .rpR j sz::r,x=> .rp j sz x.1 0::jG base r x.2
 | .mapR j::r,x=> .mp j::jG base r x
 | .rowC _ _ _::r,x=>jG base r x.2
 | .mapC _ _ _::r,x=>jG base r x.2
def eo (base:Nat):(cs:List CK)→cm cs→List (Nat×kE)
 | [],_=>[]
 | .val _::r,x=>eo base r x.2
 | .own e t::r,x=>(base,⟨false,e,t,x.1⟩)::eo (base+1) r x.2
 | .map _ _::r,x=>eo (base+1) r x.2
 | .ref _ _::r,x=>eo base r x
 | .fn _ _::r,x=>eo base r x
 | .ar _::r,x=>eo base r x.2
 | .arF _::r,x=>eo base r x.2
 | .rowR _::r,x=>eo base r x
 | .rpR _ _::r,x=>eo base r x.2
 | .mapR _::r,x=>eo base r x
 | .rowC j e t::r,x=>(j,⟨false,e,t,x.1⟩)::eo base r x.2
 | .mapC _ _ _::r,x=>eo base r x.2
def cE (base:Nat):(cs:List CK)→cm cs→List (Nat×mF)
 | [],_=>[]
 | .val _::r,x=>cE base r x.2
 | .own _ _::r,x=>cE (base+1) r x.2
 | .map k v::r,x=>(base,.map k v x.1)::cE (base+1) r x.2
 | .ref _ _::r,x=>cE base r x
 | .fn _ _::r,x=>cE base r x
 | .ar t::r,x=>(bF,.ar false t x.1)::cE base r x.2
 | .arF t::r,x=>(bF,.ar true t x.1)::cE base r x.2
 | .rowR _::r,x=>cE base r x
 | .rpR _ _::r,x=>cE base r x.2
 | .mapR _::r,x=>cE base r x
 | .rowC _ _ _::r,x=>cE base r x.2
 | .mapC j k v::r,x=>(j,.map k v x.1)::cE base r x.2
def yu:List (Nat×CK)→List CV→List SV→List SV
 | p::r,q,tmps=>yu r (q.drop p.2.size) (tmps.set p.1 (.v p.2.agg (q.take p.2.size)))
 | [],_,tmps=>tmps
def Gj:List (Nat×List CK)→List CV→List (Nat×List CV)
 | p::r,cs=>(p.1,cs.take (kX p.2))::Gj r (cs.drop (kX p.2))
 | [],_=>[]
def head (A:Ann) (n:Nat) (x:cm A.cks):St:=
 let cvs:=jG cZ A.cks x
 { tmps:=yu A.tmps cvs (List.replicate n (.v false [.any])),
   boxes:=Gj A.boxes (cvs.drop (kX (A.tmps.map (·.2)))),
   rows:=eo cZ A.cks x,
   objs:=cE cZ A.cks x }
inductive Ex where
 | normal
 | exit (id:Nat)
 | ret
def gN:Code→Nat
 | .region id _ _=>id
 | .seq a _=>gN a
 | .block _ c=>gN c
 | .loop c=>gN c
 | .scope c=>gN c
 | .cond _ a _=>gN a
 | _=>0
structure Msk where
 m:Nat
def inM (s:Msk) (j:Nat):Bool:=Nat.beq (Nat.land (Nat.shiftRight s.m j) 1) 1
def m0:Msk:=⟨0⟩
instance:Membership Nat Msk:=⟨fun s j=>inM s j=true⟩
def lg (acc:List Msk) (es:List Edge):Msk:=
 match es with
 | []=>m0
 | e::r=>bif Region.binds .any e then ⟨Nat.lor (Nat.lor (Nat.shiftLeft 1 e.on) (acc.getD e.on m0).m) (lg acc r).m⟩ else lg acc r
def ov:List Oper→List Msk→List Msk
 | [],acc=>acc
 | o::r,acc=>ov r (acc++[lg acc o.after.toList])
def deps (ops:List Oper):List Msk:=ov ops []
def ua (ds:List Msk) (k:Nat):Bool:=(List.range k).all fun j=>inM (ds.getD k m0) j
def Bn (ds:List Msk):Nat→Nat
 | 0=>0
 | k+1=>if ua ds k then Bn ds k else k+1
def mask (n N:Nat):Array Bool:=(List.replicate n true++List.replicate (N - n) false).toArray
def bM (ops:List Oper) (j:Nat):Option Nat:=match ops[j]? with | some p=>p.dst | none=>none
def Lj (t:Nat) (m:Msk):List (Option Nat)→Nat→Bool
 | [],_=>true
 | d::r,j=>((match d with | some d=> !Nat.beq d t | none=>true)||inM m j)&&Lj t m r (j+1)
def Dl (t i:Nat) (m:Msk) (ds:List Msk):List (Option Nat)→Nat→Bool
 | [],_=>true
 | d::r,j=>((match d with | some d=> !Nat.beq d t | none=>true)||(inM m j||inM (ds.getD j m0) i))&&Dl t i m ds r (j+1)
def Dr (ops:List Oper) (ds:List Msk) (n:Nat):Bool:=
 let dl:=(ops.take n).map (·.dst)
 !dup ((ops.take n).filterMap (·.dst))&&(List.range n).all fun i=>match ops[i]? with
  | some o=>o.dst.isSome&&((o.looksAt ops.toArray).all fun t=>Lj t (ds.getD i m0) dl 0)
  | none=>false
def iF (ops:List Oper):Bool:=(List.range ops.length).all fun i=>match ops[i]? with
 | some o=>o.after.toList.all fun e=> !Region.binds .any e||Nat.blt e.on i
 | none=>true
def Dk (ops:List Oper) (n:Nat):Bool:=
 let ds:=deps ops
 Nat.ble n ops.length&&Dr ops ds n&&((List.range ops.length).all fun k=>Nat.blt k n||ua ds k)&&iF ops&&Region.seqB .any ops.toArray (ops.length - n) n (mask n ops.length)
def CV.cB (d:Nat) (c:CV):Bool:=c.bS d||(c.bn d||(c.bG d||c.bw d))
def SV.cB (d:Nat):SV→Bool
 | .v _ cs=>cs.any (CV.cB d)
 | .tup l=>l.any fun p=>p.2.any (CV.cB d)
def St.cB (d:Nat) (S:St):Bool:=S.tmps.any (SV.cB d)||S.boxes.any fun p=>p.2.any (CV.cB d)
def NU (Sn:St) (d dj:Nat):Bool:=
 (Sn.tmps.getD dj (.v false [.any])).cB d||(match look Sn.boxes dj with | some cs=>cs.any (CV.cB d) | none=>false)
def UK:CV→List Nat
 | .ref j _=>[j]
 | .fn _ ks=>ks
 | .row j=>[j]
 | .rp j _ _ _=>[j]
 | .mp j=>[j]
 | .stp j _=>[j]
 | .kseq _ j=>[j]
 | _=>[]
def AA:List CV→List Nat
 | []=>[]
 | c::r=>UK c++AA r
def P5:List (Bool×List CV)→List Nat
 | []=>[]
 | c::r=>AA c.2++P5 r
def UL:SV→List Nat
 | .v _ cs=>AA cs
 | .tup l=>P5 l
def LA:List SV→List Nat
 | []=>[]
 | c::r=>UL c++LA r
def P4:List (Nat×List CV)→List Nat
 | []=>[]
 | c::r=>c.1::(AA c.2++P4 r)
def LK {α:Type}:List (Nat×α)→List Nat
 | []=>[]
 | c::r=>c.1::LK r
def St.ids (S:St):List Nat:=LA S.tmps++(P4 S.boxes++(LK S.rows++LK S.objs))
def P3 (Sn:St) (dj:Nat):List Nat:=UL (Sn.tmps.getD dj (.v false [.any]))++(match look Sn.boxes dj with | some cs=>AA cs | none=>[])
def yf (ops:List Oper) (n:Nat) (S Sn:St):Bool:=
 let ds:=deps ops
 let hs:=S.ids
 ((ops.take n).all fun o=>match o.dst with | some d=> !inL hs d | none=>false)&&
 (List.range n).all fun j=>match bM ops j with
   | some dj=>(P3 Sn dj).all fun a=>(List.range n).all fun i=>Nat.beq i j||(inM (ds.getD j m0) i||(match bM ops i with | some d=> !Nat.beq d a | none=>true))
   | none=>true
def oZ (X:Cx) (ops:List Oper) (M:St):List Oper→St→(St→Option β)→Option β
 | [],S,k=>k S
 | o::rest,S,k=>match guardOf ops o S with
  | none=>bif ku ops o S then oZ X ops M rest (S.put o.dst oe) k else none
  | some none=>dz X o S M fun x=>oZ X ops M rest (S.app o.dst x) k
  | some (some (d,b,want))=>fork S d b want (fun S=>dz X o S M fun x=>oZ X ops M rest (S.app o.dst x) k)
   fun S=>oZ X ops M rest (S.put o.dst oe) k
def H8:Op→Bool
 | .store _ _ _=>true
 | _=>false
def uk:Op→Bool
 | .move _=>true
 | .assign _=>true
 | .binOp _ _ _ _ _=>true
 | _=>false
def qg:Op→Bool
 | .makeSlice _ _ _=>true
 | _=>false
def iW:St:=⟨[],[],[],[]⟩
def V7 (ops:List Oper) (ds:List Msk) (m:Nat):Bool:=match ops[m]? with
 | some o=>H8 o.op&&o.guard.isNone&&o.dst.isNone&&((List.range m).all fun i=>inM (ds.getD m m0) i||(match ops[i]? with | some p=>uk p.op&&p.guard.isNone | none=>false))&&
  ((o.looksAt ops.toArray).all fun t=>(List.range m).all fun j=>if bM ops j==some t then inM (ds.getD m m0) j else true)
 | none=>false
def Q2 (ops:List Oper) (m:Nat):Bool:=
 let ds:=deps ops
 Nat.ble (m+1) ops.length&&Dr ops ds m&&((List.range ops.length).all fun k=>Nat.blt k (m+1)||ua ds k)&&iF ops&&Region.seqB .any ops.toArray (ops.length - (m+1)) (m+1) (mask (m+1) ops.length)&&V7 ops ds m
def TV (ops:List Oper) (ds:List Msk) (m:Nat):Bool:=match ops[m]? with
 | some o=>H8 o.op&&o.guard.isNone&&o.dst.isNone&&((List.range m).all fun i=>inM (ds.getD m m0) i||(match ops[i]? with | some p=>(uk p.op||qg p.op)&&p.guard.isNone | none=>false))&&
  ((o.looksAt ops.toArray).all fun t=>(List.range m).all fun j=>if bM ops j==some t then inM (ds.getD m m0) j else true)
 | none=>false
def Q3 (ops:List Oper) (m:Nat):Bool:=
 let ds:=deps ops
 Nat.ble (m+1) ops.length&&Dr ops ds m&&((List.range ops.length).all fun k=>Nat.blt k (m+1)||ua ds k)&&iF ops&&Region.seqB .any ops.toArray (ops.length - (m+1)) (m+1) (mask (m+1) ops.length)&&TV ops ds m
def G9 (ops:List Oper) (m:Nat):List Nat:=(List.range m).filterMap fun i=>match ops[i]? with
 | some p=>if qg p.op&& !inM ((deps ops).getD m m0) i then p.dst else none
 | none=>none
def tD:Op→Bool
 | .call { callee:= .builtin .append, .. }=>true
 | _=>false
def gQ:List PM→Bool
 | []=>true
 | .val _::r=>gQ r
 | .row _ _::r=>gQ r
 | _=>false
def US:List RM→Bool
 | [.row _ _]=>true
 | _=>false
def Ds (X:Cx):Op→Bool
 | .call c=>match c.callee with
  | .value (.func g)=>(match look X.keys g with
   | none=>(match q7 X.specs g with
    | [sp]=>gQ sp.ps&&(!sp.ps.all PM.isVal&&US sp.rs)
    | _=>false)
   | some _=>false)
  | _=>false
 | _=>false
def isApp (X:Cx) (op:Op):Bool:=tD op||Ds X op
def H7 (hs:List Nat) (d:Nat):Bool:=hs.all fun j=> !(Nat.ble (nid d 0 0) j&&Nat.blt j (nid (d+1) 0 0))
def qW (A:Op→Bool):List Oper→Nat
 | []=>0
 | o::r=>bif H8 o.op||A o.op then 0 else Nat.succ (qW A r)
def Y5:Op→Bool
 | .assign _=>true
 | _=>false
def Ee:List Oper→Nat
 | []=>0
 | o::r=>bif Y5 o.op then 0 else Nat.succ (Ee r)
def YQ (ops:List Oper) (t:Nat):Option Oper:=ops.find? (fun o=>match o.dst with | some d=>Nat.beq d t | none=>false)
def KB (ops:List Oper):Nat→Operand→Bool
 | 0,_=>false
 | f+1,.tmp t=>match YQ ops t with
  | some o=>(match o.op with | .indexAddr _ _ _=>true | .fieldAddr _ x _=>KB ops f x | .nilCheck x=>KB ops f x | .move x=>KB ops f x | _=>false)
  | none=>false
 | _+1,_=>false
def C3 (ops:List Oper) (S:St):Nat→Operand→Option Nat
 | 0,_=>none
 | f+1,.tmp t=>match YQ ops t with
  | some o=>(match o.op with | .fieldAddr _ x _=>C3 ops S f x | .nilCheck x=>C3 ops S f x | .move x=>C3 ops S f x | .alloc _=>some t | _=>none)
  | none=>(match S.ev (.tmp t) with | .v false [.ref b _]=>some b | _=>none)
 | _+1,_=>none
def Uq:Op→Option Operand
 | .store _ a _=>some a
 | _=>none
structure Touch where
 rt:Bool
 bs:Option (List Nat)
def cK (A:Op→Bool) (ops:List Oper) (S:St):List Oper→Touch
 | []=>⟨false,some []⟩
 | o::r=>match Uq o.op with
  | some a=>bif KB ops 9 a then ⟨true,(cK A ops S r).bs⟩ else (match C3 ops S 9 a with
   | some b=>⟨(cK A ops S r).rt,(match (cK A ops S r).bs with | some l=>some (b::l) | none=>none)⟩
   | none=>⟨true,none⟩)
  | none=>bif A o.op then ⟨true,(cK A ops S r).bs⟩ else cK A ops S r
def jW (t:Touch) (k:Nat):Bool:=match t.bs with
 | some l=> !inL l k
 | none=>false
def Ui (ops:List Oper) (ds:List Msk) (m n:Nat):Bool:=
 let dl:=(ops.take n).map (·.dst)
 !dup ((ops.take n).filterMap (·.dst))&&((List.range n).all fun i=>match ops[i]? with
  | some o=>((o.looksAt ops.toArray).all fun t=>Dl t i (ds.getD i m0) ds dl 0)&&((Nat.blt i m||o.guard.isNone)&&(Nat.blt i m||(List.range i).all fun j=>Nat.blt j m||inM (ds.getD i m0) j))
  | none=>false)
def Eb (ops:List Oper) (m n:Nat):Bool:=
 let ds:=deps ops
 Nat.blt m n&&(Nat.ble n ops.length&&(Dr ops ds m&&(((List.range ops.length).all fun k=>Nat.blt k n||ua ds k)&&(iF ops&&(Region.seqB .any ops.toArray (ops.length - n) n (mask n ops.length)&&Ui ops ds m n)))))
def cH (t:Touch) (S:St):St:=⟨[],S.boxes.filter (fun p=>jW t p.1),bif t.rt then [] else S.rows,bif t.rt then [] else S.objs⟩
def lH (x:Del):Bool:=x.box.isNone&&(x.row.isNone&&x.obj.isNone)
def Ru (ops:List Oper) (m n i:Nat):List Oper:=(List.range n).filterMap fun j=>if Nat.ble m j&& !inM ((deps ops).getD j m0) i then ops[j]? else none
def fF (X:Cx) (ops:List Oper) (M:St) (Mr:Nat→St) (dm:Msk):Nat→List Oper→St→(St→Option β)→Option β
 | _,[],S,k=>k S
 | i,o::rest,S,k=>match guardOf ops o S with
  | none=>bif ku ops o S then fF X ops M Mr dm (i+1) rest (S.put o.dst oe) k else none
  | some none=>bif inM dm i then dz X o S M fun x=>fF X ops M Mr dm (i+1) rest (S.app o.dst x) k
   else dz X o S (Mr i) fun x=>bif lH x then fF X ops M Mr dm (i+1) rest (S.app o.dst x) k else none
  | some (some (d,b,want))=>fork S d b want (fun S=>bif inM dm i then dz X o S M fun x=>fF X ops M Mr dm (i+1) rest (S.app o.dst x) k
   else dz X o S (Mr i) fun x=>bif lH x then fF X ops M Mr dm (i+1) rest (S.app o.dst x) k else none)
   fun S=>fF X ops M Mr dm (i+1) rest (S.put o.dst oe) k
def Mp (t:Touch):SV→Bool
 | .v false [.ref b _]=> !jW t b
 | _=>t.rt
def qE (X:Cx) (ops:List Oper) (S0:St) (hs:List Nat):List Oper→St→(St→Option β)→Option β
 | [],S,k=>k S
 | o::rest,S,k=>match Uq o.op with
  | some a=>bif Mp (cK (isApp X) ops S0 [o]) (S.ev a) then cq X o S fun S=>qE X ops S0 hs rest S k else none
  | none=>bif tD o.op
   then (bif (cK (isApp X) ops S0 [o]).rt&&(match o.dst with | some d=> !inL hs d | none=>false) then cq X o S fun S=>qE X ops S0 hs rest S k else none)
   else bif Ds X o.op
   then (bif (cK (isApp X) ops S0 [o]).rt&&(match o.dst with | some d=>H7 hs d | none=>false) then cq X o S fun S=>qE X ops S0 hs rest S k else none)
   else dz X o S S fun x=>bif lH x then qE X ops S0 hs rest (S.app o.dst x) k else none
def EU (X:Cx) (ops:List Oper) (S:St) (k:St→Option β) (m n:Nat):Option β:=
 fF X ops S (fun i=>cH (cK (isApp X) ops S (Ru ops m n i)) S) ((deps ops).getD m m0) 0 (ops.take m) S fun Sn=>if yf ops m S Sn then qE X ops S S.ids ((ops.take n).drop m) Sn fun S=>jN X ops (ops.drop n) S k else none
def runM (X:Cx) (ops:List Oper) (m:Nat) (S:St) (k:St→Option β):Option β:=match ops[m]? with
 | some o=>match o.op with
  | .store _ a _=>match S.ev a with
   | .v false [.ref _ _]=>cq X o S fun S'=>bif (G9 ops m).all fun d=> !S'.boxes.any fun p=>p.2.any (CV.bn d) then k S' else none
   | _=>none
  | _=>none
 | none=>none
def A6 (X:Cx) (ops:List Oper) (S:St) (k:St→Option β) (els:Option β):Option β:=
 let n:=Bn (deps ops) ops.length
 if Dk ops n&& !(ops.take n).any (fun o=>isApp X o.op) then oZ X ops S (ops.take n) S fun Sn=>if yf ops n S Sn then jN X ops (ops.drop n) Sn k else none
 else if Q2 ops (n - 1)&& !(ops.take (n - 1)).any (fun o=>isApp X o.op) then oZ X ops S (ops.take (n - 1)) S fun Sn=>if yf ops (n - 1) S Sn then jN X ops (ops.drop (n - 1)) Sn k else none
 else if Q3 ops (n - 1)&& !(ops.take (n - 1)).any (fun o=>isApp X o.op) then oZ X ops S (ops.take (n - 1)) S fun Sn=>if yf ops (n - 1) S Sn then runM X ops (n - 1) Sn fun S'=>jN X ops (ops.drop (n - 1+1)) S' k else none
 else if Eb ops (qW (isApp X) ops) n then EU X ops S k (qW (isApp X) ops) n
 else if Eb ops (Ee ops) n&& !(ops.take (Ee ops)).any (fun o=>isApp X o.op) then EU X ops S k (Ee ops) n
 else els
def Ij (σ:Nat→Nat) (o:Oper):Oper:={ o with after:=o.after.map fun e=>{ e with on:=σ e.on } }
def MY (A:Op→Bool) (ds:List Msk):Nat→List Oper→List Nat→List Nat→List Nat
 | _,[],sp,fl=>fl++sp
 | i,o::r,sp,fl=>bif H8 o.op||(A o.op||sp.any fun j=>inM (ds.getD i m0) j) then MY A ds (i+1) r (sp++[i]) fl else MY A ds (i+1) r sp (fl++[i])
def Lp (A:Op→Bool) (ops:List Oper):List Nat:=List.range (qW A ops)++MY A (deps ops) (qW A ops) (ops.drop (qW A ops)) [] []
def posOf:List Nat→Nat→Nat
 | [],_=>0
 | x::r,i=>bif Nat.beq x i then 0 else Nat.succ (posOf r i)
def DD (ops:List Oper) (p:List Nat):List Oper:=match ops with
 | []=>[]
 | o0::_=>p.map fun i=>Ij (posOf p) (ops.getD i o0)
def NL (ops:List Oper) (p:List Nat):Bool:=
 Nat.beq p.length ops.length&&(((List.range ops.length).all fun i=>Nat.blt (posOf p i) ops.length&&Nat.beq (p.getD (posOf p i) ops.length) i)&&
  (((List.range ops.length).all fun j=>Nat.blt (p.getD j ops.length) ops.length&&Nat.beq (posOf p (p.getD j ops.length)) j)&&
    ops.all fun o=>o.guard.isNone&&o.after.toList.all fun e=>Nat.blt e.on ops.length))
def we (o:Oper):Oper:={ o with after:=o.after.push ⟨0,.phase⟩ }
def Ib:List Oper→List Oper
 | []=>[]
 | o::r=>o::r.map we
def UW (ops:List Oper):Bool:=match ops with
 | []=>false
 | o::_=>(match o.op with | .move _=>true | _=>false)&&(ops.all (fun p=>p.guard.isNone)&&(o.after.isEmpty&&(o.dst.isSome&&(Region.noSelect ops.toArray&&Region.free .any ops.toArray (Array.replicate ops.length false) 0))))
def UX:Op→Option Operand
 | .move x=>some x
 | _=>none
def Yt:Op→Bool
 | .binOp _ _ _ _ _=>true
 | _=>false
def Xe:Op→Option (TypeId×Nat×Nat)
 | .lookup t (.tmp m) (.tmp x) false=>some (t,m,x)
 | _=>none
def UC:Op→Option (TypeId×Nat×Nat)
 | .mapEntry t (.tmp m) (.tmp x)=>some (t,m,x)
 | _=>none
def WW:Op→Option Nat
 | .extract (.tmp e) i=>if Nat.beq i 1 then some e else none
 | _=>none
def stOp:Op→Option (Nat×Nat×Nat)
 | .entryStore _ (.tmp m) (.tmp s) (.tmp v)=>some (m,s,v)
 | _=>none
def Wj (d:Nat) (o:Oper):Bool:=o.op.operands.toList.all fun | .tmp t=> !Nat.beq t d | _=>true
def sN (ops:List Oper) (mask:Array Bool) (may:List Nat):Bool:=
 !(Region.ready .any ops.toArray mask).isEmpty&&(Region.ready .any ops.toArray mask).all (inL may)
def Yv (ops:List Oper):Bool:=match ops with
 | [_,_,_,_,_,o5,_,_]=>(UC o5.op).isSome
 | _=>false
def Lm (ops:List Oper):Bool:=
 let A:=ops.toArray
 (Region.noSelect A&&ops.all fun o=>o.guard.isNone)&&
 ((Region.free .any A #[false,false,false,false,false,false,false,false] 0&&(Region.ready .any A #[false,false,false,false,false,false,false,false]).contains 0)&&
 ((Region.free .any A #[true,false,false,false,false,false,false,false] 3&&(Region.ready .any A #[true,false,false,false,false,false,false,false]).contains 3)&&
 (sN ops #[true,false,false,true,false,false,false,false] [1]&&
 (sN ops #[true,true,false,true,false,false,false,false] [2,5]&&
 (sN ops #[true,true,true,true,false,false,false,false] [4,5]&&
 (sN ops #[true,true,true,true,true,false,false,false] [5]&&
 (sN ops #[true,true,false,true,false,true,false,false] [2,6]&&
 (sN ops #[true,true,true,true,false,true,false,false] [4,6]&&
 (sN ops #[true,true,true,true,true,true,false,false] [6]&&
 (sN ops #[true,true,false,true,false,true,true,false] [2]&&
 (sN ops #[true,true,true,true,false,true,true,false] [4]&&
 sN ops #[true,true,true,true,true,true,true,false] [7])))))))))))
def VL (X:Cx) (o4:Oper) (d2 d4 v j:Nat) (kk vv:Ty) (l:List (kk.den×vv.den)) (key:kk.den) (z:vv.den) (S:St) (k:St→Option β):Option β:=
 let S2:=S.put (some d2) (dO vv ((bZ l key).getD z))
 cn X o4 S2 iW fun s4=>
 let S4:=S2.put (some d4) s4
 if S.bw j||(S2.bw j||(S4.bw j|| !Nat.beq v d4)) then none else
 match gH S4 [] vv (S4.ev (.tmp d4)) with
 | some y=>k { S4 with objs:=(j,.map kk vv (gJ l key y))::S4.objs }
 | none=>none
def VM (X:Cx) (o4:Oper) (t:TypeId) (m x d2 d4 d5 d6 v:Nat) (S3:St) (k:St→Option β):Option β:=
 let S:=(S3.put (some d5) (.v false [.any])).put (some d6) (.v false [.any])
 if !Nat.blt d5 S.tmps.length|| !Nat.blt d6 S.tmps.length then none else
 match X.P.underlying t,S.ev (.tmp m) with
 | some (.map kt et),.v false [.mp j]=>match look S.objs j with
  | some (.map kk vv l)=>match gH S [] kk (S.ev (.tmp x)),uF X.P et vv with
   | some key,some z=>if dN X.P kt kk then VL X o4 d2 d4 v j kk vv l key z S k else none
   | _,_=>none
  | _=>none
 | _,_=>none
def Sc (X:Cx) (ops:List Oper) (S:St) (k:St→Option β):Option β:=
 match ops with
 | [o0,o1,o2,o3,o4,o5,o6,o7]=>
  match UX o0.op,Xe o2.op,UX o3.op,UC o5.op,WW o6.op,stOp o7.op with
  | some x0,some (t,m,x),some x3,some (t',m',x'),some e,some (m'',s,v)=>
   match o0.dst,o2.dst,o3.dst,o4.dst,o5.dst,o6.dst,o7.dst with
   | some d0,some d2,some d3,some d4,some d5,some d6,none=>
    if !Lm [o0,o1,o2,o3,o4,o5,o6,o7]||(!Yt o4.op||(!Nat.beq t t'||(!Nat.beq m m'||(!Nat.beq m m''||(!Nat.beq x x'||(!Nat.beq e d5||(!Nat.beq s d6||(dup [d2,d4,d5,d6]||(inL [d2,d4,d5,d6] m||(inL [d2,d4,d5,d6] x||(!Wj d5 o4|| !Wj d6 o4))))))))))) then none else
    let S:=(S.put (some d0) (S.ev x0))
    let S:=(S.put (some d3) (S.ev x3))
    dz X o1 S S fun x1=>VM X o4 t m x d2 d4 d5 d6 v (S.app o1.dst x1) k
   | _,_,_,_,_,_,_=>none
  | _,_,_,_,_,_=>none
 | _=>none
def NT (X:Cx) (ops:List Oper) (S:St) (k:St→Option β):Option β:=
 if Yv ops then Sc X ops S k
 else if ops.any (V8 X)&&UW ops then A6 X (Ib ops) S k none
 else A6 X ops S k (if NL ops (Lp (isApp X) ops) then A6 X (DD ops (Lp (isApp X) ops)) S k none else none)
def aX {β γ:Type}:Option (β ⊕ γ)→(γ→Option β)→Option β
 | none,_=>none
 | some (.inl r),_=>some r
 | some (.inr v),f=>f v
def GY {β γ:Type}:Option β→Option (β ⊕ γ)
 | some r=>some (.inl r)
 | none=>none
def meet {β:Type} (A:Ann) (n:Nat) (S:St):Option (β ⊕ cm A.cks):=
 match carry A S with
 | some v=>bif Nat.beq S.tmps.length n then some (.inr v) else none
 | none=>none
def XZ (x y:Code):Nat:=100000+max (gN x) (gN y)
def WM (c:Code):Nat:=200000+gN c
noncomputable def both {β:Type} (a b:Option β):Option β:=open Classical in if a=b then a else none
def oS:Touch:=⟨false,some []⟩
def Vf (X:Cx) (ops:List Oper) (S:St) (k:St→Option β):Option β:=fF X ops S (fun _=>cH oS S) m0 0 ops S k
def Vb (X:Cx) (ops:List Oper) (dr:Bool) (S:St) (k:St→Option β):Option β:=
 bif dr then (bif Dk ops ops.length&& !(ops.any fun o=>tD o.op) then Vf X ops S fun Sn=>bif yf ops ops.length S Sn then k Sn else none else none)
 else Vf X ops S k
def jL (A:Ann):List (Nat×Ty):=A.tmps.filterMap fun | (i,.val t)=>some (i,t) | _=>none
def Ni:List (Nat×Ty)→Type
 | []=>Unit
 | p::r=>p.2.den×Ni r
def LI (S:St):(l:List (Nat×Ty))→Option (Ni l)
 | []=>some ()
 | p::r=>match gH S [] p.2 (S.tmps.getD p.1 (.v false [.any])) with
  | some x=>match LI S r with
   | some y=>some (x,y)
   | none=>none
  | none=>none
def Ep:(l:List (Nat×Ty))→Ni l→List SV→List SV
 | [],_,T=>T
 | p::r,v,T=>(Ep r v.2 T).set p.1 (dO p.2 v.1)
def qV:List Oper→List SV→List SV
 | [],T=>T
 | o::r,T=>qV r (match o.dst with | some d=>T.set d (.v false [.any]) | none=>T)
noncomputable def den (X:Cx) (anns:List (Nat×Ann)):Code→(β:Type)→St→(Ex→St→Option β)→Option β
 | .skip,_,S,K=>K .normal S
 | .region id ops dr,_,S,K=>match look anns (300000+id) with
  | some A=>(Vb X ops.toList dr S fun S'=>LI S' (jL A)).bind fun v=>K .normal { S with tmps:=Ep (jL A) v (qV ops.toList S.tmps) }
  | none=>bif dr then NT X ops.toList S (K .normal) else jN X ops.toList ops.toList S (K .normal)
 | .seq a b,β,S,K=>den X anns a β S fun e S=>match e with
  | .normal=>den X anns b β S K
  | .exit j=>K (.exit j) S
  | .ret=>K .ret S
 | .cond c x y,β,S,K=>match S.ev c with
  | .v false [.bool b]=>match look anns (XZ x y) with
   | some A=>aX (bif b
    then den X anns x (β ⊕ cm A.cks) S (fun e S'=>match e with
     | .normal=>meet A S.tmps.length S'
     | .exit j=>GY (K (.exit j) S')
     | .ret=>GY (K .ret S'))
    else den X anns y (β ⊕ cm A.cks) S (fun e S'=>match e with
     | .normal=>meet A S.tmps.length S'
     | .exit j=>GY (K (.exit j) S')
     | .ret=>GY (K .ret S'))) fun v=>K .normal (head A S.tmps.length v)
   | none=>bif b then den X anns x β S K else den X anns y β S K
  | .v false [.nb b]=>bif b then both (den X anns x β S K) (den X anns y β S K) else den X anns y β S K
  | _=>none
 | .block id c,β,S,K=>match look anns (WM c) with
  | some A=>aX (den X anns c (β ⊕ cm A.cks) S fun e S'=>match e with
   | .normal=>meet A S.tmps.length S'
   | .exit j=>if Nat.beq j id then meet A S.tmps.length S' else GY (K (.exit j) S')
   | .ret=>GY (K .ret S')) fun v=>K .normal (head A S.tmps.length v)
  | none=>den X anns c β S fun e S'=>match e with
   | .normal=>K .normal S'
   | .exit j=>if Nat.beq j id then K .normal S' else K (.exit j) S'
   | .ret=>K .ret S'
 | .loop c,β,S,K=>match look anns (gN c) with
  | some A=>match carry A S with
   | some x=>iter (A.fuel x) x fun x again=>den X anns c β (head A S.tmps.length x) fun e S'=>match e with
    | .normal=>match carry A S' with
     | some y=>bif Nat.beq S'.tmps.length S.tmps.length then again y else none
     | none=>none
    | .exit j=>K (.exit j) S'
    | .ret=>K .ret S'
   | none=>none
  | none=>none
 | .exit id,_,S,K=>K (.exit id) S
 | .ret,_,S,K=>K .ret S
 | _,_,_,_=>none
def pD:Nat:=5000
def pid (i c:Nat):Nat:=nid pD i c
def ij (i:Nat):(ps:List PM)→dX ps→List SV
 | [],_=>[]
 | .val t::r,x=>dO t x.1::ij (i+1) r x.2
 | .row _ _::r,x=> .v false [.row (pid i 0)]::ij (i+1) r x.2
 | .mrow _ _::r,x=> .v false [.row (pid i 0)]::ij (i+1) r x.2
 | .map _ _::r,x=> .v false [.mp (pid i 0)]::ij (i+1) r x.2
 | .box _::r,x=> .v false [.ref (2000+i) 0]::ij (i+1) r x.2
 | .ar _::r,x=>ij (i+1) r x.2
 | .arR _::r,x=>ij (i+1) r x.2
def nI (i:Nat):(ps:List PM)→dX ps→List (Nat×List CV)
 | [],_=>[]
 | .box l::r,x=>(2000+i,Hq pD i 1 l x.1)::nI (i+1) r x.2
 | .val _::r,x=>nI (i+1) r x.2
 | .row _ _::r,x=>nI (i+1) r x.2
 | .mrow _ _::r,x=>nI (i+1) r x.2
 | .map _ _::r,x=>nI (i+1) r x.2
 | .ar _::r,x=>nI (i+1) r x.2
 | .arR _::r,x=>nI (i+1) r x.2
def mN (i:Nat):(ps:List PM)→dX ps→List (Nat×kE)
 | [],_=>[]
 | .row e t::r,x=>(pid i 0,⟨false,e,t,x.1⟩)::mN (i+1) r x.2
 | .mrow e t::r,x=>(pid i 0,⟨false,e,t,x.1⟩)::mN (i+1) r x.2
 | .box l::r,x=>oB pD i 1 l x.1++mN (i+1) r x.2
 | .val _::r,x=>mN (i+1) r x.2
 | .map _ _::r,x=>mN (i+1) r x.2
 | .ar _::r,x=>mN (i+1) r x.2
 | .arR _::r,x=>mN (i+1) r x.2
def eM (i:Nat):(ps:List PM)→dX ps→List (Nat×mF)
 | [],_=>[]
 | .map k v::r,x=>(pid i 0,.map k v x.1)::eM (i+1) r x.2
 | .box l::r,x=>jJ pD i 1 l x.1++eM (i+1) r x.2
 | .ar t::r,x=>(bF,.ar false t x.1)::eM (i+1) r x.2
 | .arR t::r,x=>(bF,.ar true t x.1)::eM (i+1) r x.2
 | .val _::r,x=>eM (i+1) r x.2
 | .row _ _::r,x=>eM (i+1) r x.2
 | .mrow _ _::r,x=>eM (i+1) r x.2
def cM:Nat→List PM→List (bp×Nat)
 | _,[]=>[]
 | i,.row _ _::r=>(.inr (pid i 0),64*i)::cM (i+1) r
 | i,.mrow _ _::r=>(.inr (pid i 0),64*i)::cM (i+1) r
 | i,.map _ _::r=>(.ob (pid i 0),64*i)::cM (i+1) r
 | i,.box l::r=>(.inl (2000+i),64*i)::(dD pD i 1 l++cM (i+1) r)
 | i,.ar _::r=>(.ob bF,64*i)::cM (i+1) r
 | i,.val _::r=>cM (i+1) r
 | i,.arR _::r=>cM (i+1) r
def uZ:List PM→Nat
 | []=>0
 | p::r=>(bif p.arg then 1 else 0)+uZ r
def GX (n:Nat) (ar:Option Ty) (ps:List PM) (x:dX ps):St:=
 { tmps:=ij 0 ps x++List.replicate (n - uZ ps) (.v false [.any]),boxes:=nI 0 ps x,rows:=mN 0 ps x,
   objs:=match ar with | some t=>(bF,.ar false t [])::eM 0 ps x | none=>eM 0 ps x }
def Qb (X:Cx) (S:St):ResultVar→Option SV
 | .tmp t=>some (S.tmps.getD t (.v false [.any]))
 | .cell a T=>match S.tmps.getD a (.v false [.any]) with
  | .v false [.ref b off]=>match look S.boxes b with
   | some l=>jH X.P T l off some
   | none=>none
  | _=>none
def DF (X:Cx) (S:St):List ResultVar→Option (List SV)
 | []=>some []
 | v::r=>match Qb X S v with
  | some s=>match DF X S r with
   | some l=>some (s::l)
   | none=>none
  | none=>none
def Ip:List RM→List SV→List SV
 | .val _::r,s::q=>s::Ip r q
 | _::r,_::q=>Ip r q
 | _,_=>[]
def RW:List OT→List CV→List Nat
 | .val t::r,cs=>ff (cs.take t.size)++RW r (cs.drop t.size)
 | .row _ _::r,_::cs=>RW r cs
 | .map _ _::r,_::cs=>RW r cs
 | _,_=>[]
def P9 (S:St) (i:Nat):List PM→List Nat
 | []=>[]
 | .box l::r=>(match look S.boxes (2000+i) with | some cs=>RW l cs | none=>[])++P9 S (i+1) r
 | _::r=>P9 S (i+1) r
def Qa (S:St):List RM→List SV→List Nat
 | .box l::r,s::q=>(match mK s with | some k=>(match look S.boxes k with | some cs=>RW l cs | none=>[]) | none=>[])++Qa S r q
 | _::r,_::q=>Qa S r q
 | _,_=>[]
def Aa (S:St) (p:RM) (s:SV):Option p.den:=
 match p with
 | .val t=>gH S [] t s
 | .row e t=>match pJ s with | some c=>fZ S e t c | none=>none
 | .map k v=>match pJ s with | some c=>mj S k v c | none=>none
 | .box l=>match mK s with
  | some k=>match look S.boxes k with
   | some cs=>lC S l cs
   | none=>none
  | none=>none
def wG (S:St) (ps:List PM) (bx:Option (dL ps)):(rs:List RM)→List SV→Option (cG ps rs)
 | [],[]=>bx
 | [],_::_=>none
 | p::r,s::q=>match Aa S p s with
  | some x=>match wG S ps bx r q with
   | some y=>some (x,y)
   | none=>none
  | none=>none
 | _::_,[]=>none
def mM (S:St):Nat→(ps:List PM)→Option (dL ps)
 | _,[]=>some ()
 | i,.mrow e t::r=>match fZ S e t (.row (pid i 0)),mM S (i+1) r with
  | some x,some y=>some (x,y)
  | _,_=>none
 | i,.map k v::r=>match mj S k v (.mp (pid i 0)),mM S (i+1) r with
  | some x,some y=>some (x,y)
  | _,_=>none
 | i,.box l::r=>match look S.boxes (2000+i) with
  | some cs=>match lC S l cs,mM S (i+1) r with
   | some x,some y=>some (x,y)
   | _,_=>none
  | none=>none
 | i,.ar t::r=>match si S false t,mM S (i+1) r with
  | some x,some y=>some (x,y)
  | _,_=>none
 | i,.val _::r=>mM S (i+1) r
 | i,.row _ _::r=>mM S (i+1) r
 | i,.arR _::r=>mM S (i+1) r
def kP (S:St) (c:Nat):List RM→List SV→List (bp×Nat)
 | .row _ _::r,s::q=>(match pJ s with | some v=>lB (64*(24+c)) v | none=>[])++kP S (c+1) r q
 | .map _ _::r,s::q=>(match pJ s with | some v=>lB (64*(24+c)) v | none=>[])++kP S (c+1) r q
 | .box l::r,s::q=>(match mK s with
  | some k=>(.inl k,64*(24+c))::(match look S.boxes k with | some cs=>mL (64*(24+c)+1) l cs | none=>[])
  | none=>[])++kP S (c+1) r q
 | .val _::r,_::q=>kP S (c+1) r q
 | _,_=>[]
def iY (S:St):Nat→List PM→List (bp×Nat)
 | _,[]=>[]
 | i,.mrow _ _::r=>(.inr (pid i 0),64*i)::iY S (i+1) r
 | i,.map _ _::r=>(.ob (pid i 0),64*i)::iY S (i+1) r
 | i,.box l::r=>(.inl (2000+i),64*i)::(match look S.boxes (2000+i) with | some cs=>mL (64*i+1) l cs | none=>[])++iY S (i+1) r
 | i,.ar _::r=>(.ob bF,64*i)::iY S (i+1) r
 | i,_::r=>iY S (i+1) r
def Nf:List RM→List SV→List SV
 | .val .hnd::r,s::q=>s::Nf r q
 | _::r,_::q=>Nf r q
 | _,_=>[]
def BZ (X:Cx) (fn:Func) (rs:List RM) (S:St):St:=
 match DF X S fn.results.toList with
 | some l=>gv S (Nf rs l)
 | none=>S
def Xz (X:Cx) (fn:Func) (sp:ay) (S:St):Option (cG sp.ps sp.rs):=
 match DF X S fn.results.toList with
 | some l=>
  let js:=CB (Ip sp.rs l)++(Qa S sp.rs l++P9 S 0 sp.ps)
  let V:=aR S js
  let ow:=kP V 0 sp.rs l++iY V 0 sp.ps
  if wu ow then none else wG V sp.ps (mM V 0 sp.ps) sp.rs l
 | none=>none
def ends (X:Cx) (fn:Func) (sp:ay) (S:St):Option (cG sp.ps sp.rs):=Xz X fn sp (BZ X fn sp.rs S)
def cN:List PM→Bool
 | []=>true
 | .val t::r=>t.aZ&&cN r
 | .row _ t::r=>t.aZ&&cN r
 | .mrow _ t::r=>t.aZ&&cN r
 | .map k v::r=>k.aZ&&v.aZ&&cN r
 | .box l::r=>(l.all fun | .val t=>t.aZ | .row _ t=>t.aZ | .map k v=>k.aZ&&v.aZ)&&cN r
 | _=>false
def oW:List RM→Bool
 | []=>true
 | .val t::r=>t.aZ&&oW r
 | .row _ t::r=>t.aZ&&oW r
 | .map k v::r=>k.aZ&&v.aZ&&oW r
 | .box l::r=>(l.all fun | .val t=>t.aZ | .row _ t=>t.aZ | .map k v=>k.aZ&&v.aZ)&&oW r
noncomputable def QM (X:Cx) (anns:List (Nat×Ann)) (ar:Option Ty) (fn:Func) (sp:ay) (x:dX sp.ps):Option (cG sp.ps sp.rs):=
 if wu (cM 0 sp.ps)||dup ((cM 0 sp.ps).map (·.2))||(ar.isSome&& !(cN sp.ps&&oW sp.rs)) then none else
 match fn.body with
 | some c=>den X anns c (cG sp.ps sp.rs) (GX fn.ntmps ar sp.ps x) fun e S=>match e with
  | .ret=>ends X fn sp S
  | .normal=>ends X fn sp S
  | .exit _=>none
 | none=>none
end Go.Dn
namespace Go.Dn
theorem XM (s:ByteArray):bs s.data.toList=s:=by
 cases s;simp[bs]
theorem Vz (l:List UInt8):(bs l).data.toList=l:=by simp[bs]
theorem HX (G:Gh) (ρ:Env) (v:Value):bf G ρ (Gr v) v:=by
 unfold Gr
 split
 case h_3 s=>show _=_;rw[XM]
 all_goals first | rfl | trivial | skip
 split
 ·rename_i g f c h
  simp only[ZN,Array.isEmpty_iff] at h
  obtain⟨rfl,rfl⟩:=h
  rfl
 ·trivial
theorem yE {α β:Type} {R:β→α→Prop} (f:α→β) (h:∀ x,R (f x) x):∀ l:List α,aK R (l.map f) l
 | []=>rfl
 | x::l=>⟨x,l,rfl,h x,yE f h l⟩
theorem Mg (G:Gh) (ρ:Env) (v:Value):bB G ρ (Il v) v:=by
 unfold Il
 split
 ·rename_i cs
  exact⟨cs.toList,by simp,yE Gr (HX G ρ) cs.toList⟩
 ·exact HX G ρ v
theorem eE.ev {G:Gh} {ρ:Env} {S:St} {a:Act} (h:eE G ρ S a) (x:Operand):bB G ρ (S.ev x) (a.eval x):=by
 cases x with
 | tmp t=>
  simp only[St.ev,Act.eval]
  rw[aaC]
  cases hs:S.tmps[t]? with
  | none=>exact trivial
  | some s=>exact h.2 t s hs
 | const v=>exact Mg G ρ v
 | global g=>exact trivial
 | func f=>rfl
theorem er {G:Gh} (ρ:Env):∀ {t:Ty} {x:t.den} {cs:List Value},aB G t x cs→aK (bf G ρ) (unpack t x) cs
 | .int _,_,_,h=>by cases h;exact⟨_,_,rfl,rfl,rfl⟩
 | .bool,_,_,h=>by cases h;exact⟨_,_,rfl,rfl,rfl⟩
 | .str,_,_,h=>by cases h;exact⟨_,_,rfl,rfl,rfl⟩
 | .unit,_,_,h=>h
 | .pair a b,(x,y),_,⟨c,r,e,hx,hy⟩=>by subst e;exact (er ρ hx).append (er ρ hy)
 | .st t,x,cs,h=>er (t:=t) (x:=x) ρ h
 | .slice t,_,_,⟨v,e,h⟩=>by subst e;exact⟨_,_,rfl,h,rfl⟩
 | .ptr t,x,_,⟨b,off,c,T,fz,e,hb,hs,hl⟩=>by subst e;exact⟨_,_,rfl,⟨b,off,c,T,fz,rfl,hb,hs,hl⟩,rfl⟩
 | .clo _ t,x,_,⟨caps,e,h⟩=>by subst e;exact⟨_,_,rfl,⟨caps,rfl,h⟩,rfl⟩
 | .hnd,none,_,h=>by cases h;exact⟨_,_,rfl,⟨rfl,rfl⟩,rfl⟩
 | .hnd,some _,_,⟨b,hb,e⟩=>by subst e;exact⟨_,_,rfl,⟨b,hb,rfl⟩,rfl⟩
theorem Ac {G:Gh} (ρ:Env) {t:Ty} {x:t.den} {v:Value} (h:bL G t x v):jg G ρ (Ss t x).1 (Ss t x).2 v:=by
 cases t with
 | st t=>obtain⟨vs,e,hv⟩:=h;exact⟨vs,e,er ρ hv⟩
 | int _=>cases h;rfl
 | bool=>cases h;rfl
 | str=>cases h;rfl
 | unit=>cases h
 | slice t=>obtain⟨v',e,h⟩:=h;cases e;exact h
 | ptr t=>obtain⟨b,off,c,T,fz,e,hb,hs,hl⟩:=h;cases e;exact⟨b,off,c,T,fz,rfl,hb,hs,hl⟩
 | clo g t=>obtain⟨caps,e,h⟩:=h;cases e;exact⟨caps,rfl,h⟩
 | hnd=>
  cases x with
  | none=>cases h;exact⟨rfl,rfl⟩
  | some i=>obtain⟨b,hb,e⟩:=h;cases e;exact⟨b,hb,rfl⟩
 | pair a b=>
  have hl:=h.len
  have hu:=er ρ h
  obtain⟨c,hc⟩:∃ c,unpack (.pair a b) x=[c]:=by
   have:=hu.len
   match hq:unpack (.pair a b) x with
   | [c]=>exact⟨c,rfl⟩
   | []=>rw[hq] at this;simp at this
   | _::_::_=>rw[hq] at this;simp at this
  show jg G ρ false (unpack (.pair a b) x) v
  rw[hc] at hu ⊢
  obtain⟨y,e,hy⟩:=hu.single
  cases e
  exact hy
theorem w9 {G:Gh} (ρ:Env) {t:Ty} {x:t.den} {v:Value} (h:bL G t x v):bB G ρ (dO t x) v:=by
 have:=Ac ρ h
 cases t<;>exact this
theorem fT {a b:Ty} {l:List a.den} {l':List b.den} (h:pH l=some l'):∃ e:a=b,e ▸ l=l':=by
 unfold pH at h
 split at h
 ·rename_i e;exact⟨e,by simpa using h⟩
 ·cases h
theorem KO {a b:Ty} {x:a.den} {x':b.den} (h:PY x=some x'):∃ e:a=b,e ▸ x=x':=by
 unfold PY at h
 split at h
 ·rename_i e;exact⟨e,by simpa using h⟩
 ·cases h
def fR (G:Gh) (ρ:Env) (S:St):Prop:=∀ j r,look S.rows j=some r→r.fz=true→dH G r.t.size (aB G r.t) r.l (ρ.rw j)
theorem Mem.frozen {P0:Program} {C:Fr P0} {G:Gh} {ρ:Env} {S:St} {w:World} (h:Mem C G ρ S w):fR G ρ S:=fun j r hj hf=>by
 have:=h.rows j r hj
 unfold b9 at this
 rw[acF hf] at this
 exact this
theorem qs {G:Gh} {ρ:Env} {t:Ty} {f:CV→Option t.den} (hf:∀ c x v,f c=some x→bf G ρ c v→aB G t x [v]) {cs:List CV} {x:t.den} {r:List CV} {vs:List Value}
 (h:qq f cs=some (x,r)) (hv:aK (bf G ρ) cs vs):∃ a b,vs=a++b∧aB G t x a∧aK (bf G ρ) r b:=by
 cases cs with
 | nil=>cases h
 | cons c q=>
  obtain⟨y,s,e,hy,hs⟩:=hv
  simp only[qq] at h
  split at h
  ·rename_i z hz
   cases h
   subst e
   exact⟨[y],s,rfl,hf _ _ _ hz hy,hs⟩
  ·cases h
theorem Wp {G:Gh} {ρ:Env} {S:St} (hF:fR G ρ S) {t:Ty} (c:CV) (l:List t.den) (v:Value) (h:L2 S t c=some l) (hv:bf G ρ c v):aB G (.slice t) l [v]:=by
 cases c<;>simp only[L2] at h
 case sl t' l'=>
  obtain⟨et,el⟩:=fT h
  subst et;subst el
  exact⟨v,rfl,hv⟩
 case nils=>
  cases h
  exact⟨v,rfl,none,0,hv,abP _,acd _,.inl rfl⟩
 case row j=>
  split at h
  ·rename_i u hu
   split at h
   ·rename_i hfz
    obtain⟨et,el⟩:=fT h
    have hrow:=hF j u hu hfz
    obtain⟨ufz,ue,ut,ul⟩:=u
    dsimp only at et el hrow
    subst et
    subst el
    exact⟨v,rfl,by rw[hv.1];exact hrow⟩
   ·cases h
  ·cases h
 all_goals cases h
theorem DX {k v k' v':Ty} {l:List (k.den×v.den)} {l':List (k'.den×v'.den)} (h:Uv l=some l'):∃ (e1:k=k') (e2:v=v'),e1 ▸ e2 ▸ l=l':=by
 unfold Uv at h
 split at h
 ·rename_i e;exact⟨e.1,e.2,by simpa using h⟩
 ·cases h
def jf (G:Gh) (ρ:Env) (S:St) (fb:List Nat):Prop:=∀ k cs,inL fb k=true→look S.boxes k=some cs→∃ vs T fz,G (ρ.bx k)=some (.cells (List.toArray vs) T fz)∧aK (bf G ρ) cs vs
theorem jf.nil (G:Gh) (ρ:Env) (S:St):jf G ρ S []:=fun k cs h=>by simp[inL] at h
theorem wF {α:Type} {x:Option (α×List CV)} {y:α} (h:fK x=some y):x=some (y,[]):=by
 unfold fK at h
 split at h
 ·cases h;rfl
 ·cases h
theorem tK {G:Gh} {ρ:Env} {S:St} {fb:List Nat} (hF:fR G ρ S) (hL:jf G ρ S fb):∀ (t:Ty) (cs:List CV) (x:t.den) (r:List CV) (vs:List Value),dY S fb t cs=some (x,r)→aK (bf G ρ) cs vs→
 ∃ a b,vs=a++b∧aB G t x a∧aK (bf G ρ) r b
 | .int k,cs,x,r,vs,h,hv=>qs (t:= .int k) (fun c x v hc hv=>by
  cases c<;>simp only[T9] at hc
  case int k' n=>
   split at hc
   ·rename_i ek;subst ek;cases hc;rw[hv];rfl
   ·cases hc
  all_goals cases hc) h hv
 | .bool,cs,x,r,vs,h,hv=>qs (t:= .bool) (fun c x v hc hv=>by
  cases c<;>simp only[RX] at hc
  case bool b=>cases hc;rw[hv];rfl
  all_goals cases hc) h hv
 | .str,cs,x,r,vs,h,hv=>qs (t:= .str) (fun c x v hc hv=>by
  cases c<;>simp only[Ua] at hc
  case str b=>cases hc;rw[hv];rfl
  all_goals cases hc) h hv
 | .unit,cs,x,r,vs,h,hv=>by
  simp only[dY] at h;cases h;exact⟨[],vs,rfl,rfl,hv⟩
 | .pair a b,cs,x,r,vs,h,hv=>by
  simp only[dY] at h
  split at h
  ·rename_i y q h1
   split at h
   ·rename_i z q' h2
    cases h
    obtain⟨c1,c2,e1,r1,r2⟩:=tK hF hL a cs y q vs h1 hv
    obtain⟨d1,d2,e2,s1,s2⟩:=tK hF hL b q z r c2 h2 r2
    exact⟨c1++d1,d2,by rw[e1,e2,aak],⟨c1,d1,rfl,r1,s1⟩,s2⟩
   ·cases h
  ·cases h
 | .st t,cs,x,r,vs,h,hv=>tK hF hL t cs x r vs h hv
 | .slice t,cs,x,r,vs,h,hv=>qs (t:= .slice t) (fun c x v hc hv=>Wp hF c x v hc hv) h hv
 | .ptr t,cs,x,r,vs,h,hv=>qs (t:= .ptr t) (fun c x v hc hv=>by
  cases c<;>simp only[NH] at hc
  case cp t' y o=>
   split at hc
   ·rename_i ho
    have:=abL ho
    subst this
    obtain⟨et,el⟩:=KO hc
    subst et;subst el
    obtain⟨b,off,c,T,fz,e,hb,hs',hl⟩:=hv
    exact⟨b,off,c,T,fz,by rw[e];rfl,hb,hs',hl⟩
   ·cases hc
  case ref k o=>
   split at hc
   ·rename_i ho
    simp only[ZN] at ho
    have:=abL ho.1
    subst this
    split at hc
    ·rename_i cs hcs
     have hp:=wF hc
     obtain⟨ws,T,fz,hg,hw⟩:=hL k cs ho.2 hcs
     obtain⟨a,b,e,h1,h2⟩:=tK hF hL t cs x [] ws hp hw
     cases h2
     have hrep:aB G t x ws:=by simpa [e] using h1
     have hlen:=hrep.len
     refine⟨ρ.bx k,0,ws.toArray,T,fz,by rw[hv],hg,by simp;omega, ?_⟩
     have e2:(List.drop 0 ws.toArray.toList).take t.size=ws:=by simp[← hlen]
     rw[e2];exact hrep
    ·cases hc
   ·cases hc
  all_goals cases hc) h hv
 | .clo g t,cs,x,r,vs,h,hv=>qs (t:= .clo g t) (fun c x v hc hv=>by
  cases c<;>simp only[T7] at hc
  case clo g' t' y=>
   split at hc
   ·rename_i ho
    have:=abL ho
    subst this
    obtain⟨et,el⟩:=KO hc
    subst et;subst el
    obtain⟨caps,e,hc⟩:=hv
    exact⟨caps,by rw[e],hc⟩
   ·cases hc
  case fn g' ks=>
   split at hc
   ·rename_i ho
    have:=abL ho
    subst this
    have hp:=wF hc
    have hk:∀ l:List Nat,aK (bf G ρ) (l.map fun k=> .ref k 0) (l.map fun k=>Value.pointer (some ⟨ρ.bx k,0,none⟩)):=fun l=>by
     induction l with
     | nil=>rfl
     | cons k l ih=>exact⟨_,_,rfl,rfl,ih⟩
    obtain⟨a,b,e,h1,h2⟩:=tK hF hL t _ x [] _ hp (hk ks)
    cases h2
    refine⟨ks.map fun k=>Value.pointer (some ⟨ρ.bx k,0,none⟩),by rw[hv], ?_⟩
    rw[e];simpa using h1
   ·cases hc
  all_goals cases hc) h hv
 | .hnd,cs,x,r,vs,h,hv=>qs (t:= .hnd) (fun c x v hc hv=>by
  cases c<;>simp only[T8] at hc
  case hnd o k=>
   split at hc
   ·rename_i ho
    have:=abL ho
    subst this
    cases hc
    cases x with
    | none=>rw[hv.1];rfl
    | some i=>obtain⟨b,hb,e⟩:=hv;exact⟨b,hb,by rw[e]⟩
   ·cases hc
  case nilp=>cases hc;rw[hv];rfl
  all_goals cases hc) h hv
theorem Ub {G:Gh} {ρ:Env} {S:St} (hF:fR G ρ S) (t:Ty) (cs:List CV) (x:t.den) (r:List CV) (vs:List Value) (h:pack S t cs=some (x,r)) (hv:aK (bf G ρ) cs vs):
 ∃ a b,vs=a++b∧aB G t x a∧aK (bf G ρ) r b:=tK hF (jf.nil G ρ S) t cs x r vs h hv
theorem Ht {G:Gh} {ρ:Env} {S:St} {fb:List Nat} (hF:fR G ρ S) (hL:jf G ρ S fb) {t:Ty} {cs:List CV} {x:t.den} {vs:List Value} (h:fK (dY S fb t cs)=some x) (hv:aK (bf G ρ) cs vs):aB G t x vs:=by
 obtain⟨a,b,e,h1,h2⟩:=tK hF hL t cs x [] vs (wF h) hv
 cases h2
 simpa [e] using h1
theorem Kp {G:Gh} {ρ:Env} {S:St} (hF:fR G ρ S) {t:Ty} {cs:List CV} {x:t.den} {vs:List Value} (h:fK (pack S t cs)=some x) (hv:aK (bf G ρ) cs vs):aB G t x vs:=Ht hF (jf.nil G ρ S) h hv
theorem ig {G:Gh} {ρ:Env} {S:St} {fb:List Nat} (hF:fR G ρ S) (hL:jf G ρ S fb) {t:Ty} {s:SV} {x:t.den} {v:Value} (h:gH S fb t s=some x) (hv:bB G ρ s v):bL G t x v:=by
 unfold gH at h
 split at h
 ·rename_i t cs
  obtain⟨vs,e,hl⟩:=hv
  exact⟨vs,e,Ht hF hL h hl⟩
 ·cases h
 ·rename_i t' s' cs hne
  have hl:aB G t x [v]:=by
   match cs,hv,h with
   | [c],hv,hp=>exact Ht hF hL hp ⟨v,[],rfl,hv,rfl⟩
  cases t with
  | st t=>exact absurd rfl (hne t)
  | _=>exact hl
 ·cases h
end Go.Dn
namespace Go.Dn
structure yF {P0:Program} (C:Fr P0) (G:Gh) (ρ:Env) (S:St) (w:World) (x:Option bp):Prop where
 agr:Agr G w
 le0:C.G0.le G
 old:∀ b,b<C.n0→¬ C.B b→G b=C.G0 b
 frame:∀ b,b<C.n0→¬ C.B b→w.heap[b]? =C.w0.heap[b]?
 size:C.n0≤w.heap.size
 os:w.os=C.w0.os
 output:w.output=C.w0.output
 pin:∀ k,2000≤k→ρ.bx k=C.pin k
 pinR:∀ k,10000000≤k→ρ.rw k=C.pinR k∧ρ.ob k=C.pinR k
 owned:∀ b o,ρ.own b=some o→G b=none∧b<w.heap.size∧(C.n0≤b∨C.B b)
 boxes:∀ k cs,look S.boxes k=some cs→some (.inl k)≠x→ρ.own (ρ.bx k)=some (.inl k)∧
  ∃ vs T,w.heap[ρ.bx k]? =some (.cells (List.toArray vs) T (0,0))∧aK (bf G ρ) cs vs
 rows:∀ j r,look S.rows j=some r→some (.inr j)≠x→b9 G ρ w j r
 objs:∀ j r,look S.objs j=some r→some (.ob j)≠x→kV G ρ w j r
 hndI:C.noAr→G.hnd=C.G0.hnd∧∀ t l,look S.objs bF≠some (.ar false t l)
variable {P0:Program} {C:Fr P0} {G:Gh} {ρ:Env} {S:St} {w:World}
theorem Mem.toX (h:Mem C G ρ S w) (x:Option bp):yF C G ρ S w x:=
 ⟨h.agr,h.le0,h.old,h.frame,h.size,h.os,h.output,h.pin,h.pinR,h.owned,fun k cs hk _=>h.boxes k cs hk,fun j r hj _=>h.rows j r hj,fun j r hj _=>h.objs j r hj,h.hndI⟩
theorem yF.toMem {x:Option bp} (h:yF C G ρ S w x)
 (hb:∀ k cs,look S.boxes k=some cs→some (.inl k)=x→ρ.own (ρ.bx k)=some (.inl k)∧∃ vs T,w.heap[ρ.bx k]? =some (.cells (List.toArray vs) T (0,0))∧aK (bf G ρ) cs vs)
 (hr:∀ j r,look S.rows j=some r→some (.inr j)=x→b9 G ρ w j r)
 (hob:∀ j r,look S.objs j=some r→some (.ob j)=x→kV G ρ w j r):Mem C G ρ S w:=
 ⟨h.agr,h.le0,h.old,h.frame,h.size,h.os,h.output,h.pin,h.pinR,h.owned,fun k cs hk=>by
   by_cases e:some (.inl k)=x
   ·exact hb k cs hk e
   ·exact h.boxes k cs hk e,fun j r hj=>by
   by_cases e:some (.inr j)=x
   ·exact hr j r hj e
   ·exact h.rows j r hj e,fun j r hj=>by
   by_cases e:some (.ob j)=x
   ·exact hob j r hj e
   ·exact h.objs j r hj e,h.hndI⟩
theorem yF.state {S':St} {x:Option bp} (h:yF C G ρ S w x) (hb:∀ k cs,look S'.boxes k=some cs→some (.inl k)≠x→look S.boxes k=some cs)
 (hr:∀ j r,look S'.rows j=some r→some (.inr j)≠x→look S.rows j=some r)
 (hob:∀ j r,look S'.objs j=some r→some (.ob j)≠x→look S.objs j=some r)
 (hna:∀ t l,look S'.objs bF=some (.ar false t l)→∃ t l,look S.objs bF=some (.ar false t l)):yF C G ρ S' w x:=
 { h with hndI:=fun hn=>⟨(h.hndI hn).1,fun t l hl=>by obtain⟨t',l',h'⟩:=hna t l hl;exact (h.hndI hn).2 t' l' h'⟩,boxes:=fun k cs hk e=>h.boxes k cs (hb k cs hk e) e,rows:=fun j r hj e=>h.rows j r (hr j r hj e) e,objs:=fun j r hj e=>h.objs j r (hob j r hj e) e }
theorem yF.grow {w':World} {x:Option bp} {blk:Option Nat} (h:yF C G ρ S w x) (hg:Grow ρ w w' blk) (hx:∀ b,blk=some b→∃ o,x=some o∧ρ.own b=some o):yF C G ρ S w' x where
 agr:=fun b o hb=>by
  have hl:=h.agr b o hb
  rw[hg.block b (b7 hl) (fun e=>by
   obtain⟨o',_,ho⟩:=hx b e.symm
   have:=(h.owned b o' ho).1
   rw[hb] at this;cases this)]
  exact hl
 le0:=h.le0
 old:=h.old
 frame:=fun b hb hB=>by
  rw[hg.block b (abU hb h.size) (fun e=>by
   obtain⟨o',_,ho⟩:=hx b e.symm
   rcases (h.owned b o' ho).2.2 with h1 | h1
   ·omega
   ·exact hB h1)]
  exact h.frame b hb hB
 size:=abQ h.size hg.size
 os:=hg.os.trans h.os
 output:=hg.output.trans h.output
 pin:=h.pin
 pinR:=h.pinR
 owned:=fun b o ho=>⟨(h.owned b o ho).1,abU (h.owned b o ho).2.1 hg.size,(h.owned b o ho).2.2⟩
 boxes:=fun k cs hk hne=>by
  obtain⟨h1,vs,T,h2,h3⟩:=h.boxes k cs hk hne
  refine⟨h1,vs,T, ?_,h3⟩
  rw[hg.block _ (b7 h2) (fun e=>by
   obtain⟨o',hx',ho⟩:=hx _ e.symm
   rw[h1] at ho
   cases ho
   exact hne hx'.symm)]
  exact h2
 rows:=fun j r hj hne=>(h.rows j r hj hne).kept hg (fun b e ho=>by
  obtain⟨o',hx',ho'⟩:=hx b e
  rw[ho] at ho'
  cases ho'
  exact hne hx'.symm)
 objs:=fun j r hj hne=>(h.objs j r hj hne).kept hg (fun b e=>by
  obtain⟨o',_,ho'⟩:=hx b e
  exact (h.owned b o' ho').1) (fun b e ho=>by
  obtain⟨o',hx',ho'⟩:=hx b e
  rw[ho] at ho'
  cases ho'
  exact hne hx'.symm)
 hndI:=h.hndI
theorem yF.change {G':Gh} {ρ':Env} {x:Option bp} (h:yF C G ρ S w x) (hG:G.le G') (hh:G'.hnd=G.hnd) (hagr:Agr G' w) (hold:∀ b,b<C.n0→¬ C.B b→G' b=C.G0 b)
 (hpin:∀ k,2000≤k→ρ'.bx k=ρ.bx k) (hpinR:∀ k,10000000≤k→ρ'.rw k=ρ.rw k∧ρ'.ob k=ρ.ob k) (hs:∀ p,p∈S.boxes→∀ c,c∈p.2→c.dJ ρ ρ')
 (howned:∀ b o,ρ'.own b=some o→G' b=none∧b<w.heap.size∧(C.n0≤b∨C.B b))
 (hbx:∀ k cs,look S.boxes k=some cs→some (.inl k)≠x→ρ'.bx k=ρ.bx k∧(ρ.own (ρ.bx k)=some (.inl k)→ρ'.own (ρ.bx k)=some (.inl k)))
 (hrw:∀ j r,look S.rows j=some r→some (.inr j)≠x→ρ'.rw j=ρ.rw j∧∀ b,ρ.own b=some (.inr j)→ρ'.own b=some (.inr j))
 (hob:∀ j r,look S.objs j=some r→some (.ob j)≠x→ρ'.ob j=ρ.ob j∧ρ'.st j=ρ.st j∧∀ b,ρ.own b=some (.ob j)→ρ'.own b=some (.ob j)):yF C G' ρ' S w x where
 agr:=hagr
 le0:=Gh.le_trans h.le0 hG
 old:=hold
 frame:=h.frame
 size:=h.size
 os:=h.os
 output:=h.output
 pin:=fun k hk=>(hpin k hk).trans (h.pin k hk)
 pinR:=fun k hk=>⟨(hpinR k hk).1.trans (h.pinR k hk).1,(hpinR k hk).2.trans (h.pinR k hk).2⟩
 owned:=howned
 boxes:=fun k cs hk hne=>by
  obtain⟨h1,vs,T,h2,h3⟩:=h.boxes k cs hk hne
  obtain⟨e1,e2⟩:=hbx k cs hk hne
  rw[e1]
  exact⟨e2 h1,vs,T,h2,aK.tG (fun c hc y=>bf.congr hG (hs (k,cs) (l9 hk) c hc)) h3⟩
 rows:=fun j r hj hne=>by
  obtain⟨e1,e2⟩:=hrw j r hj hne
  exact (h.rows j r hj hne).congr hG e1 e2
 objs:=fun j r hj hne=>by
  obtain⟨e1,e2,e3⟩:=hob j r hj hne
  exact (h.objs j r hj hne).congr hG hh e1 e2 e3
 hndI:=fun hn=>⟨hh.trans (h.hndI hn).1,(h.hndI hn).2⟩
theorem T6 (h:Mem C G ρ S w):ρ.own w.heap.size=none:=by
 cases ho:ρ.own w.heap.size with
 | none=>rfl
 | some o=>have:=(h.owned _ o ho).2.1;omega
theorem GQ (h:Mem C G ρ S w):G w.heap.size=none:=by
 cases ho:G w.heap.size with
 | none=>rfl
 | some o=>have:=b7 (h.agr _ o ho);omega
theorem Grow.alloc (ρ:Env) (w:World) (o:Obj):Grow ρ w (w.alloc o) none:=
 ⟨rfl,rfl,by simp,fun b hb _=>heap_alloc_old w o b hb⟩
def Env.ic (ρ:Env) (d b:Nat):Env:=⟨fun i=>if i=d then b else ρ.bx i,ρ.rw,fun i=>if i=b then some (.inl d) else ρ.own i,ρ.ob,ρ.st⟩
theorem O7 {ρ:Env} {k b:Nat} (own:Nat→Option bp) {c:CV} (hc:c.bS k=false):c.dJ ρ ⟨fun i=>if i=k then b else ρ.bx i,ρ.rw,own,ρ.ob,ρ.st⟩:=
 ⟨fun i hi=>by
   show (if i=k then b else ρ.bx i)=ρ.bx i
   by_cases e:i=k
   ·subst e;rw[hc] at hi;cases hi
   ·simp[e],fun _ _=>rfl,fun _ _=>rfl,fun _ _=>rfl⟩
theorem Mod.ic {a:Act} {d:Nat} {cs:List CV} {vs:List Value} {T:TypeId} (h:Mod C G ρ S w a) (hd:d<2000) (hn:S.bS d=false) (hcs:∀ c,c∈cs→c.bS d=false) (hv:aK (bf G ρ) cs vs):
 Mod C G (ρ.ic d w.heap.size) { tmps:=S.tmps.set d (.v false [.ref d 0]),boxes:=(d,cs)::S.boxes,rows:=S.rows,objs:=S.objs } (w.alloc (.cells vs.toArray T))
  (a.put (some d) (.pointer (some ⟨w.heap.size,0,none⟩))):=by
 have hown:=T6 h.toMem
 have hgh:=GQ h.toMem
 have hsame:S.dJ ρ (ρ.ic d w.heap.size):=PR _ hn
 have hX:=((h.toMem.toX (some (.inl d))).grow (Grow.alloc ρ w (.cells vs.toArray T)) (by simp)).change (G':=G) (ρ':=ρ.ic d w.heap.size) (Gh.le_refl G) rfl
  (fun b o hb=>by rw[heap_alloc_old _ _ _ (b7 (h.agr b o hb))];exact h.agr b o hb) h.old (fun k hk=>by simp[Env.ic,show ¬ k=d by omega]) (fun _ _=>⟨rfl,rfl⟩) hsame.boxes
  (fun b o ho=>by
    simp only[Env.ic] at ho
    by_cases e:b=w.heap.size
    ·subst e;exact⟨hgh,by simp,.inl h.size⟩
    ·rw[acE e] at ho;exact⟨(h.owned b o ho).1,by have:=(h.owned b o ho).2.1;simp;omega,(h.owned b o ho).2.2⟩)
  (fun k cs' hk hne=>by
    have hkd:k≠d:=fun e=>hne (by rw[e])
    refine⟨by simp[Env.ic,hkd],fun ho=> ?_⟩
    have:ρ.bx k≠w.heap.size:=fun e=>by rw[e,hown] at ho;cases ho
    simp[Env.ic,this,ho])
  (fun j r hj _=>⟨rfl,fun b ho=>by
    have:b≠w.heap.size:=fun e=>by rw[e,hown] at ho;cases ho
    simp[Env.ic,this,ho]⟩)
  (fun j r hj _=>⟨rfl,rfl,fun b ho=>by
    have:b≠w.heap.size:=fun e=>by rw[e,hown] at ho;cases ho
    simp[Env.ic,this,ho]⟩)
 have hX':=hX.state (S':={ tmps:=S.tmps.set d (.v false [.ref d 0]),boxes:=(d,cs)::S.boxes,rows:=S.rows,objs:=S.objs })
  (fun k cs' hk hne=>by
    have hkd:d≠k:=fun e=>hne (by rw[e])
    simpa [au,hkd] using hk) (fun j r hj _=>hj) (fun j r hj _=>hj) (fun t l h=>⟨t,l,h⟩)
 have hM:=hX'.toMem (fun k cs' hk e=>by
  cases e
  simp only[au,acG,Option.some.injEq] at hk
  subst hk
  refine⟨by simp[Env.ic],vs,T,by simp only[Env.ic,acG];exact heap_alloc_new w _, ?_⟩
  exact aK.tG (fun c hc y=>bf.congr (Gh.le_refl G) (O7 _ (hcs c hc))) hv) (fun j r hj e=>by cases e) (fun j r hj e=>by cases e)
 exact { hM with
  tmps:=(h.tmps.congr (Gh.le_refl G) hsame).put (some d) (fun _ _=>by show _=_;simp[Env.ic])
  defers:=h.defers }
theorem Dc {ρ':Env} (hb:ρ'.bx=ρ.bx) (hr:ρ'.rw=ρ.rw) (ho:ρ'.ob=ρ.ob) (hs:ρ'.st=ρ.st) (c:CV):c.dJ ρ ρ':=⟨fun k _=>by rw[hb],fun k _=>by rw[hr],fun k _=>by rw[ho],fun k _=>by rw[hs]⟩
theorem jg.same {ρ':Env} (hb:ρ'.bx=ρ.bx) (hr:ρ'.rw=ρ.rw) (ho:ρ'.ob=ρ.ob) (hs:ρ'.st=ρ.st) {s:SV}:s.dJ ρ ρ':=by
 cases s with
 | v a cs=>exact fun c _=>Dc hb hr ho hs c
 | tup l=>exact fun p _ c _=>Dc hb hr ho hs c
theorem fJ {α:Type} (l:List (Nat×α)) (d i:Nat):look (l.filter fun p=> !Nat.beq p.1 d) i=if i=d then none else look l i:=by
 induction l with
 | nil=>simp[look]
 | cons p r ih=>
  obtain⟨j,y⟩:=p
  by_cases e:j=d
  ·subst e
   have:(List.filter (fun p:Nat×α=> !Nat.beq p.1 j) ((j,y)::r))=r.filter fun p=> !Nat.beq p.1 j:=by simp
   rw[this,ih,au]
   by_cases e':i=j
   ·simp[e']
   ·have:¬ j=i:=fun h=>e' h.symm
    simp[e',this]
  ·have hb:Nat.beq j d=false:=by
    cases hb:Nat.beq j d with
    | false=>rfl
    | true=>exact absurd (abL hb) e
   have:(List.filter (fun p:Nat×α=> !Nat.beq p.1 d) ((j,y)::r))=(j,y)::r.filter fun p=> !Nat.beq p.1 d:=by simp[hb]
   rw[this,au,au,ih]
   by_cases e':j=i
   ·subst e';simp[e]
   ·simp[e']
def Env.putRow (ρ:Env) (d:Nat) (v:Value):Env:=⟨ρ.bx,fun i=>if i=d then v else ρ.rw i,fun b=>if v.ownBlock=some b then some (.inr d) else ρ.own b,ρ.ob,ρ.st⟩
theorem Mod.putRow {a:Act} {w':World} {blk jo:Option Nat} {d:Nat} {v:Value} {r:kE} {R:List (Nat×kE)} (h:Mod C G ρ S w a) (hg:Grow ρ w w' blk)
 (hblk:∀ b,blk=some b→∃ j,jo=some j∧ρ.own b=some (.inr j))
 (hR:∀ i q,look R i=some q→look S.rows i=some q∧jo≠some i) (hd2:d<2000) (hd:S.bn d=false)
 (hf:r.fz=false) (xs:List Value) (hown:w'.ownsRow 0 r.e r.t.size v r.l.length xs) (hrep:bH (aB G r.t) r.l xs)
 (hnew:∀ b,v.ownBlock=some b→(w.heap.size≤b∧b<w'.heap.size)∨blk=some b):
 Mod C G (ρ.putRow d v) { tmps:=S.tmps.set d (.v false [.row d]),boxes:=S.boxes,rows:=(d,r)::R,objs:=S.objs } w' (a.put (some d) v):=by
 have hsame:S.dJ ρ (ρ.putRow d v):=Fp _ hd
 have hfree:∀ b,v.ownBlock=some b→ρ.own b=none∨∃ j,jo=some j∧ρ.own b=some (.inr j):=fun b hb=>by
  rcases hnew b hb with ⟨h1,_⟩ | h1
  ·left
   cases ho:ρ.own b with
   | none=>rfl
   | some o=>have:=(h.owned b o ho).2.1;omega
  ·exact .inr (hblk b h1)
 have hghost:∀ b,v.ownBlock=some b→G b=none∧b<w'.heap.size∧(C.n0≤b∨C.B b):=fun b hb=>by
  rcases hnew b hb with ⟨h1,h2⟩ | h1
  ·refine⟨?_,h2,.inl (abQ h.size h1)⟩
   cases hG:G b with
   | none=>rfl
   | some o=>have:=b7 (h.agr b o hG);omega
  ·obtain⟨j,_,ho⟩:=hblk b h1
   have:=h.owned b _ ho
   exact⟨this.1,abU this.2.1 hg.size,this.2.2⟩
 have hX0:=(h.toMem.toX (jo.map .inr)).grow hg (fun b hb=>by
  obtain⟨j,e,ho⟩:=hblk b hb
  exact⟨.inr j,by rw[e];rfl,ho⟩)
 have hX1:=hX0.state (S':={ tmps:=S.tmps,boxes:=S.boxes,rows:=R.filter fun p=> !Nat.beq p.1 d,objs:=S.objs }) (fun k cs hk _=>hk) (fun j q hj _=>by
  simp only[fJ] at hj
  split at hj
  ·cases hj
  ·exact (hR j q hj).1) (fun j q hj _=>hj) (fun t l h=>⟨t,l,h⟩)
 have hX2:=hX1.change (G':=G) (ρ':=ρ.putRow d v) (Gh.le_refl G) rfl hX0.agr hX0.old (fun _ _=>rfl) (fun k hk=>⟨by simp[Env.putRow,show ¬ k=d by omega],rfl⟩) hsame.boxes
  (fun b o ho=>by
    simp only[Env.putRow] at ho
    by_cases e:v.ownBlock=some b
    ·exact hghost b e
    ·rw[acE e] at ho;exact hX0.owned b o ho)
  (fun k cs hk _=>⟨rfl,fun ho=>by
    have:v.ownBlock≠some (ρ.bx k):=fun e=>by
     rcases hfree _ e with h1 | ⟨j,_,h1⟩
     ·rw[ho] at h1;cases h1
     ·rw[ho] at h1;cases h1
    simp[Env.putRow,this,ho]⟩)
  (fun j q hj _=>by
    simp only[fJ] at hj
    split at hj
    ·cases hj
    ·rename_i hjd
     obtain⟨hj1,hj2⟩:=hR j q hj
     refine⟨by simp[Env.putRow,hjd],fun b ho=> ?_⟩
     have:v.ownBlock≠some b:=fun e=>by
      rcases hfree _ e with h1 | ⟨i,e1,h1⟩
      ·rw[ho] at h1;cases h1
      ·rw[ho] at h1;cases h1;exact hj2 e1
     simp[Env.putRow,this,ho])
  (fun j q hj _=>⟨rfl,rfl,fun b ho=>by
    have:v.ownBlock≠some b:=fun e=>by
     rcases hfree _ e with h1 | ⟨i,_,h1⟩
     ·rw[ho] at h1;cases h1
     ·rw[ho] at h1;cases h1
    simp[Env.putRow,this,ho]⟩)
 refine { agr:=hX2.agr,le0:=hX2.le0,old:=hX2.old,frame:=hX2.frame,size:=hX2.size,os:=hX2.os,output:=hX2.output,pin:=hX2.pin,pinR:=hX2.pinR,owned:=hX2.owned,boxes:= ?_,rows:= ?_,objs:=fun j q hj=>hX2.objs j q hj (by cases jo<;>simp),hndI:=hX2.hndI,tmps:= ?_,defers:=h.defers }
 ·intro k cs hk
  exact hX2.boxes k cs hk (by cases jo<;>simp)
 ·intro j q hj
  simp only[au] at hj
  split at hj
  ·rename_i e
   subst e
   cases hj
   unfold b9
   rw[acE (by simp[hf])]
   refine⟨xs,by simpa [Env.putRow] using hown,hrep,fun b hb=> ?_⟩
   simp only[Env.putRow,acG] at hb ⊢
   rw[acF hb]
  ·rename_i e
   have hjd:¬ j=d:=fun h=>e h.symm
   exact hX2.rows j q (by simp only[fJ,acE hjd];exact hj) (by
    have:=(hR j q hj).2
    cases jo with
    | none=>simp
    | some i=>simp only[acj,ne_eq,Option.some.injEq,bp.inr.injEq];exact fun e=>this (by rw[e]))
 ·exact (h.tmps.congr (Gh.le_refl G) hsame).put (some d) (fun _ _=>⟨by simp[Env.putRow],by
   rcases hown.2 with ⟨e,_⟩ | ⟨g,cap,cur,e,_⟩
   ·exact⟨_,_,_,e⟩
   ·exact⟨_,_,_,e⟩⟩)
theorem Mod.Sf {a:Act} {w':World} {k:Nat} {cs:List CV} {vs:List Value} {T:TypeId} (h:Mod C G ρ S w a) (hk:∃ l,look S.boxes k=some l) (hg:Grow ρ w w' (some (ρ.bx k)))
 (hw:w'.heap[ρ.bx k]? =some (.cells vs.toArray T (0,0))) (hv:aK (bf G ρ) cs vs):Mod C G ρ { S with boxes:=(k,cs)::S.boxes } w' a:=by
 obtain⟨l,hl⟩:=hk
 have ho:=(h.boxes k l hl).1
 have hX:=((h.toMem.toX (some (.inl k))).grow hg (fun b hb=>by cases hb;exact⟨.inl k,rfl,ho⟩)).state (S':={ S with boxes:=(k,cs)::S.boxes })
  (fun i c hi hne=>by
    have:¬ k=i:=fun e=>hne (by rw[e])
    simpa [au,this] using hi) (fun j r hj _=>hj) (fun j r hj _=>hj) (fun t l h=>⟨t,l,h⟩)
 have hM:=hX.toMem (fun i c hi e=>by
  cases e
  simp only[au,acG,Option.some.injEq] at hi
  subst hi
  exact⟨ho,vs,T,hw,hv⟩) (fun j r hj e=>by cases e) (fun j r hj e=>by cases e)
 exact { hM with tmps:=h.tmps,defers:=h.defers }
theorem Mod.setRow {a:Act} {w':World} {j:Nat} {q r:kE} (h:Mod C G ρ S w a) (hj:look S.rows j=some q) (hq:q.fz=false) (hr:r.fz=false) {b:Nat} (hb:(ρ.rw j).ownBlock=some b) (hg:Grow ρ w w' (some b))
 (xs:List Value) (hown:w'.ownsRow 0 r.e r.t.size (ρ.rw j) r.l.length xs) (hrep:bH (aB G r.t) r.l xs):Mod C G ρ { S with rows:=(j,r)::S.rows } w' a:=by
 have hrow:=h.rows j q hj
 unfold b9 at hrow
 rw[acE (by simp[hq])] at hrow
 obtain⟨_,_,_,ho⟩:=hrow
 have hX:=((h.toMem.toX (some (.inr j))).grow hg (fun b' hb'=>by cases hb';exact⟨.inr j,rfl,ho b hb⟩)).state (S':={ S with rows:=(j,r)::S.rows }) (fun k cs hk _=>hk)
  (fun i c hi hne=>by
    have:¬ j=i:=fun e=>hne (by rw[e])
    simpa [au,this] using hi) (fun j r hj _=>hj) (fun t l h=>⟨t,l,h⟩)
 have hM:=hX.toMem (fun k cs hk e=>by cases e) (fun i c hi e=>by
  cases e
  simp only[au,acG,Option.some.injEq] at hi
  subst hi
  unfold b9
  rw[acE (by simp[hr])]
  exact⟨xs,hown,hrep,ho⟩) (fun j r hj e=>by cases e)
 exact { hM with tmps:=h.tmps,defers:=h.defers }
structure Fz (G G':Gh) (ρ ρ':Env):Prop where
 le:G.le G'
 bx:ρ'.bx=ρ.bx
 rw:ρ'.rw=ρ.rw
 ob:ρ'.ob=ρ.ob
 st:ρ'.st=ρ.st
 hnd:G'.hnd=G.hnd
 own:∀ b o,ρ'.own b=some o→ρ.own b=some o
 new:∀ b,G' b≠G b→∃ j,ρ.own b=some (.inr j)
theorem Fz.refl (G:Gh) (ρ:Env):Fz G G ρ ρ:=⟨Gh.le_refl G,rfl,rfl,rfl,rfl,rfl,fun _ _ h=>h,fun _ h=>absurd rfl h⟩
theorem Fz.trans {G1 G2 G3:Gh} {r1 r2 r3:Env} (h:Fz G1 G2 r1 r2) (k:Fz G2 G3 r2 r3):Fz G1 G3 r1 r3:=
 ⟨Gh.le_trans h.le k.le,k.bx.trans h.bx,k.rw.trans h.rw,k.ob.trans h.ob,k.st.trans h.st,k.hnd.trans h.hnd,fun b o x=>h.own b o (k.own b o x),fun b hb=>by
   by_cases e:G3 b=G2 b
   ·exact h.new b (fun e'=>hb (e.trans e'))
   ·obtain⟨j,hj⟩:=k.new b e;exact⟨j,h.own b _ hj⟩⟩
def uq (rs:List (Nat×kE)) (j:Nat):List (Nat×kE):=match look rs j with | some q=>(j,{ q with fz:=true })::rs | none=>rs
theorem Mod.uq {a:Act} (h:Mod C G ρ S w a) (j:Nat):∃ G' ρ',Fz G G' ρ ρ'∧Mod C G' ρ' { S with rows:=uq S.rows j } w a:=by
 unfold Dn.uq
 cases hj:look S.rows j with
 | none=>exact⟨G,ρ,Fz.refl G ρ,{ h.toMem.Dv (S':={ S with rows:=S.rows }) rfl rfl rfl with tmps:=h.tmps,defers:=h.defers }⟩
 | some q=>
  have hrow:=h.rows j q hj
  have same:dH G q.t.size (aB G q.t) q.l (ρ.rw j)→∃ G' ρ',Fz G G' ρ ρ'∧Mod C G' ρ' { S with rows:=(j,{ q with fz:=true })::S.rows } w a:=fun hs=>by
   refine⟨G,ρ,Fz.refl G ρ,{ h with rows:= ?_,tmps:=h.tmps }⟩
   intro i r hi
   simp only[au] at hi
   split at hi
   ·rename_i e;subst e;cases hi;unfold b9;simpa using hs
   ·exact h.rows i r hi
  by_cases hf:q.fz=true
  ·apply same
   unfold b9 at hrow;rw[acF hf] at hrow;exact hrow
  ·have hf':q.fz=false:=by simpa using hf
   unfold b9 at hrow
   rw[acE hf] at hrow
   obtain⟨xs,⟨hlen,hn | ⟨g,cap,cur,hv,_,hg,hnc,hcm,hcs,htake⟩⟩,hl,ho⟩:=hrow
   ·apply same
    have:q.l=[]:=aax hn.2
    exact⟨none,0,by rw[hn.1,this];rfl,by rw[this];simp,acd _,.inl this⟩
   ·have hog:=ho g (by rw[hv];rfl)
    have hgn:=h.owned g _ hog
    let G':Gh:=⟨fun b=>if b=g then w.heap[g]? else G b,G.hnd⟩
    let ρ':Env:=⟨ρ.bx,ρ.rw,fun b=>if b=g then none else ρ.own b,ρ.ob,ρ.st⟩
    have hle:G.le G':=⟨fun b o hb=>by
     show (if b=g then w.heap[g]? else G b)=some o
     by_cases e:b=g
     ·subst e;rw[hgn.1] at hb;cases hb
     ·rw[acE e];exact hb,fun _ _ h=>h⟩
    have hfz:Fz G G' ρ ρ':=⟨hle,rfl,rfl,rfl,rfl,rfl,fun b o ho'=>by
     simp only[ρ'] at ho'
     by_cases e:b=g
     ·simp[e] at ho'
     ·simpa [e] using ho',fun b hb=>by
     by_cases e:b=g
     ·exact⟨j,by rw[e];exact hog⟩
     ·simp[G',e] at hb⟩
    have hX:=(h.toMem.toX (some (.inr j))).change (G':=G') (ρ':=ρ') hle rfl
     (fun b o hb=>by
       simp only[G'] at hb
       by_cases e:b=g
       ·subst e;simpa using hb
       ·rw[acE e] at hb;exact h.agr b o hb)
     (fun b hb hB=>by
       have e:b≠g:=fun e=>by
        subst e
        rcases hgn.2.2 with h1 | h1
        ·omega
        ·exact hB h1
       simp only[G',acE e];exact h.old b hb hB)
     (fun _ _=>rfl) (fun _ _=>⟨rfl,rfl⟩) (fun p _ c _=>Dc (ρ:=ρ) (ρ':=ρ') rfl rfl rfl rfl c)
     (fun b o ho'=>by
       have e:b≠g:=fun e=>by simp[ρ',e] at ho'
       have:=h.owned b o (hfz.own b o ho')
       exact⟨by simp only[G',acE e];exact this.1,this.2⟩)
     (fun k cs hk _=>⟨rfl,fun ho'=>by
       have e:ρ.bx k≠g:=fun e=>by rw[e,hog] at ho';cases ho'
       simp only[ρ',acE e];exact ho'⟩)
     (fun i r hi hne=>⟨rfl,fun b ho'=>by
       have e:b≠g:=fun e=>by rw[e,hog] at ho';cases ho';exact hne rfl
       simp only[ρ',acE e];exact ho'⟩)
     (fun i r hi hne=>⟨rfl,rfl,fun b ho'=>by
       have e:b≠g:=fun e=>by rw[e,hog] at ho';cases ho'
       simp only[ρ',acE e];exact ho'⟩)
    refine⟨G',ρ',hfz, ?_⟩
    have hX':=hX.state (S':={ S with rows:=(j,{ q with fz:=true })::S.rows }) (fun k cs hk _=>hk) (fun i c hi hne=>by
     have:¬ j=i:=fun e=>hne (by rw[e])
     simpa [au,this] using hi) (fun j r hj _=>hj) (fun t l h=>⟨t,l,h⟩)
    have hM:=hX'.toMem (fun k cs hk e=>by cases e) (fun i c hi e=>by
     cases e
     simp only[au,acG,Option.some.injEq] at hi
     subst hi
     unfold b9
     rw[acF rfl]
     refine⟨some ⟨g,0,none⟩,cap,hv,hnc,hcm,.inr ⟨g,0,cur,q.e,(0,0),rfl,by simp[G',hg], ?_, ?_⟩⟩
     ·simp only[ab9];rw[hcs];exact ab3 _ hnc
     ·simp only[aav];rw[htake];exact hl.mono (aB.mono hle q.t)) (fun j r hj e=>by cases e)
    exact { hM with tmps:=h.tmps.congr hle ⟨fun s _=>jg.same (ρ:=ρ) (ρ':=ρ') rfl rfl rfl rfl,fun p _ c _=>Dc (ρ:=ρ) (ρ':=ρ') rfl rfl rfl rfl c⟩,defers:=h.defers }
theorem Fh (S:St) (js:List Nat):aR S js={ S with rows:=js.foldl uq S.rows }:=rfl
theorem Mod.freeze {a:Act}:∀ (js:List Nat) {G:Gh} {ρ:Env} {S:St},Mod C G ρ S w a→∃ G' ρ',Fz G G' ρ ρ'∧Mod C G' ρ' (aR S js) w a
 | [],G,ρ,S,h=>⟨G,ρ,Fz.refl G ρ,h⟩
 | j::js,G,ρ,S,h=>by
  obtain⟨G1,ρ1,f1,h1⟩:=h.uq j
  obtain⟨G2,ρ2,f2,h2⟩:=Mod.freeze js h1
  exact⟨G2,ρ2,f1.trans f2,h2⟩
end Go.Dn
namespace Go.Dn
theorem fB {β:Type} {b:Bool} {x:Option β} {r:β} (h:chk b x=some r):b=true∧x=some r:=by
 cases b with
 | true=>exact⟨rfl,h⟩
 | false=>cases h
theorem bind_some {α β:Type} {x:Option α} {f:α→Option β} {r:β} (h:x.bind f=some r):∃ y,x=some y∧f y=some r:=by
 cases x with
 | none=>cases h
 | some y=>exact⟨y,rfl,h⟩
variable {P:Program} {G:Gh} {ρ:Env} {w:World} {β:Type}
theorem Vu {op:BinOp} {ka kb:IntKind} {x y:Int} {k:CV→Option β} {r:β} (h:Qp op ka x kb y k=some r):
 ∃ c,k c=some r∧∀ (P:Program) (G:Gh) (ρ:Env) (w:World) (t:TypeId),∃ v,(binOp op t (.int ka x) (.int kb y)).run P w= .ok v w∧bf G ρ c v:=by
 unfold Qp at h
 cases op
 case shl=>
  obtain⟨h1,h2⟩:=fB h
  exact⟨_,h2,fun P G ρ w t=>⟨_,by simp only[acy] at h1;simp[binOp,Op.shift,show ¬ y<0 by omega],rfl⟩⟩
 case shr=>
  obtain⟨h1,h2⟩:=fB h
  exact⟨_,h2,fun P G ρ w t=>⟨_,by simp only[acy] at h1;simp[binOp,Op.shift,show ¬ y<0 by omega],rfl⟩⟩
 all_goals
  simp only at h
  split at h
  ·cases h
  ·rename_i hk
   have hk':ka=kb:=by simpa using hk
   subst hk'
   first
    | cases h
    | exact⟨_,h,fun P G ρ w t=>⟨_,by simp[binOp,Op.intArith,Op.intCmp,Op.intBits],rfl⟩⟩
    | (obtain⟨h1,h2⟩:=fB h
       exact⟨_,h2,fun P G ρ w t=>⟨_,by simp only[bne_iff_ne,ne_eq] at h1;simp[binOp,Op.intDiv,h1],rfl⟩⟩)
theorem Qr (l:List UInt8):(bs l).toList=l:=by rw[ByteArray.toList_eq,Vz]
theorem Da (l:List UInt8):(bs l).size=l.length:=by simp[bs,ByteArray.size]
theorem Yu (a b:List UInt8):bs a++bs b=bs (a++b):=by
 apply ByteArray.ext
 apply Array.ext'
 simp[bs]
theorem Vv {op:BinOp} {x y:List UInt8} {k:CV→Option β} {r:β} (h:Qq op x y k=some r):
 ∃ c,k c=some r∧∀ (P:Program) (G:Gh) (ρ:Env) (w:World) (t:TypeId),∃ v,(binOp op t (.string (bs x)) (.string (bs y))).run P w= .ok v w∧bf G ρ c v:=by
 unfold Qq at h
 cases op
 case add=>
  obtain⟨h1,h2⟩:=fB h
  refine⟨_,h2,fun P G ρ w t=>⟨_, ?_,rfl⟩⟩
  simp only[acy] at h1
  have:¬ ((((bs x).size+(bs y).size:Nat):Int)>IntKind.i64.max):=by
   simp only[maxLen] at h1
   rw[Da,Da]
   simp[IntKind.max,IntKind.signed,IntKind.bits]
   omega
  simp only[binOp,Op.stringOp,this,acD,Yu]
  rfl
 all_goals first
  | cases h
  | exact⟨_,h,fun P G ρ w t=>⟨_,by simp only[binOp,Op.stringOp,Qr];rfl,rfl⟩⟩
theorem SU {op:BinOp} {t:TypeId} {x y:Operand} {k:IntKind} {n:Int} {v:Value}:(eqGuard op t x y (.int k n) v).run P w= .ok () w:=by
 cases op<;>cases v<;>rfl
theorem SX {op:BinOp} {t:TypeId} {x y:Operand} {s:ByteArray} {v:Value}:(eqGuard op t x y (.string s) v).run P w= .ok () w:=by
 cases op<;>cases v<;>rfl
theorem nt {t:TypeId} {d:TypeDesc} (h:P.underlying t=some d):(isAgg t).run P w= .ok (oy P t) w:=by
 simp only[isAgg,Sem.run_bind,run_underlying h,Result.andThen_ok,oy,h]
 cases d<;>rfl
theorem run_sizeOf {t:TypeId} {i:TypeInfo} (h:P.info? t=some i):(sizeOf t).run P w= .ok (bN P t) w:=by
 simp[sizeOf,typeInfo,h,bN]
theorem Qu {b off:Nat} {c:Array Value} {T:TypeId} {fz:Nat×Nat} (hb:w.heap[b]? =some (.cells c T fz)) (n:Nat):∀ j v,((c.toList.drop off).take n)[j]? =some v→w.cell? ((⟨b,off,none⟩:Addr).add j)=some v:=by
 intro j v hj
 rw[aaS] at hj
 split at hj
 ·rw[aaI] at hj
  have hadd:(⟨b,off,none⟩:Addr).add j=⟨b,off+j,none⟩:=by unfold Addr.add;split<;>simp_all
  rw[hadd,cell_of_row w b _ c T fz hb]
  simpa using hj
 ·cases hj
theorem DI {t:TypeId} {d:TypeDesc} {i:TypeInfo} (hu:P.underlying t=some d) (hi:P.info? t=some i) {b off:Nat} {vs:List Value} (hl:vs.length=bN P t)
 (h:∀ j v,vs[j]? =some v→w.cell? ((⟨b,off,none⟩:Addr).add j)=some v):
 (oy P t=true→(loadVar t ⟨b,off,none⟩).run P w= .ok (.agg vs.toArray) w)∧(oy P t=false→∀ v,vs=[v]→(loadVar t ⟨b,off,none⟩).run P w= .ok v w):=by
 constructor
 ·intro ha
  simp only[loadVar,Sem.run_bind,nt hu,Result.andThen_ok,ha,acG,run_sizeOf hi, ← hl]
  rw[run_loadCells_list w ⟨b,off,none⟩ vs h]
  rfl
 ·intro ha v hv
  subst hv
  have h0:=h 0 v rfl
  simp only[loadVar,Sem.run_bind,nt hu,Result.andThen_ok,ha]
  have:(⟨b,off,none⟩:Addr).add 0=⟨b,off,none⟩:=rfl
  rw[this] at h0
  simp[h0]
theorem XW {t:TypeId} {d:TypeDesc} (h:P.underlying t=some d):∃ i,P.info? t=some i:=by
 unfold Program.underlying at h
 cases hi:P.info? t with
 | none=>rw[hi] at h;cases h
 | some i=>exact⟨i,rfl⟩
theorem fW {t:TypeId} (h:okT P t=true):∃ d i,P.underlying t=some d∧P.info? t=some i:=by
 obtain⟨d,hd⟩:=ach.1 h
 obtain⟨i,hi⟩:=XW hd
 exact⟨d,i,hd,hi⟩
theorem Ai {l cs:List CV} {off n:Nat} (h:HV l off n=some cs):cs=(l.drop off).take n∧cs.length=n:=by
 unfold HV at h
 simp only at h
 split at h
 ·rename_i hb;cases h;exact⟨rfl,abL hb⟩
 ·cases h
theorem yc {T:TypeId} {l:List CV} {off:Nat} {k:SV→Option β} {r:β} (h:jH P T l off k=some r):
 ∃ s,k s=some r∧∀ (G:Gh) (ρ:Env) (w:World) (b base:Nat) (vs:List Value),aK (bf G ρ) l vs→(∀ j v,vs[j]? =some v→w.cell? ((⟨b,base,none⟩:Addr).add j)=some v)→
  ∃ v,(loadVar T ⟨b,base+off,none⟩).run P w= .ok v w∧bB G ρ s v:=by
 unfold jH at h
 split at h
 ·rename_i hok
  obtain⟨d,i,hd,hi⟩:=fW hok
  split at h
  ·rename_i cs hc
   obtain⟨e,hlen⟩:=Ai hc
   have key:∀ (G:Gh) (ρ:Env) (w:World) (b base:Nat) (vs:List Value),aK (bf G ρ) l vs→(∀ j v,vs[j]? =some v→w.cell? ((⟨b,base,none⟩:Addr).add j)=some v)→
    ∃ us:List Value,us.length=bN P T∧aK (bf G ρ) cs us∧∀ j v,us[j]? =some v→w.cell? ((⟨b,base+off,none⟩:Addr).add j)=some v:=by
    intro G ρ w b base vs hv hcell
    refine⟨(vs.drop off).take (bN P T), ?_,by rw[e];exact (hv.drop off).take _, ?_⟩
    ·have:=((hv.drop off).take (bN P T)).len
     rw[this, ← e,hlen]
    ·intro j v hj
     rw[aaS] at hj
     split at hj
     ·rw[aaI] at hj
      have:=hcell (off+j) v hj
      have e1:(⟨b,base,none⟩:Addr).add (off+j)=⟨b,base+off+j,none⟩:=by unfold Addr.add;split<;>simp_all [abG]
      have e2:(⟨b,base+off,none⟩:Addr).add j=⟨b,base+off+j,none⟩:=by unfold Addr.add;split<;>simp_all
      rw[e2, ← e1];exact this
     ·cases hj
   split at h
   ·rename_i ha
    refine⟨_,h,fun G ρ w b base vs hv hcell=> ?_⟩
    obtain⟨us,hl,hus,hc'⟩:=key G ρ w b base vs hv hcell
    exact⟨_,(DI hd hi hl hc').1 ha,us,rfl,hus⟩
   ·rename_i ha
    split at h
    ·rename_i c
     refine⟨_,h,fun G ρ w b base vs hv hcell=> ?_⟩
     obtain⟨us,hl,hus,hc'⟩:=key G ρ w b base vs hv hcell
     obtain⟨y,ey,hy⟩:=hus.single
     exact⟨y,(DI hd hi hl hc').2 (by simpa using ha) y ey,hy⟩
    ·cases h
  ·cases h
 ·cases h
theorem Kf {α:Type} {l:List α} {i:Int} {x:α} (h:idx l i=some x):0≤i∧i<l.length∧l[i.toNat]? =some x:=by
 unfold idx at h
 split at h
 ·rename_i h0
  refine⟨h0, ?_,h⟩
  have:=(aaL.1 h).1
  omega
 ·cases h
theorem run_indexAt_slice {t e:TypeId} (ht:P.underlying t=some (.slice e)) (hok:okT P e=true) {ik:IntKind} {i:Int} {b off len cap:Nat} (h0:0≤i) (h1:i<len):
 (Instr.indexAt t (.slice (some ⟨b,off,none⟩) len cap) (.int ik i)).run P w= .ok (.pointer (some ⟨b,off+i.toNat*bN P e,none⟩)) w:=by
 obtain⟨d,inf,hd,hi⟩:=fW hok
 have hadd:(⟨b,off,none⟩:Addr).add (i.toNat*bN P e)=⟨b,off+i.toNat*bN P e,none⟩:=by unfold Addr.add;split<;>simp_all
 simp only[Instr.indexAt,asIntOf,Sem.run_bind,Sem.run_pure,Result.andThen_ok,run_underlying ht,h0,h1,and_self,acG,run_sizeOf hi,hadd]
theorem dH.at {t:Ty} {l:List t.den} {v:Value} (h:dH G t.size (aB G t) l v) {i:Nat} {x:t.den} (hx:l[i]? =some x):
 ∃ b off c T fz cap,v= .slice (some ⟨b,off,none⟩) l.length cap∧G b=some (.cells c T fz)∧off+i*t.size+t.size≤c.size∧aB G t x ((c.toList.drop (off+i*t.size)).take t.size):=by
 obtain⟨a,cap,hv,h1,h2,h3⟩:=h
 have hlt:=(aaL.1 hx).1
 rcases h3 with rfl | ⟨b,off,c,T,fz,ha,hb,hs,hl⟩
 ·simp at hx
 ·refine⟨b,off,c,T,fz,cap,by rw[hv,ha],hb, ?_, ?_⟩
  ·have:i*t.size+t.size≤l.length*t.size:=by rw[← Nat.succ_mul];exact ab3 _ hlt
   omega
  ·have:=hl.get (fun x cs hr=>aB.len hr) hx
   rw[List.drop_take,abF,aaq] at this
   have e:min t.size (l.length*t.size - i*t.size)=t.size:=by
    have:i*t.size+t.size≤l.length*t.size:=by rw[← Nat.succ_mul];exact ab3 _ hlt
    omega
   rw[e] at this
   exact this
end Go.Dn
namespace Go.Dn
variable {β:Type}
def eS (P:Program) (o:Oper) (S M:St) (s:SV):Prop:=
 ∀ (C:Fr P) (G:Gh) (ρ:Env) (w:World) (a:Act),Mem C G ρ M w→(∀ x,x∈o.op.operands→bB G ρ (S.ev x) (a.eval x))→
  ∃ v,(execOp a.eval o).run P w= .ok (.value v) w∧bB G ρ s v
theorem one_cell {G:Gh} {ρ:Env} {s:SV} {c:CV} {v:Value} (h:bB G ρ s v) (e:s= .v false [c]):bf G ρ c v:=by subst e;exact h
theorem N6 {G:Gh} {ρ:Env} {n:Nat} {c c':CV} {v:Value} (h:KC n c=some c') (hv:bf G ρ c v):∃ b off,v= .pointer (some ⟨b,off,none⟩)∧bf G ρ c' (.pointer (some ⟨b,off+n,none⟩)):=by
 cases c<;>simp only[KC] at h<;>try cases h
 case ref k o=>exact⟨_,_,hv,rfl⟩
 case cp t x o=>
  obtain⟨b,off,c,T,fz,e,hb,hs,hl⟩:=hv
  exact⟨_,_,e,b,off,c,T,fz,by rw[abG],hb,hs,hl⟩
 case rp j sz i o=>
  obtain⟨b,len,cap,e1,e2⟩:=hv
  exact⟨_,_,e2,b,len,cap,e1,by rw[abG]⟩
 case hnd o k=>
  cases o with
  | none=>cases h
  | some i=>
   cases h
   obtain⟨b,hb,e⟩:=hv
   exact⟨_,_,e,b,hb,rfl⟩
theorem Gs {G:Gh} {ρ:Env} {c:CV} {v:Value} (h:bf G ρ c v) (hok:c.ok=true):v.oneCell'=true∧v.cells= #[v]:=by
 cases c
 case any=>cases hok
 case opq u=>cases hok
 case sl t l=>obtain⟨a,cap,e,_⟩:=h;subst e;exact⟨rfl,rfl⟩
 case cp t x o=>obtain⟨b,off,c,T,fz,e,_⟩:=h;subst e;exact⟨rfl,rfl⟩
 case clo g t x=>obtain⟨caps,e,_⟩:=h;subst e;exact⟨rfl,rfl⟩
 case rp j sz i o=>obtain⟨b,len,cap,_,e⟩:=h;subst e;exact⟨rfl,rfl⟩
 case row j=>obtain⟨_,a,n,c,e⟩:=h;subst e;exact⟨rfl,rfl⟩
 case mp j=>obtain⟨_,b,e⟩:=h;subst e;exact⟨rfl,rfl⟩
 case kseq g j=>obtain⟨b,T,fz,e,_⟩:=h;subst e;exact⟨rfl,rfl⟩
 case nb b=>obtain⟨c,e,_⟩:=h;subst e;exact⟨rfl,rfl⟩
 case hnd o k=>
  cases o with
  | none=>obtain⟨e,_⟩:=h;subst e;exact⟨rfl,rfl⟩
  | some i=>obtain⟨b,_,e⟩:=h;subst e;exact⟨rfl,rfl⟩
 all_goals (have e:v=_:=h;subst e;exact⟨rfl,rfl⟩)
section
variable {X:Cx} {o:Oper} {S M:St} {k:SV→Option β} {r:β}
theorem Uc {P:Program} {T:TypeId} {l:List CV} {off:Nat} {s:SV} (h:jH P T l off some=some s):
 ∀ (G:Gh) (ρ:Env) (w:World) (vs:List Value),aK (bf G ρ) l vs→∃ v,(part T vs.toArray off).run P w= .ok v w∧bB G ρ s v:=by
 unfold jH at h
 split at h
 ·rename_i hok
  obtain⟨d,i,hd,hi⟩:=fW hok
  split at h
  ·rename_i cs' hc
   obtain⟨e,hlen⟩:=Ai hc
   split at h
   ·rename_i ha
    cases h
    intro G ρ w vs hl
    refine⟨.agg ((vs.drop off).take (bN P T)).toArray, ?_,_,rfl,by rw[e];exact (hl.drop _).take _⟩
    simp only[Sem.run_bind,Result.andThen_ok,Sem.run_pure,part,nt hd,ha,acG,run_sizeOf hi]
    congr 2
    simp
   ·rename_i ha
    split at h
    ·rename_i c
     cases h
     intro G ρ w vs hl
     have hsub:=(hl.drop off).take (bN P T)
     rw[← e] at hsub
     obtain⟨y,ey,hy⟩:=hsub.single
     have hy0:vs[off]? =some y:=by
      have:((vs.drop off).take (bN P T))[0]? =some y:=by rw[ey];rfl
      rw[aaS] at this
      split at this
      ·simpa using this
      ·cases this
     refine⟨y, ?_,hy⟩
     simp[part,nt hd,ha,hy0]
    ·cases h
  ·cases h
 ·cases h
theorem TO {P:Program} {g:TypeId→SV→SV→Option Bool} {d:Nat} (hg:∀ t x y r,g t x y=some r→∀ (G:Gh) (ρ:Env) (w:World) vx vy,bB G ρ x vx→bB G ρ y vy→(Op.equalIn d t vx vy).run P w= .ok r w) {xs ys:List CV}:
 ∀ {fs:List Field} {r:Bool},GM P g xs ys fs=some r→∀ (G:Gh) (ρ:Env) (w:World) vs us,aK (bf G ρ) xs vs→aK (bf G ρ) ys us→(Op.eqFields d vs.toArray us.toArray fs).run P w= .ok r w
 | [],r,h,G,ρ,w,vs,us,hv,hu=>by simp only[GM,Option.some.injEq] at h;subst h;rfl
 | f::fs,r,h,G,ρ,w,vs,us,hv,hu=>by
  simp only[GM] at h
  split at h
  ·cases h
  ·rename_i hn
   split at h
   ·rename_i a b ha hb
    split at h
    ·rename_i r1 hr1
     split at h
     ·rename_i q hq
      cases h
      obtain⟨x,hx1,hx2⟩:=Uc ha G ρ w vs hv
      obtain⟨y,hy1,hy2⟩:=Uc hb G ρ w us hu
      have h1:=hg _ _ _ _ hr1 G ρ w x y hx2 hy2
      have h2:=TO hg hq G ρ w vs us hv hu
      simp only[Op.eqFields,acF hn,Sem.run_bind,hx1,hy1,h1,Result.andThen_ok,Sem.run_ite,Sem.run_pure,h2]
      cases r1<;>simp
     ·cases h
    ·cases h
   ·cases h
theorem Eo {G:Gh} {ρ:Env} {c:CV} {v:Value} (h:c.P6=true) (hv:bf G ρ c v):∃ a,v= .pointer (some a):=by
 cases c<;>simp only[CV.P6] at h<;>try cases h
 case ref k o=>exact⟨_,hv⟩
 case cp t x o=>obtain⟨b,off,c,T,fz,e,_⟩:=hv;exact⟨_,e⟩
 case rp j sz i o=>obtain⟨b,len,cap,_,e⟩:=hv;exact⟨_,e⟩
theorem MX {P:Program}:∀ {d:Nat} {t:TypeId} {x y:SV} {r:Bool},rJ P d t x y=some r→∀ (d':Nat),d≤d'→∀ (G:Gh) (ρ:Env) (w:World) vx vy,bB G ρ x vx→bB G ρ y vy→(Op.equalIn d' t vx vy).run P w= .ok r w
 | 0,t,x,y,r,h=>by simp[rJ] at h
 | d+1,t,x,y,r,h=>by
  intro d' hd' G ρ w vx vy hx hy
  obtain⟨e,rfl⟩:∃ e,d'=e+1:=⟨d' - 1,by omega⟩
  simp only[rJ] at h
  split at h
  ·rename_i k0 ht
   split at h
   ·rename_i k a k' b
    split at h
    ·rename_i hk
     cases h
     subst hk
     have e1:vx= .int k a:=hx
     have e2:vy= .int k b:=hy
     subst e1;subst e2
     exact run_equalIn_int w e t k k0 a b ht
    ·cases h
   ·cases h
  ·rename_i ht
   split at h
   ·rename_i a b
    cases h
    have e1:vx= .bool a:=hx
    have e2:vy= .bool b:=hy
    subst e1;subst e2
    exact run_equalIn_bool w e t a b ht
   ·cases h
  ·rename_i ht
   split at h
   ·rename_i a b
    cases h
    have e1:vx= .string (bs a):=hx
    have e2:vy= .string (bs b):=hy
    subst e1;subst e2
    have:=run_equalIn_string w e t (bs a) (bs b) ht
    rw[Qr,Qr] at this
    exact this
   ·cases h
  ·rename_i el ht
   split at h
   ·cases h
    have e1:vx= .pointer none:=hx
    have e2:vy= .pointer none:=hy
    subst e1;subst e2
    simp[Op.equalIn,run_underlying ht]
   ·rename_i o k
    cases h
    have e1:vx= .pointer none:=hx
    subst e1
    cases o with
    | none=>obtain⟨e2,_⟩:=hy;subst e2;simp[Op.equalIn,run_underlying ht]
    | some i=>obtain⟨b,_,e2⟩:=hy;subst e2;simp[Op.equalIn,run_underlying ht]
   ·rename_i o k
    cases h
    have e1:vy= .pointer none:=hy
    subst e1
    cases o with
    | none=>obtain⟨e2,_⟩:=hx;subst e2;simp[Op.equalIn,run_underlying ht]
    | some i=>obtain⟨b,_,e2⟩:=hx;subst e2;simp[Op.equalIn,run_underlying ht]
   ·rename_i c _ _
    split at h
    ·rename_i hp
     cases h
     have e1:vx= .pointer none:=hx
     obtain⟨a,e2⟩:=Eo hp (show bf G ρ c vy from hy)
     subst e1;subst e2
     simp[Op.equalIn,run_underlying ht]
    ·cases h
   ·rename_i c _ _
    split at h
    ·rename_i hp
     cases h
     have e2:vy= .pointer none:=hy
     obtain⟨a,e1⟩:=Eo hp (show bf G ρ c vx from hx)
     subst e1;subst e2
     simp[Op.equalIn,run_underlying ht]
    ·cases h
   ·cases h
  ·rename_i fs ht
   split at h
   ·rename_i xs ys
    split at h
    ·cases h
    ·rename_i hst
     obtain⟨vs,e1,hvs⟩:=hx
     obtain⟨us,e2,hus⟩:=hy
     subst e1;subst e2
     have hf:P.fieldsOf t=fs:=by simp[Program.fieldsOf,ht]
     rw[run_equalIn_struct w e t vs.toArray us.toArray (by rw[hf];exact ht) (by simpa using hst),hf]
     exact TO (fun t x y r hr G ρ w vx vy hvx hvy=>MX hr e (by omega) G ρ w vx vy hvx hvy) h G ρ w vs us hvs hus
   ·cases h
  ·cases h
theorem Jf {P:Program} {op:BinOp} {t:TypeId} {x y:Operand} {vx vy:Value} {w:World} (h:P.eqGuardType P.depth t=false) (hx:vx≠ .nilIface):(eqGuard op t x y vx vy).run P w= .ok () w:=by
 unfold eqGuard
 cases op<;>first
  | rfl
  | (cases vx<;>cases vy<;>first | rfl | exact absurd rfl hx | simp[run_program,h])
def Y2 (t:TypeId) (vx vy:Value):Prop:=vx≠ .nilIface∧binOp .eql t vx vy=(do pure (.bool (← Op.equal t vx vy)))∧binOp .neq t vx vy=(do pure (.bool (!(← Op.equal t vx vy))))
theorem UD {P:Program} {d:Nat} {t:TypeId} {x y:SV} {q:Bool} (hq:rJ P (d+1) t x y=some q):
 (∃ ka a kb b,x= .v false [.int ka a]∧y= .v false [.int kb b])∨(∃ a b,x= .v false [.str a]∧y= .v false [.str b])∨
 ∀ (G:Gh) (ρ:Env) (vx vy:Value),bB G ρ x vx→bB G ρ y vy→Y2 t vx vy:=by
 simp only[rJ] at hq
 split at hq
 ·split at hq
  ·exact .inl ⟨_,_,_,_,rfl,rfl⟩
  ·cases hq
 ·split at hq
  ·rename_i a b
   refine .inr (.inr fun G ρ vx vy hvx hvy=> ?_)
   have e1:vx= .bool a:=hvx
   have e2:vy= .bool b:=hvy
   subst e1;subst e2
   exact⟨by simp,rfl,rfl⟩
  ·cases hq
 ·split at hq
  ·exact .inr (.inl ⟨_,_,rfl,rfl⟩)
  ·cases hq
 ·refine .inr (.inr fun G ρ vx vy hvx hvy=> ?_)
  have hp:(∃ p,vx= .pointer p)∧∃ p,vy= .pointer p:=by
   split at hq
   ·exact⟨⟨_,hvx⟩,⟨_,hvy⟩⟩
   ·rename_i o k
    refine⟨⟨_,hvx⟩, ?_⟩
    cases o with
    | none=>exact⟨_,hvy.1⟩
    | some i=>obtain⟨b,_,e⟩:=hvy;exact⟨_,e⟩
   ·rename_i o k
    refine⟨?_,⟨_,hvy⟩⟩
    cases o with
    | none=>exact⟨_,hvx.1⟩
    | some i=>obtain⟨b,_,e⟩:=hvx;exact⟨_,e⟩
   ·rename_i c _ _
    split at hq
    ·rename_i hp
     obtain⟨a,e⟩:=Eo hp (show bf G ρ c vy from hvy)
     exact⟨⟨_,hvx⟩,⟨_,e⟩⟩
    ·cases hq
   ·rename_i c _ _
    split at hq
    ·rename_i hp
     obtain⟨a,e⟩:=Eo hp (show bf G ρ c vx from hvx)
     exact⟨⟨_,e⟩,⟨_,hvy⟩⟩
    ·cases hq
   ·cases hq
  obtain⟨⟨p,rfl⟩,⟨q',rfl⟩⟩:=hp
  exact⟨by simp,rfl,rfl⟩
 ·split at hq
  ·refine .inr (.inr fun G ρ vx vy hvx hvy=> ?_)
   obtain⟨vs,e1,hvs⟩:=hvx
   obtain⟨us,e2,hus⟩:=hvy
   subst e1;subst e2
   exact⟨by simp,rfl,rfl⟩
  ·cases hq
 ·cases hq
theorem YT {op:BinOp} {t u:TypeId} {x y:Operand} (ho:o.op= .binOp op t x y u) (hi:∀ ka a kb b,S.ev x= .v false [.int ka a]→S.ev y= .v false [.int kb b]→False)
 (hs:∀ a b,S.ev x= .v false [.str a]→S.ev y= .v false [.str b]→False) (h:WV X.P op t (S.ev x) (S.ev y) k=some r):∃ s,k s=some r∧eS X.P o S M s:=by
 unfold WV at h
 split at h
 ·cases h
 ·rename_i hgd
  have hgd':X.P.eqGuardType X.P.depth t=false:=by simpa using hgd
  have key:∀ q,rJ X.P 9 t (S.ev x) (S.ev y)=some q→∀ (G:Gh) (ρ:Env) (w:World) (vx vy:Value),bB G ρ (S.ev x) vx→bB G ρ (S.ev y) vy→
   (eqGuard op t x y vx vy).run X.P w= .ok () w∧(binOp .eql t vx vy).run X.P w= .ok (.bool q) w∧(binOp .neq t vx vy).run X.P w= .ok (.bool !q) w:=by
   intro q hq G ρ w vx vy hvx hvy
   have heq':(Op.equal t vx vy).run X.P w= .ok q w:=MX hq Op.maxDepth (by decide) G ρ w vx vy hvx hvy
   rcases UD hq with ⟨ka,a,kb,b,e1,e2⟩ | ⟨a,b,e1,e2⟩ | hB
   ·exact (hi _ _ _ _ e1 e2).elim
   ·exact (hs _ _ e1 e2).elim
   ·obtain⟨h1,h2,h3⟩:=hB G ρ vx vy hvx hvy
    refine⟨Jf hgd' h1, ?_, ?_⟩
    ·rw[h2];simp[heq']
    ·rw[h3];simp[heq']
  clear hi hs
  split at h
  ·split at h
   ·rename_i q hq
    refine⟨_,h,fun C G ρ w a hM hop=>⟨.bool q, ?_,rfl⟩⟩
    obtain⟨h1,h2,_⟩:=key q hq G ρ w _ _ (hop x (by simp[ho,Op.operands])) (hop y (by simp[ho,Op.operands]))
    simp only[execOp,ho,Sem.run_bind,h1,Result.andThen_ok,h2,Sem.run_pure]
   ·split at h
    ·rename_i e b ht hb
     refine⟨_,h,fun C G ρ w a hM hop=> ?_⟩
     have hvx:=hop x (by simp[ho,Op.operands])
     have hvy:=hop y (by simp[ho,Op.operands])
     generalize S.ev x=sx at hb hvx
     generalize S.ev y=sy at hb hvy
     unfold XA at hb
     split at hb
     ·rename_i ty l
      cases hb
      obtain⟨p,cap,e1,_,_,hl⟩:=(hvx:dH G _ _ l _)
      have e2:a.eval y= .slice none 0 0:=hvy
      refine⟨.bool p.isNone, ?_,p.isNone,rfl,fun he=> ?_⟩
      ·have h1:(eqGuard .eql t x y (a.eval x) (a.eval y)).run X.P w= .ok () w:=Jf hgd' (by rw[e1];simp)
       have h2:(binOp .eql t (a.eval x) (a.eval y)).run X.P w= .ok (.bool p.isNone) w:=by
        rw[e1,e2]
        have h3:(Op.equal t (.slice p l.length cap) (.slice none 0 0)).run X.P w= .ok p.isNone w:=by
         unfold Op.equal
         obtain⟨dd,hd⟩:∃ dd,Op.maxDepth=dd+1:=⟨9999,rfl⟩
         rw[hd]
         cases p<;>simp[Op.equalIn,run_underlying ht]
        have h4:binOp .eql t (.slice p l.length cap) (.slice none 0 0)=(do pure (.bool (← Op.equal t (.slice p l.length cap) (.slice none 0 0)))):=rfl
        rw[h4];simp[h3]
       simp only[execOp,ho,Sem.run_bind,h1,Result.andThen_ok,h2,Sem.run_pure]
      ·rcases hl with hl | ⟨_,_,_,_,_,e3,_⟩
       ·subst hl;cases he
       ·rw[e3];rfl
     ·cases hb
    ·cases h
  ·split at h
   ·rename_i q hq
    refine⟨_,h,fun C G ρ w a hM hop=>⟨.bool !q, ?_,rfl⟩⟩
    obtain⟨h1,_,h2⟩:=key q hq G ρ w _ _ (hop x (by simp[ho,Op.operands])) (hop y (by simp[ho,Op.operands]))
    simp only[execOp,ho,Sem.run_bind,h1,Result.andThen_ok,h2,Sem.run_pure]
   ·cases h
  ·cases h
theorem X9 {op:BinOp} {t u:TypeId} {x y:Operand} (ho:o.op= .binOp op t x y u) (h:cn X o S M k=some r):∃ s,k s=some r∧eS X.P o S M s:=by
 unfold cn at h
 rw[ho] at h
 simp only[Xw] at h
 split at h
 ·rename_i ka n kb m hx hy
  obtain⟨c,hk,hc⟩:=Vu h
  refine⟨_,hk,fun C G ρ w a hM hop=> ?_⟩
  have h1:=one_cell (hop x (by simp[ho,Op.operands])) hx
  have h2:=one_cell (hop y (by simp[ho,Op.operands])) hy
  obtain⟨v,hr,hv⟩:=hc X.P G ρ w t
  refine⟨v, ?_,hv⟩
  simp only[execOp,ho,Sem.run_bind,show a.eval x= .int ka n from h1,show a.eval y= .int kb m from h2,SU,Result.andThen_ok,hr,Sem.run_pure]
 ·rename_i n m hx hy
  obtain⟨c,hk,hc⟩:=Vv h
  refine⟨_,hk,fun C G ρ w a hM hop=> ?_⟩
  have h1:=one_cell (hop x (by simp[ho,Op.operands])) hx
  have h2:=one_cell (hop y (by simp[ho,Op.operands])) hy
  obtain⟨v,hr,hv⟩:=hc X.P G ρ w t
  refine⟨v, ?_,hv⟩
  simp only[execOp,ho,Sem.run_bind,show a.eval x= .string (bs n) from h1,show a.eval y= .string (bs m) from h2,SX,Result.andThen_ok,hr,Sem.run_pure]
 ·rename_i hni hns
  exact YT ho hni hns h
theorem YW {op:UnOp} {t:TypeId} {x:Operand} (ho:o.op= .unOp op t x) (h:cn X o S M k=some r):∃ s,k s=some r∧eS X.P o S M s:=by
 unfold cn at h
 rw[ho] at h
 simp only at h
 split at h
 ·rename_i b hx
  refine⟨_,h,fun C G ρ w a hM hop=> ?_⟩
  have h1:=one_cell (hop x (by simp[ho,Op.operands])) hx
  exact⟨.bool !b,by simp only[execOp,ho,show a.eval x= .bool b from h1,Op.unary];rfl,rfl⟩
 ·rename_i ik n hx
  refine⟨_,h,fun C G ρ w a hM hop=> ?_⟩
  have h1:=one_cell (hop x (by simp[ho,Op.operands])) hx
  exact⟨_,by simp only[execOp,ho,show a.eval x= .int ik n from h1,Op.unary,Op.intArith];rfl,rfl⟩
 ·cases h
theorem Wr {t u:TypeId} {x:Operand} (ho:o.op= .convert t u x) (h:cn X o S M k=some r):∃ s,k s=some r∧eS X.P o S M s:=by
 unfold cn at h
 rw[ho] at h
 simp only at h
 split at h
 ·rename_i d ik ik' n hd hu hx
  refine⟨_,h,fun C G ρ w a hM hop=> ?_⟩
  have h1:=one_cell (hop x (by simp[ho,Op.operands])) hx
  refine⟨.int ik (ik.wrap n), ?_,rfl⟩
  simp only[execOp,ho,show a.eval x= .int ik' n from h1,convert,Sem.run_bind,run_underlying hd,run_underlying hu,Result.andThen_ok,Conv.intToInt,Sem.run_pure]
 ·rename_i d s hd hu hx
  refine⟨_,h,fun C G ρ w a hM hop=> ?_⟩
  have h1:=one_cell (hop x (by simp[ho,Op.operands])) hx
  refine⟨.string (bs s), ?_,rfl⟩
  simp only[execOp,ho,show a.eval x= .string (bs s) from h1,convert,Sem.run_bind,run_underlying hd,run_underlying hu,Result.andThen_ok,Sem.run_pure]
 ·rename_i d ik n hd hu hx
  obtain⟨hc,h⟩:=fB h
  simp only[ZN,acy] at hc
  refine⟨_,h,fun C G ρ w a hM hop=> ?_⟩
  have h1:=one_cell (hop x (by simp[ho,Op.operands])) hx
  have he:Utf8.encode n=bs [UInt8.ofNat n.toNat]:=by
   have hv:Utf8.valid n=true:=by
    unfold Utf8.valid
    rw[ZZ,ZN,acy,acy]
    exact .inl ⟨hc.1,by omega⟩
   unfold Utf8.encode
   rw[hv]
   simp only[acG]
   rw[acF (show n.toNat<128 by omega)]
   rfl
  refine⟨.string (bs [UInt8.ofNat n.toNat]), ?_,rfl⟩
  simp only[execOp,ho,show a.eval x= .int ik n from h1,convert,Sem.run_bind,run_underlying hd,run_underlying hu,Result.andThen_ok,Conv.intToString,Sem.run_pure,he]
 ·cases h
theorem Wt {x:Operand} (ho:o.op= .move x∨o.op= .assign x) (h:cn X o S M k=some r):∃ s,k s=some r∧eS X.P o S M s:=by
 unfold cn at h
 rcases ho with ho | ho<;>rw[ho] at h<;>simp only at h
 all_goals exact⟨_,h,fun C G ρ w a hM hop=>⟨a.eval x,by simp only[execOp,ho,Sem.run_pure],hop x (by simp[ho,Op.operands])⟩⟩
theorem YV {c x y:Operand} (ho:o.op= .pick c x y) (h:cn X o S M k=some r):∃ s,k s=some r∧eS X.P o S M s:=by
 unfold cn at h
 rw[ho] at h
 simp only at h
 split at h
 ·rename_i t hc
  cases t with
  | true=>
   refine⟨_,h,fun C G ρ w a hM hop=>⟨a.eval x, ?_,hop x (by simp[ho,Op.operands])⟩⟩
   have h1:=one_cell (hop c (by simp[ho,Op.operands])) hc
   simp only[execOp,ho,show a.eval c= .bool true from h1,asBool,Sem.run_bind,Sem.run_pure,Result.andThen_ok,acG]
  | false=>
   refine⟨_,h,fun C G ρ w a hM hop=>⟨a.eval y, ?_,hop y (by simp[ho,Op.operands])⟩⟩
   have h1:=one_cell (hop c (by simp[ho,Op.operands])) hc
   simp[execOp,ho,show a.eval c= .bool false from h1,asBool]
 ·cases h
theorem U7 {x:Operand} (ho:o.op= .nilCheck x) (h:cn X o S M k=some r):∃ s,k s=some r∧eS X.P o S M s:=by
 unfold cn at h
 rw[ho] at h
 simp only at h
 split at h
 ·rename_i i j hx
  refine⟨_,h,fun C G ρ w a hM hop=> ?_⟩
  have h1:=one_cell (hop x (by simp[ho,Op.operands])) hx
  exact⟨_,by simp only[execOp,ho,show a.eval x=_ from h1];rfl,rfl⟩
 ·rename_i t y j hx
  refine⟨_,h,fun C G ρ w a hM hop=> ?_⟩
  have h1:=one_cell (hop x (by simp[ho,Op.operands])) hx
  obtain⟨b,off,c,T,fz,e,rest⟩:=h1
  exact⟨_,by simp only[execOp,ho,e];rfl,b,off,c,T,fz,rfl,rest⟩
 ·rename_i i sz j l hx
  refine⟨_,h,fun C G ρ w a hM hop=> ?_⟩
  have h1:=one_cell (hop x (by simp[ho,Op.operands])) hx
  obtain⟨b,len,cap,e1,e2⟩:=h1
  exact⟨_,by simp only[execOp,ho,e2];rfl,b,len,cap,e1,rfl⟩
 ·rename_i g t y hx
  refine⟨_,h,fun C G ρ w a hM hop=> ?_⟩
  have h1:=one_cell (hop x (by simp[ho,Op.operands])) hx
  obtain⟨caps,e,hc⟩:=h1
  exact⟨_,by simp only[execOp,ho,e];rfl,caps,rfl,hc⟩
 ·rename_i g ks hx
  refine⟨_,h,fun C G ρ w a hM hop=> ?_⟩
  have h1:=one_cell (hop x (by simp[ho,Op.operands])) hx
  exact⟨_,by simp only[execOp,ho,show a.eval x=_ from h1];rfl,rfl⟩
 ·rename_i oh j hx
  obtain⟨i,hi,h⟩:=bind_some h
  subst hi
  refine⟨_,h,fun C G ρ w a hM hop=> ?_⟩
  have h1:=one_cell (hop x (by simp[ho,Op.operands])) hx
  obtain⟨b,hb,e⟩:=h1
  exact⟨_,by simp only[execOp,ho,e];rfl,b,hb,rfl⟩
 ·cases h
theorem Tt {t:TypeId} {x:Operand} {f:Nat} (ho:o.op= .fieldAddr t x f) (h:cn X o S M k=some r):∃ s,k s=some r∧eS X.P o S M s:=by
 unfold cn at h
 rw[ho] at h
 simp only at h
 split at h
 ·rename_i fs c ht hx
  split at h
  ·rename_i fd hf
   split at h
   ·rename_i hok
    simp only[ZN,ZV] at hok
    obtain⟨d,i,hd,hi⟩:=fW hok.1
    split at h
    ·rename_i c' hc
     refine⟨_,h,fun C G ρ w a hM hop=> ?_⟩
     have h1:=one_cell (hop x (by simp[ho,Op.operands])) hx
     obtain⟨b,off,e,hc'⟩:=N6 hc h1
     have hadd:(⟨b,off,none⟩:Addr).add fd.offset=⟨b,off+fd.offset,none⟩:=by unfold Addr.add;split<;>simp_all
     have hz:bN X.P fd.type≠0:=fun e0=>by rw[e0] at hok;simp at hok
     refine⟨_, ?_,hc'⟩
     simp only[execOp,ho,e,Instr.fieldAt,Sem.run_bind,run_underlying ht,Result.andThen_ok,hf,Instr.sureAddr,Sem.run_pure,fieldPlace,run_sizeOf hi,hz,acD,hadd]
    ·cases h
   ·cases h
  ·cases h
 ·cases h
theorem YU {t:TypeId} {x:Operand} (ho:o.op= .load t x) (h:cn X o S M k=some r):∃ s,k s=some r∧eS X.P o S M s:=by
 unfold cn at h
 rw[ho] at h
 simp only at h
 split at h
 ·rename_i bk off hx
  split at h
  ·rename_i l hl
   obtain⟨s,hs,hld⟩:=yc h
   refine⟨s,hs,fun C G ρ w a hM hop=> ?_⟩
   have h1:=one_cell (hop x (by simp[ho,Op.operands])) hx
   obtain⟨_,vs,T,hw,hv⟩:=hM.boxes bk l hl
   obtain⟨v,hr,hsv⟩:=hld G ρ w (ρ.bx bk) 0 vs hv (fun j v hj=>by
    have hadd:(⟨ρ.bx bk,0,none⟩:Addr).add j=⟨ρ.bx bk,j,none⟩:=by unfold Addr.add;split<;>simp_all
    rw[hadd,cell_of_row w _ j _ T (0,0) hw];simpa using hj)
   refine⟨v, ?_,hsv⟩
   simp only[ab9] at hr
   simp only[execOp,ho,show a.eval x=_ from h1,Instr.loadAt,Instr.sureAddr,Sem.run_bind,Sem.run_pure,Result.andThen_ok,hr]
  ·cases h
 ·rename_i ty y off hx
  obtain⟨s,hs,hld⟩:=yc h
  refine⟨s,hs,fun C G ρ w a hM hop=> ?_⟩
  have h1:=one_cell (hop x (by simp[ho,Op.operands])) hx
  obtain⟨b,base,c,T,fz,e,hb,hsz,hl⟩:=h1
  obtain⟨v,hr,hsv⟩:=hld G ρ w b base _ (er ρ hl) (Qu (hM.agr b _ hb) _)
  refine⟨v, ?_,hsv⟩
  simp only[execOp,ho,e,Instr.loadAt,Instr.sureAddr,Sem.run_bind,Sem.run_pure,Result.andThen_ok,hr]
 ·rename_i j sz i off hx
  split at h
  ·rename_i q hq
   obtain⟨y,hy,h⟩:=bind_some h
   split at h
   ·rename_i hcond
    simp only[ZN,ZV] at hcond
    obtain⟨s,hs,hld⟩:=yc h
    refine⟨s,hs,fun C G ρ w a hM hop=> ?_⟩
    have h1:=one_cell (hop x (by simp[ho,Op.operands])) hx
    obtain⟨b,len,cap,e1,e2⟩:=h1
    have hrow:=hM.rows j q hq
    unfold b9 at hrow
    rw[acE (by simp[hcond.1])] at hrow
    obtain⟨xs,⟨hlen,hn | ⟨g,cap',cur,hv,_,hg,hnc,hcm,hcs,htake⟩⟩,hl,hown⟩:=hrow
    ·have:q.l=[]:=aax hn.2
     rw[this] at hy;simp at hy
    ·rw[e1] at hv
     cases hv
     have hyr:=hl.get (fun x cs hr=>aB.len hr) hy
     have hsz:=abL hcond.2
     obtain⟨v,hr,hsv⟩:=hld G ρ w b (i*sz) _ (er ρ hyr) (fun n u hu=>by
      rw[aaS] at hu
      split at hu
      ·rw[aaI, ← htake,aaS] at hu
       split at hu
       ·have hadd:(⟨b,i*sz,none⟩:Addr).add n=⟨b,i*sz+n,none⟩:=by unfold Addr.add;split<;>simp_all
        rw[hadd,cell_of_row w _ _ _ _ _ hg,hsz];simpa using hu
       ·cases hu
      ·cases hu)
     refine⟨v, ?_,hsv⟩
     simp only[execOp,ho,e2,Instr.loadAt,Instr.sureAddr,Sem.run_bind,Sem.run_pure,Result.andThen_ok,hr]
   ·cases h
  ·cases h
 ·rename_i i off hx
  split at h
  ·rename_i fz ty l hl
   obtain⟨y,hy,h⟩:=bind_some h
   obtain⟨s,hs,hld⟩:=yc h
   refine⟨s,hs,fun C G ρ w a hM hop=> ?_⟩
   have h1:=one_cell (hop x (by simp[ho,Op.operands])) hx
   obtain⟨b,hb,e⟩:=h1
   obtain⟨b',vs,T,hb',_,_,hw,hrep⟩:=(hM.objs bF _ hl).2.2.2 i y hy
   rw[hb] at hb'
   cases hb'
   obtain⟨v,hr,hsv⟩:=hld G ρ w b 0 vs (er ρ hrep) (fun j v hj=>by
    have hadd:(⟨b,0,none⟩:Addr).add j=⟨b,j,none⟩:=by unfold Addr.add;split<;>simp_all
    rw[hadd,cell_of_row w _ j _ T (0,0) hw];simpa using hj)
   refine⟨v, ?_,hsv⟩
   simp only[ab9] at hr
   simp only[execOp,ho,e,Instr.loadAt,Instr.sureAddr,Sem.run_bind,Sem.run_pure,Result.andThen_ok,hr]
  ·cases h
 ·cases h
theorem LG {ik:IntKind}:∀ {cs:List CV} {l:List Int} {i:Nat} {m:Int},GZ ik cs=some l→l[i]? =some m→cs[i]? =some (.int ik m)
 | [],l,i,m,h,hg=>by simp only[GZ,Option.some.injEq] at h;subst h;simp at hg
 | c::cs,l,i,m,h,hg=>by
  cases c<;>simp only[GZ] at h<;>try cases h
  split at h
  ·rename_i k n hk
   subst hk
   split at h
   ·rename_i l' hl'
    cases h
    cases i with
    | zero=>simp at hg;subst hg;rfl
    | succ i=>simp at hg ⊢;exact LG hl' hg
   ·cases h
  ·cases h
theorem Tu {t:TypeId} {x ix:Operand} (ho:o.op= .indexAddr t x ix) (h:cn X o S M k=some r):∃ s,k s=some r∧eS X.P o S M s:=by
 unfold cn at h
 rw[ho] at h
 simp only at h
 split at h
 ·rename_i e ty l ik i ht hx hix
  split at h
  ·rename_i hok
   simp only[ZN] at hok
   obtain⟨y,hy,h⟩:=bind_some h
   obtain⟨h0,h1,hget⟩:=Kf hy
   refine⟨_,h,fun C G ρ w a hM hop=> ?_⟩
   have hv1:=one_cell (hop x (by simp[ho,Op.operands])) hx
   have hv2:=one_cell (hop ix (by simp[ho,Op.operands])) hix
   obtain⟨b,off,c,T,fz,cap,ev,hb,hs,hrep⟩:=dH.at hv1 hget
   have hsz:=abL hok.2
   refine⟨_, ?_,b,off+i.toNat*ty.size,c,T,fz,rfl,hb,hs,hrep⟩
   simp only[execOp,ho,ev,show a.eval ix= .int ik i from hv2,Sem.run_bind,run_indexAt_slice ht hok.1 h0 h1,Result.andThen_ok,Sem.run_pure,hsz,abI]
  ·cases h
 ·rename_i e j ik i ht hx hix
  split at h
  ·rename_i q hq
   split at h
   ·rename_i hok
    simp only[ZN] at hok
    have hsz:=abL hok.2
    split at h
    ·rename_i hfz
     obtain⟨y,hy,h⟩:=bind_some h
     obtain⟨h0,h1,hget⟩:=Kf hy
     refine⟨_,h,fun C G ρ w a hM hop=> ?_⟩
     have hv1:=one_cell (hop x (by simp[ho,Op.operands])) hx
     have hv2:=one_cell (hop ix (by simp[ho,Op.operands])) hix
     have hrow:=hM.frozen j q hq hfz
     obtain⟨b,off,c,T,fz,cap,ev,hb,hs,hrep⟩:=dH.at hrow hget
     refine⟨_, ?_,b,off+i.toNat*q.t.size,c,T,fz,rfl,hb,hs,hrep⟩
     simp only[execOp,ho,show a.eval x=ρ.rw j from hv1.1,ev,show a.eval ix= .int ik i from hv2,Sem.run_bind,run_indexAt_slice ht hok.1 h0 h1,Result.andThen_ok,Sem.run_pure,hsz,abI]
    ·rename_i hfz
     obtain⟨hc,h⟩:=fB h
     simp only[ZN,acy] at hc
     refine⟨_,h,fun C G ρ w a hM hop=> ?_⟩
     have hv1:=one_cell (hop x (by simp[ho,Op.operands])) hx
     have hv2:=one_cell (hop ix (by simp[ho,Op.operands])) hix
     have hrow:=hM.rows j q hq
     unfold b9 at hrow
     rw[acE hfz] at hrow
     obtain⟨xs,⟨hlen,hn | ⟨g,cap',cur,hv,_,hg,_⟩⟩,hl,hown⟩:=hrow
     ·omega
     ·refine⟨_, ?_,g,q.l.length,cap',hv,rfl⟩
      simp only[execOp,ho,show a.eval x=ρ.rw j from hv1.1,hv,show a.eval ix= .int ik i from hv2,Sem.run_bind,run_indexAt_slice ht hok.1 hc.1 hc.2,Result.andThen_ok,Sem.run_pure,hsz,ab9,abI]
   ·cases h
  ·cases h
 ·rename_i n e c ik i ht hx hix
  split at h
  ·rename_i hok
   obtain⟨m,rfl,hlt,h⟩:=L5 h
   rw[ab9] at hlt
   split at h
   ·rename_i c' hc
    refine⟨_,h,fun C G ρ w a hM hop=> ?_⟩
    have h1:=one_cell (hop x (by simp[ho,Op.operands])) hx
    have hv2:=one_cell (hop ix (by simp[ho,Op.operands])) hix
    obtain⟨b,off,e1,hc'⟩:=N6 hc h1
    obtain⟨d,j,hd,hj⟩:=fW hok
    have hadd:(⟨b,off,none⟩:Addr).add (m*bN X.P e)=⟨b,off+m*bN X.P e,none⟩:=by unfold Addr.add;split<;>simp_all
    refine⟨_, ?_,hc'⟩
    have h0:(0:Int)≤(m:Int)∧(m:Int)<(n:Int):=⟨Int.natCast_nonneg m,Int.ofNat_lt.2 hlt⟩
    simp only[execOp,ho,e1,show a.eval ix= .int ik (m:Int) from hv2,Instr.indexAt,asIntOf,Instr.sureAddr,Sem.run_bind,Sem.run_pure,run_underlying ht,Result.andThen_ok,acF h0,run_sizeOf hj,show ((m:Int)).toNat=m from rfl,hadd]
   ·cases h
  ·cases h
 ·cases h
theorem Yc {t:TypeId} {x ix:Operand} (ho:o.op= .index t x ix) (h:cn X o S M k=some r):∃ s,k s=some r∧eS X.P o S M s:=by
 unfold cn at h
 rw[ho] at h
 simp only at h
 split at h
 ·rename_i s ik i ht hx hix
  obtain⟨b,hb,h⟩:=bind_some h
  refine⟨_,h,fun C G ρ w a hM hop=> ?_⟩
  have hv1:=one_cell (hop x (by simp[ho,Op.operands])) hx
  have hv2:=one_cell (hop ix (by simp[ho,Op.operands])) hix
  unfold mW at hb
  split at hb
  ·rename_i h0
   refine⟨.int .u8 b.toNat, ?_,rfl⟩
   have hb':(bs s)[i.toNat]? =some b:=by
    obtain⟨hlt,he⟩:=aaL.1 hb
    rw[getElem?_pos (bs s) i.toNat (by rw[Da];exact hlt)]
    simp only[bs,Option.some.injEq]
    rw[← he];rfl
   simp only[execOp,ho,show a.eval x= .string (bs s) from hv1,show a.eval ix= .int ik i from hv2,Instr.index,asIntOf,Sem.run_bind,Sem.run_pure,Result.andThen_ok,run_underlying ht,h0,acG,hb']
  ·cases hb
 ·rename_i n e cs ik i ht hx hix
  split at h
  ·rename_i ek he
   split at h
   ·rename_i l hl
    split at h
    ·rename_i hc
     simp only[ZN,ZV] at hc
     obtain⟨⟨⟨c1,c2⟩,c3⟩,c4⟩:=hc
     obtain⟨d,j,hd,hj⟩:=fW c1
     have hsz:=abL c2
     have hln:=abL c4
     obtain⟨m,hm,h⟩:=bind_some h
     obtain⟨h0,h1,hget⟩:=Kf hm
     refine⟨_,h,fun C G ρ w a hM hop=> ?_⟩
     have hv:=hop x (by simp[ho,Op.operands])
     rw[hx] at hv
     obtain⟨vs,ev,hall⟩:=hv
     have hv2:=one_cell (hop ix (by simp[ho,Op.operands])) hix
     have hcell:=LG hl hget
     obtain⟨v,hv3,hv4⟩:=hall.get hcell
     refine⟨v, ?_,hv4⟩
     have hb:0≤i∧i<(n:Int):=⟨h0,by rw[← hln];exact h1⟩
     simp only[execOp,ho,ev,show a.eval ix= .int ik i from hv2,Instr.index,asIntOf,Sem.run_bind,Sem.run_pure,Result.andThen_ok,run_underlying ht,acF hb,run_sizeOf hj,hsz,Nat.mul_one,part,nt hd,c3,ZQ,acD]
     simp[hv3]
    ·cases h
   ·cases h
  ·cases h
 ·cases h
theorem Ws {x:Operand} {i:Nat} (ho:o.op= .extract x i) (h:cn X o S M k=some r):∃ s,k s=some r∧eS X.P o S M s:=by
 unfold cn at h
 rw[ho] at h
 simp only at h
 split at h
 ·rename_i l hx
  split at h
  ·rename_i p hp
   refine⟨_,h,fun C G ρ w a hM hop=> ?_⟩
   have hv1:=hop x (by simp[ho,Op.operands])
   rw[hx] at hv1
   obtain⟨vs,e,hl⟩:=hv1
   obtain⟨v,hv,hsv⟩:=hl.get hp
   refine⟨v, ?_,hsv⟩
   simp[execOp,ho,e,Instr.extract,hv]
  ·cases h
 ·cases h
end
end Go.Dn
namespace Go.Dn
variable {P:Program} {G:Gh} {w:World}
theorem Vx (a b:List UInt8):(bs a==bs b)=(a==b):=by
 have h:(bs a==bs b)=((bs a).data==(bs b).data):=rfl
 rw[h]
 simp[bs]
theorem yb {t:TypeId} {k:Ty} (h:dN P t k=true) (hn:∀ s,k≠ .st s):bJ P t k=true:=by
 cases k with
 | st s=>exact absurd rfl (hn s)
 | _=>exact h
theorem CS {t:TypeId} {k:Ty} (h:bJ P t k=true) (d:Nat) (a b:k.den):∃ c1 c2,unpack k a=[c1]∧unpack k b=[c2]∧rJ P (d+1) t (.v false [c1]) (.v false [c2])=some (k.beq a b)∧dO k a= .v false [c1]∧dO k b= .v false [c2]:=by
 cases k with
 | int kk=>
  simp only[bJ] at h
  split at h
  ·rename_i hu
   exact⟨_,_,rfl,rfl,by simp[rJ,hu,Ty.beq,UI],rfl,rfl⟩
  ·cases h
 | bool=>
  simp only[bJ] at h
  split at h
  ·rename_i hu
   exact⟨_,_,rfl,rfl,by simp[rJ,hu,Ty.beq,Ut],rfl,rfl⟩
  ·cases h
 | str=>
  simp only[bJ] at h
  split at h
  ·rename_i hu
   exact⟨_,_,rfl,rfl,by simp[rJ,hu,Ty.beq,Kv],rfl,rfl⟩
  ·cases h
 | _=>simp[bJ] at h
theorem sw {t:TypeId} {k:Ty} (h:bJ P t k=true):okT P t=true∧oy P t=false∧k.size=1:=by
 cases k with
 | int kk=>
  simp only[bJ] at h
  split at h
  ·rename_i hu;exact⟨by simp[okT,hu],by simp[oy,hu],rfl⟩
  ·cases h
 | bool=>
  simp only[bJ] at h
  split at h
  ·rename_i hu;exact⟨by simp[okT,hu],by simp[oy,hu],rfl⟩
  ·cases h
 | str=>
  simp only[bJ] at h
  split at h
  ·rename_i hu;exact⟨by simp[okT,hu],by simp[oy,hu],rfl⟩
  ·cases h
 | _=>simp[bJ] at h
theorem Es {T:TypeId} (hok:okT P T=true) (hag:oy P T=false) (hsz:bN P T=1) {l:List CV} {n:Nat} {c:CV} {r:List CV} (h:l.drop n=c::r):jH P T l n some=some (.v false [c]):=by
 have:(l.drop n).take 1=[c]:=by rw[h];rfl
 simp[jH,hok,HV,hsz,this,hag]
theorem Og {l:List CV} {n:Nat} {c:CV} {r:List CV} (h:l.drop n=c::r):l.drop (n+1)=r:=by
 have:l.drop (n+1)=(l.drop n).drop 1:=by rw[aaq]
 rw[this,h];rfl
theorem Oh {d:Nat} {xs ys:List CV}:∀ {fs:List Field} {n:Nat} {t:Ty} {a b:t.den},bU P fs n t=true→xs.drop n=unpack t a→ys.drop n=unpack t b→GM P (rJ P (d+1)) xs ys fs=some (t.beq a b)
 | [],n,t,a,b,h,_,_=>by simp[bU] at h
 | [f],n,t,a,b,h,hx,hy=>by
  simp only[bU,ZN,acy] at h
  obtain⟨⟨⟨h1,h2⟩,h3⟩,h4⟩:=h
  have e2:=abL h2
  have e3:=abL h3
  obtain⟨k1,k2,k3⟩:=sw h4
  obtain⟨c1,c2,u1,u2,he,_,_⟩:=CS h4 d a b
  simp only[GM,acE h1,e2]
  rw[Es k1 k2 e3 (hx.trans u1),Es k1 k2 e3 (hy.trans u2)]
  simp only[he,ZP]
 | f::g::r,n,t,a,b,h,hx,hy=>by
  cases t with
  | pair s t=>
   simp only[bU,ZN,acy] at h
   obtain⟨⟨⟨⟨h1,h2⟩,h3⟩,h4⟩,h5⟩:=h
   have e2:=abL h2
   have e3:=abL h3
   obtain⟨k1,k2,k3⟩:=sw h4
   obtain⟨c1,c2,u1,u2,he,_,_⟩:=CS h4 d a.1 b.1
   simp only[unpack,u1,u2,List.singleton_append] at hx hy
   have ih:=Oh (d:=d) h5 (Og hx) (Og hy)
   rw[GM,acE h1,e2]
   rw[Es k1 k2 e3 hx,Es k1 k2 e3 hy]
   simp only[he,ih,Ty.beq]
  | _=>simp[bU] at h
theorem W8 {t:TypeId} {k:Ty} (h:dN P t k=true) (a b:k.den):rJ P 9 t (dO k a) (dO k b)=some (k.beq a b):=by
 cases k with
 | st s=>
  simp only[dN] at h
  split at h
  ·rename_i fs hu
   simp only[ZN,ZV] at h
   simp only[dO,rJ,hu,h.1,ZQ,acD]
   exact Oh (t:=s) (a:=a) (b:=b) (d:=7) (n:=0) h.2 (by simp) (by simp)
  ·cases h
 | _=>
  obtain⟨c1,c2,u1,u2,he,e1,e2⟩:=CS (P:=P) (t:=t) (yb h (by intro s e;cases e)) 8 a b
  rw[e1,e2]
  exact he
theorem Oq {t:TypeId} {k:Ty} (h:dN P t k=true) {a b:k.den} {va vb:Value} (ha:bL G k a va) (hb:bL G k b vb) (w:World):(Op.equal t va vb).run P w= .ok (k.beq a b) w:=by
 let ρ:Env:=⟨fun _=>0,fun _=> .nilFunc,fun _=>none,fun _=> .nilFunc,fun _ _=>0⟩
 exact MX (W8 h a b) Op.maxDepth (by decide) G ρ w va vb (w9 ρ ha) (w9 ρ hb)
theorem Ot {t:TypeId} {k:Ty} (h:dN P t k=true) {a b:k.den} (e:k.beq a b=true):a=b:=by
 have sc:∀ {t:TypeId} {k:Ty},bJ P t k=true→∀ {a b:k.den},k.beq a b=true→a=b:=by
  intro t k h a b e
  cases k with
  | int kk=>exact eq_of_beq (α:=Int) (a:=a) (b:=b) e
  | bool=>exact eq_of_beq (α:=Bool) (a:=a) (b:=b) e
  | str=>exact eq_of_beq (α:=List UInt8) (a:=a) (b:=b) e
  | _=>simp[bJ] at h
 have fc:∀ (fs:List Field) (n:Nat) (t:Ty) (a b:t.den),bU P fs n t=true→t.beq a b=true→a=b:=by
  intro fs
  induction fs with
  | nil=>intro n t a b h;simp[bU] at h
  | cons f r ih=>
   intro n t a b h e
   cases r with
   | nil=>
    simp only[bU,ZN] at h
    exact sc h.2 e
   | cons g r=>
    cases t with
    | pair s t=>
     simp only[bU,ZN] at h
     simp only[Ty.beq,ZN] at e
     exact Prod.ext (sc h.1.2 (a:=a.1) (b:=b.1) e.1) (ih (n+1) t a.2 b.2 h.2 e.2)
    | _=>simp[bU] at h
 cases k with
 | st s=>
  simp only[dN] at h
  split at h
  ·rename_i fs hu
   simp only[ZN] at h
   exact fc fs.toList 0 s a b h.2 e
  ·cases h
 | _=>exact sc (t:=t) (a:=a) (b:=b) (yb h (by intro s e;cases e)) e
theorem Jw {t:TypeId} {k:Ty} (h:dN P t k=true) {a:k.den} {va vb:Value} (ha:bL G k a va) (hb:bL G k a vb):va=vb:=by
 have sc:∀ {t:TypeId} {k:Ty},bJ P t k=true→∀ {a:k.den} {u v:List Value},aB G k a u→aB G k a v→u=v:=by
  intro t k h a u v hu hv
  cases k with
  | int kk=>exact hu.trans hv.symm
  | bool=>exact hu.trans hv.symm
  | str=>exact hu.trans hv.symm
  | _=>simp[bJ] at h
 have fc:∀ (fs:List Field) (n:Nat) (t:Ty) (a:t.den) (u v:List Value),bU P fs n t=true→aB G t a u→aB G t a v→u=v:=by
  intro fs
  induction fs with
  | nil=>intro n t a u v h;simp[bU] at h
  | cons f r ih=>
   intro n t a u v h hu hv
   cases r with
   | nil=>
    simp only[bU,ZN] at h
    exact sc h.2 hu hv
   | cons g r=>
    cases t with
    | pair s t=>
     simp only[bU,ZN] at h
     obtain⟨c1,r1,e1,p1,q1⟩:=hu
     obtain⟨c2,r2,e2,p2,q2⟩:=hv
     rw[e1,e2,sc h.1.2 p1 p2,ih (n+1) t a.2 r1 r2 h.2 q1 q2]
    | _=>simp[bU] at h
 cases k with
 | st s=>
  simp only[dN] at h
  split at h
  ·rename_i fs hu
   simp only[ZN] at h
   obtain⟨us,e1,h1⟩:=ha
   obtain⟨vs,e2,h2⟩:=hb
   rw[e1,e2,fc fs.toList 0 s a us vs h.2 h1 h2]
  ·cases h
 | _=>
  have:=sc (t:=t) (a:=a) (yb h (by intro s e;cases e)) ha hb
  simpa using this
theorem sameBits_self {t:TypeId} {k:Ty} (h:dN P t k=true) {a:k.den} {v:Value} (hv:bL G k a v):Instr.sameBits 10000 v v=true:=by
 have sc:∀ {t:TypeId} {k:Ty},bJ P t k=true→∀ {a:k.den} {cs:List Value},aB G k a cs→∀ n u,u∈cs→Instr.sameBits n u u=true:=by
  intro t k h a cs hc n u hu
  cases k with
  | int kk=>
   have e:cs=[_]:=hc
   rw[e] at hu
   rcases abk.1 hu with rfl
   exact (fun x:Int=>by cases n<;>simp[Instr.sameBits]:∀ x:Int,Instr.sameBits n (.int kk x) (.int kk x)=true) a
  | bool=>
   have e:cs=[_]:=hc
   rw[e] at hu
   rcases abk.1 hu with rfl
   exact (fun x:Bool=>by cases n<;>simp[Instr.sameBits]:∀ x:Bool,Instr.sameBits n (.bool x) (.bool x)=true) a
  | str=>
   have e:cs=[_]:=hc
   rw[e] at hu
   rcases abk.1 hu with rfl
   exact (fun x:List UInt8=>by cases n<;>simp[Instr.sameBits,Vx]:∀ x:List UInt8,Instr.sameBits n (.string (bs x)) (.string (bs x))=true) a
  | _=>simp[bJ] at h
 have fc:∀ (fs:List Field) (n:Nat) (t:Ty) (a:t.den) (cs:List Value),bU P fs n t=true→aB G t a cs→∀ m u,u∈cs→Instr.sameBits m u u=true:=by
  intro fs
  induction fs with
  | nil=>intro n t a cs h;simp[bU] at h
  | cons f r ih=>
   intro n t a cs h hc m u hu
   cases r with
   | nil=>
    simp only[bU,ZN] at h
    exact sc h.2 hc m u hu
   | cons g r=>
    cases t with
    | pair s t=>
     simp only[bU,ZN] at h
     obtain⟨c1,r1,e1,p1,q1⟩:=hc
     rw[e1,aa8] at hu
     rcases hu with hu | hu
     ·exact sc h.1.2 p1 m u hu
     ·exact ih (n+1) t a.2 r1 h.2 q1 m u hu
    | _=>simp[bU] at h
 cases k with
 | st s=>
  simp only[dN] at h
  split at h
  ·rename_i fs hu
   simp only[ZN] at h
   obtain⟨us,e1,h1⟩:=hv
   rw[e1]
   have key:=fc fs.toList 0 s a us h.2 h1
   have:∀ (l:List Value),(∀ u,u∈l→Instr.sameBits 9999 u u=true)→((l.zip l).all fun p=>Instr.sameBits 9999 p.1 p.2)=true:=by
    intro l hl
    induction l with
    | nil=>rfl
    | cons x l ih=>simp only[List.zip_cons_cons,aag,ZN];exact⟨hl x (by simp),ih fun u hu=>hl u (by simp[hu])⟩
   show Instr.sameBits (9999+1) _ _=true
   simp only[Instr.sameBits,aco,Z0]
   exact this us fun u hu=>key 9999 u hu
  ·cases h
 | _=>exact sc (t:=t) (a:=a) (yb h (by intro s e;cases e)) hv 10000 v (by simp)
inductive zw {k v:Ty} (a:k.den) (l:List (k.den×v.den)) (es:List MapEntry):Option (Nat×Value)→Prop
 | no (h:∀ p,p∈l→k.beq a p.1=false):zw a l es none
 | yes (i:Nat) (p:k.den×v.den) (e:MapEntry) (hp:l[i]? =some p) (he:es[i]? =some e) (hb:k.beq a p.1=true) (hn:∀ j q,j<i→l[j]? =some q→k.beq a q.1=false):zw a l es (some (i,e.val))
theorem Fg {t:TypeId} {k v:Ty} (h:dN P t k=true) {a:k.den} {va:Value} (ha:bL G k a va):∀ {l:List (k.den×v.den)} {es:List MapEntry} (n:Nat),aK (nv G k v) l es→
 ∃ r,(Instr.findAsking t va es n).run P w= .ok (r.map fun p:Nat×Value=>(n+p.1,p.2)) w∧zw a l es r
 | [],es,n,he=>by cases he;exact⟨none,rfl,.no (by simp)⟩
 | p::l,_,n,⟨e,es,ee,hp,hl⟩=>by
  subst ee
  obtain⟨r,hr,hf⟩:=Fg h ha (n+1) hl
  cases hb:k.beq a p.1 with
  | true=>
   refine⟨some (0,e.val), ?_,.yes 0 p e rfl rfl hb (fun j q hj=>by omega)⟩
   simp[Instr.findAsking,Oq h ha hp.1 w,hb]
  | false=>
   refine⟨r.map fun q=>(q.1+1,q.2), ?_, ?_⟩
   ·simp only[Instr.findAsking,Sem.run_bind,Oq h ha hp.1 w,hb,Result.andThen_ok,ZQ,acD,hr,aci]
    congr 1
    cases r<;>simp;omega
   ·cases hf with
    | no hn=>
     refine .no fun q hq=> ?_
     rcases aa9.1 hq with rfl | hq
     ·exact hb
     ·exact hn q hq
    | yes i q e' h1 h2 h3 h4=>
     refine .yes (i+1) q e' (by simpa using h1) (by simpa using h2) h3 (fun j q' hj hq=> ?_)
     cases j with
     | zero=>simp only[aaH,Option.some.injEq] at hq;subst hq;exact hb
     | succ j=>exact h4 j q' (by omega) (by simpa using hq)
theorem Ln {t:TypeId} {k v:Ty} (h:bJ P t k=true) {dsc:TypeDesc} (hd:P.underlying t=some dsc) {a:k.den} {va:Value} (ha:bL G k a va):∀ {l:List (k.den×v.den)} {es:List MapEntry} (n:Nat),aK (nv G k v) l es→
 ∃ r,Instr.findNow dsc va es n=some (r.map fun p:Nat×Value=>(n+p.1,p.2))∧zw a l es r
 | [],es,n,he=>by cases he;exact⟨none,rfl,.no (by simp)⟩
 | p::l,_,n,⟨e,es,ee,hp,hl⟩=>by
  subst ee
  obtain⟨r,hr,hf⟩:=Ln h hd ha (n+1) hl
  have hs:Instr.sameNow dsc va e.key=some (k.beq a p.1):=by
   obtain⟨p1,p2⟩:=p
   have hp1:=hp.1
   dsimp only at hp1 ⊢
   cases k with
   | int kk=>
    have e1:va= .int kk a:=by simpa [bL,aB] using ha
    have e2:e.key= .int kk p1:=by simpa [bL,aB] using hp1
    simp only[bJ,hd] at h
    cases dsc<;>simp at h
    rw[e1,e2];exact (fun x y:Int=>by simp[Instr.sameNow,UI]:∀ x y:Int,Instr.sameNow (.int _) (.int kk x) (.int kk y)=some (UI x y)) a p1
   | bool=>
    have e1:va= .bool a:=by simpa [bL,aB] using ha
    have e2:e.key= .bool p1:=by simpa [bL,aB] using hp1
    simp only[bJ,hd] at h
    cases dsc<;>simp at h
    rw[e1,e2];exact (fun x y:Bool=>by simp[Instr.sameNow,Ut]:∀ x y:Bool,Instr.sameNow .bool (.bool x) (.bool y)=some (Ut x y)) a p1
   | str=>
    have e1:va= .string (bs a):=by simpa [bL,aB] using ha
    have e2:e.key= .string (bs p1):=by simpa [bL,aB] using hp1
    simp only[bJ,hd] at h
    cases dsc<;>simp at h
    rw[e1,e2]
    exact congrArg some (Vx a p1)
   | _=>simp[bJ] at h
  cases hb:k.beq a p.1 with
  | true=>
   refine⟨some (0,e.val), ?_,.yes 0 p e rfl rfl hb (fun j q hj=>by omega)⟩
   simp[Instr.findNow,hs,hb]
  | false=>
   refine⟨r.map fun q=>(q.1+1,q.2), ?_, ?_⟩
   ·simp only[Instr.findNow,hs,hb,hr,aci]
    congr 1
    cases r<;>simp;omega
   ·cases hf with
    | no hn=>
     refine .no fun q hq=> ?_
     rcases aa9.1 hq with rfl | hq
     ·exact hb
     ·exact hn q hq
    | yes i q e' h1 h2 h3 h4=>
     refine .yes (i+1) q e' (by simpa using h1) (by simpa using h2) h3 (fun j q' hj hq=> ?_)
     cases j with
     | zero=>simp only[aaH,Option.some.injEq] at hq;subst hq;exact hb
     | succ j=>exact h4 j q' (by omega) (by simpa using hq)
theorem zG {t:TypeId} {k v:Ty} (h:dN P t k=true) {a:k.den} {va:Value} (ha:bL G k a va) {l:List (k.den×v.den)} {es:List MapEntry} (he:aK (nv G k v) l es):
 ∃ r,(Instr.findKey t va es).run P w= .ok r w∧zw a l es r:=by
 by_cases hst:∃ s,k= .st s
 ·obtain⟨s,rfl⟩:=hst
  have h0:=h
  simp only[dN] at h
  split at h
  ·rename_i fs hu
   obtain⟨us,eu,_⟩:=ha
   have ha':bL G (.st s) a va:=⟨us,eu,by assumption⟩
   obtain⟨r,hr,hf⟩:=Fg (w:=w) h0 ha' 0 he
   have hid:(r.map fun p:Nat×Value=>(0+p.1,p.2))=r:=by cases r<;>simp
   rw[hid] at hr
   cases es with
   | nil=>
    refine⟨none,by simp[Instr.findKey,run_underlying hu,Instr.findNow], ?_⟩
    have:l=[]:=by
     cases l with
     | nil=>rfl
     | cons p l=>obtain⟨y,s',e,_⟩:=he;cases e
    subst this
    exact .no (by simp)
   | cons e es=>
    refine⟨r, ?_,hf⟩
    have hn:Instr.findNow (.struct fs) va (e::es) 0=none:=by simp[Instr.findNow,Instr.sameNow]
    simp only[Instr.findKey,Sem.run_bind,run_underlying hu,Result.andThen_ok,hn,hr]
  ·cases h
 ·have hs:bJ P t k=true:=by
   cases k with
   | st s=>exact absurd ⟨s,rfl⟩ hst
   | _=>exact h
  obtain⟨d,i,hd,_⟩:=fW (sw hs).1
  obtain⟨r,hr,hf⟩:=Ln hs hd ha 0 he
  have hid:(r.map fun p:Nat×Value=>(0+p.1,p.2))=r:=by cases r<;>simp
  rw[hid] at hr
  exact⟨r,by simp[Instr.findKey,run_underlying hd,hr],hf⟩
theorem zw.get {k v:Ty} {a:k.den} {l:List (k.den×v.den)} {es:List MapEntry} {r:Option (Nat×Value)} (h:zw a l es r):match r with
 | none=>bZ l a=none
 | some (i,u)=>∃ p e,l[i]? =some p∧es[i]? =some e∧u=e.val∧bZ l a=some p.2:=by
 cases h with
 | no hn=>
  simp only[bZ]
  have:l.find? (fun p=>k.beq a p.1)=none:=by
   rw[List.find?_eq_none];intro p hp;simp[hn p hp]
  rw[this]
 | yes i p e h1 h2 h3 h4=>
  refine⟨p,e,h1,h2,rfl, ?_⟩
  have:l.find? (fun p=>k.beq a p.1)=some p:=by
   rw[List.find?_eq_some_iff_getElem]
   obtain⟨hlt,hp⟩:=aaL.1 h1
   exact⟨h3,i,hlt,hp,fun j hj=>by simp[h4 j l[j] hj (aaJ (by omega))]⟩
  simp[bZ,this]
theorem zw.set {k v:Ty} {a:k.den} (y:v.den) {l:List (k.den×v.den)} {es:List MapEntry} {r:Option (Nat×Value)} (h:zw a l es r):match r with
 | none=>gJ l a y=l++[(a,y)]
 | some (i,_)=>gJ l a y=l.set i (a,y):=by
 cases h with
 | no hn=>
  simp only
  clear es
  induction l with
  | nil=>rfl
  | cons p l ih=>
   simp only[gJ,hn p (by simp),acq,aan]
   rw[ih fun q hq=>hn q (by simp[hq])]
 | yes i p e h1 h2 h3 h4=>
  simp only
  clear h2
  induction l generalizing i with
  | nil=>simp at h1
  | cons q l ih=>
   cases i with
   | zero=>
    simp only[aaH,Option.some.injEq] at h1
    subst h1
    simp[gJ,h3]
   | succ i=>
    have hq:=h4 0 q (by omega) rfl
    simp only[gJ,hq,acq,List.set_cons_succ]
    rw[ih i (by simpa using h1) (fun j q' hj hq'=>h4 (j+1) q' (by omega) (by simpa using hq'))]
theorem BS {b:Bool} {t:TypeId} {k:Ty} (h:bJ P t k=true) {u:Value} (n:Nat):(Instr.checkKey b (n+1) t u).run P w= .ok () w:=by
 cases k with
 | int kk=>
  simp only[bJ] at h
  split at h
  ·rename_i hu;simp[Instr.checkKey,run_underlying hu]
  ·cases h
 | bool=>
  simp only[bJ] at h
  split at h
  ·rename_i hu;simp[Instr.checkKey,run_underlying hu]
  ·cases h
 | str=>
  simp only[bJ] at h
  split at h
  ·rename_i hu;simp[Instr.checkKey,run_underlying hu]
  ·cases h
 | _=>simp[bJ] at h
def KP (b:Bool) (n:Nat) (us:List Value) (f:Field) (_:PUnit):Sem (ForInStep PUnit):=
 if f.name≠ "_" then do
  let x ← part f.type us.toArray f.offset
  Instr.checkKey b (n+1) f.type x
  pure (ForInStep.yield PUnit.unit)
 else pure (ForInStep.yield PUnit.unit)
theorem VC {b:Bool} {n m:Nat} {us pre c1 rest:List Value} {f:Field} {t1:Ty} {x1:t1.den} (q1:f.name≠ "_") (q2:f.offset=m) (q4:bJ P f.type t1=true) (q5:aB G t1 x1 c1) (hpre:pre.length=m) (q6:us=pre++(c1++rest)):
 (KP b n us f PUnit.unit).run P w= .ok (.yield PUnit.unit) w:=by
 obtain⟨k1,k2,k3⟩:=sw q4
 obtain⟨d,i,hd,_⟩:=fW k1
 have hl1:c1.length=1:=by rw[q5.len,k3]
 obtain⟨u,rfl⟩:∃ u,c1=[u]:=by
  match c1,hl1 with
  | [u],_=>exact⟨u,rfl⟩
 have hget:us[m]? =some u:=by rw[q6,aaF (by omega),hpre];simp
 have hp:(part f.type us.toArray f.offset).run P w= .ok u w:=by
  simp[part,nt hd,k2,q2,hget]
 simp only[KP,acF q1,Sem.run_bind,hp,Result.andThen_ok,BS q4 n,Sem.run_pure]
theorem VB {b:Bool} {n:Nat} {us:List Value}:∀ (l:List Field) (m:Nat) (t:Ty) (x:t.den) (pre c:List Value),bU P l m t=true→us=pre++c→pre.length=m→aB G t x c→
 (forIn l PUnit.unit (KP b n us)).run P w= .ok PUnit.unit w
 | [],m,t,x,pre,c,h,_,_,_=>by simp[bU] at h
 | [f],m,t,x,pre,c,h,hus,hpre,hc=>by
  simp only[bU,ZN,acy] at h
  have:=VC (P:=P) (w:=w) (b:=b) (n:=n) (rest:=[]) h.1.1.1 (abL h.1.1.2) h.2 hc hpre (by simpa using hus)
  rw[List.forIn_cons,Sem.run_bind,this]
  rfl
 | f::g::r,m,t,x,pre,c,h,hus,hpre,hc=>by
  cases t with
  | pair s t=>
   simp only[bU,ZN,acy] at h
   obtain⟨c1,r1,e1,p1,q1⟩:=hc
   obtain⟨⟨⟨⟨f1,f2⟩,f3⟩,f4⟩,f5⟩:=h
   have o1:=VC (P:=P) (w:=w) (b:=b) (n:=n) (us:=us) (rest:=r1) f1 (abL f2) f4 p1 hpre (by rw[hus,e1])
   have hl1:c1.length=1:=by rw[p1.len,(sw f4).2.2]
   have o2:=VB (b:=b) (n:=n) (us:=us) (g::r) (m+1) t x.2 (pre++c1) r1 f5 (by rw[hus,e1];simp) (by simp;omega) q1
   rw[List.forIn_cons,Sem.run_bind,o1]
   exact o2
  | _=>simp[bU] at h
theorem Qv {t:TypeId} {k:Ty} (h:dN P t k=true) {a:k.den} {v:Value} (hv:bL G k a v) (b:Bool) (n:Nat):(Instr.checkKey b (n+1+1) t v).run P w= .ok () w:=by
 cases k with
 | st s=>
  simp only[dN] at h
  split at h
  ·rename_i fs hu
   simp only[ZN] at h
   obtain⟨us,e1,h1⟩:=hv
   subst e1
   have:=VB (P:=P) (w:=w) (b:=b) (n:=n) (us:=us) fs.toList 0 s a [] us h.2 rfl rfl h1
   rw[Array.forIn_toList] at this
   rw[Instr.checkKey]
   simp only[Sem.run_bind,run_underlying hu,Result.andThen_ok]
   have e2:∀ (X:Sem PUnit),X=forIn fs PUnit.unit (KP b n us)→(X.run P w).andThen (fun _ w'=>Sem.run P (pure ()) w')= .ok () w:=by
    intro X hX;rw[hX,this];rfl
   exact e2 _ rfl
  ·cases h
 | _=>exact BS (yb h (by intro s e;cases e)) (n+1)
theorem jx {t:TypeId} {k:Ty} (h:dN P t k=true) {a:k.den} {v:Value} (hv:bL G k a v) (b:Bool):(Instr.checkKey b 10000 t v).run P w= .ok () w:=
 Qv h hv b 9998
end Go.Dn
