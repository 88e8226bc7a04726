/-
  An executor of Go code on plain data, proved sound against the model: values, states, operations. No condition.
-/
import Derived.Laws.AppendOwn
import Derived.Orders
import Derived.Below
import Derived.KernelRfl
import Derived.StillTail
import Derived.Laws.Cells
import Derived.Laws.Strings
import Derived.Great.BuildSlice
import Derived.Laws.StructEq
set_option linter.all false
namespace Go.Dn
abbrev Z0:= @List.all_eq_true
abbrev Z1:= @List.any_eq_false
abbrev Z2:= @List.any_eq_true
abbrev Z3:= @List.append_assoc
abbrev Z4:= @List.cons_append
abbrev Z5:= @List.countP_eq_zero
abbrev Z6:= @List.countP_pos_iff
abbrev Z7:= @List.drop_drop
abbrev Z8:= @List.drop_eq_getElem_cons
abbrev Z9:= @List.drop_left
abbrev ZA:= @Bool.false_ne_true
abbrev ZB:= @Bool.false_or
abbrev ZC:= @Bool.not_eq_false'
abbrev ZD:= @Bool.not_eq_true
abbrev ZE:= @Bool.not_eq_true'
abbrev ZF:= @Bool.not_false
abbrev ZG:= @Bool.or_eq_false_iff
abbrev ZH:= @Bool.or_eq_true
abbrev ZI:= @Bool.true_and
abbrev ZJ:= @Classical.not_not
abbrev ZK:= @Int.fdiv_eq_ediv_of_nonneg
abbrev ZL:= @Int.mul_add
abbrev ZM:= @Int.mul_assoc
abbrev ZN:= @Int.mul_le_mul_of_nonneg_left
abbrev ZO:= @Int.mul_nonneg
abbrev ZP:= @Int.mul_one
abbrev ZQ:= @Int.natAbs_mul
abbrev ZR:= @Int.natAbs_pow
abbrev ZS:= @Int.natCast_nonneg
abbrev ZT:= @Int.pow_succ
abbrev ZU:= @Int.sign_eq_neg_one_of_neg
abbrev ZV:= @Int.sign_eq_one_of_pos
abbrev ZW:= @Int.tdiv_eq_ediv_of_nonneg
abbrev ZX:= @Int.tmod_eq_emod_of_nonneg
abbrev ZY:= @Int.toNat_natCast
abbrev ZZ:= @List.all_cons
abbrev Zl:= @Array.getD_eq_getD_getElem?
abbrev Zm:= @Array.getElem?_eq_getElem
abbrev Zn:= @Array.getElem?_eq_some_iff
abbrev Zo:= @Array.getElem?_replicate
abbrev Zp:= @Array.getElem?_setIfInBounds_ne
abbrev Zq:= @Array.getElem?_setIfInBounds_self_of_lt
abbrev Zr:= @Array.mem_toList_iff
abbrev Zs:= @Array.toArray_toList
abbrev Zt:= @BitVec.ofInt_natCast
abbrev Zu:= @BitVec.toNat_ofNat
abbrev Zv:= @Bool.and_eq_true
abbrev Zw:= @Bool.and_false
abbrev Zx:= @Bool.and_true
abbrev Zy:= @Bool.eq_iff_iff
abbrev Zz:= @Bool.false_eq_true
abbrev aa0:= @List.take_length
abbrev aa1:= @List.take_of_length_le
abbrev aa2:= @List.take_take
abbrev aa3:= @Nat.add_assoc
abbrev aa4:= @Nat.add_mul
abbrev aa5:= @Nat.add_zero
abbrev aa6:= @Nat.div_eq_of_lt
abbrev aa7:= @Nat.div_lt_self
abbrev aa8:= @Nat.eq_of_beq_eq_true
abbrev aa9:= @Nat.eq_zero_or_pos
abbrev aaA:= @List.length_take
abbrev aaB:= @List.map_append
abbrev aaC:= @List.map_congr_left
abbrev aaD:= @List.map_cons
abbrev aaE:= @List.mem_append
abbrev aaF:= @List.mem_append_left
abbrev aaG:= @List.mem_append_right
abbrev aaH:= @List.mem_cons
abbrev aaI:= @List.mem_cons_of_mem
abbrev aaJ:= @List.mem_filterMap
abbrev aaK:= @List.mem_iff_getElem?
abbrev aaL:= @List.mem_map
abbrev aaM:= @List.mem_of_mem_drop
abbrev aaN:= @List.mem_or_eq_of_mem_set
abbrev aaO:= @List.mem_range
abbrev aaP:= @List.mem_singleton
abbrev aaQ:= @List.nil_append
abbrev aaR:= @List.pairwise_append
abbrev aaS:= @List.pairwise_iff_getElem
abbrev aaT:= @List.replicate_succ
abbrev aaU:= @List.set_set
abbrev aaV:= @List.size_toArray
abbrev aaW:= @List.tail_drop
abbrev aaX:= @List.take_append_drop
abbrev aaY:= @List.take_append_of_le_length
abbrev aaZ:= @List.take_left
abbrev aaa:= @List.drop_of_length_le
abbrev aab:= @List.drop_zero
abbrev aac:= @List.eq_nil_iff_forall_not_mem
abbrev aad:= @List.eq_nil_of_length_eq_zero
abbrev aae:= @List.ext_getElem?
abbrev aaf:= @List.filter_append
abbrev aag:= @List.getD_eq_getElem?_getD
abbrev aah:= @List.getElem?_append_left
abbrev aai:= @List.getElem?_append_right
abbrev aaj:= @List.getElem?_cons_succ
abbrev aak:= @List.getElem?_cons_zero
abbrev aal:= @List.getElem?_drop
abbrev aam:= @List.getElem?_eq_none
abbrev aan:= @List.getElem?_set
abbrev aao:= @List.getElem?_set_ne
abbrev aap:= @List.getElem?_set_self
abbrev aaq:= @List.getElem?_take
abbrev aar:= @List.getElem?_take_of_lt
abbrev aas:= @List.getElem?_toArray
abbrev aat:= @List.length_append
abbrev aau:= @List.length_cons
abbrev aav:= @List.length_drop
abbrev aaw:= @List.length_map
abbrev aax:= @List.length_nil
abbrev aay:= @List.length_replicate
abbrev aaz:= @List.length_set
abbrev abA:= @Option.map_map
abbrev abB:= @Option.map_some
abbrev abC:= @and_self
abbrev abD:= @beq_eq_false_iff_ne
abbrev abE:= @beq_self_eq_true
abbrev abF:= @bne_self_eq_false
abbrev abG:= @decide_eq_decide
abbrev abH:= @decide_eq_false
abbrev abI:= @decide_eq_false_iff_not
abbrev abJ:= @decide_eq_true_eq
abbrev abK:= @decide_false
abbrev abL:= @decide_true
abbrev abM:= @false_and
abbrev abN:= @false_or
abbrev abO:= @if_false
abbrev abP:= @if_true
abbrev abQ:= @not_and
abbrev abR:= @not_exists
abbrev abS:= @not_false_eq_true
abbrev abT:= @not_or
abbrev abU:= @of_decide_eq_true
abbrev aba:= @Nat.le_of_lt
abbrev abb:= @Nat.le_refl
abbrev abc:= @Nat.le_trans
abbrev abd:= @Nat.lt_of_le_of_lt
abbrev abe:= @Nat.lt_of_lt_of_le
abbrev abf:= @Nat.lt_or_ge
abbrev abg:= @Nat.lt_or_gt_of_ne
abbrev abh:= @Nat.lt_succ_self
abbrev abi:= @Nat.lt_trichotomy
abbrev abj:= @Nat.min_eq_left
abbrev abk:= @Nat.mod_eq_of_lt
abbrev abl:= @Nat.mul_comm
abbrev abm:= @Nat.mul_le_mul_right
abbrev abn:= @Nat.mul_one
abbrev abo:= @Nat.not_lt_zero
abbrev abp:= @Nat.one_mul
abbrev abq:= @Nat.pow_add
abbrev abr:= @Nat.pow_le_pow_right
abbrev abt:= @Nat.pow_succ
abbrev abu:= @Nat.zero_add
abbrev abv:= @Nat.zero_le
abbrev abw:= @Option.getD_some
abbrev abx:= @Option.isNone_iff_eq_none
abbrev aby:= @Option.isNone_some
abbrev abz:= @Option.isSome_iff_exists
inductive Ty where
 | int (k:IntKind)
 | bool
 | str
 | unit
 | pair (a b:Ty)
 | st (t:Ty)
 | slice (t:Ty)
 | ptr (t:Ty)
 | clo (g:Nat) (t:Ty)
 | hnd
 deriving DecidableEq
def Ty.den:Ty→Type
 | .int _=>Int
 | .bool=>Bool
 | .str=>List UInt8
 | .unit=>Unit
 | .pair a b=>a.den×b.den
 | .st t=>t.den
 | .slice t=>List t.den
 | .ptr t=>t.den
 | .clo _ t=>t.den
 | .hnd=>Option Nat
def Ty.size:Ty→Nat
 | .unit=>0
 | .pair a b=>a.size+b.size
 | .st t=>t.size
 | _=>1
def Ty.flat:Ty→Bool
 | .pair a b=>a.flat&&b.flat
 | .st t=>t.flat
 | .slice _ | .ptr _ | .clo _ _=>false
 | _=>true
def Ty.aR:Ty→Bool
 | .pair a b=>a.aR&&b.aR
 | .st t=>t.aR
 | .slice t=>t.aR
 | .ptr t=>t.aR
 | .clo _ t=>t.aR
 | .hnd=>false
 | _=>true
structure Gh where
 blk:Nat→Option Obj
 hnd:Nat→Option Nat
instance:CoeFun Gh fun _=>Nat→Option Obj:=⟨Gh.blk⟩
structure Gh.le (G G':Gh):Prop where
 blk:∀ b o,G b=some o→G' b=some o
 hnd:∀ h b,G.hnd h=some b→G'.hnd h=some b
instance {G G':Gh}:CoeFun (G.le G') fun _=>∀ b o,G b=some o→G' b=some o:=⟨Gh.le.blk⟩
theorem Gh.le_refl (G:Gh):G.le G:=⟨fun _ _ h=>h,fun _ _ h=>h⟩
theorem Gh.le_trans {A B C:Gh} (h:A.le B) (k:B.le C):A.le C:=⟨fun b o x=>k b o (h b o x),fun b o x=>k.hnd b o (h.hnd b o x)⟩
def bs (l:List UInt8):ByteArray:=⟨l.toArray⟩
def Agr (G:Gh) (w:World):Prop:=∀ b o,G b=some o→w.heap[b]? =some o
def bL {α:Type} (R:α→List Value→Prop):List α→List Value→Prop
 | [],cs=>cs=[]
 | x::l,cs=>∃ c r,cs=c++r∧R x c∧bL R l r
def eP {α:Type} (G:Gh) (sz:Nat) (R:α→List Value→Prop) (l:List α) (v:Value):Prop:=
 ∃ a cap,v= .slice a l.length cap∧l.length≤cap∧cap≤maxLen∧
  (l=[]∨∃ b off c T fz,a=some ⟨b,off,none⟩∧G b=some (.cells c T fz)∧off+l.length*sz≤c.size∧
    bL R l ((c.toList.drop off).take (l.length*sz)))
def aH (G:Gh):(t:Ty)→t.den→List Value→Prop
 | .int k,n,cs=>cs=[.int k n]
 | .bool,b,cs=>cs=[.bool b]
 | .str,s,cs=>cs=[.string (bs s)]
 | .unit,_,cs=>cs=[]
 | .pair a b,(x,y),cs=>∃ c r,cs=c++r∧aH G a x c∧aH G b y r
 | .st t,x,cs=>aH G t x cs
 | .slice t,l,cs=>∃ v,cs=[v]∧eP G t.size (aH G t) l v
 | .ptr t,x,cs=>∃ b off c T fz,cs=[.pointer (some ⟨b,off,none⟩)]∧G b=some (.cells c T fz)∧off+t.size≤c.size∧
  aH G t x ((c.toList.drop off).take t.size)
 | .clo g t,x,cs=>∃ caps:List Value,cs=[.func (.func g) #[] caps.toArray]∧aH G t x caps
 | .hnd,none,cs=>cs=[.pointer none]
 | .hnd,some h,cs=>∃ b,G.hnd h=some b∧cs=[.pointer (some ⟨b,0,none⟩)]
theorem bL.mono {α:Type} {R R':α→List Value→Prop} (h:∀ x cs,R x cs→R' x cs):∀ {l:List α} {cs:List Value},bL R l cs→bL R' l cs
 | [],_,hh=>hh
 | _::_,_,⟨c,r,e,hx,hl⟩=>⟨c,r,e,h _ _ hx,bL.mono h hl⟩
theorem aH.mono {G G':Gh} (hG:G.le G'):∀ (t:Ty) (x:t.den) (cs:List Value),aH G t x cs→aH G' t x cs
 | .int _,_,_,h=>h
 | .bool,_,_,h=>h
 | .str,_,_,h=>h
 | .unit,_,_,h=>h
 | .pair a b,(x,y),_,⟨c,r,e,hx,hy⟩=>⟨c,r,e,aH.mono hG a x c hx,aH.mono hG b y r hy⟩
 | .st t,x,cs,h=>aH.mono hG t x cs h
 | .slice t,_,_,⟨v,e,a,cap,hv,h1,h2,h3⟩=>⟨v,e,a,cap,hv,h1,h2,h3.imp id fun ⟨b,off,c,T,fz,ha,hb,hs,hl⟩=>
  ⟨b,off,c,T,fz,ha,hG _ _ hb,hs,hl.mono (aH.mono hG t)⟩⟩
 | .ptr t,x,_,⟨b,off,c,T,fz,e,hb,hs,hl⟩=>⟨b,off,c,T,fz,e,hG _ _ hb,hs,aH.mono hG t x _ hl⟩
 | .clo _ t,x,_,⟨caps,e,h⟩=>⟨caps,e,aH.mono hG t x _ h⟩
 | .hnd,none,_,h=>h
 | .hnd,some _,_,⟨b,hb,e⟩=>⟨b,hG.hnd _ _ hb,e⟩
theorem eP.mono {G G':Gh} (hG:G.le G') {t:Ty} {l:List t.den} {v:Value} (h:eP G t.size (aH G t) l v):eP G' t.size (aH G' t) l v:=by
 obtain ⟨a,cap,hv,h1,h2,h3⟩:=h
 exact ⟨a,cap,hv,h1,h2,h3.imp id fun ⟨b,off,c,T,fz,ha,hb,hs,hl⟩=>⟨b,off,c,T,fz,ha,hG _ _ hb,hs,hl.mono (aH.mono hG t)⟩⟩
theorem aH.len {G:Gh}:∀ {t:Ty} {x:t.den} {cs:List Value},aH G t x cs→cs.length=t.size
 | .int _,_,_,h=>by cases h;rfl
 | .bool,_,_,h=>by cases h;rfl
 | .str,_,_,h=>by cases h;rfl
 | .unit,_,_,h=>by cases h;rfl
 | .pair a b,(x,y),_,⟨c,r,e,hx,hy⟩=>by
  subst e;rw [aat,hx.len,hy.len];rfl
 | .st t,x,cs,h=>aH.len (t:=t) (x:=x) h
 | .slice t,_,_,⟨v,e,_⟩=>by subst e;rfl
 | .ptr t,x,_,⟨b,off,c,T,fz,e,_⟩=>by subst e;rfl
 | .clo _ t,x,_,⟨caps,e,h⟩=>by subst e;rfl
 | .hnd,none,_,h=>by cases h;rfl
 | .hnd,some _,_,⟨b,hb,e⟩=>by subst e;rfl
theorem bL.len {α:Type} {R:α→List Value→Prop} {n:Nat} (h:∀ x cs,R x cs→cs.length=n):∀ {l:List α} {cs:List Value},bL R l cs→cs.length=l.length*n
 | [],_,hh=>by cases hh;simp
 | _::l,_,⟨c,r,e,hx,hl⟩=>by
  subst e
  rw [aat,h _ _ hx,hl.len h,aau,aa4]
  omega
theorem bL.append {α:Type} {R:α→List Value→Prop}:∀ {l l':List α} {cs cs':List Value},bL R l cs→bL R l' cs'→bL R (l++l') (cs++cs')
 | [],_,_,_,hh,h'=>by cases hh;simpa using h'
 | x::l,_,_,_,⟨c,r,e,hx,hl⟩,h'=>by
  subst e
  exact ⟨c,r++_,by simp,hx,hl.append h'⟩
theorem Cp {α:Type} (c r:List α) (k:Nat):(c++r).drop (c.length+k)=r.drop k:=by
 rw [List.drop_append,aaa (by omega)];simp
theorem Ku {α:Type} (c r:List α) (k:Nat):(c++r).take (c.length+k)=c++r.take k:=by
 rw [List.take_append,aa1 (by omega)];simp
theorem bL.get {α:Type} {R:α→List Value→Prop} {n:Nat} (h:∀ x cs,R x cs→cs.length=n):∀ {l:List α} {cs:List Value},bL R l cs→∀ {i:Nat} {x:α},l[i]? =some x→R x ((cs.drop (i*n)).take n)
 | [],_,_,_,_,hi=>by simp at hi
 | y::l,_,⟨c,r,e,hx,hl⟩,0,x,hi=>by
  subst e
  have hc:=h _ _ hx
  have hy:y=x:=by simpa using hi
  subst hy
  simp only [Nat.zero_mul,aab]
  rw [← hc,aaZ]
  exact hx
 | y::l,_,⟨c,r,e,hx,hl⟩,i+1,x,hi=>by
  subst e
  have hc:=h _ _ hx
  have:=hl.get h (i:=i) (x:=x) (by simpa using hi)
  rw [show (i+1)*n=c.length+i*n by rw [aa4];omega,Cp]
  exact this
theorem bL.take {α:Type} {R:α→List Value→Prop} {n:Nat} (h:∀ x cs,R x cs→cs.length=n):∀ {l:List α} {cs:List Value},bL R l cs→∀ (i:Nat),bL R (l.take i) (cs.take (i*n))
 | l,cs,hl,0=>by simp [bL]
 | [],_,hh,i+1=>by cases hh;simp [bL]
 | y::l,_,⟨c,r,e,hx,hl⟩,i+1=>by
  subst e
  have hc:=h _ _ hx
  refine ⟨c,r.take (i*n), ?_,hx,hl.take h i⟩
  rw [show (i+1)*n=c.length+i*n by rw [aa4];omega,Ku]
theorem bL.drop {α:Type} {R:α→List Value→Prop} {n:Nat} (h:∀ x cs,R x cs→cs.length=n):∀ {l:List α} {cs:List Value},bL R l cs→∀ (i:Nat),bL R (l.drop i) (cs.drop (i*n))
 | l,cs,hl,0=>by simpa using hl
 | [],_,hh,i+1=>by cases hh;simp [bL]
 | y::l,_,⟨c,r,e,hx,hl⟩,i+1=>by
  subst e
  have hc:=h _ _ hx
  rw [show (i+1)*n=c.length+i*n by rw [aa4];omega,Cp]
  exact hl.drop h i
theorem bL.set {α:Type} {R:α→List Value→Prop} {n:Nat} (h:∀ x cs,R x cs→cs.length=n) {y:α} {d:List Value} (hy:R y d):∀ {l:List α} {cs:List Value},bL R l cs→∀ {i:Nat},i<l.length→
 bL R (l.set i y) (cs.take (i*n)++d++cs.drop (i*n+n))
 | [],_,_,_,hi=>by simp at hi
 | x::l,_,⟨c,r,e,hx,hl⟩,0,_=>by
  subst e
  have hc:=h _ _ hx
  exact ⟨d,r,by simp [← hc],hy,hl⟩
 | x::l,_,⟨c,r,e,hx,hl⟩,i+1,hi=>by
  subst e
  have hc:=h _ _ hx
  refine ⟨c,r.take (i*n)++d++r.drop (i*n+n), ?_,hx,hl.set h hy (by simpa using hi)⟩
  rw [show (i+1)*n=c.length+i*n by rw [aa4];omega,aa3,Ku,Cp]
  simp
theorem aH.aR {G G':Gh} (hG:∀ b o,G b=some o→G' b=some o):∀ (t:Ty) (x:t.den) (cs:List Value),t.aR=true→aH G t x cs→aH G' t x cs
 | .int _,_,_,_,h=>h
 | .bool,_,_,_,h=>h
 | .str,_,_,_,h=>h
 | .unit,_,_,_,h=>h
 | .pair a b,(x,y),_,hn,⟨c,r,e,hx,hy⟩=>by
  simp only [Ty.aR,Zv] at hn
  exact ⟨c,r,e,aH.aR hG a x c hn.1 hx,aH.aR hG b y r hn.2 hy⟩
 | .st t,x,cs,hn,h=>aH.aR hG t x cs hn h
 | .slice t,_,_,hn,⟨v,e,a,cap,hv,h1,h2,h3⟩=>⟨v,e,a,cap,hv,h1,h2,h3.imp id fun ⟨b,off,c,T,fz,ha,hb,hs,hl⟩=>
  ⟨b,off,c,T,fz,ha,hG _ _ hb,hs,hl.mono fun x cs=>aH.aR hG t x cs hn⟩⟩
 | .ptr t,x,_,hn,⟨b,off,c,T,fz,e,hb,hs,hl⟩=>⟨b,off,c,T,fz,e,hG _ _ hb,hs,aH.aR hG t x _ hn hl⟩
 | .clo _ t,x,_,hn,⟨caps,e,h⟩=>⟨caps,e,aH.aR hG t x _ hn h⟩
 | .hnd,_,_,hn,_=>by cases hn
def cr (G:Gh) (t:Ty) (x:t.den) (v:Value):Prop:=
 match t,x with
 | .st t,x=>∃ vs:List Value,v= .agg vs.toArray∧aH G t x vs
 | t,x=>aH G t x [v]
theorem cr.mono {G G':Gh} (hG:G.le G') {t:Ty} {x:t.den} {v:Value} (h:cr G t x v):cr G' t x v:=by
 cases t with
 | st t=>obtain ⟨vs,e,hv⟩:=h;exact ⟨vs,e,aH.mono hG _ _ _ hv⟩
 | _=>exact aH.mono hG _ _ _ h
end Go.Dn
namespace Go.Dn
inductive CV where
 | int (k:IntKind) (n:Int)
 | bool (b:Bool)
 | str (s:List UInt8)
 | sl (t:Ty) (l:List t.den)
 | cp (t:Ty) (x:t.den) (off:Nat)
 | clo (g:Nat) (t:Ty) (x:t.den)
 | ref (k off:Nat)
 | row (j:Nat)
 | rp (j sz i off:Nat)
 | fn (g:Nat) (ks:List Nat)
 | nilp
 | nils
 | any
 | mp (j:Nat)
 | hnd (o:Option Nat) (off:Nat)
 | stp (j i:Nat)
 | kseq (g j:Nat)
 | nb (b:Bool)
 | opq (v:Value)
inductive SV where
 | v (agg:Bool) (cs:List CV)
 | tup (l:List (Bool×List CV))
structure mo where
 fz:Bool
 e:TypeId
 t:Ty
 l:List t.den
inductive qL where
 | map (k v:Ty) (l:List (k.den×v.den))
 | ar (fz:Bool) (t:Ty) (l:List t.den)
structure St where
 tmps:List SV
 boxes:List (Nat×List CV)
 rows:List (Nat×mo)
 objs:List (Nat×qL)
def look {α:Type}:List (Nat×α)→Nat→Option α
 | [],_=>none
 | (j,x)::r,k=>bif Nat.beq j k then some x else look r k
inductive aW where
 | inl (k:Nat)
 | inr (j:Nat)
 | ob (j:Nat)
 deriving DecidableEq
structure Env where
 bx:Nat→Nat
 rw:Nat→Value
 own:Nat→Option aW
 ob:Nat→Value
 st:Nat→Nat→Int
def aK {α β:Type} (R:α→β→Prop):List α→List β→Prop
 | [],l=>l=[]
 | x::r,l=>∃ y s,l=y::s∧R x y∧aK R r s
def aT (G:Gh) (ρ:Env):CV→Value→Prop
 | .int k n,v=>v= .int k n
 | .bool b,v=>v= .bool b
 | .str s,v=>v= .string (bs s)
 | .sl t l,v=>eP G t.size (aH G t) l v
 | .cp t x o,v=>∃ b off c T fz,v= .pointer (some ⟨b,off+o,none⟩)∧G b=some (.cells c T fz)∧off+t.size≤c.size∧
  aH G t x ((c.toList.drop off).take t.size)
 | .clo g t x,v=>∃ caps:List Value,v= .func (.func g) #[] caps.toArray∧aH G t x caps
 | .ref k o,v=>v= .pointer (some ⟨ρ.bx k,o,none⟩)
 | .row j,v=>v=ρ.rw j∧∃ a n c,v= .slice a n c
 | .rp j sz i o,v=>∃ b len cap,ρ.rw j= .slice (some ⟨b,0,none⟩) len cap∧v= .pointer (some ⟨b,i*sz+o,none⟩)
 | .fn g ks,v=>v= .func (.func g) #[] (ks.map fun k=>Value.pointer (some ⟨ρ.bx k,0,none⟩)).toArray
 | .nilp,v=>v= .pointer none
 | .nils,v=>v= .slice none 0 0
 | .any,_=>True
 | .mp j,v=>v=ρ.ob j∧∃ b,v= .map (some b)
 | .hnd none o,v=>v= .pointer none∧o=0
 | .hnd (some h) o,v=>∃ b,G.hnd h=some b∧v= .pointer (some ⟨b,o,none⟩)
 | .stp j i,v=>v= .int .i64 (ρ.st j i)
 | .kseq g j,v=>∃ b T fz,v= .func (.func g) #[] #[.pointer (some ⟨b,0,none⟩)]∧G b=some (.cells #[ρ.ob j] T fz)
 | .nb b,v=>∃ c,v= .bool c∧(b=false→c=false)
 | .opq u,v=>v=u
def kN (G:Gh) (ρ:Env):Bool→List CV→Value→Prop
 | true,cs,v=>∃ vs:List Value,v= .agg vs.toArray∧aK (aT G ρ) cs vs
 | false,[c],v=>aT G ρ c v
 | false,_,_=>False
def bh (G:Gh) (ρ:Env):SV→Value→Prop
 | .v a cs,v=>kN G ρ a cs v
 | .tup l,v=>∃ vs:List Value,v= .tuple vs.toArray∧aK (fun p=>kN G ρ p.1 p.2) l vs
def Ki:List Int:=(List.range 20).map fun i=>((10 ^ i:Nat):Int)
structure uW (P:Program) (G:Gh):Prop where
 pow:∀ g,P.globalNamed "internal/strconv.uint64pow10" =some g→∃ T fz,G g=some (.cells (Ki.map fun z=>Value.int .u64 z).toArray T fz)
 maxLen:∀ g,P.globalNamed "internal/bytealg.MaxLen" =some g→∃ n T fz,G g=some (.cells #[Value.int .i64 n] T fz)
theorem uW.mono {P:Program} {G G':Gh} (h:uW P G) (hG:G.le G'):uW P G':=
 ⟨fun g hg=>let ⟨T,fz,e⟩:=h.pow g hg;⟨T,fz,hG.blk _ _ e⟩,fun g hg=>let ⟨n,T,fz,e⟩:=h.maxLen g hg;⟨n,T,fz,hG.blk _ _ e⟩⟩
structure Fr (P:Program) where
 n0:Nat
 pin:Nat→Nat
 pinR:Nat→Value
 B:Nat→Prop
 w0:World
 G0:Gh
 noAr:Prop
 tab:uW P G0
def cm (G:Gh) (ρ:Env) (w:World) (j:Nat) (r:mo):Prop:=
 if r.fz then eP G r.t.size (aH G r.t) r.l (ρ.rw j)
 else ∃ xs,w.ownsRow 0 r.e r.t.size (ρ.rw j) r.l.length xs∧bL (aH G r.t) r.l xs∧∀ b,(ρ.rw j).ownBlock=some b→ρ.own b=some (.inr j)
def AH (G:Gh) (k v:Ty) (p:k.den×v.den) (e:MapEntry):Prop:=cr G k p.1 e.key∧cr G v p.2 e.val
def kg (G:Gh) (w:World) (own:Nat→Prop) (fz:Bool) (t:Ty) (l:List t.den):Prop:=
 (∀ h b,G.hnd h=some b→h<l.length)∧(∀ h h' b,G.hnd h=some b→G.hnd h'=some b→h=h')∧
   ∀ h x,l[h]? =some x→∃ b vs T,G.hnd h=some b∧(fz=true→G b=some (.cells (List.toArray vs) T (0,0)))∧(fz=false→own b)∧w.heap[b]? =some (.cells (List.toArray vs) T (0,0))∧aH G t x vs
def bw:Nat:=9999
def mJ (G:Gh) (ρ:Env) (w:World) (j:Nat):qL→Prop
 | .map k v l=>∃ b es clock,ρ.ob j= .map (some b)∧ρ.own b=some (.ob j)∧w.heap[b]? =some (.map es clock)∧aK (AH G k v) l es.toList∧
  (∀ (i:Nat) (e:MapEntry),es.toList[i]? =some e→(e.born:Int)=ρ.st j i∧e.born<clock)∧es.toList.Pairwise (fun a b=>a.born<b.born)
 | .ar fz t l=>j=bw∧kg G w (fun b=>ρ.own b=some (.ob j)) fz t l
structure Mem {P0:Program} (C:Fr P0) (G:Gh) (ρ:Env) (S:St) (w:World):Prop where
 agr:Agr G w
 le0:C.G0.le G
 old:∀ b,b<C.n0→¬ C.B b→G b=C.G0 b
 frame:∀ b,b<C.n0→¬ C.B b→w.heap[b]? =C.w0.heap[b]?
 size:C.n0≤w.heap.size
 os:w.os=C.w0.os
 output:w.output=C.w0.output
 pin:∀ k,2000≤k→ρ.bx k=C.pin k
 pinR:∀ k,10000000≤k→ρ.rw k=C.pinR k∧ρ.ob k=C.pinR k
 owned:∀ b o,ρ.own b=some o→G b=none∧b<w.heap.size∧(C.n0≤b∨C.B b)
 boxes:∀ k cs,look S.boxes k=some cs→ρ.own (ρ.bx k)=some (.inl k)∧
  ∃ vs T,w.heap[ρ.bx k]? =some (.cells (List.toArray vs) T (0,0))∧aK (aT G ρ) cs vs
 rows:∀ j r,look S.rows j=some r→cm G ρ w j r
 objs:∀ j r,look S.objs j=some r→mJ G ρ w j r
 hndI:C.noAr→G.hnd=C.G0.hnd∧∀ t l,look S.objs bw≠some (.ar false t l)
def fH (G:Gh) (ρ:Env) (S:St) (a:Act):Prop:=
 a.tmps.size=S.tmps.length∧∀ (i:Nat) (s:SV),S.tmps[i]? =some s→bh G ρ s (a.tmps.getD i undef)
structure Mod {P0:Program} (C:Fr P0) (G:Gh) (ρ:Env) (S:St) (w:World) (a:Act):Prop extends Mem C G ρ S w where
 tmps:fH G ρ S a
 defers:a.defers=[]
theorem aK.mono {α β:Type} {R R':α→β→Prop} (h:∀ x y,R x y→R' x y):∀ {l:List α} {r:List β},aK R l r→aK R' l r
 | [],_,hh=>hh
 | _::_,_,⟨y,s,e,hx,hl⟩=>⟨y,s,e,h _ _ hx,hl.mono h⟩
theorem aK.yJ {α β:Type} {R R':α→β→Prop}:∀ {l:List α} {r:List β},(∀ x,x∈l→∀ y,R x y→R' x y)→aK R l r→aK R' l r
 | [],_,_,hh=>hh
 | x::l,_,h,⟨y,s,e,hx,hl⟩=>⟨y,s,e,h x (by simp) _ hx,aK.yJ (fun z hz=>h z (by simp [hz])) hl⟩
theorem aK.len {α β:Type} {R:α→β→Prop}:∀ {l:List α} {r:List β},aK R l r→r.length=l.length
 | [],_,hh=>by cases hh;rfl
 | _::_,_,⟨y,s,e,_,hl⟩=>by subst e;simp [hl.len]
theorem aK.get {α β:Type} {R:α→β→Prop}:∀ {l:List α} {r:List β},aK R l r→∀ {i:Nat} {x:α},l[i]? =some x→∃ y,r[i]? =some y∧R x y
 | [],_,_,_,_,hi=>by simp at hi
 | _::_,_,⟨y,s,e,hx,_⟩,0,x,hi=>by subst e;simp at hi;subst hi;exact ⟨y,by simp,hx⟩
 | _::_,_,⟨y,s,e,_,hl⟩,i+1,x,hi=>by
  subst e
  obtain ⟨z,hz,hr⟩:=hl.get (i:=i) (x:=x) (by simpa using hi)
  exact ⟨z,by simpa using hz,hr⟩
theorem aK.append {α β:Type} {R:α→β→Prop}:∀ {l l':List α} {r r':List β},aK R l r→aK R l' r'→aK R (l++l') (r++r')
 | [],_,_,_,hh,h'=>by cases hh;simpa using h'
 | _::_,_,_,_,⟨y,s,e,hx,hl⟩,h'=>by subst e;exact ⟨y,s++_,by simp,hx,hl.append h'⟩
theorem aK.drop {α β:Type} {R:α→β→Prop}:∀ {l:List α} {r:List β},aK R l r→∀ n,aK R (l.drop n) (r.drop n)
 | _,_,h,0=>by simpa using h
 | [],_,hh,n+1=>by cases hh;simp [aK]
 | _::_,_,⟨y,s,e,_,hl⟩,n+1=>by subst e;simpa using hl.drop n
theorem aK.take {α β:Type} {R:α→β→Prop}:∀ {l:List α} {r:List β},aK R l r→∀ n,aK R (l.take n) (r.take n)
 | _,_,_,0=>by simp [aK]
 | [],_,hh,n+1=>by cases hh;simp [aK]
 | _::_,_,⟨y,s,e,hx,hl⟩,n+1=>by subst e;exact ⟨y,s.take n,by simp,hx,hl.take n⟩
theorem aK.set {α β:Type} {R:α→β→Prop} {x:α} {y:β} (hxy:R x y):∀ {l:List α} {r:List β},aK R l r→∀ n,aK R (l.set n x) (r.set n y)
 | [],_,hh,n=>by cases hh;simp [aK]
 | _::_,_,⟨z,s,e,_,hl⟩,0=>by subst e;exact ⟨y,s,by simp,hxy,hl⟩
 | _::_,_,⟨z,s,e,hx,hl⟩,n+1=>by subst e;exact ⟨z,s.set n y,by simp,hx,hl.set hxy n⟩
theorem aK.single {α β:Type} {R:α→β→Prop} {x:α} {r:List β} (h:aK R [x] r):∃ y,r=[y]∧R x y:=by
 obtain ⟨y,s,e,hx,hl⟩:=h;cases hl;exact ⟨y,e,hx⟩
def CV.cc (k:Nat):CV→Bool
 | .ref j _=>Nat.beq j k
 | .fn _ ks=>ks.any (Nat.beq · k)
 | _=>false
def CV.br (k:Nat):CV→Bool
 | .row j=>Nat.beq j k
 | .rp j _ _ _=>Nat.beq j k
 | _=>false
def CV.bS (k:Nat):CV→Bool
 | .mp j=>Nat.beq j k
 | .kseq _ j=>Nat.beq j k
 | _=>false
def CV.bK (k:Nat):CV→Bool
 | .stp j _=>Nat.beq j k
 | _=>false
def SV.cc (k:Nat):SV→Bool
 | .v _ cs=>cs.any (CV.cc k)
 | .tup l=>l.any fun p=>p.2.any (CV.cc k)
def SV.br (k:Nat):SV→Bool
 | .v _ cs=>cs.any (CV.br k)
 | .tup l=>l.any fun p=>p.2.any (CV.br k)
def SV.bS (k:Nat):SV→Bool
 | .v _ cs=>cs.any (CV.bS k)
 | .tup l=>l.any fun p=>p.2.any (CV.bS k)
def St.bS (k:Nat) (S:St):Bool:=S.tmps.any (SV.bS k)||S.boxes.any fun p=>p.2.any (CV.bS k)
def SV.bK (k:Nat):SV→Bool
 | .v _ cs=>cs.any (CV.bK k)
 | .tup l=>l.any fun p=>p.2.any (CV.bK k)
def St.bK (k:Nat) (S:St):Bool:=S.tmps.any (SV.bK k)||S.boxes.any fun p=>p.2.any (CV.bK k)
def St.cc (k:Nat) (S:St):Bool:=S.tmps.any (SV.cc k)||S.boxes.any fun p=>p.2.any (CV.cc k)
def St.br (k:Nat) (S:St):Bool:=S.tmps.any (SV.br k)||S.boxes.any fun p=>p.2.any (CV.br k)
structure CV.fC (ρ ρ':Env) (c:CV):Prop where
 bx:∀ k,c.cc k=true→ρ'.bx k=ρ.bx k
 rw:∀ k,c.br k=true→ρ'.rw k=ρ.rw k
 ob:∀ k,c.bS k=true→ρ'.ob k=ρ.ob k
 st:∀ k,c.bK k=true→ρ'.st k=ρ.st k
theorem aT.congr {G G':Gh} (hG:G.le G') {ρ ρ':Env}:∀ {c:CV} {v:Value},c.fC ρ ρ'→aT G ρ c v→aT G' ρ' c v
 | .int _ _,_,_,h=>h
 | .bool _,_,_,h=>h
 | .str _,_,_,h=>h
 | .sl _ _,_,_,h=>eP.mono hG h
 | .cp t x _,_,_,⟨b,off,c,T,fz,e,hb,hs,hl⟩=>⟨b,off,c,T,fz,e,hG _ _ hb,hs,aH.mono hG t x _ hl⟩
 | .clo _ t x,_,_,⟨caps,e,h⟩=>⟨caps,e,aH.mono hG t x _ h⟩
 | .ref k _,_,s,h=>by
  have:=s.bx k (by simp [CV.cc]);simp only [aT] at h ⊢;rw [this];exact h
 | .row j,_,s,h=>by
  have:=s.rw j (by simp [CV.br]);simp only [aT] at h ⊢;rw [this];exact h
 | .rp j _ _ _,_,s,h=>by
  have:=s.rw j (by simp [CV.br]);simp only [aT] at h ⊢;rw [this];exact h
 | .fn g ks,_,s,h=>by
  simp only [aT] at h ⊢
  rw [h]
  congr 2
  refine aaC fun k hk=> ?_
  rw [s.bx k (by simp [CV.cc,hk])]
 | .nilp,_,_,h=>h
 | .nils,_,_,h=>h
 | .any,_,_,_=>trivial
 | .nb _,_,_,h=>h
 | .opq _,_,_,h=>h
 | .mp j,_,s,h=>by
  have:=s.ob j (by simp [CV.bS]);simp only [aT] at h ⊢;rw [this];exact h
 | .hnd none _,_,_,h=>h
 | .hnd (some _) _,_,_,⟨b,hb,e⟩=>⟨b,hG.hnd _ _ hb,e⟩
 | .stp j i,_,s,h=>by
  have:=s.st j (by simp [CV.bK]);simp only [aT] at h ⊢;rw [this];exact h
 | .kseq g j,_,s,h=>by
  have:=s.ob j (by simp [CV.bS]);simp only [aT] at h ⊢;rw [this]
  obtain ⟨b,T,fz,e,hb⟩:=h
  exact ⟨b,T,fz,e,hG _ _ hb⟩
theorem kN.congr {G G':Gh} (hG:G.le G') {ρ ρ':Env} {a:Bool} {cs:List CV} {v:Value} (hs:∀ c,c∈cs→c.fC ρ ρ') (h:kN G ρ a cs v):kN G' ρ' a cs v:=by
 cases a with
 | true=>obtain ⟨vs,e,hl⟩:=h;exact ⟨vs,e,aK.yJ (fun c hc y=>aT.congr hG (hs c hc)) hl⟩
 | false=>
  match cs,hs,h with
  | [c],hs,h=>exact aT.congr hG (hs c (by simp)) h
def SV.fC (ρ ρ':Env):SV→Prop
 | .v _ cs=>∀ c,c∈cs→c.fC ρ ρ'
 | .tup l=>∀ p,p∈l→∀ c,c∈p.2→c.fC ρ ρ'
theorem bh.congr {G G':Gh} (hG:G.le G') {ρ ρ':Env} {s:SV} {v:Value} (hs:s.fC ρ ρ') (h:bh G ρ s v):bh G' ρ' s v:=by
 cases s with
 | v a cs=>exact kN.congr hG hs h
 | tup l=>
  obtain ⟨vs,e,hl⟩:=h
  exact ⟨vs,e,aK.yJ (fun p hp y=>kN.congr hG (hs p hp)) hl⟩
theorem CV.fC.refl (ρ:Env) (c:CV):c.fC ρ ρ:=⟨fun _ _=>rfl,fun _ _=>rfl,fun _ _=>rfl,fun _ _=>rfl⟩
theorem SV.fC.refl (ρ:Env) (s:SV):s.fC ρ ρ:=by
 cases s with
 | v a cs=>exact fun c _=> .refl ρ c
 | tup l=>exact fun p _ c _=> .refl ρ c
theorem vz {α:Type} {l:List (Nat×α)} {k:Nat} {x:α} (h:look l k=some x):(k,x)∈l:=by
 induction l with
 | nil=>simp [look] at h
 | cons p r ih=>
  obtain ⟨j,y⟩:=p
  simp only [look] at h
  cases hb:Nat.beq j k with
  | true=>rw [hb] at h;simp only [cond_true,Option.some.injEq] at h;subst h;have:=aa8 hb;subst this;simp
  | false=>rw [hb] at h;simp only [cond_false] at h;exact aaI _ (ih h)
theorem ax {α:Type} (l:List (Nat×α)) (j k:Nat) (x:α):look ((j,x)::l) k=if j=k then some x else look l k:=by
 simp only [look]
 by_cases h:j=k
 ·subst h;simp
 ·have:Nat.beq j k=false:=by
   cases hb:Nat.beq j k with
   | false=>rfl
   | true=>exact absurd (aa8 hb) h
  simp [this,h]
structure St.fC (ρ ρ':Env) (S:St):Prop where
 tmps:∀ s,s∈S.tmps→s.fC ρ ρ'
 boxes:∀ p,p∈S.boxes→∀ c,c∈p.2→c.fC ρ ρ'
theorem Rg {ρ:Env} {k b:Nat} {S:St} (own:Nat→Option aW) (h:S.cc k=false):S.fC ρ ⟨fun i=>if i=k then b else ρ.bx i,ρ.rw,own,ρ.ob,ρ.st⟩:=by
 simp only [St.cc,ZG,Z1] at h
 have cv:∀ c:CV,c.cc k=false→c.fC ρ ⟨fun i=>if i=k then b else ρ.bx i,ρ.rw,own,ρ.ob,ρ.st⟩:=fun c hc=>
  ⟨fun i hi=>by
    show (if i=k then b else ρ.bx i)=ρ.bx i
    by_cases e:i=k
    ·subst e;rw [hc] at hi;cases hi
    ·simp [e],fun _ _=>rfl,fun _ _=>rfl,fun _ _=>rfl⟩
 refine ⟨fun s hs=> ?_,fun p hp c hc=>cv c ?_⟩
 ·have:=h.1 s hs
  cases s with
  | v a cs=>exact fun c hc=>cv c (by simp only [SV.cc,Z2,abR,abQ] at this;simpa using this c hc)
  | tup l=>exact fun p hp c hc=>cv c (by simp only [SV.cc,Z2,abR,abQ] at this;simpa using this p hp c hc)
 ·have:=h.2 p hp
  simp only [Z2,abR,abQ] at this
  simpa using this c hc
theorem Im {ρ:Env} {k:Nat} {u:Value} {S:St} (own:Nat→Option aW) (h:S.br k=false):S.fC ρ ⟨ρ.bx,fun i=>if i=k then u else ρ.rw i,own,ρ.ob,ρ.st⟩:=by
 simp only [St.br,ZG,Z1] at h
 have cv:∀ c:CV,c.br k=false→c.fC ρ ⟨ρ.bx,fun i=>if i=k then u else ρ.rw i,own,ρ.ob,ρ.st⟩:=fun c hc=>
  ⟨fun _ _=>rfl,fun i hi=>by
    show (if i=k then u else ρ.rw i)=ρ.rw i
    by_cases e:i=k
    ·subst e;rw [hc] at hi;cases hi
    ·simp [e],fun _ _=>rfl,fun _ _=>rfl⟩
 refine ⟨fun s hs=> ?_,fun p hp c hc=>cv c ?_⟩
 ·have:=h.1 s hs
  cases s with
  | v a cs=>exact fun c hc=>cv c (by simp only [SV.br,Z2,abR,abQ] at this;simpa using this c hc)
  | tup l=>exact fun p hp c hc=>cv c (by simp only [SV.br,Z2,abR,abQ] at this;simpa using this p hp c hc)
 ·have:=h.2 p hp
  simp only [Z2,abR,abQ] at this
  simpa using this c hc
theorem Rh {ρ:Env} {k:Nat} {u:Value} {S:St} (own:Nat→Option aW) (h:S.bS k=false):S.fC ρ ⟨ρ.bx,ρ.rw,own,fun i=>if i=k then u else ρ.ob i,ρ.st⟩:=by
 simp only [St.bS,ZG,Z1] at h
 have cv:∀ c:CV,c.bS k=false→c.fC ρ ⟨ρ.bx,ρ.rw,own,fun i=>if i=k then u else ρ.ob i,ρ.st⟩:=fun c hc=>
  ⟨fun _ _=>rfl,fun _ _=>rfl,fun i hi=>by
    show (if i=k then u else ρ.ob i)=ρ.ob i
    by_cases e:i=k
    ·subst e;rw [hc] at hi;cases hi
    ·simp [e],fun _ _=>rfl⟩
 refine ⟨fun s hs=> ?_,fun p hp c hc=>cv c ?_⟩
 ·have:=h.1 s hs
  cases s with
  | v a cs=>exact fun c hc=>cv c (by simp only [SV.bS,Z2,abR,abQ] at this;simpa using this c hc)
  | tup l=>exact fun p hp c hc=>cv c (by simp only [SV.bS,Z2,abR,abQ] at this;simpa using this p hp c hc)
 ·have:=h.2 p hp
  simp only [Z2,abR,abQ] at this
  simpa using this c hc
theorem fH.congr {G G':Gh} (hG:G.le G') {ρ ρ':Env} {S:St} {a:Act} (hs:S.fC ρ ρ') (h:fH G ρ S a):fH G' ρ' S a:=
 ⟨h.1,fun i s hi=>bh.congr hG (hs.tmps s (List.mem_of_getElem? hi)) (h.2 i s hi)⟩
def St.put (S:St) (d:Option Tmp) (s:SV):St:=
 match d with
 | some d=>{ S with tmps:=S.tmps.set d s }
 | none=>S
@[simp] theorem St.Zb (S:St) (d:Option Tmp) (s:SV):(S.put d s).boxes=S.boxes:=by cases d<;>rfl
@[simp] theorem St.Zh (S:St) (d:Option Tmp) (s:SV):(S.put d s).rows=S.rows:=by cases d<;>rfl
@[simp] theorem St.Zg (S:St) (d:Option Tmp) (s:SV):(S.put d s).objs=S.objs:=by cases d<;>rfl
theorem fH.put {G:Gh} {ρ:Env} {S:St} {a:Act} (h:fH G ρ S a) (d:Option Tmp) {s:SV} {v:Value} (hv:∀ t,d=some t→bh G ρ s v):fH G ρ (S.put d s) (a.put d v):=by
 cases d with
 | none=>exact h
 | some d=>
  refine ⟨by simp [Act.put,St.put,h.1],fun i s' hi=> ?_⟩
  simp only [St.put,aan] at hi
  by_cases e:d=i
  ·subst e
   by_cases hlt:d<S.tmps.length
   ·simp only [if_pos,hlt,Option.some.injEq] at hi
    subst hi
    simp only [Act.put]
    rw [Zl,Zq (by rw [h.1];exact hlt)]
    exact hv _ rfl
   ·simp [hlt] at hi
  ·simp only [e,abO] at hi
   have:=h.2 i s' hi
   simp only [Act.put]
   rw [Zl,Zp (by omega), ← Zl]
   exact this
theorem Mem.KQ {P0:Program} {C:Fr P0} {G:Gh} {ρ:Env} {S S':St} {w:World} (h:Mem C G ρ S w) (hb:S'.boxes=S.boxes) (hr:S'.rows=S.rows) (ho:S'.objs=S.objs):Mem C G ρ S' w:=
 { h with boxes:=by rw [hb];exact h.boxes,rows:=by rw [hr];exact h.rows,objs:=by rw [ho];exact h.objs,hndI:=by rw [ho];exact h.hndI }
theorem Mod.put {P0:Program} {C:Fr P0} {G:Gh} {ρ:Env} {S:St} {w:World} {a:Act} (h:Mod C G ρ S w a) (d:Option Tmp) {s:SV} {v:Value} (hv:∀ t,d=some t→bh G ρ s v):Mod C G ρ (S.put d s) w (a.put d v):=
 { h.toMem.KQ (S':=S.put d s) (by simp) (by simp) (by simp) with tmps:=h.tmps.put d hv,defers:=by cases d<;>exact h.defers }
theorem cm.of_heap {G:Gh} {ρ:Env} {w w':World} {j:Nat} {r:mo} (hh:w'.heap=w.heap) (h:cm G ρ w j r):cm G ρ w' j r:=by
 unfold cm at*
 split
 ·rename_i hf;rw [if_pos hf] at h;exact h
 ·rename_i hf;rw [if_neg hf] at h
  obtain ⟨xs,ho,hl,hb⟩:=h
  exact ⟨xs,by simpa [World.ownsRow,hh] using ho,hl,hb⟩
theorem kg.of_heap {G:Gh} {w w':World} {own:Nat→Prop} {fz:Bool} {t:Ty} {l:List t.den} (hh:∀ h b,G.hnd h=some b→w'.heap[b]? =w.heap[b]?) (h:kg G w own fz t l):kg G w' own fz t l:=
 ⟨h.1,h.2.1,fun i x hx=>by
   obtain ⟨b,vs,T,h1,h2,h3,h4,h5⟩:=h.2.2 i x hx
   exact ⟨b,vs,T,h1,h2,h3,by rw [hh i b h1];exact h4,h5⟩⟩
theorem mJ.of_heap {G:Gh} {ρ:Env} {w w':World} {j:Nat} {r:qL} (hh:w'.heap=w.heap) (h:mJ G ρ w j r):mJ G ρ w' j r:=by
 cases r with
 | map k v l=>obtain ⟨b,es,clock,h1,h2,h3,h4,h5⟩:=h;exact ⟨b,es,clock,h1,h2,by rw [hh];exact h3,h4,h5⟩
 | ar fz t l=>exact ⟨h.1,kg.of_heap (fun _ _ _=>by rw [hh]) h.2⟩
theorem Mem.of_heap {P0:Program} {C:Fr P0} {G:Gh} {ρ:Env} {S:St} {w w':World} (h:Mem C G ρ S w) (hh:w'.heap=w.heap) (ho:w'.os=w.os) (hu:w'.output=w.output):Mem C G ρ S w' where
 agr:=fun b o hb=>by rw [hh];exact h.agr b o hb
 le0:=h.le0
 old:=h.old
 frame:=by rw [hh];exact h.frame
 size:=by rw [hh];exact h.size
 os:=ho.trans h.os
 output:=hu.trans h.output
 pin:=h.pin
 pinR:=h.pinR
 owned:=by rw [hh];exact h.owned
 boxes:=by rw [hh];exact h.boxes
 rows:=fun j r hr=>(h.rows j r hr).of_heap hh
 objs:=fun j r hr=>(h.objs j r hr).of_heap hh
 hndI:=h.hndI
theorem Mod.of_heap {P0:Program} {C:Fr P0} {G:Gh} {ρ:Env} {S:St} {w w':World} {a:Act} (h:Mod C G ρ S w a) (hh:w'.heap=w.heap) (ho:w'.os=w.os) (hu:w'.output=w.output):Mod C G ρ S w' a:=
 { h.toMem.of_heap hh ho hu with tmps:=h.tmps,defers:=h.defers }
structure Grow (ρ:Env) (w w':World) (blk:Option Nat):Prop where
 os:w'.os=w.os
 output:w'.output=w.output
 size:w.heap.size≤w'.heap.size
 block:∀ b,b<w.heap.size→some b≠blk→w'.heap[b]? =w.heap[b]?
theorem cE {w:World} {b:Nat} {o:Obj} (h:w.heap[b]? =some o):b<w.heap.size:=(Zn.1 h).1
theorem cm.kept {G:Gh} {ρ:Env} {w w':World} {j:Nat} {r:mo} {blk:Option Nat} (hg:Grow ρ w w' blk) (hne:∀ b,blk=some b→ρ.own b≠some (.inr j)) (h:cm G ρ w j r):cm G ρ w' j r:=by
 unfold cm at*
 split
 ·rename_i hf;rw [if_pos hf] at h;exact h
 ·rename_i hf;rw [if_neg hf] at h
  obtain ⟨xs,⟨hlen,ho⟩,hl,hb⟩:=h
  refine ⟨xs,⟨hlen, ?_⟩,hl,hb⟩
  rcases ho with hn | ⟨g,cap,cur,hv,h0,hgg,rest⟩
  ·exact .inl hn
  ·refine .inr ⟨g,cap,cur,hv,h0, ?_,rest⟩
   rw [hg.block g (cE hgg) ?_]
   ·exact hgg
   ·intro e
    exact hne g e.symm (hb g (by rw [hv];rfl))
theorem mJ.kept {G:Gh} {ρ:Env} {w w':World} {j:Nat} {r:qL} {blk:Option Nat} (hg:Grow ρ w w' blk) (hgn:∀ b,blk=some b→G b=none) (hne:∀ b,blk=some b→ρ.own b≠some (.ob j)) (h:mJ G ρ w j r):mJ G ρ w' j r:=by
 cases r with
 | map k v l=>
  obtain ⟨b,es,clock,h1,h2,h3,h4,h5⟩:=h
  refine ⟨b,es,clock,h1,h2, ?_,h4,h5⟩
  rw [hg.block b (cE h3) (fun e=>hne b e.symm h2)];exact h3
 | ar fz t l=>
  obtain ⟨hj,h⟩:=h
  refine ⟨hj,h.1,h.2.1,fun i x hx=> ?_⟩
  obtain ⟨b,vs,T,h1,h2,h3,h4,h5⟩:=h.2.2 i x hx
  refine ⟨b,vs,T,h1,h2,h3, ?_,h5⟩
  rw [hg.block b (cE h4) (fun e=> ?_)]
  ·exact h4
  ·cases fz with
   | true=>have:=hgn b e.symm;rw [h2 rfl] at this;cases this
   | false=>exact hne b e.symm (h3 rfl)
theorem AH.mono {G G':Gh} (hG:G.le G') {k v:Ty} {p:k.den×v.den} {e:MapEntry} (h:AH G k v p e):AH G' k v p e:=⟨h.1.mono hG,h.2.mono hG⟩
theorem mJ.congr {G G':Gh} (hG:G.le G') (hh:G'.hnd=G.hnd) {ρ ρ':Env} {w:World} {j:Nat} {r:qL} (hr:ρ'.ob j=ρ.ob j) (hst:ρ'.st j=ρ.st j) (ho:∀ b,ρ.own b=some (.ob j)→ρ'.own b=some (.ob j)) (h:mJ G ρ w j r):mJ G' ρ' w j r:=by
 cases r with
 | map k v l=>
  obtain ⟨b,es,clock,h1,h2,h3,h4,h5,h6⟩:=h
  exact ⟨b,es,clock,by rw [hr];exact h1,ho b h2,h3,h4.mono fun x y hxy=>hxy.mono hG,by rw [hst];exact h5,h6⟩
 | ar fz t l=>
  obtain ⟨hj,h⟩:=h
  refine ⟨hj,fun i b hb=>h.1 i b (by rw [← hh];exact hb),fun i i' b hb hb'=>h.2.1 i i' b (by rw [← hh];exact hb) (by rw [← hh];exact hb'),fun i x hx=> ?_⟩
  obtain ⟨b,vs,T,h1,h2,h3,h4,h5⟩:=h.2.2 i x hx
  exact ⟨b,vs,T,by rw [hh];exact h1,fun e=>hG _ _ (h2 e),fun e=>ho b (h3 e),h4,aH.mono hG t x _ h5⟩
theorem cm.congr {G G':Gh} (hG:G.le G') {ρ ρ':Env} {w:World} {j:Nat} {r:mo} (hr:ρ'.rw j=ρ.rw j) (ho:∀ b,ρ.own b=some (.inr j)→ρ'.own b=some (.inr j)) (h:cm G ρ w j r):cm G' ρ' w j r:=by
 unfold cm at*
 rw [hr]
 split
 ·rename_i hf;rw [if_pos hf] at h;exact eP.mono hG h
 ·rename_i hf;rw [if_neg hf] at h
  obtain ⟨xs,hown,hl,hb⟩:=h
  exact ⟨xs,hown,hl.mono (aH.mono hG r.t),fun b e=>ho b (hb b e)⟩
end Go.Dn
namespace Go.Dn
def unpack:(t:Ty)→t.den→List CV
 | .int k,n=>[.int k n]
 | .bool,b=>[.bool b]
 | .str,s=>[.str s]
 | .unit,_=>[]
 | .pair a b,p=>unpack a p.1++unpack b p.2
 | .st t,x=>unpack t x
 | .slice t,l=>[.sl t l]
 | .ptr t,x=>[.cp t x 0]
 | .clo g t,x=>[.clo g t x]
 | .hnd,o=>[.hnd o 0]
def HC (t:Ty) (x:t.den):SV:=
 match t,x with
 | .st t,x=> .v true (unpack t x)
 | t,x=> .v false (unpack t x)
def S8 (t:Ty) (x:t.den):Bool×List CV:=
 match t,x with
 | .st t,x=>(true,unpack t x)
 | t,x=>(false,unpack t x)
def pE {a b:Ty} (l:List a.den):Option (List b.den):=if h:a=b then some (h ▸ l) else none
def Rp {a b:Ty} (x:a.den):Option b.den:=if h:a=b then some (h ▸ x) else none
def UJ {k v k' v':Ty} (l:List (k.den×v.den)):Option (List (k'.den×v'.den)):=if h:k=k'∧v=v' then some (h.1 ▸ h.2 ▸ l) else none
def Un (k:IntKind):CV→Option Int
 | .int k' n=>if k=k' then some n else none
 | _=>none
def SK:CV→Option Bool
 | .bool b=>some b
 | _=>none
def Uo:CV→Option (List UInt8)
 | .str s=>some s
 | _=>none
def Od (S:St) (t:Ty):CV→Option (List t.den)
 | .sl _ l=>pE (b:=t) l
 | .nils=>some []
 | .row j=>match look S.rows j with
  | some q=>if q.fz then pE (b:=t) q.l else none
  | none=>none
 | _=>none
def Um:CV→Option (Option Nat)
 | .hnd o k=>if Nat.beq k 0 then some o else none
 | .nilp=>some none
 | _=>none
def sw {α:Type} (f:CV→Option α):List CV→Option (α×List CV)
 | c::r=>match f c with | some x=>some (x,r) | none=>none
 | []=>none
def gL {α:Type}:Option (α×List CV)→Option α
 | some (x,[])=>some x
 | _=>none
def inL (l:List Nat) (j:Nat):Bool:=l.any (Nat.beq j)
def Pp (S:St) (fb:List Nat) {t:Ty} (g:List CV→Option (t.den×List CV)):CV→Option t.den
 | .cp _ x o=>if Nat.beq o 0 then Rp (b:=t) x else none
 | .ref k o=>if Nat.beq o 0&&inL fb k then (match look S.boxes k with
  | some cs=>gL (g cs)
  | none=>none) else none
 | _=>none
def Ul {t:Ty} (g:Nat) (p:List CV→Option (t.den×List CV)):CV→Option t.den
 | .clo g' _ x=>if Nat.beq g g' then Rp (b:=t) x else none
 | .fn g' ks=>if Nat.beq g g' then gL (p (ks.map fun k=> .ref k 0)) else none
 | _=>none
def fM (S:St) (fb:List Nat):(t:Ty)→List CV→Option (t.den×List CV)
 | .int k,r=>sw (Un k) r
 | .bool,r=>sw SK r
 | .str,r=>sw Uo r
 | .unit,r=>some ((),r)
 | .pair a b,r=>match fM S fb a r with
  | some (x,r)=>match fM S fb b r with
   | some (y,r)=>some ((x,y),r)
   | none=>none
  | none=>none
 | .st t,r=>fM S fb t r
 | .slice t,r=>sw (Od S t) r
 | .ptr t,r=>sw (Pp S fb (t:=t) (fM S fb t)) r
 | .clo g t,r=>sw (Ul (t:=t) g (fM S fb t)) r
 | .hnd,r=>sw Um r
abbrev pack (S:St) (t:Ty) (cs:List CV):Option (t.den×List CV):=fM S [] t cs
def qn (S:St) (fb:List Nat) (t:Ty) (s:SV):Option t.den:=
 match t,s with
 | .st t,.v true cs=>gL (fM S fb t cs)
 | .st _,_=>none
 | t,.v false cs=>gL (fM S fb t cs)
 | _,_=>none
inductive OT where
 | val (t:Ty)
 | row (e:TypeId) (t:Ty)
 | map (k v:Ty)
def OT.den:OT→Type
 | .val t=>t.den
 | .row _ t=>List t.den
 | .map k v=>List (k.den×v.den)
def mg:List OT→Type
 | []=>Unit
 | o::r=>o.den×mg r
inductive PM where
 | val (t:Ty)
 | row (e:TypeId) (t:Ty)
 | mrow (e:TypeId) (t:Ty)
 | map (k v:Ty)
 | box (l:List OT)
 | ar (t:Ty)
 | arR (t:Ty)
inductive RM where
 | val (t:Ty)
 | row (e:TypeId) (t:Ty)
 | map (k v:Ty)
 | box (l:List OT)
def PM.den:PM→Type
 | .val t=>t.den
 | .row _ t=>List t.den
 | .mrow _ t=>List t.den
 | .map k v=>List (k.den×v.den)
 | .box l=>mg l
 | .ar t=>List t.den
 | .arR t=>List t.den
def RM.den:RM→Type
 | .val t=>t.den
 | .row _ t=>List t.den
 | .map k v=>List (k.den×v.den)
 | .box l=>mg l
def PM.arg:PM→Bool
 | .ar _=>false
 | .arR _=>false
 | _=>true
def gV:List PM→Type
 | []=>Unit
 | p::r=>p.den×gV r
def eE:List PM→Type
 | []=>Unit
 | .mrow _ t::r=>List t.den×eE r
 | .map k v::r=>List (k.den×v.den)×eE r
 | .box l::r=>mg l×eE r
 | .ar t::r=>List t.den×eE r
 | .val _::r=>eE r
 | .row _ _::r=>eE r
 | .arR _::r=>eE r
def dI (ps:List PM):List RM→Type
 | []=>eE ps
 | q::r=>q.den×dI ps r
structure az where
 ps:List PM
 rs:List RM
 m:gV ps→Option (dI ps rs)
inductive BX where
 | mk (g:Nat)
 | srt (g:Nat) (kt e:TypeId)
 | elt (lo nb:Nat) (tb te:Ty) (m:List tb.den→List te.den→Nat→Option (List te.den))
 | own
structure Cx where
 P:Program
 specs:List (Nat×az)
 keys:List (Nat×BX):=[]
def Rw {α:Type} (l:List (Int×α)):List Int:=(l.map (·.1)).mergeSort fun x y=>decide (x≤y)
def We {α:Type} (l:List (Int×α)):Bool:=decide (l.length≤1000000)&&((l.all fun p=>decide (-9223372036854775808≤p.1∧p.1≤9223372036854775807))&&decide (l.map (·.1)).Nodup)
inductive CK where
 | val (t:Ty)
 | own (e:TypeId) (t:Ty)
 | map (k v:Ty)
 | ref (k off:Nat)
 | fn (g:Nat) (ks:List Nat)
 | ar (t:Ty)
 | arF (t:Ty)
 | rowR (j:Nat)
 | rpR (j sz:Nat)
 | rowC (j:Nat) (e:TypeId) (t:Ty)
 | mapR (j:Nat)
 | mapC (j:Nat) (k v:Ty)
def cC:List CK→Type
 | []=>Unit
 | .val t::r=>t.den×cC r
 | .own _ t::r=>List t.den×cC r
 | .map k v::r=>List (k.den×v.den)×cC r
 | .ref _ _::r=>cC r
 | .fn _ _::r=>cC r
 | .ar t::r=>List t.den×cC r
 | .arF t::r=>List t.den×cC r
 | .rowR _::r=>cC r
 | .rpR _ _::r=>Nat×cC r
 | .rowC _ _ t::r=>List t.den×cC r
 | .mapR _::r=>cC r
 | .mapC _ k v::r=>List (k.den×v.den)×cC r
def CK.size:CK→Nat
 | .val t=>t.size
 | .ar _=>0
 | .arF _=>0
 | .rowC _ _ _=>0
 | .mapC _ _ _=>0
 | _=>1
def mL:List CK→Nat
 | []=>0
 | c::r=>c.size+mL r
def VF (tmps:List (Nat×CK)) (boxes:List (Nat×List CK)) (cts:List CK):List CK:=
 tmps.map (·.2)++(boxes.flatMap (·.2)++cts)
structure Ann where
 tmps:List (Nat×CK)
 boxes:List (Nat×List CK)
 cts:List CK
 fuel:cC (VF tmps boxes cts)→Nat
def Ann.cks (A:Ann):List CK:=VF A.tmps A.boxes A.cts
def iter {X β:Type}:Nat→X→(X→(X→Option β)→Option β)→Option β
 | 0,_,_=>none
 | n+1,x,f=>f x fun y=>iter n y f
def qd (P:Program) (t:TypeId):Bool:=
 match P.underlying t with
 | some (.struct _) | some (.array _ _)=>true
 | _=>false
def bO (P:Program) (t:TypeId):Nat:=((P.info? t).map (·.size)).getD 0
def okT (P:Program) (t:TypeId):Bool:=(P.underlying t).isSome
def I2:Value→CV
 | .int k n=> .int k n
 | .bool b=> .bool b
 | .string s=> .str s.data.toList
 | .slice none 0 0=> .nils
 | .pointer none=> .nilp
 | .func (.func g) f c=>if f.isEmpty&&c.isEmpty then .fn g [] else .any
 | _=> .any
def KX:Value→SV
 | .agg cs=> .v true (cs.toList.map I2)
 | v=> .v false [I2 v]
def St.ev (S:St):Operand→SV
 | .tmp t=>S.tmps.getD t (.v false [.any])
 | .const v=>KX v
 | .global _=> .v false [.any]
 | .func f=> .v false [.fn f []]
variable {β:Type}
def chk (b:Bool) (x:Option β):Option β:=bif b then x else none
def idx {α:Type} (l:List α) (i:Int):Option α:=if 0≤i then l[i.toNat]? else none
def sG (s:List UInt8) (i:Int):Option UInt8:=if 0≤i then s[i.toNat]? else none
def RH (op:BinOp) (ka:IntKind) (a:Int) (kb:IntKind) (b:Int) (k:CV→Option β):Option β:=
 match op with
 | .shl=>chk (decide (0≤b)) (k (.int ka (ka.wrap (a*2 ^ (min b.toNat ka.bits)))))
 | .shr=>chk (decide (0≤b)) (k (.int ka (a.fdiv (2 ^ (min b.toNat ka.bits)))))
 | _=>if ka≠kb then none else
  match op with
  | .add=>k (.int ka (ka.wrap (a+b)))
  | .sub=>k (.int ka (ka.wrap (a - b)))
  | .mul=>k (.int ka (ka.wrap (a*b)))
  | .quo=>chk (b != 0) (k (.int ka (ka.wrap (a.tdiv b))))
  | .rem=>chk (b != 0) (k (.int ka (a.tmod b)))
  | .and=>k (.int ka (ka.wrap (BitVec.ofInt ka.bits a &&& BitVec.ofInt ka.bits b).toNat))
  | .or=>k (.int ka (ka.wrap (BitVec.ofInt ka.bits a ||| BitVec.ofInt ka.bits b).toNat))
  | .eql=>k (.bool (a==b))
  | .neq=>k (.bool (a != b))
  | .lss=>k (.bool (decide (a<b)))
  | .leq=>k (.bool (decide (a≤b)))
  | .gtr=>k (.bool (decide (a>b)))
  | .geq=>k (.bool (decide (a≥b)))
  | _=>none
def RI (op:BinOp) (a b:List UInt8) (k:CV→Option β):Option β:=
 match op with
 | .eql=>k (.bool (a==b))
 | .neq=>k (.bool !(a==b))
 | .lss=>k (.bool (Op.bytesLess a b))
 | .leq=>k (.bool (Op.bytesLess a b||a==b))
 | .gtr=>k (.bool !(Op.bytesLess a b||a==b))
 | .geq=>k (.bool !(Op.bytesLess a b))
 | .add=>chk (decide (a.length+b.length≤maxLen)) (k (.str (a++b)))
 | _=>none
def KE (l:List CV) (off n:Nat):Option (List CV):=
 let c:=(l.drop off).take n
 if Nat.beq c.length n then some c else none
def lE (P:Program) (T:TypeId) (l:List CV) (off:Nat) (k:SV→Option β):Option β:=
 if okT P T then
 match KE l off (bO P T) with
 | some cs=>if qd P T then k (.v true cs) else (match cs with | [c]=>k (.v false [c]) | _=>none)
 | none=>none
 else none
def Jp (P:Program) (g:TypeId→SV→SV→Option Bool) (xs ys:List CV):List Field→Option Bool
 | []=>some true
 | f::fs=>if f.name= "_" then none else
  match lE P f.type xs f.offset some,lE P f.type ys f.offset some with
  | some a,some b=>match g f.type a b with
   | some r=>match Jp P g xs ys fs with
    | some q=>some (r&&q)
    | none=>none
   | none=>none
  | _,_=>none
def CV.Rv:CV→Bool
 | .ref _ _ | .cp _ _ _ | .rp _ _ _ _=>true
 | _=>false
def tM (P:Program):Nat→TypeId→SV→SV→Option Bool
 | 0,_,_,_=>none
 | d+1,t,x,y=>match P.underlying t with
  | some (.int _)=>match x,y with
   | .v false [.int k a],.v false [.int k' b]=>if k=k' then some (a==b) else none
   | _,_=>none
  | some .bool=>match x,y with
   | .v false [.bool a],.v false [.bool b]=>some (a==b)
   | _,_=>none
  | some .string=>match x,y with
   | .v false [.str a],.v false [.str b]=>some (a==b)
   | _,_=>none
  | some (.pointer _)=>match x,y with
   | .v false [.nilp],.v false [.nilp]=>some true
   | .v false [.nilp],.v false [.hnd o _]=>some o.isNone
   | .v false [.hnd o _],.v false [.nilp]=>some o.isNone
   | .v false [.nilp],.v false [c]=>if c.Rv then some false else none
   | .v false [c],.v false [.nilp]=>if c.Rv then some false else none
   | _,_=>none
  | some (.struct fs)=>match x,y with
   | .v true xs,.v true ys=>if P.stoodInHeld t then none else Jp P (tM P d) xs ys fs.toList
   | _,_=>none
  | _=>none
def XM:SV→SV→Option Bool
 | .v false [.sl _ l],.v false [.nils]=>some l.isEmpty
 | _,_=>none
def W9 (P:Program) (op:BinOp) (t:TypeId) (x y:SV) (k:SV→Option β):Option β:=
 if P.eqGuardType P.depth t then none else match op with
 | .eql=>match tM P 9 t x y with
  | some r=>k (.v false [.bool r])
  | none=>match P.underlying t,XM x y with
   | some (.slice _),some b=>k (.v false [.nb b])
   | _,_=>none
 | .neq=>match tM P 9 t x y with
  | some r=>k (.v false [.bool !r])
  | none=>none
 | _=>none
def XK (P:Program) (op:BinOp) (t:TypeId) (x y:SV) (k:SV→Option β):Option β:=
 match x,y with
 | .v false [.int ka a],.v false [.int kb b]=>RH op ka a kb b fun c=>k (.v false [c])
 | .v false [.str a],.v false [.str b]=>RI op a b fun c=>k (.v false [c])
 | x,y=>W9 P op t x y k
def M0 (n:Nat):CV→Option CV
 | .ref k o=>some (.ref k (o+n))
 | .cp t x o=>some (.cp t x (o+n))
 | .rp j sz i o=>some (.rp j sz i (o+n))
 | .hnd (some h) o=>some (.hnd (some h) (o+n))
 | _=>none
def CV.ok:CV→Bool
 | .any=>false
 | .opq _=>false
 | _=>true
def setAt (l:List CV) (off:Nat) (new:List CV):Option (List CV):=
 if Nat.ble (off+new.length) l.length then some (l.take off++new++l.drop (off+new.length)) else none
def GF (place:Nat→Option (Nat×Nat)):List CV→List (Nat×SV)→Option (List CV)
 | cells,[]=>some cells
 | cells,(i,.v _ cs)::rest=>
  match place i with
  | none=>none
  | some (off,size)=>if Nat.beq cs.length size&&cs.all CV.ok then (match setAt cells off cs with | some c=>GF place c rest | none=>none) else none
 | _,_=>none
def Em (P:Program) (fs:Array Field) (i:Nat):Option (Nat×Nat):=match fs[i]? with | some f=>some (f.offset,bO P f.type) | none=>none
def zeroCells (P:Program) (t:TypeId):Option (List CV):=
 match (P.info? t).bind (·.zero) with
 | some (.agg cs)=>some (cs.toList.map I2)
 | some v=>some [I2 v]
 | none=>none
def PI:List Ty→Ty
 | []=> .unit
 | [a]=>a
 | a::b::r=> .pair a (PI (b::r))
def HD (P:Program):Nat→TypeId→Option Ty
 | 0,_=>none
 | n+1,t=>match P.underlying t with
  | some (.int k)=>some (.int k)
  | some .bool=>some .bool
  | some .string=>some .str
  | some (.slice e)=>(HD P n e).map .slice
  | some (.pointer _)=>some .hnd
  | some (.array m e)=>(HD P n e).map fun t=> .st (PI (List.replicate m t))
  | some (.struct fs)=>(fs.toList.mapM fun f=>HD P n f.type).map fun l=> .st (PI l)
  | _=>none
def KZ (P:Program) (t:TypeId) (ty:Ty):Option ty.den:=
 match (P.info? t).bind (·.zero) with
 | some v=>qn ⟨[],[],[],[]⟩ [] ty (KX v)
 | none=>none
def CC (a b:Int):Bool:=a==b
def UH (a b:Bool):Bool:=a==b
def YU (a b:List UInt8):Bool:=a==b
def Ty.beq:(t:Ty)→t.den→t.den→Bool
 | .int _,a,b=>CC a b
 | .bool,a,b=>UH a b
 | .str,a,b=>YU a b
 | .unit,_,_=>true
 | .pair s t,a,b=>s.beq a.1 b.1&&t.beq a.2 b.2
 | .st t,a,b=>t.beq a b
 | _,_,_=>false
def bI (P:Program) (t:TypeId):Ty→Bool
 | .int _=>match P.underlying t with | some (.int _)=>true | _=>false
 | .bool=>match P.underlying t with | some .bool=>true | _=>false
 | .str=>match P.underlying t with | some .string=>true | _=>false
 | _=>false
def bV (P:Program):List Field→Nat→Ty→Bool
 | [f],n,t=>f.name≠ "_" &&Nat.beq f.offset n&&Nat.beq (bO P f.type) 1&&bI P f.type t
 | f::g::r,n,.pair a b=>f.name≠ "_" &&Nat.beq f.offset n&&Nat.beq (bO P f.type) 1&&bI P f.type a&&bV P (g::r) (n+1) b
 | _,_,_=>false
def fW (P:Program) (t:TypeId):Ty→Bool
 | .st s=>match P.underlying t with | some (.struct fs)=> !P.stoodInHeld t&&bV P fs.toList 0 s | _=>false
 | ty=>bI P t ty
def ot {k v:Ty} (l:List (k.den×v.den)) (x:k.den):Option v.den:=match l.find? (fun p=>k.beq x p.1) with | some p=>some p.2 | none=>none
def yK {k v:Ty} (l:List (k.den×v.den)) (x:k.den) (y:v.den):List (k.den×v.den):=
 match l with
 | []=>[(x,y)]
 | p::r=>bif k.beq x p.1 then (x,y)::r else p::yK r x y
def allRefs:List SV→Option (List Nat)
 | []=>some []
 | .v false [.ref k o]::r=>if Nat.beq o 0 then (match allRefs r with | some l=>some (k::l) | none=>none) else none
 | _=>none
def bnd (d:Int):Option SV→Option Int
 | none=>some d
 | some (.v false [.int _ a])=>some a
 | _=>none
def U3 (M:St) (d:TypeDesc):CV→Option Int
 | .str s=>match d with | .string=>some s.length | _=>none
 | .sl _ l=>match d with | .slice _=>some l.length | _=>none
 | .nils=>match d with | .slice _=>some 0 | _=>none
 | .row j=>match d with
  | .slice _=>match look M.rows j with
   | some q=>some q.l.length
   | none=>none
  | _=>none
 | .mp j=>match d with
  | .map _ _=>match look M.objs j with
   | some (.map _ _ l)=>some l.length
   | _=>none
  | _=>none
 | _=>none
def VM (P:Program) (b:Builtin) (c:Call) (S M:St) (k:SV→Option β):Option β:=
 match b with
 | .len=>match c.args.toList.map S.ev,c.argTypes.toList with
  | [.v false [x]],[t]=>match P.underlying t with
   | some d=>match U3 M d x with
    | some n=>k (.v false [.int .i64 n])
    | none=>none
   | none=>none
  | _,_=>none
 | .min=>match c.args.toList.map S.ev with
  | [.v false [.int ik a],.v false [.int _ b]]=>k (.v false [.int ik (if b<a then b else a)])
  | _=>none
 | .max=>match c.args.toList.map S.ev with
  | [.v false [.int ik a],.v false [.int _ b]]=>k (.v false [.int ik (if b>a then b else a)])
  | _=>none
 | _=>none
def Oe:Nat→Nat→Int→(Nat→Option β)→Option β
 | 0,_,_,_=>none
 | n+1,j,i,k=>bif i==(j:Int) then k j else Oe n (j+1) i k
theorem Of {r:β}:∀ {n j:Nat} {i:Int} {k:Nat→Option β},Oe n j i k=some r→∃ m:Nat,i=(m:Int)∧m<j+n∧k m=some r
 | 0,_,_,_,h=>by cases h
 | n+1,j,i,k,h=>by
  unfold Oe at h
  cases hb:i==(j:Int) with
  | true=>rw [hb] at h;exact ⟨j,by simpa using hb,by omega,h⟩
  | false=>
   rw [hb] at h
   obtain ⟨m,h1,h2,h3⟩:=Of (h:Oe n (j+1) i k=some r)
   exact ⟨m,h1,by omega,h3⟩
def JJ (ik:IntKind):List CV→Option (List Int)
 | []=>some []
 | .int k n::r=>if k=ik then (match JJ ik r with | some l=>some (n::l) | none=>none) else none
 | _=>none
def cK (X:Cx) (o:Oper) (S M:St) (k:SV→Option β):Option β:=
 match o.op with
 | .move x | .assign x=>k (S.ev x)
 | .pick c a b=>match S.ev c with
  | .v false [.bool t]=>bif t then k (S.ev a) else k (S.ev b)
  | _=>none
 | .binOp op t x y _=>XK X.P op t (S.ev x) (S.ev y) k
 | .unOp op _ x=>match op,S.ev x with
  | .not,.v false [.bool b]=>k (.v false [.bool !b])
  | .neg,.v false [.int ik n]=>k (.v false [.int ik (ik.wrap (0 - n))])
  | _,_=>none
 | .convert src dst x=>match X.P.underlying src,X.P.underlying dst,S.ev x with
  | some _,some (.int ik),.v false [.int _ n]=>k (.v false [.int ik (ik.wrap n)])
  | some _,some .string,.v false [.str s]=>k (.v false [.str s])
  | _,_,_=>none
 | .nilCheck x=>match S.ev x with
  | .v false [.ref i j]=>k (.v false [.ref i j])
  | .v false [.cp t y j]=>k (.v false [.cp t y j])
  | .v false [.rp i sz j l]=>k (.v false [.rp i sz j l])
  | .v false [.clo g t y]=>k (.v false [.clo g t y])
  | .v false [.fn g ks]=>k (.v false [.fn g ks])
  | .v false [.hnd o j]=>o.bind fun h=>k (.v false [.hnd (some h) j])
  | _=>none
 | .fieldAddr s x f=>match X.P.underlying s,S.ev x with
  | some (.struct fs),.v false [c]=>match fs[f]? with
   | some fd=>if okT X.P fd.type&& !Nat.beq (bO X.P fd.type) 0 then (match M0 fd.offset c with
    | some c=>k (.v false [c])
    | none=>none) else none
   | none=>none
  | _,_=>none
 | .field s x f=>match X.P.underlying s,S.ev x with
  | some (.struct fs),.v true cs=>match fs[f]? with
   | some fd=>lE X.P fd.type cs fd.offset k
   | none=>none
  | _,_=>none
 | .load t x=>match S.ev x with
  | .v false [.ref b off]=>match look M.boxes b with
   | some l=>lE X.P t l off k
   | none=>none
  | .v false [.cp ty y off]=>lE X.P t (unpack ty y) off k
  | .v false [.rp j sz i off]=>match look M.rows j with
   | some q=>(q.l[i]?).bind fun y=>if !q.fz&&Nat.beq sz q.t.size then lE X.P t (unpack q.t y) off k else none
   | none=>none
  | .v false [.hnd (some h) off]=>match look M.objs bw with
   | some (.ar _ ty l)=>(l[h]?).bind fun y=>lE X.P t (unpack ty y) off k
   | _=>none
  | _=>none
 | .indexAddr t x ix=>match X.P.underlying t,S.ev x,S.ev ix with
  | some (.slice e),.v false [.sl ty l],.v false [.int _ i]=>
   if okT X.P e&&Nat.beq (bO X.P e) ty.size then (idx l i).bind fun y=>k (.v false [.cp ty y 0]) else none
  | some (.slice e),.v false [.row j],.v false [.int _ i]=>match look M.rows j with
   | some q=>if okT X.P e&&Nat.beq (bO X.P e) q.t.size then
    (if q.fz then (idx q.l i).bind fun y=>k (.v false [.cp q.t y 0])
     else chk (decide (0≤i)&&decide (i<q.l.length)) (k (.v false [.rp j q.t.size i.toNat 0]))) else none
   | none=>none
  | some (.array n e),.v false [c],.v false [.int _ i]=>
   if okT X.P e then Oe n 0 i fun j=>(match M0 (j*bO X.P e) c with
    | some c=>k (.v false [c])
    | none=>none) else none
  | _,_,_=>none
 | .index t x ix=>match X.P.underlying t,S.ev x,S.ev ix with
  | some .string,.v false [.str s],.v false [.int _ i]=>(sG s i).bind fun b=>k (.v false [.int .u8 b.toNat])
  | some (.array n e),.v true cs,.v false [.int _ i]=>match X.P.underlying e with
   | some (.int ik)=>match JJ ik cs with
    | some l=>if okT X.P e&&Nat.beq (bO X.P e) 1&& !qd X.P e&&Nat.beq l.length n then (idx l i).bind fun m=>k (.v false [.int ik m]) else none
    | none=>none
   | _=>none
  | _,_,_=>none
 | .extract x i=>match S.ev x with
  | .tup l=>match l[i]? with
   | some p=>k (.v p.1 p.2)
   | none=>none
  | _=>none
 | .build t parts=>match X.P.underlying t,zeroCells X.P t with
  | some (.struct fs),some z=>if !fs.all (fun f=>okT X.P f.type) then none else match GF (Em X.P fs) z (parts.toList.map fun p=>(p.1,S.ev p.2)) with
   | some cs=>k (.v true cs)
   | none=>none
  | some (.array _ e),some z=>if !okT X.P e then none else match GF (fun i=>some (i*bO X.P e,bO X.P e)) z (parts.toList.map fun p=>(p.1,S.ev p.2)) with
   | some cs=>k (.v true cs)
   | none=>none
  | _,_=>none
 | .slice t x lo hi none=>match X.P.underlying t,S.ev x with
  | some .string,.v false [.str s]=>match bnd 0 (lo.map S.ev),bnd s.length (hi.map S.ev) with
   | some a,some b=>chk (decide (0≤a)&&decide (a≤b)&&decide (b≤s.length)) (k (.v false [.str ((s.take b.toNat).drop a.toNat)]))
   | _,_=>none
  | some (.slice e),.v false [.sl ty l]=>
   if okT X.P e&&Nat.beq (bO X.P e) ty.size then
   (match bnd 0 (lo.map S.ev),bnd l.length (hi.map S.ev) with
   | some a,some b=>chk (decide (0≤a)&&decide (a≤b)&&decide (b≤l.length)) (k (.v false [.sl ty ((l.take b.toNat).drop a.toNat)]))
   | _,_=>none)
   else none
  | some (.slice e),.v false [.row j]=>match look M.rows j with
   | some q=>if q.fz&&okT X.P e&&Nat.beq (bO X.P e) q.t.size then
    (match bnd 0 (lo.map S.ev),bnd q.l.length (hi.map S.ev) with
    | some a,some b=>chk (decide (0≤a)&&decide (a≤b)&&decide (b≤q.l.length)) (k (.v false [.sl q.t ((q.l.take b.toNat).drop a.toNat)]))
    | _,_=>none)
    else none
   | none=>none
  | _,_=>none
 | .makeFunc (.func g) first caps=>match allRefs (caps.toList.map S.ev) with
  | some ks=>if first.isEmpty then k (.v false [.fn g ks]) else none
  | none=>none
 | .lookup t x ix ok=>match X.P.underlying t,S.ev x with
  | some (.map kt et),.v false [.mp j]=>match look M.objs j with
   | some (.map kk vv l)=>match qn M [] kk (S.ev ix),KZ X.P et vv with
    | some key,some z=>if fW X.P kt kk then
     (if ok then k (.tup [S8 vv ((ot l key).getD z),(false,[.bool (ot l key).isSome])]) else k (HC vv ((ot l key).getD z))) else none
    | _,_=>none
   | _=>none
  | _,_=>none
 | .call c=>match c.callee with
  | .builtin b=>VM X.P b c S M k
  | _=>none
 | _=>none
end Go.Dn
namespace Go.Dn
variable {β:Type}
structure Del where
 sv:SV
 box:Option (List CV)
 row:Option mo
 obj:Option qL
def St.app (S:St) (d:Option Tmp) (x:Del):St:=
 match d with
 | none=>S
 | some d=>
  { tmps:=S.tmps.set d x.sv,
    boxes:=match x.box with | some c=>(d,c)::S.boxes | none=>S.boxes,
    rows:=match x.row with | some r=>(d,r)::S.rows | none=>S.rows,
    objs:=match x.obj with | some r=>(d,r)::S.objs | none=>S.objs }
def J8:SV→Option (Option Nat)
 | .v false [.row j]=>some (some j)
 | .v false [.nils]=>some none
 | _=>none
def oy:SV→Option Nat
 | .v false [.ref k o]=>if Nat.beq o 0 then some k else none
 | _=>none
def J7:SV→Option Nat
 | .v false [.mp j]=>some j
 | _=>none
def lI (S:St) (e:TypeId) (t:Ty):CV→Option (List t.den)
 | .row j=>match look S.rows j with
  | some q=>if q.fz|| !Nat.beq q.e e then none else pE (b:=t) q.l
  | none=>none
 | .nils=>some []
 | _=>none
def nF (S:St) (k v:Ty):CV→Option (List (k.den×v.den))
 | .mp j=>match look S.objs j with
  | some (.map _ _ l)=>UJ l
  | _=>none
 | _=>none
def qY:SV→Option CV
 | .v false [c]=>some c
 | _=>none
def nc (S:St):(l:List OT)→List CV→Option (mg l)
 | [],[]=>some ()
 | [],_::_=>none
 | .val t::r,cs=>match pack S t cs with
  | some (x,cs')=>match nc S r cs' with
   | some y=>some (x,y)
   | none=>none
  | none=>none
 | .row e t::r,c::cs=>match lI S e t c with
  | some x=>match nc S r cs with
   | some y=>some (x,y)
   | none=>none
  | none=>none
 | .row _ _::_,[]=>none
 | .map k v::r,c::cs=>match nF S k v c with
  | some x=>match nc S r cs with
   | some y=>some (x,y)
   | none=>none
  | none=>none
 | .map _ _::_,[]=>none
def uH (S:St) (fz:Bool) (t:Ty):Option (List t.den):=
 match look S.objs bw with
 | some (.ar f _ l)=>if f&& !fz then none else pE (b:=t) l
 | _=>none
def BS (S:St) (fb:List Nat) (p:PM) (s:SV):Option p.den:=
 match p with
 | .val t=>qn S fb t s
 | .row e t=>match qY s with | some c=>lI S e t c | none=>none
 | .mrow e t=>match qY s with | some c=>lI S e t c | none=>none
 | .map k v=>match qY s with | some c=>nF S k v c | none=>none
 | .box l=>match oy s with
  | some k=>match look S.boxes k with
   | some cs=>nc S l cs
   | none=>none
  | none=>none
 | .ar t=>uH S false t
 | .arR t=>uH S true t
def oE (S:St) (fb:List Nat):(ps:List PM)→List SV→Option (gV ps)
 | [],[]=>some ()
 | [],_::_=>none
 | p::r,l=>match (bif p.arg then l.head? else some (.v false [.any])) with
  | some s=>match BS S fb p s with
   | some x=>match oE S fb r (bif p.arg then l.tail else l) with
    | some y=>some (x,y)
    | none=>none
   | none=>none
  | none=>none
def PM.isVal:PM→Bool
 | .val _=>true
 | .arR _=>true
 | _=>false
def Hw:List RM→Bool
 | []=>true
 | .val _::r=>Hw r
 | _=>false
def KR (ps:List PM):(rs:List RM)→dI ps rs→List (Bool×List CV)
 | [],_=>[]
 | .val t::r,x=>S8 t x.1::KR ps r x.2
 | .row _ _::r,x=>(false,[.any])::KR ps r x.2
 | .map _ _::r,x=>(false,[.any])::KR ps r x.2
 | .box _::r,x=>(false,[.any])::KR ps r x.2
def Gd:List (Bool×List CV)→SV
 | [p]=> .v p.1 p.2
 | []=> .v false [.any]
 | l=> .tup l
def eS (S:St) (c:Call):Option (Nat×List SV):=
 match c.callee with
 | .value f=>match S.ev f with
  | .v false [.fn g ks]=>some (g,c.args.toList.map S.ev++ks.map fun k=> .v false [.ref k 0])
  | .v false [.clo g t x]=>some (g,c.args.toList.map S.ev++(unpack t x).map fun c=> .v false [c])
  | _=>none
 | _=>none
def mV:List SV→List Nat
 | []=>[]
 | .v _ cs::r=>(cs.flatMap fun | .ref k _=>[k] | .fn _ ks=>ks | _=>[])++mV r
 | .tup _::r=>mV r
def ga (cs:List CV):List Nat:=cs.filterMap fun | .row j=>some j | _=>none
def EB:List SV→List Nat
 | []=>[]
 | .v _ cs::r=>ga cs++EB r
 | .tup _::r=>EB r
def IW (S:St):List Nat→List Nat
 | []=>[]
 | k::r=>(match look S.boxes k with | some cs=>ga cs | none=>[])++IW S r
def jK (S:St) (args:List SV):List Nat:=EB args++IW S (mV args)
def aQ (S:St) (js:List Nat):St:=
 { S with rows:=js.foldl (fun rs j=>match look rs j with | some q=>(j,{ q with fz:=true })::rs | none=>rs) S.rows }
def KP (S:St) (args:List SV):Bool:=(mV args).isEmpty&&((EB args).all fun j=>match look S.rows j with | some q=>q.fz | none=>true)
def F9:List RM→Bool
 | []=>true
 | .val t::r=>t.flat&&F9 r
 | _=>false
def TY (sp:az) (M:St) (args:List SV) (k:SV→Option β):Option β:=
 if sp.ps.all PM.isVal&&Hw sp.rs&&(F9 sp.rs||(KP M args&&sp.ps.all PM.arg)) then
  match oE (aQ M (jK M args)) (mV args) sp.ps args with
  | some x=>(sp.m x).bind fun y=>k (Gd (KR sp.ps sp.rs y))
  | none=>none
 else none
def BR (S:St) (t:Ty):List SV→Option (List t.den)
 | []=>some []
 | s::r=>match qn S [] t s with
  | some x=>match BR S t r with
   | some l=>some (x::l)
   | none=>none
  | none=>none
def WE (d:Nat) (ps:List PM):(rs:List RM)→dI ps rs→(Del→Option β)→Option β
 | [.row e t],x,k=>k ⟨.v false [.row d],none,some ⟨false,e,t,x.1⟩,none⟩
 | _,_,_=>none
def Y8:List RM→Bool
 | [.row _ _]=>true
 | _=>false
def D8:List RM→Bool
 | [.row _ t]=>t.flat
 | _=>false
def OK (sp:az) (S M:St) (args:List SV) (d:Nat) (k:Del→Option β):Option β:=
 if sp.ps.all PM.isVal&&(D8 sp.rs||(KP M args&&sp.ps.all PM.arg))&& !S.br d&&Nat.blt d 2000 then
  match oE (aQ M (jK M args)) (mV args) sp.ps args with
  | some x=>(sp.m x).bind fun y=>WE d sp.ps sp.rs y k
  | none=>none
 else none
def Om (X:Cx) (o:Oper) (t:TypeId) (len:Nat) (parts:Array (Nat×Operand)) (S M:St) (k:Del→Option β):Option β:=
 match X.P.underlying t,o.dst with
 | some (.slice e),some d=>match HD X.P 9 e,zeroCells X.P e with
  | some ty,some _=>
   if S.br d|| !Nat.blt d 2000|| !Nat.beq parts.size len|| !((parts.toList.map (·.1))==List.range len)|| !Nat.beq (bO X.P e) ty.size||Nat.beq ty.size 0|| !Nat.ble (len*ty.size) 16777216 then none else
   match BR M ty (parts.toList.map fun p=>S.ev p.2) with
   | some l=>k ⟨.v false [.row d],none,some ⟨false,e,ty,l⟩,none⟩
   | none=>none
  | _,_=>none
 | _,_=>none
def Wk (X:Cx) (o:Oper):Bool:=match o.dst with
 | some d=>(match look X.keys (100000+d) with | some .own=>true | _=>false)
 | none=>false
def Ss (X:Cx) (S M:St) (f:Nat) (args:List SV) (d:Option Tmp) (k:Del→Option β):Option β:=
 match look X.keys f with
 | some (.mk g)=>match args with
  | [.v false [.mp j]]=>k ⟨.v false [.kseq g j],none,none,none⟩
  | _=>none
 | some (.srt g _ e)=>match args,d with
  | [.v false [.kseq g' j]],some d=>match look M.objs j with
   | some (.map (.int .i64) _ l)=>if Nat.beq g g'&& !S.br d&&Nat.blt d 2000 then chk (We l) (k ⟨.v false [.row d],none,some ⟨false,e,.int .i64,Rw l⟩,none⟩) else none
   | _=>none
  | _,_=>none
 | _=>none
def dM (X:Cx) (o:Oper) (S M:St) (k:Del→Option β):Option β:=
 match o.op with
 | .alloc t=>match zeroCells X.P t,o.dst with
  | some z,some d=>if S.cc d||z.any (CV.cc d)|| !Nat.blt d 2000 then none else k ⟨.v false [.ref d 0],some z,none,none⟩
  | _,_=>none
 | .box t x=>match S.ev x,o.dst with
  | .v a cs,some d=>if S.cc d||cs.any (CV.cc d)|| !Nat.blt d 2000|| !Nat.beq cs.length (bO X.P t)||(a != qd X.P t)|| !cs.all CV.ok then none else k ⟨.v false [.ref d 0],some cs,none,none⟩
  | _,_=>none
 | .buildSlice t len parts=>if Wk X o then Om X o t len parts S M k else match X.P.underlying t with
  | some (.slice e)=>match HD X.P 9 e,zeroCells X.P e with
   | some ty,some _=>
    if !Nat.beq parts.size len|| !((parts.toList.map (·.1))==List.range len)|| !Nat.beq (bO X.P e) ty.size||Nat.beq ty.size 0|| !Nat.ble (len*ty.size) 16777216 then none else
    match BR M ty (parts.toList.map fun p=>S.ev p.2) with
    | some l=>k ⟨.v false [.sl ty l],none,none,none⟩
    | none=>none
   | _,_=>none
  | _=>none
 | .makeSlice t l c=>match X.P.underlying t,o.dst,S.ev l,S.ev c with
  | some (.slice e),some d,.v false [.int _ l],.v false [.int _ c]=>match HD X.P 9 e with
   | some ty=>match KZ X.P e ty with
    | some z=>
     if S.br d|| !Nat.blt d 2000|| !Nat.beq (bO X.P e) ty.size||Nat.beq ty.size 0 then none else
     chk (decide (0≤l)&&decide (l≤c)&&decide (((((X.P.info? e).map (·.bytes)).getD 0:Nat):Int)*c≤281474976710656)&&decide (c≤9223372036854775807)) (k ⟨.v false [.row d],none,some ⟨false,e,ty,List.replicate l.toNat z⟩,none⟩)
    | _=>none
   | _=>none
  | _,_,_,_=>none
 | .makeMap t none=>match X.P.underlying t,o.dst with
  | some (.map kt et),some d=>match HD X.P 9 kt,HD X.P 9 et with
   | some kk,some vv=>if S.bS d||S.bK d|| !fW X.P kt kk|| !Nat.blt d 2000 then none else k ⟨.v false [.mp d],none,none,some (.map kk vv [])⟩
   | _,_=>none
  | _,_=>none
 | .call c=>match eS S c with
  | some (f,args)=>match look X.specs f with
   | some sp=>if Y8 sp.rs then (match o.dst with | some d=>OK sp S M args d k | none=>none) else TY sp M args fun s=>k ⟨s,none,none,none⟩
   | none=>Ss X S M f args o.dst k
  | none=>cK X o S M fun s=>k ⟨s,none,none,none⟩
 | _=>cK X o S M fun s=>k ⟨s,none,none,none⟩
def aW.beq:aW→aW→Bool
 | .inl a,.inl b=>Nat.beq a b
 | .inr a,.inr b=>Nat.beq a b
 | .ob a,.ob b=>Nat.beq a b
 | _,_=>false
def b9:List (aW×Nat)→aW→Option Nat
 | [],_=>none
 | (o,n)::r,x=>bif aW.beq o x then some n else b9 r x
def yF:List (aW×Nat)→Bool
 | []=>false
 | (o,_)::r=>(b9 r o).isSome||yF r
def nS (n:Nat):CV→List (aW×Nat)
 | .row j=>[(.inr j,n)]
 | .mp j=>[(.ob j,n)]
 | _=>[]
def oC (n:Nat):List OT→List CV→List (aW×Nat)
 | .val t::r,cs=>oC (n+1) r (cs.drop t.size)
 | .row _ _::r,c::cs=>nS n c++oC (n+1) r cs
 | .map _ _::r,c::cs=>nS n c++oC (n+1) r cs
 | _,_=>[]
def oB (S:St) (i:Nat) (p:PM) (s:SV):List (aW×Nat):=
 match p with
 | .row _ _=>match qY s with | some c=>nS (64*i) c | none=>[]
 | .mrow _ _=>match qY s with | some c=>nS (64*i) c | none=>[]
 | .map _ _=>match qY s with | some c=>nS (64*i) c | none=>[]
 | .box l=>match oy s with
  | some k=>(.inl k,64*i)::(match look S.boxes k with | some cs=>oC (64*i+1) l cs | none=>[])
  | none=>[]
 | .ar _=>[(.ob bw,64*i)]
 | _=>[]
def sj (S:St):Nat→List PM→List SV→List (aW×Nat)
 | _,[],_=>[]
 | i,p::r,l=>(match (bif p.arg then l.head? else some (.v false [.any])) with
  | some s=>oB S i p s
  | none=>[])++sj S (i+1) r (bif p.arg then l.tail else l)
def yX:List PM→List SV→List SV
 | .val _::r,s::q=>s::yX r q
 | .ar _::r,q=>yX r q
 | .arR _::r,q=>yX r q
 | _::r,_::q=>yX r q
 | _,_=>[]
def qi:List OT→Bool
 | []=>true
 | .val t::r=>t.flat&&qi r
 | .row _ t::r=>t.flat&&qi r
 | .map k v::r=>k.flat&&v.flat&&qi r
def gZ:List PM→Bool
 | []=>true
 | .mrow _ t::r=>t.flat&&gZ r
 | .map k v::r=>k.flat&&v.flat&&gZ r
 | .box l::r=>qi l&&gZ r
 | .ar t::r=>t.flat&&gZ r
 | _::r=>gZ r
def iY:List RM→Bool
 | []=>true
 | .val t::r=>t.flat&&iY r
 | .row _ t::r=>t.flat&&iY r
 | .map k v::r=>k.flat&&v.flat&&iY r
 | .box l::r=>qi l&&iY r
def dup:List Nat→Bool
 | []=>false
 | x::r=>r.any (Nat.beq x)||dup r
def nid (d i c:Nat):Nat:=10000+2048*d+64*i+c
def Ke (d i:Nat):Nat→(l:List OT)→mg l→List CV
 | _,[],_=>[]
 | c,.val t::r,x=>unpack t x.1++Ke d i (c+1) r x.2
 | c,.row _ _::r,x=> .row (nid d i c)::Ke d i (c+1) r x.2
 | c,.map _ _::r,x=> .mp (nid d i c)::Ke d i (c+1) r x.2
def qj (d i:Nat):Nat→(l:List OT)→mg l→List (Nat×mo)
 | _,[],_=>[]
 | c,.val _::r,x=>qj d i (c+1) r x.2
 | c,.row e t::r,x=>(nid d i c,⟨false,e,t,x.1⟩)::qj d i (c+1) r x.2
 | c,.map _ _::r,x=>qj d i (c+1) r x.2
def lH (d i:Nat):Nat→(l:List OT)→mg l→List (Nat×qL)
 | _,[],_=>[]
 | c,.val _::r,x=>lH d i (c+1) r x.2
 | c,.row _ _::r,x=>lH d i (c+1) r x.2
 | c,.map k v::r,x=>(nid d i c,.map k v x.1)::lH d i (c+1) r x.2
def Aq (ps:List PM) (d:Nat):(rs:List RM)→Nat→dI ps rs→List (Bool×List CV)
 | [],_,_=>[]
 | .val t::r,c,x=>S8 t x.1::Aq ps d r (c+1) x.2
 | .row _ _::r,c,x=>(false,[.row (nid d (24+c) 0)])::Aq ps d r (c+1) x.2
 | .map _ _::r,c,x=>(false,[.mp (nid d (24+c) 0)])::Aq ps d r (c+1) x.2
 | .box _::r,c,x=>(false,[.ref d 0])::Aq ps d r (c+1) x.2
def qm (ps:List PM) (d:Nat):(rs:List RM)→Nat→dI ps rs→List (Nat×mo)
 | [],_,_=>[]
 | .val _::r,c,x=>qm ps d r (c+1) x.2
 | .row e t::r,c,x=>(nid d (24+c) 0,⟨false,e,t,x.1⟩)::qm ps d r (c+1) x.2
 | .map _ _::r,c,x=>qm ps d r (c+1) x.2
 | .box l::r,c,x=>qj d (24+c) 1 l x.1++qm ps d r (c+1) x.2
def kE (ps:List PM) (d:Nat):(rs:List RM)→Nat→dI ps rs→List (Nat×qL)
 | [],_,_=>[]
 | .val _::r,c,x=>kE ps d r (c+1) x.2
 | .row _ _::r,c,x=>kE ps d r (c+1) x.2
 | .map k v::r,c,x=>(nid d (24+c) 0,.map k v x.1)::kE ps d r (c+1) x.2
 | .box l::r,c,x=>lH d (24+c) 1 l x.1++kE ps d r (c+1) x.2
def si (ps:List PM) (d:Nat):(rs:List RM)→Nat→dI ps rs→List (Nat×List CV)
 | [],_,_=>[]
 | .val _::r,c,x=>si ps d r (c+1) x.2
 | .row _ _::r,c,x=>si ps d r (c+1) x.2
 | .map _ _::r,c,x=>si ps d r (c+1) x.2
 | .box l::r,c,x=>(d,Ke d (24+c) 1 l x.1)::si ps d r (c+1) x.2
def Hp (ps:List PM):(rs:List RM)→dI ps rs→eE ps
 | [],x=>x
 | _::r,x=>Hp ps r x.2
def CG:List RM→Nat
 | []=>0
 | .box _::r=>CG r+1
 | _::r=>CG r
def dZ (d:Nat):Nat→(ps:List PM)→List SV→eE ps→List (Nat×List CV)
 | _,[],_,_=>[]
 | i,.box l::r,s::q,x=>(match oy s with | some k=>[(k,Ke d i 1 l x.1)] | none=>[])++dZ d (i+1) r q x.2
 | i,.mrow _ _::r,_::q,x=>dZ d (i+1) r q x.2
 | i,.map _ _::r,_::q,x=>dZ d (i+1) r q x.2
 | i,.ar _::r,q,x=>dZ d (i+1) r q x.2
 | i,.val _::r,_::q,x=>dZ d (i+1) r q x
 | i,.row _ _::r,_::q,x=>dZ d (i+1) r q x
 | i,.arR _::r,q,x=>dZ d (i+1) r q x
 | _,_::_,[],_=>[]
def fV (d:Nat):Nat→(ps:List PM)→List SV→eE ps→List (Nat×mo)
 | _,[],_,_=>[]
 | i,.box l::r,s::q,x=>(match oy s with | some _=>qj d i 1 l x.1 | none=>[])++fV d (i+1) r q x.2
 | i,.mrow e t::r,s::q,x=>(match J8 s with | some (some j)=>[(j,⟨false,e,t,x.1⟩)] | _=>[])++fV d (i+1) r q x.2
 | i,.map _ _::r,_::q,x=>fV d (i+1) r q x.2
 | i,.ar _::r,q,x=>fV d (i+1) r q x.2
 | i,.val _::r,_::q,x=>fV d (i+1) r q x
 | i,.row _ _::r,_::q,x=>fV d (i+1) r q x
 | i,.arR _::r,q,x=>fV d (i+1) r q x
 | _,_::_,[],_=>[]
def dn (d:Nat):Nat→(ps:List PM)→List SV→eE ps→List (Nat×qL)
 | _,[],_,_=>[]
 | i,.box l::r,s::q,x=>(match oy s with | some _=>lH d i 1 l x.1 | none=>[])++dn d (i+1) r q x.2
 | i,.mrow _ _::r,_::q,x=>dn d (i+1) r q x.2
 | i,.map k v::r,s::q,x=>(match J7 s with | some j=>[(j,.map k v x.1)] | _=>[])++dn d (i+1) r q x.2
 | i,.ar t::r,q,x=>(bw,.ar false t x.1)::dn d (i+1) r q x.2
 | i,.val _::r,_::q,x=>dn d (i+1) r q x
 | i,.row _ _::r,_::q,x=>dn d (i+1) r q x
 | i,.arR _::r,q,x=>dn d (i+1) r q x
 | _,_::_,[],_=>[]
def CV.w5 (a b:Nat):CV→Bool
 | .row j=>Nat.ble a j&&Nat.blt j b
 | .rp j _ _ _=>Nat.ble a j&&Nat.blt j b
 | .mp j=>Nat.ble a j&&Nat.blt j b
 | .stp j _=>Nat.ble a j&&Nat.blt j b
 | .kseq _ j=>Nat.ble a j&&Nat.blt j b
 | _=>false
def SV.w5 (a b:Nat):SV→Bool
 | .v _ cs=>cs.any (CV.w5 a b)
 | .tup l=>l.any fun p=>p.2.any (CV.w5 a b)
def St.w5 (a b:Nat) (S:St):Bool:=S.tmps.any (SV.w5 a b)||S.boxes.any fun p=>p.2.any (CV.w5 a b)
def Mw (d:Nat) (S:St):Bool:= !S.w5 (nid d 0 0) (nid (d+1) 0 0)
def dR (d i:Nat):Nat→List OT→List (aW×Nat)
 | _,[]=>[]
 | c,.val _::r=>dR d i (c+1) r
 | c,.row _ _::r=>(.inr (nid d i c),64*i+c)::dR d i (c+1) r
 | c,.map _ _::r=>(.ob (nid d i c),64*i+c)::dR d i (c+1) r
def cq (d:Nat):Nat→List PM→List SV→List (aW×Nat)
 | _,[],_=>[]
 | i,.box l::r,s::q=>(match oy s with | some k=>(.inl k,64*i)::dR d i 1 l | none=>[])++cq d (i+1) r q
 | i,.mrow _ _::r,s::q=>(match J8 s with | some (some j)=>[(.inr j,64*i)] | _=>[])++cq d (i+1) r q
 | i,.map _ _::r,s::q=>(match J7 s with | some j=>[(.ob j,64*i)] | _=>[])++cq d (i+1) r q
 | i,.ar _::r,q=>(.ob bw,64*i)::cq d (i+1) r q
 | i,.val _::r,_::q=>cq d (i+1) r q
 | i,.row _ _::r,_::q=>cq d (i+1) r q
 | i,.arR _::r,q=>cq d (i+1) r q
 | _,_::_,[]=>[]
def dH (d:Nat):Nat→List RM→List (aW×Nat)
 | _,[]=>[]
 | c,.val _::r=>dH d (c+1) r
 | c,.row _ _::r=>(.inr (nid d (24+c) 0),64*(24+c))::dH d (c+1) r
 | c,.map _ _::r=>(.ob (nid d (24+c) 0),64*(24+c))::dH d (c+1) r
 | c,.box l::r=>((.inl d,64*(24+c))::dR d (24+c) 1 l)++dH d (c+1) r
def wX:List PM→Bool
 | []=>false
 | .arR _::_=>true
 | _::r=>wX r
def Sr (S:St) (l:List (aW×Nat)):Bool:=l.all fun p=>match p.1 with | .ob j=> !S.bK j | _=>true
def XQ (d:Nat) (l:List (aW×Nat)):Bool:=l.all fun p=>match p.1 with
 | .inr j=> !(Nat.ble (nid d 0 0) j&&Nat.blt j (nid (d+1) 0 0))
 | .ob j=> !(Nat.ble (nid d 0 0) j&&Nat.blt j (nid (d+1) 0 0))
 | .inl _=>true
def Fg (sp:az) (S:St) (args:List SV) (d:Option Tmp) (k:St→Option β):Option β:=
 let va:=yX sp.ps args
 let js:=jK S va
 let V:=aQ S js
 let ow:=sj S 0 sp.ps args
 let fb:=mV va
 let dd:=d.getD 0
 let fl:=iY sp.rs&&gZ sp.ps
 let its:=cq dd 0 sp.ps args++dH dd 0 sp.rs
 if yF ow||yF its||dup (its.map (·.2))|| !(its.all fun p=>Nat.blt p.2 2048)||(fb.any fun k=>(b9 ow (.inl k)).isSome)||(js.any fun j=>(b9 ow (.inr j)).isSome)||(wX sp.ps&&(b9 ow (.ob bw)).isSome)|| !Mw dd S|| !XQ dd ow|| !Sr S its||
  !(fl||(fb.isEmpty&& !wX sp.ps))||(Nat.blt 0 (CG sp.rs)&&(S.cc dd||d.isNone))|| !Nat.blt dd 2000 then none else
 match oE V fb sp.ps args with
 | some x=>(sp.m x).bind fun y=>
  let R:=if fl then S else V
  let b:=Hp sp.ps sp.rs y
  k { tmps:=match d with | some d=>S.tmps.set d (Gd (Aq sp.ps dd sp.rs 0 y)) | none=>S.tmps,
      boxes:=si sp.ps dd sp.rs 0 y++(dZ dd 0 sp.ps args b++S.boxes.filter fun p=>(b9 ow (.inl p.1)).isNone),
      rows:=qm sp.ps dd sp.rs 0 y++(fV dd 0 sp.ps args b++R.rows.filter fun p=>(b9 ow (.inr p.1)).isNone),
      objs:=kE sp.ps dd sp.rs 0 y++(dn dd 0 sp.ps args b++S.objs.filter fun p=>(b9 ow (.ob p.1)).isNone) }
 | none=>none
def Rx {α:Type} (a:Option α) (k:α→Option β) (e:Option β):Option β:=
 match a with
 | some y=>k y
 | none=>e
def Mf (sp:az) (S:St) (args:List SV) (d:Option Tmp) (k:St→Option β) (e:Option β):Option β:=
 let va:=yX sp.ps args
 let js:=jK S va
 let V:=aQ S js
 let ow:=sj S 0 sp.ps args
 let fb:=mV va
 let dd:=d.getD 0
 let fl:=iY sp.rs&&gZ sp.ps
 let its:=cq dd 0 sp.ps args++dH dd 0 sp.rs
 if yF ow||yF its||dup (its.map (·.2))|| !(its.all fun p=>Nat.blt p.2 2048)||(fb.any fun k=>(b9 ow (.inl k)).isSome)||(js.any fun j=>(b9 ow (.inr j)).isSome)||(wX sp.ps&&(b9 ow (.ob bw)).isSome)|| !Mw dd S|| !XQ dd ow|| !Sr S its||
  !(fl||(fb.isEmpty&& !wX sp.ps))||(Nat.blt 0 (CG sp.rs)&&(S.cc dd||d.isNone))|| !Nat.blt dd 2000 then none else
 match oE V fb sp.ps args with
 | some x=>Rx (sp.m x) (fun y=>
  let R:=if fl then S else V
  let b:=Hp sp.ps sp.rs y
  k { tmps:=match d with | some d=>S.tmps.set d (Gd (Aq sp.ps dd sp.rs 0 y)) | none=>S.tmps,
      boxes:=si sp.ps dd sp.rs 0 y++(dZ dd 0 sp.ps args b++S.boxes.filter fun p=>(b9 ow (.inl p.1)).isNone),
      rows:=qm sp.ps dd sp.rs 0 y++(fV dd 0 sp.ps args b++R.rows.filter fun p=>(b9 ow (.inr p.1)).isNone),
      objs:=kE sp.ps dd sp.rs 0 y++(dn dd 0 sp.ps args b++S.objs.filter fun p=>(b9 ow (.ob p.1)).isNone) }) e
 | none=>none
def yI {α:Type}:List (Nat×α)→Nat→List α
 | [],_=>[]
 | (j,x)::r,k=>bif Nat.beq j k then x::yI r k else yI r k
def Gm (S:St) (args:List SV) (d:Option Tmp) (k:St→Option β):List az→Option β
 | []=>none
 | [sp]=>Fg sp S args d k
 | sp::sp'::r=>Mf sp S args d k (Gm S args d k (sp'::r))
def M6 (S:St) (e:TypeId) (ty:Ty):CV→Option (List ty.den×Option Nat)
 | .nils=>some ([],none)
 | .row j=>match look S.rows j with
  | some q=>if q.fz|| !Nat.beq q.e e then none else (match pE (b:=ty) q.l with | some l=>some (l,some j) | none=>none)
  | none=>none
 | _=>none
def IT (S:St) (ty:Ty):CV→Option (List ty.den)
 | .nils=>some []
 | .sl _ l=>pE (b:=ty) l
 | .row j=>match look S.rows j with
  | some q=>pE (b:=ty) q.l
  | none=>none
 | _=>none
def sO (P:Program) (t:TypeId) (S:St) (b off:Nat) (cs:List CV) (k:St→Option β):Option β:=
 match look S.boxes b with
 | some l=>if okT P t&&Nat.beq cs.length (bO P t)&&cs.all CV.ok then (match setAt l off cs with
  | some l=>k { S with boxes:=(b,l)::S.boxes }
  | none=>none) else none
 | none=>none
def yV (P:Program) (t:TypeId) (S:St) (j sz i off:Nat) (cs:List CV) (k:St→Option β):Option β:=
 match look S.rows j with
 | some q=>if q.fz|| !Nat.beq sz q.t.size|| !okT P t|| !Nat.beq cs.length (bO P t)|| !cs.all CV.ok then none else
  (q.l[i]?).bind fun y=>match setAt (unpack q.t y) off cs with
  | some cs=>match gL (pack S q.t cs) with
   | some y=>k { S with rows:=(j,{ q with l:=q.l.set i y })::S.rows }
   | none=>none
  | none=>none
 | none=>none
def BU (P:Program) (t:TypeId) (S:St) (h off:Nat) (cs:List CV) (k:St→Option β):Option β:=
 match look S.objs bw with
 | some (.ar false ty l)=>if !okT P t|| !Nat.beq cs.length (bO P t)|| !cs.all CV.ok then none else
  (l[h]?).bind fun y=>match setAt (unpack ty y) off cs with
  | some cs=>match gL (pack S ty cs) with
   | some y=>k { S with objs:=(bw,.ar false ty (l.set h y))::S.objs }
   | none=>none
  | none=>none
 | _=>none
def CV.vn (k h:Nat):CV→CV
 | .ref j o=>bif Nat.beq j k then .hnd (some h) o else .ref j o
 | c=>c
def SV.vn (k h:Nat):SV→SV
 | .v a cs=> .v a (cs.map (CV.vn k h))
 | .tup l=> .tup (l.map fun p=>(p.1,p.2.map (CV.vn k h)))
def CV.GK (k:Nat):CV→Bool
 | .fn _ ks=>ks.any (Nat.beq · k)
 | _=>false
def SV.GK (k:Nat):SV→Bool
 | .v _ cs=>cs.any (CV.GK k)
 | .tup l=>l.any fun p=>p.2.any (CV.GK k)
def St.GK (k:Nat) (S:St):Bool:=S.tmps.any (SV.GK k)||S.boxes.any fun p=>p.2.any (CV.GK k)
def BP (S0:St) (k:Nat):St:=
 match look S0.objs bw,look S0.boxes k with
 | some (.ar false t l),some cs=>
  let S:=aQ S0 (ga cs)
  if S.GK k|| !Nat.blt k 2000 then S0 else
  match gL (pack S t cs) with
  | some x=>
   { tmps:=S.tmps.map (SV.vn k l.length),boxes:=(S.boxes.filter fun p=> !Nat.beq p.1 k).map (fun p=>(p.1,p.2.map (CV.vn k l.length))),rows:=S.rows,objs:=(bw,.ar false t (l++[x]))::S.objs }
  | none=>S0
 | _,_=>S0
def WD (cs:List CV):List Nat:=cs.filterMap fun | .ref k o=>(if Nat.beq o 0 then some k else none) | _=>none
def iJ (S:St):List SV→St
 | []=>S
 | .v _ cs::r=>iJ ((WD cs).foldl BP S) r
 | .tup _::r=>iJ S r
def yE (S:St) (d:Option Tmp):St:=
 match d with
 | some d=>(match S.tmps.getD d (.v false [.any]) with
  | .v false [.ref k _]=>bif Nat.beq k d then { S with tmps:=S.tmps.set d (.v false [.any]) } else S
  | _=>S)
 | none=>S
def Rq (E:BX) (S:St) (args:List SV) (d:Option Tmp) (k:St→Option β):Option β:=
 match E with
 | .elt lo nb tb te m=>match args with
  | [.v false [.ref kb o],.v false [.rp j sz i off]]=>
   if !Nat.beq o 0|| !Nat.beq off 0 then none else
   match look S.boxes kb,look S.rows j with
   | some cs,some q=>
    if q.fz|| !Nat.beq sz te.size|| !Nat.beq cs.length nb then none else
    match cs[lo]? with
    | some (.sl _ l)=>match pE (b:=tb) l,pE (b:=te) q.l with
     | some l,some ql=>(m l ql i).bind fun ql'=>k ((⟨S.tmps,(kb,cs)::S.boxes,(j,⟨false,q.e,te,ql'⟩)::S.rows,S.objs⟩:St).put d (.v false [.any]))
     | _,_=>none
    | _=>none
   | _,_=>none
  | _=>none
 | _=>none
def BX.XP:BX→Bool
 | .elt _ _ _ _ _=>true
 | _=>false
def dw (X:Cx) (o:Oper) (S:St) (k:St→Option β):Option β:=
 match o.op with
 | .store t a x=>if o.dst.isSome then none else match S.ev a,S.ev x with
  | .v false [.ref b off],.v _ cs=>sO X.P t S b off cs k
  | .v false [.rp j sz i off],.v _ cs=>yV X.P t (aQ S (ga cs)) j sz i off cs k
  | .v false [.hnd (some h) off],.v _ cs=>BU X.P t (aQ S (ga cs)) h off cs k
  | _,_=>none
 | .mapUpdate t m kx x=>if o.dst.isSome then none else
  let S:=iJ (aQ S (EB [S.ev x])) [S.ev x]
  match X.P.underlying t,S.ev m with
  | some (.map kt _),.v false [.mp j]=>match look S.objs j with
   | some (.map kk vv l)=>match qn S [] kk (S.ev kx),qn S [] vv (S.ev x) with
    | some key,some y=>if fW X.P kt kk&& !S.bK j then k { S with objs:=(j,.map kk vv (yK l key y))::S.objs } else none
    | _,_=>none
   | _=>none
  | _,_=>none
 | .slice _ x _ _ _=>
  let S:=aQ S (EB [S.ev x])
  dM X o S S fun x=>k (S.app o.dst x)
 | .alloc _=>dM X o (yE S o.dst) (yE S o.dst) fun x=>k ((yE S o.dst).app o.dst x)
 | .call { callee:= .builtin .append,args,argTypes }=>match args.toList.map S.ev,argTypes.toList,o.dst with
  | [.v false [s],.v false [x]],[t,t'],some d=>match X.P.underlying t with
   | some (.slice e)=>match HD X.P 9 e,zeroCells X.P e with
    | some ty,some zc=>
     if S.br d|| !Nat.blt d 2000|| !Nat.beq t t'|| !Nat.beq (bO X.P e) ty.size||Nat.beq ty.size 0|| !Nat.beq zc.length ty.size then none else
     match M6 S e ty s,IT S ty x with
     | some (l,j),some l'=>
      chk (decide ((l.length+l'.length)*(((X.P.info? e).map (·.bytes)).getD 0)≤140737488355328)&&decide (l.length+l'.length≤maxLen))
       (k { tmps:=S.tmps.set d (.v false [.row d]),boxes:=S.boxes,rows:=(d,⟨false,e,ty,l++l'⟩)::(match j with | some j=>S.rows.filter (fun p=> !Nat.beq p.1 j) | none=>S.rows),objs:=S.objs })
     | _,_=>none
    | _,_=>none
   | _=>none
  | _,_,_=>none
 | .buildSlice t len parts=>
  let S:=iJ (aQ S (EB (parts.toList.map fun p=>S.ev p.2))) (parts.toList.map fun p=>S.ev p.2)
  Om X o t len parts S S fun x=>k (S.app o.dst x)
 | .call c=>match eS S c with
  | some (f,args)=>match look X.keys f with
   | some kf=>if kf.XP then Rq kf S args o.dst k else dM X o S S fun x=>k (S.app o.dst x)
   | none=>Gm S args o.dst k (yI X.specs f)
  | none=>dM X o S S fun x=>k (S.app o.dst x)
 | _=>dM X o S S fun x=>k (S.app o.dst x)
def guardOf (ops:List Oper) (o:Oper) (S:St):Option (Option (Nat×Bool×Bool)):=
 match o.guard with
 | none=>some none
 | some (j,want)=>match ops[j]? with
  | some g=>match g.dst with
   | some d=>match S.ev (.tmp d) with
    | .v false [.bool b]=>some (some (d,b,want))
    | _=>none
   | none=>none
  | none=>none
def mh (ops:List Oper) (o:Oper) (S:St):Bool:=
 match o.guard with
 | none=>false
 | some (j,_)=>match ops[j]? with
  | some g=>match g.dst with
   | some d=>match S.ev (.tmp d) with
    | .tup []=>true
    | _=>false
   | none=>false
  | none=>false
def pU:SV:= .tup []
def fork (S:St) (d:Nat) (b want:Bool) (yes no:St→Option β):Option β:=
 bif want then (bif b then yes (S.put (some d) (.v false [.bool true])) else no (S.put (some d) (.v false [.bool false])))
 else (bif b then no (S.put (some d) (.v false [.bool true])) else yes (S.put (some d) (.v false [.bool false])))
def lN (X:Cx) (ops:List Oper):List Oper→St→(St→Option β)→Option β
 | [],S,k=>k S
 | o::rest,S,k=>match guardOf ops o S with
  | none=>bif mh ops o S then lN X ops rest (S.put o.dst pU) k else none
  | some none=>dw X o S fun S=>lN X ops rest S k
  | some (some (d,b,want))=>fork S d b want (fun S=>dw X o S fun S=>lN X ops rest S k)
   fun S=>lN X ops rest (S.put o.dst pU) k
def Po (S:St) (t:Ty):Option (List t.den):=
 match look S.objs bw with
 | some (.ar true _ l)=>pE (b:=t) l
 | _=>none
def aX (S:St):(cs:List CK)→List CV→Option (cC cs)
 | [],[]=>some ()
 | [],_::_=>none
 | .val t::r,cvs=>match pack S t cvs with
  | some (x,q)=>match aX S r q with
   | some y=>some (x,y)
   | none=>none
  | none=>none
 | .own e t::r,c::q=>match lI S e t c,aX S r q with
  | some l,some y=>some (l,y)
  | _,_=>none
 | .own _ _::_,[]=>none
 | .map kk vv::r,c::q=>match nF S kk vv c,aX S r q with
  | some l,some y=>some (l,y)
  | _,_=>none
 | .map _ _::_,[]=>none
 | .ref k off::r,c::q=>match c with
  | .ref k' off'=>if Nat.beq k k'&&Nat.beq off off' then aX S r q else none
  | _=>none
 | .ref _ _::_,[]=>none
 | .fn g ks::r,c::q=>match c with
  | .fn g' ks'=>if Nat.beq g g'&&ks==ks' then aX S r q else none
  | _=>none
 | .fn _ _::_,[]=>none
 | .ar t::r,q=>match uH S false t,aX S r q with
  | some l,some y=>some (l,y)
  | _,_=>none
 | .arF t::r,q=>match Po S t,aX S r q with
  | some l,some y=>some (l,y)
  | _,_=>none
 | .rowR j::r,c::q=>match c with
  | .row j'=>if Nat.beq j j' then aX S r q else none
  | _=>none
 | .rowR _::_,[]=>none
 | .rpR j sz::r,c::q=>match c with
  | .rp j' sz' i off=>if Nat.beq j j'&&(Nat.beq sz sz'&&Nat.beq off 0) then (match aX S r q with
   | some y=>some (i,y)
   | none=>none) else none
  | _=>none
 | .rpR _ _::_,[]=>none
 | .mapR j::r,c::q=>match c with
  | .mp j'=>if Nat.beq j j' then aX S r q else none
  | _=>none
 | .mapR _::_,[]=>none
 | .rowC j e t::r,q=>match lI S e t (.row j),aX S r q with
  | some l,some y=>some (l,y)
  | _,_=>none
 | .mapC j k v::r,q=>match nF S k v (.mp j),aX S r q with
  | some l,some y=>some (l,y)
  | _,_=>none
def CK.agg:CK→Bool
 | .val (.st _)=>true
 | _=>false
def Kv (S:St):List (Nat×CK)→Option (List CV)
 | []=>some []
 | p::r=>match S.tmps.getD p.1 (.v false [.any]) with
  | .v a cs=>match Kv S r with
   | some l=>if (a==p.2.agg)&&(Nat.beq cs.length p.2.size&&(a||Nat.beq p.2.size 1)) then some (cs++l) else none
   | none=>none
  | _=>none
def IV (S:St):List (Nat×List CK)→Option (List CV)
 | []=>some []
 | p::r=>match look S.boxes p.1 with
  | some cs=>if Nat.beq cs.length (mL p.2) then (match IV S r with
   | some l=>some (cs++l)
   | none=>none) else none
  | none=>none
def St.places (S:St) (A:Ann):Option (List CV):=
 match Kv S A.tmps,IV S A.boxes with
 | some a,some b=>some (a++b)
 | _,_=>none
def carried (base:Nat):List CK→List CV→List (aW×Nat)
 | .val t::r,cvs=>carried base r (cvs.drop t.size)
 | .own _ _::r,c::q=>nS base c++carried (base+1) r q
 | .map _ _::r,c::q=>nS base c++carried (base+1) r q
 | .ref _ _::r,_::q=>carried base r q
 | .fn _ _::r,_::q=>carried base r q
 | .ar _::r,q=>(.ob bw,bw)::carried base r q
 | .arF _::r,q=>carried base r q
 | .rowR _::r,_::q=>carried base r q
 | .rpR _ _::r,_::q=>carried base r q
 | .mapR _::r,_::q=>carried base r q
 | .rowC j _ _::r,q=>(.inr j,j)::carried base r q
 | .mapC j _ _::r,q=>(.ob j,j)::carried base r q
 | _,_=>[]
def dx:Nat:=4000
def mq:List CK→Nat
 | []=>0
 | .own _ _::r=>mq r+1
 | .map _ _::r=>mq r+1
 | _::r=>mq r
def CK.qX (n:Nat):CK→Bool
 | .rowR j=>Nat.blt j dx||Nat.ble (dx+n) j
 | .rpR j _=>Nat.blt j dx||Nat.ble (dx+n) j
 | .rowC j _ _=>Nat.blt j dx||Nat.ble (dx+n) j
 | .mapR j=>Nat.blt j dx||Nat.ble (dx+n) j
 | .mapC j _ _=>Nat.blt j dx||Nat.ble (dx+n) j
 | _=>true
def RL (A:Ann) (S:St):Option (cC A.cks):=
 match S.places A with
 | some cvs=>if !A.cks.all (CK.qX (mq A.cks))|| !Nat.blt A.cks.length 1000||yF (carried dx A.cks cvs)||dup ((carried dx A.cks cvs).map (·.2)) then none else aX S A.cks cvs
 | none=>none
def Js:List CK→List CV→List Nat
 | .val t::r,cvs=>ga (cvs.take t.size)++Js r (cvs.drop t.size)
 | .ar _::r,q=>Js r q
 | .arF _::r,q=>Js r q
 | .rowC _ _ _::r,q=>Js r q
 | .mapC _ _ _::r,q=>Js r q
 | _::r,_::q=>Js r q
 | _,_=>[]
def carry (A:Ann) (S:St):Option (cC A.cks):=
 match S.places A with
 | some cvs=>RL A (aQ S (Js A.cks cvs))
 | none=>none
def lD (base:Nat):(cs:List CK)→cC cs→List CV
 | [],_=>[]
 | .val t::r,x=>unpack t x.1++lD base r x.2
 | .own _ _::r,x=> .row base::lD (base+1) r x.2
 | .map _ _::r,x=> .mp base::lD (base+1) r x.2
 | .ref k off::r,x=> .ref k off::lD base r x
 | .fn g ks::r,x=> .fn g ks::lD base r x
 | .ar _::r,x=>lD base r x.2
 | .arF _::r,x=>lD base r x.2
 | .rowR j::r,x=> .row j::lD base r x
 | .rpR j sz::r,x=> .rp j sz x.1 0::lD base r x.2
 | .mapR j::r,x=> .mp j::lD base r x
 | .rowC _ _ _::r,x=>lD base r x.2
 | .mapC _ _ _::r,x=>lD base r x.2
def eX (base:Nat):(cs:List CK)→cC cs→List (Nat×mo)
 | [],_=>[]
 | .val _::r,x=>eX base r x.2
 | .own e t::r,x=>(base,⟨false,e,t,x.1⟩)::eX (base+1) r x.2
 | .map _ _::r,x=>eX (base+1) r x.2
 | .ref _ _::r,x=>eX base r x
 | .fn _ _::r,x=>eX base r x
 | .ar _::r,x=>eX base r x.2
 | .arF _::r,x=>eX base r x.2
 | .rowR _::r,x=>eX base r x
 | .rpR _ _::r,x=>eX base r x.2
 | .mapR _::r,x=>eX base r x
 | .rowC j e t::r,x=>(j,⟨false,e,t,x.1⟩)::eX base r x.2
 | .mapC _ _ _::r,x=>eX base r x.2
def cO (base:Nat):(cs:List CK)→cC cs→List (Nat×qL)
 | [],_=>[]
 | .val _::r,x=>cO base r x.2
 | .own _ _::r,x=>cO (base+1) r x.2
 | .map k v::r,x=>(base,.map k v x.1)::cO (base+1) r x.2
 | .ref _ _::r,x=>cO base r x
 | .fn _ _::r,x=>cO base r x
 | .ar t::r,x=>(bw,.ar false t x.1)::cO base r x.2
 | .arF t::r,x=>(bw,.ar true t x.1)::cO base r x.2
 | .rowR _::r,x=>cO base r x
 | .rpR _ _::r,x=>cO base r x.2
 | .mapR _::r,x=>cO base r x
 | .rowC _ _ _::r,x=>cO base r x.2
 | .mapC j k v::r,x=>(j,.map k v x.1)::cO base r x.2
def Av:List (Nat×CK)→List CV→List SV→List SV
 | p::r,q,tmps=>Av r (q.drop p.2.size) (tmps.set p.1 (.v p.2.agg (q.take p.2.size)))
 | [],_,tmps=>tmps
def IU:List (Nat×List CK)→List CV→List (Nat×List CV)
 | p::r,cs=>(p.1,cs.take (mL p.2))::IU r (cs.drop (mL p.2))
 | [],_=>[]
def head (A:Ann) (n:Nat) (x:cC A.cks):St:=
 let cvs:=lD dx A.cks x
 { tmps:=Av A.tmps cvs (List.replicate n (.v false [.any])),
   boxes:=IU A.boxes (cvs.drop (mL (A.tmps.map (·.2)))),
   rows:=eX dx A.cks x,
   objs:=cO dx A.cks x }
inductive Ex where
 | normal
 | exit (id:Nat)
 | ret
def je:Code→Nat
 | .region id _ _=>id
 | .seq a _=>je a
 | .block _ c=>je c
 | .loop c=>je c
 | .scope c=>je c
 | .cond _ a _=>je a
 | _=>0
structure Msk where
 m:Nat
def inM (s:Msk) (j:Nat):Bool:=Nat.beq (Nat.land (Nat.shiftRight s.m j) 1) 1
def m0:Msk:=⟨0⟩
instance:Membership Nat Msk:=⟨fun s j=>inM s j=true⟩
def mM (acc:List Msk) (es:List Edge):Msk:=
 match es with
 | []=>m0
 | e::r=>bif Region.binds .any e then ⟨Nat.lor (Nat.lor (Nat.shiftLeft 1 e.on) (acc.getD e.on m0).m) (mM acc r).m⟩ else mM acc r
def qa:List Oper→List Msk→List Msk
 | [],acc=>acc
 | o::r,acc=>qa r (acc++[mM acc o.after.toList])
def deps (ops:List Oper):List Msk:=qa ops []
def vI (ds:List Msk) (k:Nat):Bool:=(List.range k).all fun j=>inM (ds.getD k m0) j
def Da (ds:List Msk):Nat→Nat
 | 0=>0
 | k+1=>if vI ds k then Da ds k else k+1
def mask (n N:Nat):Array Bool:=(List.replicate n true++List.replicate (N - n) false).toArray
def bN (ops:List Oper) (j:Nat):Option Nat:=match ops[j]? with | some p=>p.dst | none=>none
def Nz (t:Nat) (m:Msk):List (Option Nat)→Nat→Bool
 | [],_=>true
 | d::r,j=>((match d with | some d=> !Nat.beq d t | none=>true)||inM m j)&&Nz t m r (j+1)
def FH (t i:Nat) (m:Msk) (ds:List Msk):List (Option Nat)→Nat→Bool
 | [],_=>true
 | d::r,j=>((match d with | some d=> !Nat.beq d t | none=>true)||(inM m j||inM (ds.getD j m0) i))&&FH t i m ds r (j+1)
def FQ (ops:List Oper) (ds:List Msk) (n:Nat):Bool:=
 let dl:=(ops.take n).map (·.dst)
 !dup ((ops.take n).filterMap (·.dst))&&(List.range n).all fun i=>match ops[i]? with
  | some o=>o.dst.isSome&&((o.looksAt ops.toArray).all fun t=>Nz t (ds.getD i m0) dl 0)
  | none=>false
def jJ (ops:List Oper):Bool:=(List.range ops.length).all fun i=>match ops[i]? with
 | some o=>o.after.toList.all fun e=> !Region.binds .any e||Nat.blt e.on i
 | none=>true
def FG (ops:List Oper) (n:Nat):Bool:=
 let ds:=deps ops
 Nat.ble n ops.length&&FQ ops ds n&&((List.range ops.length).all fun k=>Nat.blt k n||vI ds k)&&jJ ops&&Region.seqB .any ops.toArray (ops.length - n) n (mask n ops.length)
def CV.cM (d:Nat) (c:CV):Bool:=c.cc d||(c.br d||(c.bS d||c.bK d))
def SV.cM (d:Nat):SV→Bool
 | .v _ cs=>cs.any (CV.cM d)
 | .tup l=>l.any fun p=>p.2.any (CV.cM d)
def St.cM (d:Nat) (S:St):Bool:=S.tmps.any (SV.cM d)||S.boxes.any fun p=>p.2.any (CV.cM d)
def Pz (Sn:St) (d dj:Nat):Bool:=
 (Sn.tmps.getD dj (.v false [.any])).cM d||(match look Sn.boxes dj with | some cs=>cs.any (CV.cM d) | none=>false)
def UZ:CV→List Nat
 | .ref j _=>[j]
 | .fn _ ks=>ks
 | .row j=>[j]
 | .rp j _ _ _=>[j]
 | .mp j=>[j]
 | .stp j _=>[j]
 | .kseq _ j=>[j]
 | _=>[]
def CD:List CV→List Nat
 | []=>[]
 | c::r=>UZ c++CD r
def Rt:List (Bool×List CV)→List Nat
 | []=>[]
 | c::r=>CD c.2++Rt r
def U0:SV→List Nat
 | .v _ cs=>CD cs
 | .tup l=>Rt l
def NP:List SV→List Nat
 | []=>[]
 | c::r=>U0 c++NP r
def Rs:List (Nat×List CV)→List Nat
 | []=>[]
 | c::r=>c.1::(CD c.2++Rs r)
def NW {α:Type}:List (Nat×α)→List Nat
 | []=>[]
 | c::r=>c.1::NW r
def St.ids (S:St):List Nat:=NP S.tmps++(Rs S.boxes++(NW S.rows++NW S.objs))
def Rr (Sn:St) (dj:Nat):List Nat:=U0 (Sn.tmps.getD dj (.v false [.any]))++(match look Sn.boxes dj with | some cs=>CD cs | none=>[])
def Ah (ops:List Oper) (n:Nat) (S Sn:St):Bool:=
 let ds:=deps ops
 let hs:=S.ids
 ((ops.take n).all fun o=>match o.dst with | some d=> !inL hs d | none=>false)&&
 (List.range n).all fun j=>match bN ops j with
   | some dj=>(Rr Sn dj).all fun a=>(List.range n).all fun i=>Nat.beq i j||(inM (ds.getD j m0) i||(match bN ops i with | some d=> !Nat.beq d a | none=>true))
   | none=>true
def qI (X:Cx) (ops:List Oper) (M:St):List Oper→St→(St→Option β)→Option β
 | [],S,k=>k S
 | o::rest,S,k=>match guardOf ops o S with
  | none=>bif mh ops o S then qI X ops M rest (S.put o.dst pU) k else none
  | some none=>dM X o S M fun x=>qI X ops M rest (S.app o.dst x) k
  | some (some (d,b,want))=>fork S d b want (fun S=>dM X o S M fun x=>qI X ops M rest (S.app o.dst x) k)
   fun S=>qI X ops M rest (S.put o.dst pU) k
def KL:Op→Bool
 | .store _ _ _=>true
 | _=>false
def vU:Op→Bool
 | .move _=>true
 | .assign _=>true
 | .binOp _ _ _ _ _=>true
 | _=>false
def rU:Op→Bool
 | .makeSlice _ _ _=>true
 | _=>false
def uy:St:=⟨[],[],[],[]⟩
def Wh (ops:List Oper) (ds:List Msk) (m:Nat):Bool:=match ops[m]? with
 | some o=>KL o.op&&o.guard.isNone&&o.dst.isNone&&((List.range m).all fun i=>inM (ds.getD m m0) i||(match ops[i]? with | some p=>vU p.op&&p.guard.isNone | none=>false))&&
  ((o.looksAt ops.toArray).all fun t=>(List.range m).all fun j=>if bN ops j==some t then inM (ds.getD m m0) j else true)
 | none=>false
def Sd (ops:List Oper) (m:Nat):Bool:=
 let ds:=deps ops
 Nat.ble (m+1) ops.length&&FQ ops ds m&&((List.range ops.length).all fun k=>Nat.blt k (m+1)||vI ds k)&&jJ ops&&Region.seqB .any ops.toArray (ops.length - (m+1)) (m+1) (mask (m+1) ops.length)&&Wh ops ds m
def Ud (ops:List Oper) (ds:List Msk) (m:Nat):Bool:=match ops[m]? with
 | some o=>KL o.op&&o.guard.isNone&&o.dst.isNone&&((List.range m).all fun i=>inM (ds.getD m m0) i||(match ops[i]? with | some p=>(vU p.op||rU p.op)&&p.guard.isNone | none=>false))&&
  ((o.looksAt ops.toArray).all fun t=>(List.range m).all fun j=>if bN ops j==some t then inM (ds.getD m m0) j else true)
 | none=>false
def Se (ops:List Oper) (m:Nat):Bool:=
 let ds:=deps ops
 Nat.ble (m+1) ops.length&&FQ ops ds m&&((List.range ops.length).all fun k=>Nat.blt k (m+1)||vI ds k)&&jJ ops&&Region.seqB .any ops.toArray (ops.length - (m+1)) (m+1) (mask (m+1) ops.length)&&Ud ops ds m
def JP (ops:List Oper) (m:Nat):List Nat:=(List.range m).filterMap fun i=>match ops[i]? with
 | some p=>if rU p.op&& !inM ((deps ops).getD m m0) i then p.dst else none
 | none=>none
def ig:Op→Bool
 | .call { callee:= .builtin .append, .. }=>true
 | _=>false
def s7:List Oper→Nat
 | []=>0
 | o::r=>bif KL o.op||ig o.op then 0 else Nat.succ (s7 r)
def Y2:Op→Bool
 | .assign _=>true
 | _=>false
def GJ:List Oper→Nat
 | []=>0
 | o::r=>bif Y2 o.op then 0 else Nat.succ (GJ r)
def YM (ops:List Oper) (t:Nat):Option Oper:=ops.find? (fun o=>match o.dst with | some d=>Nat.beq d t | none=>false)
def MZ (ops:List Oper):Nat→Operand→Bool
 | 0,_=>false
 | f+1,.tmp t=>match YM ops t with
  | some o=>(match o.op with | .indexAddr _ _ _=>true | .fieldAddr _ x _=>MZ ops f x | .nilCheck x=>MZ ops f x | .move x=>MZ ops f x | _=>false)
  | none=>false
 | _+1,_=>false
def EZ (ops:List Oper) (S:St):Nat→Operand→Option Nat
 | 0,_=>none
 | f+1,.tmp t=>match YM ops t with
  | some o=>(match o.op with | .fieldAddr _ x _=>EZ ops S f x | .nilCheck x=>EZ ops S f x | .move x=>EZ ops S f x | _=>none)
  | none=>(match S.ev (.tmp t) with | .v false [.ref b _]=>some b | _=>none)
 | _+1,_=>none
def UE:Op→Option Operand
 | .store _ a _=>some a
 | _=>none
structure Touch where
 rt:Bool
 bs:Option (List Nat)
def dz (ops:List Oper) (S:St):List Oper→Touch
 | []=>⟨false,some []⟩
 | o::r=>match UE o.op with
  | some a=>bif MZ ops 9 a then ⟨true,(dz ops S r).bs⟩ else (match EZ ops S 9 a with
   | some b=>⟨(dz ops S r).rt,(match (dz ops S r).bs with | some l=>some (b::l) | none=>none)⟩
   | none=>⟨true,none⟩)
  | none=>bif ig o.op then ⟨true,(dz ops S r).bs⟩ else dz ops S r
def lZ (t:Touch) (k:Nat):Bool:=match t.bs with
 | some l=> !inL l k
 | none=>false
def Ux (ops:List Oper) (ds:List Msk) (m n:Nat):Bool:=
 let dl:=(ops.take n).map (·.dst)
 !dup ((ops.take n).filterMap (·.dst))&&((List.range n).all fun i=>match ops[i]? with
  | some o=>((o.looksAt ops.toArray).all fun t=>FH t i (ds.getD i m0) ds dl 0)&&((Nat.blt i m||o.guard.isNone)&&(Nat.blt i m||(List.range i).all fun j=>Nat.blt j m||inM (ds.getD i m0) j))
  | none=>false)
def GB (ops:List Oper) (m n:Nat):Bool:=
 let ds:=deps ops
 Nat.blt m n&&(Nat.ble n ops.length&&(FQ ops ds m&&(((List.range ops.length).all fun k=>Nat.blt k n||vI ds k)&&(jJ ops&&(Region.seqB .any ops.toArray (ops.length - n) n (mask n ops.length)&&Ux ops ds m n)))))
def cZ (t:Touch) (S:St):St:=⟨[],S.boxes.filter (fun p=>lZ t p.1),bif t.rt then [] else S.rows,bif t.rt then [] else S.objs⟩
def ni (x:Del):Bool:=x.box.isNone&&(x.row.isNone&&x.obj.isNone)
def Sw (ops:List Oper) (m n i:Nat):List Oper:=(List.range n).filterMap fun j=>if Nat.ble m j&& !inM ((deps ops).getD j m0) i then ops[j]? else none
def gC (X:Cx) (ops:List Oper) (M:St) (Mr:Nat→St) (dm:Msk):Nat→List Oper→St→(St→Option β)→Option β
 | _,[],S,k=>k S
 | i,o::rest,S,k=>match guardOf ops o S with
  | none=>bif mh ops o S then gC X ops M Mr dm (i+1) rest (S.put o.dst pU) k else none
  | some none=>bif inM dm i then dM X o S M fun x=>gC X ops M Mr dm (i+1) rest (S.app o.dst x) k
   else dM X o S (Mr i) fun x=>bif ni x then gC X ops M Mr dm (i+1) rest (S.app o.dst x) k else none
  | some (some (d,b,want))=>fork S d b want (fun S=>bif inM dm i then dM X o S M fun x=>gC X ops M Mr dm (i+1) rest (S.app o.dst x) k
   else dM X o S (Mr i) fun x=>bif ni x then gC X ops M Mr dm (i+1) rest (S.app o.dst x) k else none)
   fun S=>gC X ops M Mr dm (i+1) rest (S.put o.dst pU) k
def OH (t:Touch):SV→Bool
 | .v false [.ref b _]=> !lZ t b
 | _=>t.rt
def vG (X:Cx) (ops:List Oper) (S0:St) (hs:List Nat):List Oper→St→(St→Option β)→Option β
 | [],S,k=>k S
 | o::rest,S,k=>match UE o.op with
  | some a=>bif OH (dz ops S0 [o]) (S.ev a) then dw X o S fun S=>vG X ops S0 hs rest S k else none
  | none=>bif ig o.op
   then (bif (dz ops S0 [o]).rt&&(match o.dst with | some d=> !inL hs d | none=>false) then dw X o S fun S=>vG X ops S0 hs rest S k else none)
   else dM X o S S fun x=>bif ni x then vG X ops S0 hs rest (S.app o.dst x) k else none
def Hy (X:Cx) (ops:List Oper) (S:St) (k:St→Option β) (m n:Nat):Option β:=
 gC X ops S (fun i=>cZ (dz ops S (Sw ops m n i)) S) ((deps ops).getD m m0) 0 (ops.take m) S fun Sn=>if Ah ops m S Sn then vG X ops S S.ids ((ops.take n).drop m) Sn fun S=>lN X ops (ops.drop n) S k else none
def runM (X:Cx) (ops:List Oper) (m:Nat) (S:St) (k:St→Option β):Option β:=match ops[m]? with
 | some o=>match o.op with
  | .store _ a _=>match S.ev a with
   | .v false [.ref _ _]=>dw X o S fun S'=>bif (JP ops m).all fun d=> !S'.boxes.any fun p=>p.2.any (CV.br d) then k S' else none
   | _=>none
  | _=>none
 | none=>none
def C4 (X:Cx) (ops:List Oper) (S:St) (k:St→Option β) (els:Option β):Option β:=
 let n:=Da (deps ops) ops.length
 if FG ops n&& !(ops.take n).any (fun o=>ig o.op) then qI X ops S (ops.take n) S fun Sn=>if Ah ops n S Sn then lN X ops (ops.drop n) Sn k else none
 else if Sd ops (n - 1)&& !(ops.take (n - 1)).any (fun o=>ig o.op) then qI X ops S (ops.take (n - 1)) S fun Sn=>if Ah ops (n - 1) S Sn then lN X ops (ops.drop (n - 1)) Sn k else none
 else if Se ops (n - 1)&& !(ops.take (n - 1)).any (fun o=>ig o.op) then qI X ops S (ops.take (n - 1)) S fun Sn=>if Ah ops (n - 1) S Sn then runM X ops (n - 1) Sn fun S'=>lN X ops (ops.drop (n - 1+1)) S' k else none
 else if GB ops (s7 ops) n then Hy X ops S k (s7 ops) n
 else if GB ops (GJ ops) n&& !(ops.take (GJ ops)).any (fun o=>ig o.op) then Hy X ops S k (GJ ops) n
 else els
def KW (σ:Nat→Nat) (o:Oper):Oper:={ o with after:=o.after.map fun e=>{ e with on:=σ e.on } }
def OX (ds:List Msk):Nat→List Oper→List Nat→List Nat→List Nat
 | _,[],sp,fl=>fl++sp
 | i,o::r,sp,fl=>bif KL o.op||(ig o.op||sp.any fun j=>inM (ds.getD i m0) j) then OX ds (i+1) r (sp++[i]) fl else OX ds (i+1) r sp (fl++[i])
def NF (ops:List Oper):List Nat:=List.range (s7 ops)++OX (deps ops) (s7 ops) (ops.drop (s7 ops)) [] []
def posOf:List Nat→Nat→Nat
 | [],_=>0
 | x::r,i=>bif Nat.beq x i then 0 else Nat.succ (posOf r i)
def F7 (ops:List Oper) (p:List Nat):List Oper:=match ops with
 | []=>[]
 | o0::_=>p.map fun i=>KW (posOf p) (ops.getD i o0)
def Pq (ops:List Oper) (p:List Nat):Bool:=
 Nat.beq p.length ops.length&&(((List.range ops.length).all fun i=>Nat.blt (posOf p i) ops.length&&Nat.beq (p.getD (posOf p i) ops.length) i)&&
  (((List.range ops.length).all fun j=>Nat.blt (p.getD j ops.length) ops.length&&Nat.beq (posOf p (p.getD j ops.length)) j)&&
    ops.all fun o=>o.guard.isNone&&o.after.toList.all fun e=>Nat.blt e.on ops.length))
def yy (o:Oper):Oper:={ o with after:=o.after.push ⟨0,.phase⟩ }
def KO:List Oper→List Oper
 | []=>[]
 | o::r=>o::r.map yy
def U7 (ops:List Oper):Bool:=match ops with
 | []=>false
 | o::_=>(match o.op with | .move _=>true | _=>false)&&(ops.all (fun p=>p.guard.isNone)&&(o.after.isEmpty&&(o.dst.isSome&&(Region.noSelect ops.toArray&&Region.free .any ops.toArray (Array.replicate ops.length false) 0))))
def Px (X:Cx) (ops:List Oper) (S:St) (k:St→Option β):Option β:=
 if ops.any (Wk X)&&U7 ops then C4 X (KO ops) S k none
 else C4 X ops S k (if Pq ops (NF ops) then C4 X (F7 ops (NF ops)) S k none else none)
def aL {β γ:Type}:Option (β ⊕ γ)→(γ→Option β)→Option β
 | none,_=>none
 | some (.inl r),_=>some r
 | some (.inr v),f=>f v
def JI {β γ:Type}:Option β→Option (β ⊕ γ)
 | some r=>some (.inl r)
 | none=>none
def meet {β:Type} (A:Ann) (n:Nat) (S:St):Option (β ⊕ cC A.cks):=
 match carry A S with
 | some v=>bif Nat.beq S.tmps.length n then some (.inr v) else none
 | none=>none
def Ya (x y:Code):Nat:=100000+max (je x) (je y)
def W4 (c:Code):Nat:=200000+je c
noncomputable def both {β:Type} (a b:Option β):Option β:=open Classical in if a=b then a else none
def qE:Touch:=⟨false,some []⟩
def Vt (X:Cx) (ops:List Oper) (S:St) (k:St→Option β):Option β:=gC X ops S (fun _=>cZ qE S) m0 0 ops S k
def Vq (X:Cx) (ops:List Oper) (dr:Bool) (S:St) (k:St→Option β):Option β:=
 bif dr then (bif FG ops ops.length&& !(ops.any fun o=>ig o.op) then Vt X ops S fun Sn=>bif Ah ops ops.length S Sn then k Sn else none else none)
 else Vt X ops S k
def jL (A:Ann):List (Nat×Ty):=A.tmps.filterMap fun | (i,.val t)=>some (i,t) | _=>none
def O8:List (Nat×Ty)→Type
 | []=>Unit
 | p::r=>p.2.den×O8 r
def NU (S:St):(l:List (Nat×Ty))→Option (O8 l)
 | []=>some ()
 | p::r=>match qn S [] p.2 (S.tmps.getD p.1 (.v false [.any])) with
  | some x=>match NU S r with
   | some y=>some (x,y)
   | none=>none
  | none=>none
def GV:(l:List (Nat×Ty))→O8 l→List SV→List SV
 | [],_,T=>T
 | p::r,v,T=>(GV r v.2 T).set p.1 (HC p.2 v.1)
def s4:List Oper→List SV→List SV
 | [],T=>T
 | o::r,T=>s4 r (match o.dst with | some d=>T.set d (.v false [.any]) | none=>T)
noncomputable def den (X:Cx) (anns:List (Nat×Ann)):Code→(β:Type)→St→(Ex→St→Option β)→Option β
 | .skip,_,S,K=>K .normal S
 | .region id ops dr,_,S,K=>match look anns (300000+id) with
  | some A=>(Vq X ops.toList dr S fun S'=>NU S' (jL A)).bind fun v=>K .normal { S with tmps:=GV (jL A) v (s4 ops.toList S.tmps) }
  | none=>bif dr then Px X ops.toList S (K .normal) else lN X ops.toList ops.toList S (K .normal)
 | .seq a b,β,S,K=>den X anns a β S fun e S=>match e with
  | .normal=>den X anns b β S K
  | .exit j=>K (.exit j) S
  | .ret=>K .ret S
 | .cond c x y,β,S,K=>match S.ev c with
  | .v false [.bool b]=>match look anns (Ya x y) with
   | some A=>aL (bif b
    then den X anns x (β ⊕ cC A.cks) S (fun e S'=>match e with
     | .normal=>meet A S.tmps.length S'
     | .exit j=>JI (K (.exit j) S')
     | .ret=>JI (K .ret S'))
    else den X anns y (β ⊕ cC A.cks) S (fun e S'=>match e with
     | .normal=>meet A S.tmps.length S'
     | .exit j=>JI (K (.exit j) S')
     | .ret=>JI (K .ret S'))) fun v=>K .normal (head A S.tmps.length v)
   | none=>bif b then den X anns x β S K else den X anns y β S K
  | .v false [.nb b]=>bif b then both (den X anns x β S K) (den X anns y β S K) else den X anns y β S K
  | _=>none
 | .block id c,β,S,K=>match look anns (W4 c) with
  | some A=>aL (den X anns c (β ⊕ cC A.cks) S fun e S'=>match e with
   | .normal=>meet A S.tmps.length S'
   | .exit j=>if Nat.beq j id then meet A S.tmps.length S' else JI (K (.exit j) S')
   | .ret=>JI (K .ret S')) fun v=>K .normal (head A S.tmps.length v)
  | none=>den X anns c β S fun e S'=>match e with
   | .normal=>K .normal S'
   | .exit j=>if Nat.beq j id then K .normal S' else K (.exit j) S'
   | .ret=>K .ret S'
 | .loop c,β,S,K=>match look anns (je c) with
  | some A=>match carry A S with
   | some x=>iter (A.fuel x) x fun x again=>den X anns c β (head A S.tmps.length x) fun e S'=>match e with
    | .normal=>match carry A S' with
     | some y=>bif Nat.beq S'.tmps.length S.tmps.length then again y else none
     | none=>none
    | .exit j=>K (.exit j) S'
    | .ret=>K .ret S'
   | none=>none
  | none=>none
 | .exit id,_,S,K=>K (.exit id) S
 | .ret,_,S,K=>K .ret S
 | _,_,_,_=>none
def pD:Nat:=5000
def pid (i c:Nat):Nat:=nid pD i c
def jl (i:Nat):(ps:List PM)→gV ps→List SV
 | [],_=>[]
 | .val t::r,x=>HC t x.1::jl (i+1) r x.2
 | .row _ _::r,x=> .v false [.row (pid i 0)]::jl (i+1) r x.2
 | .mrow _ _::r,x=> .v false [.row (pid i 0)]::jl (i+1) r x.2
 | .map _ _::r,x=> .v false [.mp (pid i 0)]::jl (i+1) r x.2
 | .box _::r,x=> .v false [.ref (2000+i) 0]::jl (i+1) r x.2
 | .ar _::r,x=>jl (i+1) r x.2
 | .arR _::r,x=>jl (i+1) r x.2
def pL (i:Nat):(ps:List PM)→gV ps→List (Nat×List CV)
 | [],_=>[]
 | .box l::r,x=>(2000+i,Ke pD i 1 l x.1)::pL (i+1) r x.2
 | .val _::r,x=>pL (i+1) r x.2
 | .row _ _::r,x=>pL (i+1) r x.2
 | .mrow _ _::r,x=>pL (i+1) r x.2
 | .map _ _::r,x=>pL (i+1) r x.2
 | .ar _::r,x=>pL (i+1) r x.2
 | .arR _::r,x=>pL (i+1) r x.2
def oF (i:Nat):(ps:List PM)→gV ps→List (Nat×mo)
 | [],_=>[]
 | .row e t::r,x=>(pid i 0,⟨false,e,t,x.1⟩)::oF (i+1) r x.2
 | .mrow e t::r,x=>(pid i 0,⟨false,e,t,x.1⟩)::oF (i+1) r x.2
 | .box l::r,x=>qj pD i 1 l x.1++oF (i+1) r x.2
 | .val _::r,x=>oF (i+1) r x.2
 | .map _ _::r,x=>oF (i+1) r x.2
 | .ar _::r,x=>oF (i+1) r x.2
 | .arR _::r,x=>oF (i+1) r x.2
def fR (i:Nat):(ps:List PM)→gV ps→List (Nat×qL)
 | [],_=>[]
 | .map k v::r,x=>(pid i 0,.map k v x.1)::fR (i+1) r x.2
 | .box l::r,x=>lH pD i 1 l x.1++fR (i+1) r x.2
 | .ar t::r,x=>(bw,.ar false t x.1)::fR (i+1) r x.2
 | .arR t::r,x=>(bw,.ar true t x.1)::fR (i+1) r x.2
 | .val _::r,x=>fR (i+1) r x.2
 | .row _ _::r,x=>fR (i+1) r x.2
 | .mrow _ _::r,x=>fR (i+1) r x.2
def c9:Nat→List PM→List (aW×Nat)
 | _,[]=>[]
 | i,.row _ _::r=>(.inr (pid i 0),64*i)::c9 (i+1) r
 | i,.mrow _ _::r=>(.inr (pid i 0),64*i)::c9 (i+1) r
 | i,.map _ _::r=>(.ob (pid i 0),64*i)::c9 (i+1) r
 | i,.box l::r=>(.inl (2000+i),64*i)::(dR pD i 1 l++c9 (i+1) r)
 | i,.ar _::r=>(.ob bw,64*i)::c9 (i+1) r
 | i,.val _::r=>c9 (i+1) r
 | i,.arR _::r=>c9 (i+1) r
def xb:List PM→Nat
 | []=>0
 | p::r=>(bif p.arg then 1 else 0)+xb r
def JH (n:Nat) (ar:Option Ty) (ps:List PM) (x:gV ps):St:=
 { tmps:=jl 0 ps x++List.replicate (n - xb ps) (.v false [.any]),boxes:=pL 0 ps x,rows:=oF 0 ps x,
   objs:=match ar with | some t=>(bw,.ar false t [])::fR 0 ps x | none=>fR 0 ps x }
def RB (X:Cx) (S:St):ResultVar→Option SV
 | .tmp t=>some (S.tmps.getD t (.v false [.any]))
 | .cell a T=>match S.tmps.getD a (.v false [.any]) with
  | .v false [.ref b off]=>match look S.boxes b with
   | some l=>lE X.P T l off some
   | none=>none
  | _=>none
def F8 (X:Cx) (S:St):List ResultVar→Option (List SV)
 | []=>some []
 | v::r=>match RB X S v with
  | some s=>match F8 X S r with
   | some l=>some (s::l)
   | none=>none
  | none=>none
def KY:List RM→List SV→List SV
 | .val _::r,s::q=>s::KY r q
 | _::r,_::q=>KY r q
 | _,_=>[]
def SJ:List OT→List CV→List Nat
 | .val t::r,cs=>ga (cs.take t.size)++SJ r (cs.drop t.size)
 | .row _ _::r,_::cs=>SJ r cs
 | .map _ _::r,_::cs=>SJ r cs
 | _,_=>[]
def Rz (S:St) (i:Nat):List PM→List Nat
 | []=>[]
 | .box l::r=>(match look S.boxes (2000+i) with | some cs=>SJ l cs | none=>[])++Rz S (i+1) r
 | _::r=>Rz S (i+1) r
def RA (S:St):List RM→List SV→List Nat
 | .box l::r,s::q=>(match oy s with | some k=>(match look S.boxes k with | some cs=>SJ l cs | none=>[]) | none=>[])++RA S r q
 | _::r,_::q=>RA S r q
 | _,_=>[]
def BT (S:St) (p:RM) (s:SV):Option p.den:=
 match p with
 | .val t=>qn S [] t s
 | .row e t=>match qY s with | some c=>lI S e t c | none=>none
 | .map k v=>match qY s with | some c=>nF S k v c | none=>none
 | .box l=>match oy s with
  | some k=>match look S.boxes k with
   | some cs=>nc S l cs
   | none=>none
  | none=>none
def yP (S:St) (ps:List PM) (bx:Option (eE ps)):(rs:List RM)→List SV→Option (dI ps rs)
 | [],[]=>bx
 | [],_::_=>none
 | p::r,s::q=>match BT S p s with
  | some x=>match yP S ps bx r q with
   | some y=>some (x,y)
   | none=>none
  | none=>none
 | _::_,[]=>none
def oD (S:St):Nat→(ps:List PM)→Option (eE ps)
 | _,[]=>some ()
 | i,.mrow e t::r=>match lI S e t (.row (pid i 0)),oD S (i+1) r with
  | some x,some y=>some (x,y)
  | _,_=>none
 | i,.map k v::r=>match nF S k v (.mp (pid i 0)),oD S (i+1) r with
  | some x,some y=>some (x,y)
  | _,_=>none
 | i,.box l::r=>match look S.boxes (2000+i) with
  | some cs=>match nc S l cs,oD S (i+1) r with
   | some x,some y=>some (x,y)
   | _,_=>none
  | none=>none
 | i,.ar t::r=>match uH S false t,oD S (i+1) r with
  | some x,some y=>some (x,y)
  | _,_=>none
 | i,.val _::r=>oD S (i+1) r
 | i,.row _ _::r=>oD S (i+1) r
 | i,.arR _::r=>oD S (i+1) r
def mB (S:St) (c:Nat):List RM→List SV→List (aW×Nat)
 | .row _ _::r,s::q=>(match qY s with | some v=>nS (64*(24+c)) v | none=>[])++mB S (c+1) r q
 | .map _ _::r,s::q=>(match qY s with | some v=>nS (64*(24+c)) v | none=>[])++mB S (c+1) r q
 | .box l::r,s::q=>(match oy s with
  | some k=>(.inl k,64*(24+c))::(match look S.boxes k with | some cs=>oC (64*(24+c)+1) l cs | none=>[])
  | none=>[])++mB S (c+1) r q
 | .val _::r,_::q=>mB S (c+1) r q
 | _,_=>[]
def kF (S:St):Nat→List PM→List (aW×Nat)
 | _,[]=>[]
 | i,.mrow _ _::r=>(.inr (pid i 0),64*i)::kF S (i+1) r
 | i,.map _ _::r=>(.ob (pid i 0),64*i)::kF S (i+1) r
 | i,.box l::r=>(.inl (2000+i),64*i)::(match look S.boxes (2000+i) with | some cs=>oC (64*i+1) l cs | none=>[])++kF S (i+1) r
 | i,.ar _::r=>(.ob bw,64*i)::kF S (i+1) r
 | i,_::r=>kF S (i+1) r
def O5:List RM→List SV→List SV
 | .val .hnd::r,s::q=>s::O5 r q
 | _::r,_::q=>O5 r q
 | _,_=>[]
def DW (X:Cx) (fn:Func) (rs:List RM) (S:St):St:=
 match F8 X S fn.results.toList with
 | some l=>iJ S (O5 rs l)
 | none=>S
def XL (X:Cx) (fn:Func) (sp:az) (S:St):Option (dI sp.ps sp.rs):=
 match F8 X S fn.results.toList with
 | some l=>
  let js:=EB (KY sp.rs l)++(RA S sp.rs l++Rz S 0 sp.ps)
  let V:=aQ S js
  let ow:=mB V 0 sp.rs l++kF V 0 sp.ps
  if yF ow then none else yP V sp.ps (oD V 0 sp.ps) sp.rs l
 | none=>none
def ends (X:Cx) (fn:Func) (sp:az) (S:St):Option (dI sp.ps sp.rs):=XL X fn sp (DW X fn sp.rs S)
def dh:List PM→Bool
 | []=>true
 | .val t::r=>t.aR&&dh r
 | .row _ t::r=>t.aR&&dh r
 | .mrow _ t::r=>t.aR&&dh r
 | .map k v::r=>k.aR&&v.aR&&dh r
 | .box l::r=>(l.all fun | .val t=>t.aR | .row _ t=>t.aR | .map k v=>k.aR&&v.aR)&&dh r
 | _=>false
def qH:List RM→Bool
 | []=>true
 | .val t::r=>t.aR&&qH r
 | .row _ t::r=>t.aR&&qH r
 | .map k v::r=>k.aR&&v.aR&&qH r
 | .box l::r=>(l.all fun | .val t=>t.aR | .row _ t=>t.aR | .map k v=>k.aR&&v.aR)&&qH r
noncomputable def aO (X:Cx) (anns:List (Nat×Ann)) (ar:Option Ty) (fn:Func) (sp:az) (x:gV sp.ps):Option (dI sp.ps sp.rs):=
 if yF (c9 0 sp.ps)||dup ((c9 0 sp.ps).map (·.2))||(ar.isSome&& !(dh sp.ps&&qH sp.rs)) then none else
 match fn.body with
 | some c=>den X anns c (dI sp.ps sp.rs) (JH fn.ntmps ar sp.ps x) fun e S=>match e with
  | .ret=>ends X fn sp S
  | .normal=>ends X fn sp S
  | .exit _=>none
 | none=>none
end Go.Dn
namespace Go.Dn
theorem XV (s:ByteArray):bs s.data.toList=s:=by
 cases s;simp [bs]
theorem VL (l:List UInt8):(bs l).data.toList=l:=by simp [bs]
theorem KG (G:Gh) (ρ:Env) (v:Value):aT G ρ (I2 v) v:=by
 unfold I2
 split
 case h_3 s=>show _=_;rw [XV]
 all_goals first | rfl | trivial | skip
 split
 ·rename_i g f c h
  simp only [Zv,Array.isEmpty_iff] at h
  obtain ⟨rfl,rfl⟩:=h
  rfl
 ·trivial
theorem AD {α β:Type} {R:β→α→Prop} (f:α→β) (h:∀ x,R (f x) x):∀ l:List α,aK R (l.map f) l
 | []=>rfl
 | x::l=>⟨x,l,rfl,h x,AD f h l⟩
theorem Ow (G:Gh) (ρ:Env) (v:Value):bh G ρ (KX v) v:=by
 unfold KX
 split
 ·rename_i cs
  exact ⟨cs.toList,by simp,AD I2 (KG G ρ) cs.toList⟩
 ·exact KG G ρ v
theorem fH.ev {G:Gh} {ρ:Env} {S:St} {a:Act} (h:fH G ρ S a) (x:Operand):bh G ρ (S.ev x) (a.eval x):=by
 cases x with
 | tmp t=>
  simp only [St.ev,Act.eval]
  rw [aag]
  cases hs:S.tmps[t]? with
  | none=>exact trivial
  | some s=>exact h.2 t s hs
 | const v=>exact Ow G ρ v
 | global g=>exact trivial
 | func f=>rfl
theorem fq {G:Gh} (ρ:Env):∀ {t:Ty} {x:t.den} {cs:List Value},aH G t x cs→aK (aT G ρ) (unpack t x) cs
 | .int _,_,_,h=>by cases h;exact ⟨_,_,rfl,rfl,rfl⟩
 | .bool,_,_,h=>by cases h;exact ⟨_,_,rfl,rfl,rfl⟩
 | .str,_,_,h=>by cases h;exact ⟨_,_,rfl,rfl,rfl⟩
 | .unit,_,_,h=>h
 | .pair a b,(x,y),_,⟨c,r,e,hx,hy⟩=>by subst e;exact (fq ρ hx).append (fq ρ hy)
 | .st t,x,cs,h=>fq (t:=t) (x:=x) ρ h
 | .slice t,_,_,⟨v,e,h⟩=>by subst e;exact ⟨_,_,rfl,h,rfl⟩
 | .ptr t,x,_,⟨b,off,c,T,fz,e,hb,hs,hl⟩=>by subst e;exact ⟨_,_,rfl,⟨b,off,c,T,fz,rfl,hb,hs,hl⟩,rfl⟩
 | .clo _ t,x,_,⟨caps,e,h⟩=>by subst e;exact ⟨_,_,rfl,⟨caps,rfl,h⟩,rfl⟩
 | .hnd,none,_,h=>by cases h;exact ⟨_,_,rfl,⟨rfl,rfl⟩,rfl⟩
 | .hnd,some _,_,⟨b,hb,e⟩=>by subst e;exact ⟨_,_,rfl,⟨b,hb,rfl⟩,rfl⟩
theorem BW {G:Gh} (ρ:Env) {t:Ty} {x:t.den} {v:Value} (h:cr G t x v):kN G ρ (S8 t x).1 (S8 t x).2 v:=by
 cases t with
 | st t=>obtain ⟨vs,e,hv⟩:=h;exact ⟨vs,e,fq ρ hv⟩
 | int _=>cases h;rfl
 | bool=>cases h;rfl
 | str=>cases h;rfl
 | unit=>cases h
 | slice t=>obtain ⟨v',e,h⟩:=h;cases e;exact h
 | ptr t=>obtain ⟨b,off,c,T,fz,e,hb,hs,hl⟩:=h;cases e;exact ⟨b,off,c,T,fz,rfl,hb,hs,hl⟩
 | clo g t=>obtain ⟨caps,e,h⟩:=h;cases e;exact ⟨caps,rfl,h⟩
 | hnd=>
  cases x with
  | none=>cases h;exact ⟨rfl,rfl⟩
  | some i=>obtain ⟨b,hb,e⟩:=h;cases e;exact ⟨b,hb,rfl⟩
 | pair a b=>
  have hl:=h.len
  have hu:=fq ρ h
  obtain ⟨c,hc⟩:∃ c,unpack (.pair a b) x=[c]:=by
   have:=hu.len
   match hq:unpack (.pair a b) x with
   | [c]=>exact ⟨c,rfl⟩
   | []=>rw [hq] at this;simp at this
   | _::_::_=>rw [hq] at this;simp at this
  show kN G ρ false (unpack (.pair a b) x) v
  rw [hc] at hu ⊢
  obtain ⟨y,e,hy⟩:=hu.single
  cases e
  exact hy
theorem Ge {G:Gh} (ρ:Env) {t:Ty} {x:t.den} {v:Value} (h:cr G t x v):bh G ρ (HC t x) v:=by
 have:=BW ρ h
 cases t<;>exact this
theorem ia {a b:Ty} {l:List a.den} {l':List b.den} (h:pE l=some l'):∃ e:a=b,e ▸ l=l':=by
 unfold pE at h
 split at h
 ·rename_i e;exact ⟨e,by simpa using h⟩
 ·cases h
theorem M8 {a b:Ty} {x:a.den} {x':b.den} (h:Rp x=some x'):∃ e:a=b,e ▸ x=x':=by
 unfold Rp at h
 split at h
 ·rename_i e;exact ⟨e,by simpa using h⟩
 ·cases h
def gY (G:Gh) (ρ:Env) (S:St):Prop:=∀ j r,look S.rows j=some r→r.fz=true→eP G r.t.size (aH G r.t) r.l (ρ.rw j)
theorem Mem.frozen {P0:Program} {C:Fr P0} {G:Gh} {ρ:Env} {S:St} {w:World} (h:Mem C G ρ S w):gY G ρ S:=fun j r hj hf=>by
 have:=h.rows j r hj
 unfold cm at this
 rw [if_pos hf] at this
 exact this
theorem sA {G:Gh} {ρ:Env} {t:Ty} {f:CV→Option t.den} (hf:∀ c x v,f c=some x→aT G ρ c v→aH G t x [v]) {cs:List CV} {x:t.den} {r:List CV} {vs:List Value}
 (h:sw f cs=some (x,r)) (hv:aK (aT G ρ) cs vs):∃ a b,vs=a++b∧aH G t x a∧aK (aT G ρ) r b:=by
 cases cs with
 | nil=>cases h
 | cons c q=>
  obtain ⟨y,s,e,hy,hs⟩:=hv
  simp only [sw] at h
  split at h
  ·rename_i z hz
   cases h
   subst e
   exact ⟨[y],s,rfl,hf _ _ _ hz hy,hs⟩
  ·cases h
theorem Wz {G:Gh} {ρ:Env} {S:St} (hF:gY G ρ S) {t:Ty} (c:CV) (l:List t.den) (v:Value) (h:Od S t c=some l) (hv:aT G ρ c v):aH G (.slice t) l [v]:=by
 cases c<;>simp only [Od] at h
 case sl t' l'=>
  obtain ⟨et,el⟩:=ia h
  subst et;subst el
  exact ⟨v,rfl,hv⟩
 case nils=>
  cases h
  exact ⟨v,rfl,none,0,hv,abb _,abv _,.inl rfl⟩
 case row j=>
  split at h
  ·rename_i u hu
   split at h
   ·rename_i hfz
    obtain ⟨et,el⟩:=ia h
    have hrow:=hF j u hu hfz
    obtain ⟨ufz,ue,ut,ul⟩:=u
    dsimp only at et el hrow
    subst et
    subst el
    exact ⟨v,rfl,by rw [hv.1];exact hrow⟩
   ·cases h
  ·cases h
 all_goals cases h
theorem Gn {k v k' v':Ty} {l:List (k.den×v.den)} {l':List (k'.den×v'.den)} (h:UJ l=some l'):∃ (e1:k=k') (e2:v=v'),e1 ▸ e2 ▸ l=l':=by
 unfold UJ at h
 split at h
 ·rename_i e;exact ⟨e.1,e.2,by simpa using h⟩
 ·cases h
def mm (G:Gh) (ρ:Env) (S:St) (fb:List Nat):Prop:=∀ k cs,inL fb k=true→look S.boxes k=some cs→∃ vs T fz,G (ρ.bx k)=some (.cells (List.toArray vs) T fz)∧aK (aT G ρ) cs vs
theorem mm.nil (G:Gh) (ρ:Env) (S:St):mm G ρ S []:=fun k cs h=>by simp [inL] at h
theorem yO {α:Type} {x:Option (α×List CV)} {y:α} (h:gL x=some y):x=some (y,[]):=by
 unfold gL at h
 split at h
 ·cases h;rfl
 ·cases h
theorem vE {G:Gh} {ρ:Env} {S:St} {fb:List Nat} (hF:gY G ρ S) (hL:mm G ρ S fb):∀ (t:Ty) (cs:List CV) (x:t.den) (r:List CV) (vs:List Value),fM S fb t cs=some (x,r)→aK (aT G ρ) cs vs→
 ∃ a b,vs=a++b∧aH G t x a∧aK (aT G ρ) r b
 | .int k,cs,x,r,vs,h,hv=>sA (t:= .int k) (fun c x v hc hv=>by
  cases c<;>simp only [Un] at hc
  case int k' n=>
   split at hc
   ·rename_i ek;subst ek;cases hc;rw [hv];rfl
   ·cases hc
  all_goals cases hc) h hv
 | .bool,cs,x,r,vs,h,hv=>sA (t:= .bool) (fun c x v hc hv=>by
  cases c<;>simp only [SK] at hc
  case bool b=>cases hc;rw [hv];rfl
  all_goals cases hc) h hv
 | .str,cs,x,r,vs,h,hv=>sA (t:= .str) (fun c x v hc hv=>by
  cases c<;>simp only [Uo] at hc
  case str b=>cases hc;rw [hv];rfl
  all_goals cases hc) h hv
 | .unit,cs,x,r,vs,h,hv=>by
  simp only [fM] at h;cases h;exact ⟨[],vs,rfl,rfl,hv⟩
 | .pair a b,cs,x,r,vs,h,hv=>by
  simp only [fM] at h
  split at h
  ·rename_i y q h1
   split at h
   ·rename_i z q' h2
    cases h
    obtain ⟨c1,c2,e1,r1,r2⟩:=vE hF hL a cs y q vs h1 hv
    obtain ⟨d1,d2,e2,s1,s2⟩:=vE hF hL b q z r c2 h2 r2
    exact ⟨c1++d1,d2,by rw [e1,e2,Z3],⟨c1,d1,rfl,r1,s1⟩,s2⟩
   ·cases h
  ·cases h
 | .st t,cs,x,r,vs,h,hv=>vE hF hL t cs x r vs h hv
 | .slice t,cs,x,r,vs,h,hv=>sA (t:= .slice t) (fun c x v hc hv=>Wz hF c x v hc hv) h hv
 | .ptr t,cs,x,r,vs,h,hv=>sA (t:= .ptr t) (fun c x v hc hv=>by
  cases c<;>simp only [Pp] at hc
  case cp t' y o=>
   split at hc
   ·rename_i ho
    have:=aa8 ho
    subst this
    obtain ⟨et,el⟩:=M8 hc
    subst et;subst el
    obtain ⟨b,off,c,T,fz,e,hb,hs',hl⟩:=hv
    exact ⟨b,off,c,T,fz,by rw [e];rfl,hb,hs',hl⟩
   ·cases hc
  case ref k o=>
   split at hc
   ·rename_i ho
    simp only [Zv] at ho
    have:=aa8 ho.1
    subst this
    split at hc
    ·rename_i cs hcs
     have hp:=yO hc
     obtain ⟨ws,T,fz,hg,hw⟩:=hL k cs ho.2 hcs
     obtain ⟨a,b,e,h1,h2⟩:=vE hF hL t cs x [] ws hp hw
     cases h2
     have hrep:aH G t x ws:=by simpa [e] using h1
     have hlen:=hrep.len
     refine ⟨ρ.bx k,0,ws.toArray,T,fz,by rw [hv],hg,by simp;omega, ?_⟩
     have e2:(List.drop 0 ws.toArray.toList).take t.size=ws:=by simp [← hlen]
     rw [e2];exact hrep
    ·cases hc
   ·cases hc
  all_goals cases hc) h hv
 | .clo g t,cs,x,r,vs,h,hv=>sA (t:= .clo g t) (fun c x v hc hv=>by
  cases c<;>simp only [Ul] at hc
  case clo g' t' y=>
   split at hc
   ·rename_i ho
    have:=aa8 ho
    subst this
    obtain ⟨et,el⟩:=M8 hc
    subst et;subst el
    obtain ⟨caps,e,hc⟩:=hv
    exact ⟨caps,by rw [e],hc⟩
   ·cases hc
  case fn g' ks=>
   split at hc
   ·rename_i ho
    have:=aa8 ho
    subst this
    have hp:=yO hc
    have hk:∀ l:List Nat,aK (aT G ρ) (l.map fun k=> .ref k 0) (l.map fun k=>Value.pointer (some ⟨ρ.bx k,0,none⟩)):=fun l=>by
     induction l with
     | nil=>rfl
     | cons k l ih=>exact ⟨_,_,rfl,rfl,ih⟩
    obtain ⟨a,b,e,h1,h2⟩:=vE hF hL t _ x [] _ hp (hk ks)
    cases h2
    refine ⟨ks.map fun k=>Value.pointer (some ⟨ρ.bx k,0,none⟩),by rw [hv], ?_⟩
    rw [e];simpa using h1
   ·cases hc
  all_goals cases hc) h hv
 | .hnd,cs,x,r,vs,h,hv=>sA (t:= .hnd) (fun c x v hc hv=>by
  cases c<;>simp only [Um] at hc
  case hnd o k=>
   split at hc
   ·rename_i ho
    have:=aa8 ho
    subst this
    cases hc
    cases x with
    | none=>rw [hv.1];rfl
    | some i=>obtain ⟨b,hb,e⟩:=hv;exact ⟨b,hb,by rw [e]⟩
   ·cases hc
  case nilp=>cases hc;rw [hv];rfl
  all_goals cases hc) h hv
theorem Up {G:Gh} {ρ:Env} {S:St} (hF:gY G ρ S) (t:Ty) (cs:List CV) (x:t.den) (r:List CV) (vs:List Value) (h:pack S t cs=some (x,r)) (hv:aK (aT G ρ) cs vs):
 ∃ a b,vs=a++b∧aH G t x a∧aK (aT G ρ) r b:=vE hF (mm.nil G ρ S) t cs x r vs h hv
theorem Kg {G:Gh} {ρ:Env} {S:St} {fb:List Nat} (hF:gY G ρ S) (hL:mm G ρ S fb) {t:Ty} {cs:List CV} {x:t.den} {vs:List Value} (h:gL (fM S fb t cs)=some x) (hv:aK (aT G ρ) cs vs):aH G t x vs:=by
 obtain ⟨a,b,e,h1,h2⟩:=vE hF hL t cs x [] vs (yO h) hv
 cases h2
 simpa [e] using h1
theorem MM {G:Gh} {ρ:Env} {S:St} (hF:gY G ρ S) {t:Ty} {cs:List CV} {x:t.den} {vs:List Value} (h:gL (pack S t cs)=some x) (hv:aK (aT G ρ) cs vs):aH G t x vs:=Kg hF (mm.nil G ρ S) h hv
theorem nh {G:Gh} {ρ:Env} {S:St} {fb:List Nat} (hF:gY G ρ S) (hL:mm G ρ S fb) {t:Ty} {s:SV} {x:t.den} {v:Value} (h:qn S fb t s=some x) (hv:bh G ρ s v):cr G t x v:=by
 unfold qn at h
 split at h
 ·rename_i t cs
  obtain ⟨vs,e,hl⟩:=hv
  exact ⟨vs,e,Kg hF hL h hl⟩
 ·cases h
 ·rename_i t' s' cs hne
  have hl:aH G t x [v]:=by
   match cs,hv,h with
   | [c],hv,hp=>exact Kg hF hL hp ⟨v,[],rfl,hv,rfl⟩
  cases t with
  | st t=>exact absurd rfl (hne t)
  | _=>exact hl
 ·cases h
end Go.Dn
namespace Go.Dn
structure AG {P0:Program} (C:Fr P0) (G:Gh) (ρ:Env) (S:St) (w:World) (x:Option aW):Prop where
 agr:Agr G w
 le0:C.G0.le G
 old:∀ b,b<C.n0→¬ C.B b→G b=C.G0 b
 frame:∀ b,b<C.n0→¬ C.B b→w.heap[b]? =C.w0.heap[b]?
 size:C.n0≤w.heap.size
 os:w.os=C.w0.os
 output:w.output=C.w0.output
 pin:∀ k,2000≤k→ρ.bx k=C.pin k
 pinR:∀ k,10000000≤k→ρ.rw k=C.pinR k∧ρ.ob k=C.pinR k
 owned:∀ b o,ρ.own b=some o→G b=none∧b<w.heap.size∧(C.n0≤b∨C.B b)
 boxes:∀ k cs,look S.boxes k=some cs→some (.inl k)≠x→ρ.own (ρ.bx k)=some (.inl k)∧
  ∃ vs T,w.heap[ρ.bx k]? =some (.cells (List.toArray vs) T (0,0))∧aK (aT G ρ) cs vs
 rows:∀ j r,look S.rows j=some r→some (.inr j)≠x→cm G ρ w j r
 objs:∀ j r,look S.objs j=some r→some (.ob j)≠x→mJ G ρ w j r
 hndI:C.noAr→G.hnd=C.G0.hnd∧∀ t l,look S.objs bw≠some (.ar false t l)
variable {P0:Program} {C:Fr P0} {G:Gh} {ρ:Env} {S:St} {w:World}
theorem Mem.toX (h:Mem C G ρ S w) (x:Option aW):AG C G ρ S w x:=
 ⟨h.agr,h.le0,h.old,h.frame,h.size,h.os,h.output,h.pin,h.pinR,h.owned,fun k cs hk _=>h.boxes k cs hk,fun j r hj _=>h.rows j r hj,fun j r hj _=>h.objs j r hj,h.hndI⟩
theorem AG.toMem {x:Option aW} (h:AG C G ρ S w x)
 (hb:∀ k cs,look S.boxes k=some cs→some (.inl k)=x→ρ.own (ρ.bx k)=some (.inl k)∧∃ vs T,w.heap[ρ.bx k]? =some (.cells (List.toArray vs) T (0,0))∧aK (aT G ρ) cs vs)
 (hr:∀ j r,look S.rows j=some r→some (.inr j)=x→cm G ρ w j r)
 (hob:∀ j r,look S.objs j=some r→some (.ob j)=x→mJ G ρ w j r):Mem C G ρ S w:=
 ⟨h.agr,h.le0,h.old,h.frame,h.size,h.os,h.output,h.pin,h.pinR,h.owned,fun k cs hk=>by
   by_cases e:some (.inl k)=x
   ·exact hb k cs hk e
   ·exact h.boxes k cs hk e,fun j r hj=>by
   by_cases e:some (.inr j)=x
   ·exact hr j r hj e
   ·exact h.rows j r hj e,fun j r hj=>by
   by_cases e:some (.ob j)=x
   ·exact hob j r hj e
   ·exact h.objs j r hj e,h.hndI⟩
theorem AG.state {S':St} {x:Option aW} (h:AG C G ρ S w x) (hb:∀ k cs,look S'.boxes k=some cs→some (.inl k)≠x→look S.boxes k=some cs)
 (hr:∀ j r,look S'.rows j=some r→some (.inr j)≠x→look S.rows j=some r)
 (hob:∀ j r,look S'.objs j=some r→some (.ob j)≠x→look S.objs j=some r)
 (hna:∀ t l,look S'.objs bw=some (.ar false t l)→∃ t l,look S.objs bw=some (.ar false t l)):AG C G ρ S' w x:=
 { h with hndI:=fun hn=>⟨(h.hndI hn).1,fun t l hl=>by obtain ⟨t',l',h'⟩:=hna t l hl;exact (h.hndI hn).2 t' l' h'⟩,boxes:=fun k cs hk e=>h.boxes k cs (hb k cs hk e) e,rows:=fun j r hj e=>h.rows j r (hr j r hj e) e,objs:=fun j r hj e=>h.objs j r (hob j r hj e) e }
theorem AG.grow {w':World} {x:Option aW} {blk:Option Nat} (h:AG C G ρ S w x) (hg:Grow ρ w w' blk) (hx:∀ b,blk=some b→∃ o,x=some o∧ρ.own b=some o):AG C G ρ S w' x where
 agr:=fun b o hb=>by
  have hl:=h.agr b o hb
  rw [hg.block b (cE hl) (fun e=>by
   obtain ⟨o',_,ho⟩:=hx b e.symm
   have:=(h.owned b o' ho).1
   rw [hb] at this;cases this)]
  exact hl
 le0:=h.le0
 old:=h.old
 frame:=fun b hb hB=>by
  rw [hg.block b (abe hb h.size) (fun e=>by
   obtain ⟨o',_,ho⟩:=hx b e.symm
   rcases (h.owned b o' ho).2.2 with h1 | h1
   ·omega
   ·exact hB h1)]
  exact h.frame b hb hB
 size:=abc h.size hg.size
 os:=hg.os.trans h.os
 output:=hg.output.trans h.output
 pin:=h.pin
 pinR:=h.pinR
 owned:=fun b o ho=>⟨(h.owned b o ho).1,abe (h.owned b o ho).2.1 hg.size,(h.owned b o ho).2.2⟩
 boxes:=fun k cs hk hne=>by
  obtain ⟨h1,vs,T,h2,h3⟩:=h.boxes k cs hk hne
  refine ⟨h1,vs,T, ?_,h3⟩
  rw [hg.block _ (cE h2) (fun e=>by
   obtain ⟨o',hx',ho⟩:=hx _ e.symm
   rw [h1] at ho
   cases ho
   exact hne hx'.symm)]
  exact h2
 rows:=fun j r hj hne=>(h.rows j r hj hne).kept hg (fun b e ho=>by
  obtain ⟨o',hx',ho'⟩:=hx b e
  rw [ho] at ho'
  cases ho'
  exact hne hx'.symm)
 objs:=fun j r hj hne=>(h.objs j r hj hne).kept hg (fun b e=>by
  obtain ⟨o',_,ho'⟩:=hx b e
  exact (h.owned b o' ho').1) (fun b e ho=>by
  obtain ⟨o',hx',ho'⟩:=hx b e
  rw [ho] at ho'
  cases ho'
  exact hne hx'.symm)
 hndI:=h.hndI
theorem AG.change {G':Gh} {ρ':Env} {x:Option aW} (h:AG C G ρ S w x) (hG:G.le G') (hh:G'.hnd=G.hnd) (hagr:Agr G' w) (hold:∀ b,b<C.n0→¬ C.B b→G' b=C.G0 b)
 (hpin:∀ k,2000≤k→ρ'.bx k=ρ.bx k) (hpinR:∀ k,10000000≤k→ρ'.rw k=ρ.rw k∧ρ'.ob k=ρ.ob k) (hs:∀ p,p∈S.boxes→∀ c,c∈p.2→c.fC ρ ρ')
 (howned:∀ b o,ρ'.own b=some o→G' b=none∧b<w.heap.size∧(C.n0≤b∨C.B b))
 (hbx:∀ k cs,look S.boxes k=some cs→some (.inl k)≠x→ρ'.bx k=ρ.bx k∧(ρ.own (ρ.bx k)=some (.inl k)→ρ'.own (ρ.bx k)=some (.inl k)))
 (hrw:∀ j r,look S.rows j=some r→some (.inr j)≠x→ρ'.rw j=ρ.rw j∧∀ b,ρ.own b=some (.inr j)→ρ'.own b=some (.inr j))
 (hob:∀ j r,look S.objs j=some r→some (.ob j)≠x→ρ'.ob j=ρ.ob j∧ρ'.st j=ρ.st j∧∀ b,ρ.own b=some (.ob j)→ρ'.own b=some (.ob j)):AG C G' ρ' S w x where
 agr:=hagr
 le0:=Gh.le_trans h.le0 hG
 old:=hold
 frame:=h.frame
 size:=h.size
 os:=h.os
 output:=h.output
 pin:=fun k hk=>(hpin k hk).trans (h.pin k hk)
 pinR:=fun k hk=>⟨(hpinR k hk).1.trans (h.pinR k hk).1,(hpinR k hk).2.trans (h.pinR k hk).2⟩
 owned:=howned
 boxes:=fun k cs hk hne=>by
  obtain ⟨h1,vs,T,h2,h3⟩:=h.boxes k cs hk hne
  obtain ⟨e1,e2⟩:=hbx k cs hk hne
  rw [e1]
  exact ⟨e2 h1,vs,T,h2,aK.yJ (fun c hc y=>aT.congr hG (hs (k,cs) (vz hk) c hc)) h3⟩
 rows:=fun j r hj hne=>by
  obtain ⟨e1,e2⟩:=hrw j r hj hne
  exact (h.rows j r hj hne).congr hG e1 e2
 objs:=fun j r hj hne=>by
  obtain ⟨e1,e2,e3⟩:=hob j r hj hne
  exact (h.objs j r hj hne).congr hG hh e1 e2 e3
 hndI:=fun hn=>⟨hh.trans (h.hndI hn).1,(h.hndI hn).2⟩
theorem Uk (h:Mem C G ρ S w):ρ.own w.heap.size=none:=by
 cases ho:ρ.own w.heap.size with
 | none=>rfl
 | some o=>have:=(h.owned _ o ho).2.1;omega
theorem Jt (h:Mem C G ρ S w):G w.heap.size=none:=by
 cases ho:G w.heap.size with
 | none=>rfl
 | some o=>have:=cE (h.agr _ o ho);omega
theorem Grow.alloc (ρ:Env) (w:World) (o:Obj):Grow ρ w (w.alloc o) none:=
 ⟨rfl,rfl,by simp,fun b hb _=>heap_alloc_old w o b hb⟩
def Env.jj (ρ:Env) (d b:Nat):Env:=⟨fun i=>if i=d then b else ρ.bx i,ρ.rw,fun i=>if i=b then some (.inl d) else ρ.own i,ρ.ob,ρ.st⟩
theorem QH {ρ:Env} {k b:Nat} (own:Nat→Option aW) {c:CV} (hc:c.cc k=false):c.fC ρ ⟨fun i=>if i=k then b else ρ.bx i,ρ.rw,own,ρ.ob,ρ.st⟩:=
 ⟨fun i hi=>by
   show (if i=k then b else ρ.bx i)=ρ.bx i
   by_cases e:i=k
   ·subst e;rw [hc] at hi;cases hi
   ·simp [e],fun _ _=>rfl,fun _ _=>rfl,fun _ _=>rfl⟩
theorem Mod.jj {a:Act} {d:Nat} {cs:List CV} {vs:List Value} {T:TypeId} (h:Mod C G ρ S w a) (hd:d<2000) (hn:S.cc d=false) (hcs:∀ c,c∈cs→c.cc d=false) (hv:aK (aT G ρ) cs vs):
 Mod C G (ρ.jj d w.heap.size) { tmps:=S.tmps.set d (.v false [.ref d 0]),boxes:=(d,cs)::S.boxes,rows:=S.rows,objs:=S.objs } (w.alloc (.cells vs.toArray T))
  (a.put (some d) (.pointer (some ⟨w.heap.size,0,none⟩))):=by
 have hown:=Uk h.toMem
 have hgh:=Jt h.toMem
 have hsame:S.fC ρ (ρ.jj d w.heap.size):=Rg _ hn
 have hX:=((h.toMem.toX (some (.inl d))).grow (Grow.alloc ρ w (.cells vs.toArray T)) (by simp)).change (G':=G) (ρ':=ρ.jj d w.heap.size) (Gh.le_refl G) rfl
  (fun b o hb=>by rw [heap_alloc_old _ _ _ (cE (h.agr b o hb))];exact h.agr b o hb) h.old (fun k hk=>by simp [Env.jj,show ¬ k=d by omega]) (fun _ _=>⟨rfl,rfl⟩) hsame.boxes
  (fun b o ho=>by
    simp only [Env.jj] at ho
    by_cases e:b=w.heap.size
    ·subst e;exact ⟨hgh,by simp,.inl h.size⟩
    ·rw [if_neg e] at ho;exact ⟨(h.owned b o ho).1,by have:=(h.owned b o ho).2.1;simp;omega,(h.owned b o ho).2.2⟩)
  (fun k cs' hk hne=>by
    have hkd:k≠d:=fun e=>hne (by rw [e])
    refine ⟨by simp [Env.jj,hkd],fun ho=> ?_⟩
    have:ρ.bx k≠w.heap.size:=fun e=>by rw [e,hown] at ho;cases ho
    simp [Env.jj,this,ho])
  (fun j r hj _=>⟨rfl,fun b ho=>by
    have:b≠w.heap.size:=fun e=>by rw [e,hown] at ho;cases ho
    simp [Env.jj,this,ho]⟩)
  (fun j r hj _=>⟨rfl,rfl,fun b ho=>by
    have:b≠w.heap.size:=fun e=>by rw [e,hown] at ho;cases ho
    simp [Env.jj,this,ho]⟩)
 have hX':=hX.state (S':={ tmps:=S.tmps.set d (.v false [.ref d 0]),boxes:=(d,cs)::S.boxes,rows:=S.rows,objs:=S.objs })
  (fun k cs' hk hne=>by
    have hkd:d≠k:=fun e=>hne (by rw [e])
    simpa [ax,hkd] using hk) (fun j r hj _=>hj) (fun j r hj _=>hj) (fun t l h=>⟨t,l,h⟩)
 have hM:=hX'.toMem (fun k cs' hk e=>by
  cases e
  simp only [ax,abP,Option.some.injEq] at hk
  subst hk
  refine ⟨by simp [Env.jj],vs,T,by simp only [Env.jj,abP];exact heap_alloc_new w _, ?_⟩
  exact aK.yJ (fun c hc y=>aT.congr (Gh.le_refl G) (QH _ (hcs c hc))) hv) (fun j r hj e=>by cases e) (fun j r hj e=>by cases e)
 exact { hM with
  tmps:=(h.tmps.congr (Gh.le_refl G) hsame).put (some d) (fun _ _=>by show _=_;simp [Env.jj])
  defers:=h.defers }
theorem Fl {ρ':Env} (hb:ρ'.bx=ρ.bx) (hr:ρ'.rw=ρ.rw) (ho:ρ'.ob=ρ.ob) (hs:ρ'.st=ρ.st) (c:CV):c.fC ρ ρ':=⟨fun k _=>by rw [hb],fun k _=>by rw [hr],fun k _=>by rw [ho],fun k _=>by rw [hs]⟩
theorem kN.same {ρ':Env} (hb:ρ'.bx=ρ.bx) (hr:ρ'.rw=ρ.rw) (ho:ρ'.ob=ρ.ob) (hs:ρ'.st=ρ.st) {s:SV}:s.fC ρ ρ':=by
 cases s with
 | v a cs=>exact fun c _=>Fl hb hr ho hs c
 | tup l=>exact fun p _ c _=>Fl hb hr ho hs c
theorem gI {α:Type} (l:List (Nat×α)) (d i:Nat):look (l.filter fun p=> !Nat.beq p.1 d) i=if i=d then none else look l i:=by
 induction l with
 | nil=>simp [look]
 | cons p r ih=>
  obtain ⟨j,y⟩:=p
  by_cases e:j=d
  ·subst e
   have:(List.filter (fun p:Nat×α=> !Nat.beq p.1 j) ((j,y)::r))=r.filter fun p=> !Nat.beq p.1 j:=by simp
   rw [this,ih,ax]
   by_cases e':i=j
   ·simp [e']
   ·have:¬ j=i:=fun h=>e' h.symm
    simp [e',this]
  ·have hb:Nat.beq j d=false:=by
    cases hb:Nat.beq j d with
    | false=>rfl
    | true=>exact absurd (aa8 hb) e
   have:(List.filter (fun p:Nat×α=> !Nat.beq p.1 d) ((j,y)::r))=(j,y)::r.filter fun p=> !Nat.beq p.1 d:=by simp [hb]
   rw [this,ax,ax,ih]
   by_cases e':j=i
   ·subst e';simp [e]
   ·simp [e']
def Env.putRow (ρ:Env) (d:Nat) (v:Value):Env:=⟨ρ.bx,fun i=>if i=d then v else ρ.rw i,fun b=>if v.ownBlock=some b then some (.inr d) else ρ.own b,ρ.ob,ρ.st⟩
theorem Mod.putRow {a:Act} {w':World} {blk jo:Option Nat} {d:Nat} {v:Value} {r:mo} {R:List (Nat×mo)} (h:Mod C G ρ S w a) (hg:Grow ρ w w' blk)
 (hblk:∀ b,blk=some b→∃ j,jo=some j∧ρ.own b=some (.inr j))
 (hR:∀ i q,look R i=some q→look S.rows i=some q∧jo≠some i) (hd2:d<2000) (hd:S.br d=false)
 (hf:r.fz=false) (xs:List Value) (hown:w'.ownsRow 0 r.e r.t.size v r.l.length xs) (hrep:bL (aH G r.t) r.l xs)
 (hnew:∀ b,v.ownBlock=some b→(w.heap.size≤b∧b<w'.heap.size)∨blk=some b):
 Mod C G (ρ.putRow d v) { tmps:=S.tmps.set d (.v false [.row d]),boxes:=S.boxes,rows:=(d,r)::R,objs:=S.objs } w' (a.put (some d) v):=by
 have hsame:S.fC ρ (ρ.putRow d v):=Im _ hd
 have hfree:∀ b,v.ownBlock=some b→ρ.own b=none∨∃ j,jo=some j∧ρ.own b=some (.inr j):=fun b hb=>by
  rcases hnew b hb with ⟨h1,_⟩ | h1
  ·left
   cases ho:ρ.own b with
   | none=>rfl
   | some o=>have:=(h.owned b o ho).2.1;omega
  ·exact .inr (hblk b h1)
 have hghost:∀ b,v.ownBlock=some b→G b=none∧b<w'.heap.size∧(C.n0≤b∨C.B b):=fun b hb=>by
  rcases hnew b hb with ⟨h1,h2⟩ | h1
  ·refine ⟨?_,h2,.inl (abc h.size h1)⟩
   cases hG:G b with
   | none=>rfl
   | some o=>have:=cE (h.agr b o hG);omega
  ·obtain ⟨j,_,ho⟩:=hblk b h1
   have:=h.owned b _ ho
   exact ⟨this.1,abe this.2.1 hg.size,this.2.2⟩
 have hX0:=(h.toMem.toX (jo.map .inr)).grow hg (fun b hb=>by
  obtain ⟨j,e,ho⟩:=hblk b hb
  exact ⟨.inr j,by rw [e];rfl,ho⟩)
 have hX1:=hX0.state (S':={ tmps:=S.tmps,boxes:=S.boxes,rows:=R.filter fun p=> !Nat.beq p.1 d,objs:=S.objs }) (fun k cs hk _=>hk) (fun j q hj _=>by
  simp only [gI] at hj
  split at hj
  ·cases hj
  ·exact (hR j q hj).1) (fun j q hj _=>hj) (fun t l h=>⟨t,l,h⟩)
 have hX2:=hX1.change (G':=G) (ρ':=ρ.putRow d v) (Gh.le_refl G) rfl hX0.agr hX0.old (fun _ _=>rfl) (fun k hk=>⟨by simp [Env.putRow,show ¬ k=d by omega],rfl⟩) hsame.boxes
  (fun b o ho=>by
    simp only [Env.putRow] at ho
    by_cases e:v.ownBlock=some b
    ·exact hghost b e
    ·rw [if_neg e] at ho;exact hX0.owned b o ho)
  (fun k cs hk _=>⟨rfl,fun ho=>by
    have:v.ownBlock≠some (ρ.bx k):=fun e=>by
     rcases hfree _ e with h1 | ⟨j,_,h1⟩
     ·rw [ho] at h1;cases h1
     ·rw [ho] at h1;cases h1
    simp [Env.putRow,this,ho]⟩)
  (fun j q hj _=>by
    simp only [gI] at hj
    split at hj
    ·cases hj
    ·rename_i hjd
     obtain ⟨hj1,hj2⟩:=hR j q hj
     refine ⟨by simp [Env.putRow,hjd],fun b ho=> ?_⟩
     have:v.ownBlock≠some b:=fun e=>by
      rcases hfree _ e with h1 | ⟨i,e1,h1⟩
      ·rw [ho] at h1;cases h1
      ·rw [ho] at h1;cases h1;exact hj2 e1
     simp [Env.putRow,this,ho])
  (fun j q hj _=>⟨rfl,rfl,fun b ho=>by
    have:v.ownBlock≠some b:=fun e=>by
     rcases hfree _ e with h1 | ⟨i,_,h1⟩
     ·rw [ho] at h1;cases h1
     ·rw [ho] at h1;cases h1
    simp [Env.putRow,this,ho]⟩)
 refine { agr:=hX2.agr,le0:=hX2.le0,old:=hX2.old,frame:=hX2.frame,size:=hX2.size,os:=hX2.os,output:=hX2.output,pin:=hX2.pin,pinR:=hX2.pinR,owned:=hX2.owned,boxes:= ?_,rows:= ?_,objs:=fun j q hj=>hX2.objs j q hj (by cases jo<;>simp),hndI:=hX2.hndI,tmps:= ?_,defers:=h.defers }
 ·intro k cs hk
  exact hX2.boxes k cs hk (by cases jo<;>simp)
 ·intro j q hj
  simp only [ax] at hj
  split at hj
  ·rename_i e
   subst e
   cases hj
   unfold cm
   rw [if_neg (by simp [hf])]
   refine ⟨xs,by simpa [Env.putRow] using hown,hrep,fun b hb=> ?_⟩
   simp only [Env.putRow,abP] at hb ⊢
   rw [if_pos hb]
  ·rename_i e
   have hjd:¬ j=d:=fun h=>e h.symm
   exact hX2.rows j q (by simp only [gI,if_neg hjd];exact hj) (by
    have:=(hR j q hj).2
    cases jo with
    | none=>simp
    | some i=>simp only [abB,ne_eq,Option.some.injEq,aW.inr.injEq];exact fun e=>this (by rw [e]))
 ·exact (h.tmps.congr (Gh.le_refl G) hsame).put (some d) (fun _ _=>⟨by simp [Env.putRow],by
   rcases hown.2 with ⟨e,_⟩ | ⟨g,cap,cur,e,_⟩
   ·exact ⟨_,_,_,e⟩
   ·exact ⟨_,_,_,e⟩⟩)
theorem Mod.WL {a:Act} {w':World} {k:Nat} {cs:List CV} {vs:List Value} {T:TypeId} (h:Mod C G ρ S w a) (hk:∃ l,look S.boxes k=some l) (hg:Grow ρ w w' (some (ρ.bx k)))
 (hw:w'.heap[ρ.bx k]? =some (.cells vs.toArray T (0,0))) (hv:aK (aT G ρ) cs vs):Mod C G ρ { S with boxes:=(k,cs)::S.boxes } w' a:=by
 obtain ⟨l,hl⟩:=hk
 have ho:=(h.boxes k l hl).1
 have hX:=((h.toMem.toX (some (.inl k))).grow hg (fun b hb=>by cases hb;exact ⟨.inl k,rfl,ho⟩)).state (S':={ S with boxes:=(k,cs)::S.boxes })
  (fun i c hi hne=>by
    have:¬ k=i:=fun e=>hne (by rw [e])
    simpa [ax,this] using hi) (fun j r hj _=>hj) (fun j r hj _=>hj) (fun t l h=>⟨t,l,h⟩)
 have hM:=hX.toMem (fun i c hi e=>by
  cases e
  simp only [ax,abP,Option.some.injEq] at hi
  subst hi
  exact ⟨ho,vs,T,hw,hv⟩) (fun j r hj e=>by cases e) (fun j r hj e=>by cases e)
 exact { hM with tmps:=h.tmps,defers:=h.defers }
theorem Mod.setRow {a:Act} {w':World} {j:Nat} {q r:mo} (h:Mod C G ρ S w a) (hj:look S.rows j=some q) (hq:q.fz=false) (hr:r.fz=false) {b:Nat} (hb:(ρ.rw j).ownBlock=some b) (hg:Grow ρ w w' (some b))
 (xs:List Value) (hown:w'.ownsRow 0 r.e r.t.size (ρ.rw j) r.l.length xs) (hrep:bL (aH G r.t) r.l xs):Mod C G ρ { S with rows:=(j,r)::S.rows } w' a:=by
 have hrow:=h.rows j q hj
 unfold cm at hrow
 rw [if_neg (by simp [hq])] at hrow
 obtain ⟨_,_,_,ho⟩:=hrow
 have hX:=((h.toMem.toX (some (.inr j))).grow hg (fun b' hb'=>by cases hb';exact ⟨.inr j,rfl,ho b hb⟩)).state (S':={ S with rows:=(j,r)::S.rows }) (fun k cs hk _=>hk)
  (fun i c hi hne=>by
    have:¬ j=i:=fun e=>hne (by rw [e])
    simpa [ax,this] using hi) (fun j r hj _=>hj) (fun t l h=>⟨t,l,h⟩)
 have hM:=hX.toMem (fun k cs hk e=>by cases e) (fun i c hi e=>by
  cases e
  simp only [ax,abP,Option.some.injEq] at hi
  subst hi
  unfold cm
  rw [if_neg (by simp [hr])]
  exact ⟨xs,hown,hrep,ho⟩) (fun j r hj e=>by cases e)
 exact { hM with tmps:=h.tmps,defers:=h.defers }
structure Fz (G G':Gh) (ρ ρ':Env):Prop where
 le:G.le G'
 bx:ρ'.bx=ρ.bx
 rw:ρ'.rw=ρ.rw
 ob:ρ'.ob=ρ.ob
 st:ρ'.st=ρ.st
 hnd:G'.hnd=G.hnd
 own:∀ b o,ρ'.own b=some o→ρ.own b=some o
 new:∀ b,G' b≠G b→∃ j,ρ.own b=some (.inr j)
theorem Fz.refl (G:Gh) (ρ:Env):Fz G G ρ ρ:=⟨Gh.le_refl G,rfl,rfl,rfl,rfl,rfl,fun _ _ h=>h,fun _ h=>absurd rfl h⟩
theorem Fz.trans {G1 G2 G3:Gh} {r1 r2 r3:Env} (h:Fz G1 G2 r1 r2) (k:Fz G2 G3 r2 r3):Fz G1 G3 r1 r3:=
 ⟨Gh.le_trans h.le k.le,k.bx.trans h.bx,k.rw.trans h.rw,k.ob.trans h.ob,k.st.trans h.st,k.hnd.trans h.hnd,fun b o x=>h.own b o (k.own b o x),fun b hb=>by
   by_cases e:G3 b=G2 b
   ·exact h.new b (fun e'=>hb (e.trans e'))
   ·obtain ⟨j,hj⟩:=k.new b e;exact ⟨j,h.own b _ hj⟩⟩
def we (rs:List (Nat×mo)) (j:Nat):List (Nat×mo):=match look rs j with | some q=>(j,{ q with fz:=true })::rs | none=>rs
theorem Mod.we {a:Act} (h:Mod C G ρ S w a) (j:Nat):∃ G' ρ',Fz G G' ρ ρ'∧Mod C G' ρ' { S with rows:=we S.rows j } w a:=by
 unfold Dn.we
 cases hj:look S.rows j with
 | none=>exact ⟨G,ρ,Fz.refl G ρ,{ h.toMem.KQ (S':={ S with rows:=S.rows }) rfl rfl rfl with tmps:=h.tmps,defers:=h.defers }⟩
 | some q=>
  have hrow:=h.rows j q hj
  have same:eP G q.t.size (aH G q.t) q.l (ρ.rw j)→∃ G' ρ',Fz G G' ρ ρ'∧Mod C G' ρ' { S with rows:=(j,{ q with fz:=true })::S.rows } w a:=fun hs=>by
   refine ⟨G,ρ,Fz.refl G ρ,{ h with rows:= ?_,tmps:=h.tmps }⟩
   intro i r hi
   simp only [ax] at hi
   split at hi
   ·rename_i e;subst e;cases hi;unfold cm;simpa using hs
   ·exact h.rows i r hi
  by_cases hf:q.fz=true
  ·apply same
   unfold cm at hrow;rw [if_pos hf] at hrow;exact hrow
  ·have hf':q.fz=false:=by simpa using hf
   unfold cm at hrow
   rw [if_neg hf] at hrow
   obtain ⟨xs,⟨hlen,hn | ⟨g,cap,cur,hv,_,hg,hnc,hcm,hcs,htake⟩⟩,hl,ho⟩:=hrow
   ·apply same
    have:q.l=[]:=aad hn.2
    exact ⟨none,0,by rw [hn.1,this];rfl,by rw [this];simp,abv _,.inl this⟩
   ·have hog:=ho g (by rw [hv];rfl)
    have hgn:=h.owned g _ hog
    let G':Gh:=⟨fun b=>if b=g then w.heap[g]? else G b,G.hnd⟩
    let ρ':Env:=⟨ρ.bx,ρ.rw,fun b=>if b=g then none else ρ.own b,ρ.ob,ρ.st⟩
    have hle:G.le G':=⟨fun b o hb=>by
     show (if b=g then w.heap[g]? else G b)=some o
     by_cases e:b=g
     ·subst e;rw [hgn.1] at hb;cases hb
     ·rw [if_neg e];exact hb,fun _ _ h=>h⟩
    have hfz:Fz G G' ρ ρ':=⟨hle,rfl,rfl,rfl,rfl,rfl,fun b o ho'=>by
     simp only [ρ'] at ho'
     by_cases e:b=g
     ·simp [e] at ho'
     ·simpa [e] using ho',fun b hb=>by
     by_cases e:b=g
     ·exact ⟨j,by rw [e];exact hog⟩
     ·simp [G',e] at hb⟩
    have hX:=(h.toMem.toX (some (.inr j))).change (G':=G') (ρ':=ρ') hle rfl
     (fun b o hb=>by
       simp only [G'] at hb
       by_cases e:b=g
       ·subst e;simpa using hb
       ·rw [if_neg e] at hb;exact h.agr b o hb)
     (fun b hb hB=>by
       have e:b≠g:=fun e=>by
        subst e
        rcases hgn.2.2 with h1 | h1
        ·omega
        ·exact hB h1
       simp only [G',if_neg e];exact h.old b hb hB)
     (fun _ _=>rfl) (fun _ _=>⟨rfl,rfl⟩) (fun p _ c _=>Fl (ρ:=ρ) (ρ':=ρ') rfl rfl rfl rfl c)
     (fun b o ho'=>by
       have e:b≠g:=fun e=>by simp [ρ',e] at ho'
       have:=h.owned b o (hfz.own b o ho')
       exact ⟨by simp only [G',if_neg e];exact this.1,this.2⟩)
     (fun k cs hk _=>⟨rfl,fun ho'=>by
       have e:ρ.bx k≠g:=fun e=>by rw [e,hog] at ho';cases ho'
       simp only [ρ',if_neg e];exact ho'⟩)
     (fun i r hi hne=>⟨rfl,fun b ho'=>by
       have e:b≠g:=fun e=>by rw [e,hog] at ho';cases ho';exact hne rfl
       simp only [ρ',if_neg e];exact ho'⟩)
     (fun i r hi hne=>⟨rfl,rfl,fun b ho'=>by
       have e:b≠g:=fun e=>by rw [e,hog] at ho';cases ho'
       simp only [ρ',if_neg e];exact ho'⟩)
    refine ⟨G',ρ',hfz, ?_⟩
    have hX':=hX.state (S':={ S with rows:=(j,{ q with fz:=true })::S.rows }) (fun k cs hk _=>hk) (fun i c hi hne=>by
     have:¬ j=i:=fun e=>hne (by rw [e])
     simpa [ax,this] using hi) (fun j r hj _=>hj) (fun t l h=>⟨t,l,h⟩)
    have hM:=hX'.toMem (fun k cs hk e=>by cases e) (fun i c hi e=>by
     cases e
     simp only [ax,abP,Option.some.injEq] at hi
     subst hi
     unfold cm
     rw [if_pos rfl]
     refine ⟨some ⟨g,0,none⟩,cap,hv,hnc,hcm,.inr ⟨g,0,cur,q.e,(0,0),rfl,by simp [G',hg], ?_, ?_⟩⟩
     ·simp only [abu];rw [hcs];exact abm _ hnc
     ·simp only [aab];rw [htake];exact hl.mono (aH.mono hle q.t)) (fun j r hj e=>by cases e)
    exact { hM with tmps:=h.tmps.congr hle ⟨fun s _=>kN.same (ρ:=ρ) (ρ':=ρ') rfl rfl rfl rfl,fun p _ c _=>Fl (ρ:=ρ) (ρ':=ρ') rfl rfl rfl rfl c⟩,defers:=h.defers }
theorem Ia (S:St) (js:List Nat):aQ S js={ S with rows:=js.foldl we S.rows }:=rfl
theorem Mod.freeze {a:Act}:∀ (js:List Nat) {G:Gh} {ρ:Env} {S:St},Mod C G ρ S w a→∃ G' ρ',Fz G G' ρ ρ'∧Mod C G' ρ' (aQ S js) w a
 | [],G,ρ,S,h=>⟨G,ρ,Fz.refl G ρ,h⟩
 | j::js,G,ρ,S,h=>by
  obtain ⟨G1,ρ1,f1,h1⟩:=h.we j
  obtain ⟨G2,ρ2,f2,h2⟩:=Mod.freeze js h1
  exact ⟨G2,ρ2,f1.trans f2,h2⟩
end Go.Dn
namespace Go.Dn
theorem ki {β:Type} {b:Bool} {x:Option β} {r:β} (h:chk b x=some r):b=true∧x=some r:=by
 cases b with
 | true=>exact ⟨rfl,h⟩
 | false=>cases h
theorem bind_some {α β:Type} {x:Option α} {f:α→Option β} {r:β} (h:x.bind f=some r):∃ y,x=some y∧f y=some r:=by
 cases x with
 | none=>cases h
 | some y=>exact ⟨y,rfl,h⟩
variable {P:Program} {G:Gh} {ρ:Env} {w:World} {β:Type}
theorem VH {op:BinOp} {ka kb:IntKind} {x y:Int} {k:CV→Option β} {r:β} (h:RH op ka x kb y k=some r):
 ∃ c,k c=some r∧∀ (P:Program) (G:Gh) (ρ:Env) (w:World) (t:TypeId),∃ v,(binOp op t (.int ka x) (.int kb y)).run P w= .ok v w∧aT G ρ c v:=by
 unfold RH at h
 cases op
 case shl=>
  obtain ⟨h1,h2⟩:=ki h
  exact ⟨_,h2,fun P G ρ w t=>⟨_,by simp only [abJ] at h1;simp [binOp,Op.shift,show ¬ y<0 by omega],rfl⟩⟩
 case shr=>
  obtain ⟨h1,h2⟩:=ki h
  exact ⟨_,h2,fun P G ρ w t=>⟨_,by simp only [abJ] at h1;simp [binOp,Op.shift,show ¬ y<0 by omega],rfl⟩⟩
 all_goals
  simp only at h
  split at h
  ·cases h
  ·rename_i hk
   have hk':ka=kb:=by simpa using hk
   subst hk'
   first
    | cases h
    | exact ⟨_,h,fun P G ρ w t=>⟨_,by simp [binOp,Op.intArith,Op.intCmp,Op.intBits],rfl⟩⟩
    | (obtain ⟨h1,h2⟩:=ki h
       exact ⟨_,h2,fun P G ρ w t=>⟨_,by simp only [bne_iff_ne,ne_eq] at h1;simp [binOp,Op.intDiv,h1],rfl⟩⟩)
theorem RJ (l:List UInt8):(bs l).toList=l:=by rw [ByteArray.toList_eq,VL]
theorem Ff (l:List UInt8):(bs l).size=l.length:=by simp [bs,ByteArray.size]
theorem YD (a b:List UInt8):bs a++bs b=bs (a++b):=by
 apply ByteArray.ext
 apply Array.ext'
 simp [bs]
theorem VI {op:BinOp} {x y:List UInt8} {k:CV→Option β} {r:β} (h:RI op x y k=some r):
 ∃ c,k c=some r∧∀ (P:Program) (G:Gh) (ρ:Env) (w:World) (t:TypeId),∃ v,(binOp op t (.string (bs x)) (.string (bs y))).run P w= .ok v w∧aT G ρ c v:=by
 unfold RI at h
 cases op
 case add=>
  obtain ⟨h1,h2⟩:=ki h
  refine ⟨_,h2,fun P G ρ w t=>⟨_, ?_,rfl⟩⟩
  simp only [abJ] at h1
  have:¬ ((((bs x).size+(bs y).size:Nat):Int)>IntKind.i64.max):=by
   simp only [maxLen] at h1
   rw [Ff,Ff]
   simp [IntKind.max,IntKind.signed,IntKind.bits]
   omega
  simp only [binOp,Op.stringOp,this,abO,YD]
  rfl
 all_goals first
  | cases h
  | exact ⟨_,h,fun P G ρ w t=>⟨_,by simp only [binOp,Op.stringOp,RJ];rfl,rfl⟩⟩
theorem Tj {op:BinOp} {t:TypeId} {x y:Operand} {k:IntKind} {n:Int} {v:Value}:(eqGuard op t x y (.int k n) v).run P w= .ok () w:=by
 cases op<;>cases v<;>rfl
theorem Tk {op:BinOp} {t:TypeId} {x y:Operand} {s:ByteArray} {v:Value}:(eqGuard op t x y (.string s) v).run P w= .ok () w:=by
 cases op<;>cases v<;>rfl
theorem o7 {t:TypeId} {d:TypeDesc} (h:P.underlying t=some d):(isAgg t).run P w= .ok (qd P t) w:=by
 simp only [isAgg,Sem.run_bind,run_underlying h,Result.andThen_ok,qd,h]
 cases d<;>rfl
theorem run_sizeOf {t:TypeId} {i:TypeInfo} (h:P.info? t=some i):(sizeOf t).run P w= .ok (bO P t) w:=by
 simp [sizeOf,typeInfo,h,bO]
theorem RN {b off:Nat} {c:Array Value} {T:TypeId} {fz:Nat×Nat} (hb:w.heap[b]? =some (.cells c T fz)) (n:Nat):∀ j v,((c.toList.drop off).take n)[j]? =some v→w.cell? ((⟨b,off,none⟩:Addr).add j)=some v:=by
 intro j v hj
 rw [aaq] at hj
 split at hj
 ·rw [aal] at hj
  have hadd:(⟨b,off,none⟩:Addr).add j=⟨b,off+j,none⟩:=by unfold Addr.add;split<;>simp_all
  rw [hadd,cell_of_row w b _ c T fz hb]
  simpa using hj
 ·cases hj
theorem Gc {t:TypeId} {d:TypeDesc} {i:TypeInfo} (hu:P.underlying t=some d) (hi:P.info? t=some i) {b off:Nat} {vs:List Value} (hl:vs.length=bO P t)
 (h:∀ j v,vs[j]? =some v→w.cell? ((⟨b,off,none⟩:Addr).add j)=some v):
 (qd P t=true→(loadVar t ⟨b,off,none⟩).run P w= .ok (.agg vs.toArray) w)∧(qd P t=false→∀ v,vs=[v]→(loadVar t ⟨b,off,none⟩).run P w= .ok v w):=by
 constructor
 ·intro ha
  simp only [loadVar,Sem.run_bind,o7 hu,Result.andThen_ok,ha,abP,run_sizeOf hi, ← hl]
  rw [run_loadCells_list w ⟨b,off,none⟩ vs h]
  rfl
 ·intro ha v hv
  subst hv
  have h0:=h 0 v rfl
  simp only [loadVar,Sem.run_bind,o7 hu,Result.andThen_ok,ha]
  have:(⟨b,off,none⟩:Addr).add 0=⟨b,off,none⟩:=rfl
  rw [this] at h0
  simp [h0]
theorem X8 {t:TypeId} {d:TypeDesc} (h:P.underlying t=some d):∃ i,P.info? t=some i:=by
 unfold Program.underlying at h
 cases hi:P.info? t with
 | none=>rw [hi] at h;cases h
 | some i=>exact ⟨i,rfl⟩
theorem iq {t:TypeId} (h:okT P t=true):∃ d i,P.underlying t=some d∧P.info? t=some i:=by
 obtain ⟨d,hd⟩:=abz.1 h
 obtain ⟨i,hi⟩:=X8 hd
 exact ⟨d,i,hd,hi⟩
theorem B9 {l cs:List CV} {off n:Nat} (h:KE l off n=some cs):cs=(l.drop off).take n∧cs.length=n:=by
 unfold KE at h
 simp only at h
 split at h
 ·rename_i hb;cases h;exact ⟨rfl,aa8 hb⟩
 ·cases h
theorem Ag {T:TypeId} {l:List CV} {off:Nat} {k:SV→Option β} {r:β} (h:lE P T l off k=some r):
 ∃ s,k s=some r∧∀ (G:Gh) (ρ:Env) (w:World) (b base:Nat) (vs:List Value),aK (aT G ρ) l vs→(∀ j v,vs[j]? =some v→w.cell? ((⟨b,base,none⟩:Addr).add j)=some v)→
  ∃ v,(loadVar T ⟨b,base+off,none⟩).run P w= .ok v w∧bh G ρ s v:=by
 unfold lE at h
 split at h
 ·rename_i hok
  obtain ⟨d,i,hd,hi⟩:=iq hok
  split at h
  ·rename_i cs hc
   obtain ⟨e,hlen⟩:=B9 hc
   have key:∀ (G:Gh) (ρ:Env) (w:World) (b base:Nat) (vs:List Value),aK (aT G ρ) l vs→(∀ j v,vs[j]? =some v→w.cell? ((⟨b,base,none⟩:Addr).add j)=some v)→
    ∃ us:List Value,us.length=bO P T∧aK (aT G ρ) cs us∧∀ j v,us[j]? =some v→w.cell? ((⟨b,base+off,none⟩:Addr).add j)=some v:=by
    intro G ρ w b base vs hv hcell
    refine ⟨(vs.drop off).take (bO P T), ?_,by rw [e];exact (hv.drop off).take _, ?_⟩
    ·have:=((hv.drop off).take (bO P T)).len
     rw [this, ← e,hlen]
    ·intro j v hj
     rw [aaq] at hj
     split at hj
     ·rw [aal] at hj
      have:=hcell (off+j) v hj
      have e1:(⟨b,base,none⟩:Addr).add (off+j)=⟨b,base+off+j,none⟩:=by unfold Addr.add;split<;>simp_all [aa3]
      have e2:(⟨b,base+off,none⟩:Addr).add j=⟨b,base+off+j,none⟩:=by unfold Addr.add;split<;>simp_all
      rw [e2, ← e1];exact this
     ·cases hj
   split at h
   ·rename_i ha
    refine ⟨_,h,fun G ρ w b base vs hv hcell=> ?_⟩
    obtain ⟨us,hl,hus,hc'⟩:=key G ρ w b base vs hv hcell
    exact ⟨_,(Gc hd hi hl hc').1 ha,us,rfl,hus⟩
   ·rename_i ha
    split at h
    ·rename_i c
     refine ⟨_,h,fun G ρ w b base vs hv hcell=> ?_⟩
     obtain ⟨us,hl,hus,hc'⟩:=key G ρ w b base vs hv hcell
     obtain ⟨y,ey,hy⟩:=hus.single
     exact ⟨y,(Gc hd hi hl hc').2 (by simpa using ha) y ey,hy⟩
    ·cases h
  ·cases h
 ·cases h
theorem MC {α:Type} {l:List α} {i:Int} {x:α} (h:idx l i=some x):0≤i∧i<l.length∧l[i.toNat]? =some x:=by
 unfold idx at h
 split at h
 ·rename_i h0
  refine ⟨h0, ?_,h⟩
  have:=(List.getElem?_eq_some_iff.1 h).1
  omega
 ·cases h
theorem run_indexAt_slice {t e:TypeId} (ht:P.underlying t=some (.slice e)) (hok:okT P e=true) {ik:IntKind} {i:Int} {b off len cap:Nat} (h0:0≤i) (h1:i<len):
 (Instr.indexAt t (.slice (some ⟨b,off,none⟩) len cap) (.int ik i)).run P w= .ok (.pointer (some ⟨b,off+i.toNat*bO P e,none⟩)) w:=by
 obtain ⟨d,inf,hd,hi⟩:=iq hok
 have hadd:(⟨b,off,none⟩:Addr).add (i.toNat*bO P e)=⟨b,off+i.toNat*bO P e,none⟩:=by unfold Addr.add;split<;>simp_all
 simp only [Instr.indexAt,asIntOf,Sem.run_bind,Sem.run_pure,Result.andThen_ok,run_underlying ht,h0,h1,abC,abP,run_sizeOf hi,hadd]
theorem eP.at {t:Ty} {l:List t.den} {v:Value} (h:eP G t.size (aH G t) l v) {i:Nat} {x:t.den} (hx:l[i]? =some x):
 ∃ b off c T fz cap,v= .slice (some ⟨b,off,none⟩) l.length cap∧G b=some (.cells c T fz)∧off+i*t.size+t.size≤c.size∧aH G t x ((c.toList.drop (off+i*t.size)).take t.size):=by
 obtain ⟨a,cap,hv,h1,h2,h3⟩:=h
 have hlt:=(List.getElem?_eq_some_iff.1 hx).1
 rcases h3 with rfl | ⟨b,off,c,T,fz,ha,hb,hs,hl⟩
 ·simp at hx
 ·refine ⟨b,off,c,T,fz,cap,by rw [hv,ha],hb, ?_, ?_⟩
  ·have:i*t.size+t.size≤l.length*t.size:=by rw [← Nat.succ_mul];exact abm _ hlt
   omega
  ·have:=hl.get (fun x cs hr=>aH.len hr) hx
   rw [List.drop_take,aa2,Z7] at this
   have e:min t.size (l.length*t.size - i*t.size)=t.size:=by
    have:i*t.size+t.size≤l.length*t.size:=by rw [← Nat.succ_mul];exact abm _ hlt
    omega
   rw [e] at this
   exact this
end Go.Dn
namespace Go.Dn
variable {β:Type}
def gG (P:Program) (o:Oper) (S M:St) (s:SV):Prop:=
 ∀ (C:Fr P) (G:Gh) (ρ:Env) (w:World) (a:Act),Mem C G ρ M w→(∀ x,x∈o.op.operands→bh G ρ (S.ev x) (a.eval x))→
  ∃ v,(execOp a.eval o).run P w= .ok (.value v) w∧bh G ρ s v
theorem one_cell {G:Gh} {ρ:Env} {s:SV} {c:CV} {v:Value} (h:bh G ρ s v) (e:s= .v false [c]):aT G ρ c v:=by subst e;exact h
theorem PR {G:Gh} {ρ:Env} {n:Nat} {c c':CV} {v:Value} (h:M0 n c=some c') (hv:aT G ρ c v):∃ b off,v= .pointer (some ⟨b,off,none⟩)∧aT G ρ c' (.pointer (some ⟨b,off+n,none⟩)):=by
 cases c<;>simp only [M0] at h<;>try cases h
 case ref k o=>exact ⟨_,_,hv,rfl⟩
 case cp t x o=>
  obtain ⟨b,off,c,T,fz,e,hb,hs,hl⟩:=hv
  exact ⟨_,_,e,b,off,c,T,fz,by rw [aa3],hb,hs,hl⟩
 case rp j sz i o=>
  obtain ⟨b,len,cap,e1,e2⟩:=hv
  exact ⟨_,_,e2,b,len,cap,e1,by rw [aa3]⟩
 case hnd o k=>
  cases o with
  | none=>cases h
  | some i=>
   cases h
   obtain ⟨b,hb,e⟩:=hv
   exact ⟨_,_,e,b,hb,rfl⟩
theorem I3 {G:Gh} {ρ:Env} {c:CV} {v:Value} (h:aT G ρ c v) (hok:c.ok=true):v.oneCell'=true∧v.cells= #[v]:=by
 cases c
 case any=>cases hok
 case opq u=>cases hok
 case sl t l=>obtain ⟨a,cap,e,_⟩:=h;subst e;exact ⟨rfl,rfl⟩
 case cp t x o=>obtain ⟨b,off,c,T,fz,e,_⟩:=h;subst e;exact ⟨rfl,rfl⟩
 case clo g t x=>obtain ⟨caps,e,_⟩:=h;subst e;exact ⟨rfl,rfl⟩
 case rp j sz i o=>obtain ⟨b,len,cap,_,e⟩:=h;subst e;exact ⟨rfl,rfl⟩
 case row j=>obtain ⟨_,a,n,c,e⟩:=h;subst e;exact ⟨rfl,rfl⟩
 case mp j=>obtain ⟨_,b,e⟩:=h;subst e;exact ⟨rfl,rfl⟩
 case kseq g j=>obtain ⟨b,T,fz,e,_⟩:=h;subst e;exact ⟨rfl,rfl⟩
 case nb b=>obtain ⟨c,e,_⟩:=h;subst e;exact ⟨rfl,rfl⟩
 case hnd o k=>
  cases o with
  | none=>obtain ⟨e,_⟩:=h;subst e;exact ⟨rfl,rfl⟩
  | some i=>obtain ⟨b,_,e⟩:=h;subst e;exact ⟨rfl,rfl⟩
 all_goals (have e:v=_:=h;subst e;exact ⟨rfl,rfl⟩)
section
variable {X:Cx} {o:Oper} {S M:St} {k:SV→Option β} {r:β}
theorem Ur {P:Program} {T:TypeId} {l:List CV} {off:Nat} {s:SV} (h:lE P T l off some=some s):
 ∀ (G:Gh) (ρ:Env) (w:World) (vs:List Value),aK (aT G ρ) l vs→∃ v,(part T vs.toArray off).run P w= .ok v w∧bh G ρ s v:=by
 unfold lE at h
 split at h
 ·rename_i hok
  obtain ⟨d,i,hd,hi⟩:=iq hok
  split at h
  ·rename_i cs' hc
   obtain ⟨e,hlen⟩:=B9 hc
   split at h
   ·rename_i ha
    cases h
    intro G ρ w vs hl
    refine ⟨.agg ((vs.drop off).take (bO P T)).toArray, ?_,_,rfl,by rw [e];exact (hl.drop _).take _⟩
    simp only [Sem.run_bind,Result.andThen_ok,Sem.run_pure,part,o7 hd,ha,abP,run_sizeOf hi]
    congr 2
    simp
   ·rename_i ha
    split at h
    ·rename_i c
     cases h
     intro G ρ w vs hl
     have hsub:=(hl.drop off).take (bO P T)
     rw [← e] at hsub
     obtain ⟨y,ey,hy⟩:=hsub.single
     have hy0:vs[off]? =some y:=by
      have:((vs.drop off).take (bO P T))[0]? =some y:=by rw [ey];rfl
      rw [aaq] at this
      split at this
      ·simpa using this
      ·cases this
     refine ⟨y, ?_,hy⟩
     simp [part,o7 hd,ha,hy0]
    ·cases h
  ·cases h
 ·cases h
theorem T3 {P:Program} {g:TypeId→SV→SV→Option Bool} {d:Nat} (hg:∀ t x y r,g t x y=some r→∀ (G:Gh) (ρ:Env) (w:World) vx vy,bh G ρ x vx→bh G ρ y vy→(Op.equalIn d t vx vy).run P w= .ok r w) {xs ys:List CV}:
 ∀ {fs:List Field} {r:Bool},Jp P g xs ys fs=some r→∀ (G:Gh) (ρ:Env) (w:World) vs us,aK (aT G ρ) xs vs→aK (aT G ρ) ys us→(Op.eqFields d vs.toArray us.toArray fs).run P w= .ok r w
 | [],r,h,G,ρ,w,vs,us,hv,hu=>by simp only [Jp,Option.some.injEq] at h;subst h;rfl
 | f::fs,r,h,G,ρ,w,vs,us,hv,hu=>by
  simp only [Jp] at h
  split at h
  ·cases h
  ·rename_i hn
   split at h
   ·rename_i a b ha hb
    split at h
    ·rename_i r1 hr1
     split at h
     ·rename_i q hq
      cases h
      obtain ⟨x,hx1,hx2⟩:=Ur ha G ρ w vs hv
      obtain ⟨y,hy1,hy2⟩:=Ur hb G ρ w us hu
      have h1:=hg _ _ _ _ hr1 G ρ w x y hx2 hy2
      have h2:=T3 hg hq G ρ w vs us hv hu
      simp only [Op.eqFields,if_pos hn,Sem.run_bind,hx1,hy1,h1,Result.andThen_ok,Sem.run_ite,Sem.run_pure,h2]
      cases r1<;>simp
     ·cases h
    ·cases h
   ·cases h
theorem GS {G:Gh} {ρ:Env} {c:CV} {v:Value} (h:c.Rv=true) (hv:aT G ρ c v):∃ a,v= .pointer (some a):=by
 cases c<;>simp only [CV.Rv] at h<;>try cases h
 case ref k o=>exact ⟨_,hv⟩
 case cp t x o=>obtain ⟨b,off,c,T,fz,e,_⟩:=hv;exact ⟨_,e⟩
 case rp j sz i o=>obtain ⟨b,len,cap,_,e⟩:=hv;exact ⟨_,e⟩
theorem OW {P:Program}:∀ {d:Nat} {t:TypeId} {x y:SV} {r:Bool},tM P d t x y=some r→∀ (d':Nat),d≤d'→∀ (G:Gh) (ρ:Env) (w:World) vx vy,bh G ρ x vx→bh G ρ y vy→(Op.equalIn d' t vx vy).run P w= .ok r w
 | 0,t,x,y,r,h=>by simp [tM] at h
 | d+1,t,x,y,r,h=>by
  intro d' hd' G ρ w vx vy hx hy
  obtain ⟨e,rfl⟩:∃ e,d'=e+1:=⟨d' - 1,by omega⟩
  simp only [tM] at h
  split at h
  ·rename_i k0 ht
   split at h
   ·rename_i k a k' b
    split at h
    ·rename_i hk
     cases h
     subst hk
     have e1:vx= .int k a:=hx
     have e2:vy= .int k b:=hy
     subst e1;subst e2
     exact run_equalIn_int w e t k k0 a b ht
    ·cases h
   ·cases h
  ·rename_i ht
   split at h
   ·rename_i a b
    cases h
    have e1:vx= .bool a:=hx
    have e2:vy= .bool b:=hy
    subst e1;subst e2
    exact run_equalIn_bool w e t a b ht
   ·cases h
  ·rename_i ht
   split at h
   ·rename_i a b
    cases h
    have e1:vx= .string (bs a):=hx
    have e2:vy= .string (bs b):=hy
    subst e1;subst e2
    have:=run_equalIn_string w e t (bs a) (bs b) ht
    rw [RJ,RJ] at this
    exact this
   ·cases h
  ·rename_i el ht
   split at h
   ·cases h
    have e1:vx= .pointer none:=hx
    have e2:vy= .pointer none:=hy
    subst e1;subst e2
    simp [Op.equalIn,run_underlying ht]
   ·rename_i o k
    cases h
    have e1:vx= .pointer none:=hx
    subst e1
    cases o with
    | none=>obtain ⟨e2,_⟩:=hy;subst e2;simp [Op.equalIn,run_underlying ht]
    | some i=>obtain ⟨b,_,e2⟩:=hy;subst e2;simp [Op.equalIn,run_underlying ht]
   ·rename_i o k
    cases h
    have e1:vy= .pointer none:=hy
    subst e1
    cases o with
    | none=>obtain ⟨e2,_⟩:=hx;subst e2;simp [Op.equalIn,run_underlying ht]
    | some i=>obtain ⟨b,_,e2⟩:=hx;subst e2;simp [Op.equalIn,run_underlying ht]
   ·rename_i c _ _
    split at h
    ·rename_i hp
     cases h
     have e1:vx= .pointer none:=hx
     obtain ⟨a,e2⟩:=GS hp (show aT G ρ c vy from hy)
     subst e1;subst e2
     simp [Op.equalIn,run_underlying ht]
    ·cases h
   ·rename_i c _ _
    split at h
    ·rename_i hp
     cases h
     have e2:vy= .pointer none:=hy
     obtain ⟨a,e1⟩:=GS hp (show aT G ρ c vx from hx)
     subst e1;subst e2
     simp [Op.equalIn,run_underlying ht]
    ·cases h
   ·cases h
  ·rename_i fs ht
   split at h
   ·rename_i xs ys
    split at h
    ·cases h
    ·rename_i hst
     obtain ⟨vs,e1,hvs⟩:=hx
     obtain ⟨us,e2,hus⟩:=hy
     subst e1;subst e2
     have hf:P.fieldsOf t=fs:=by simp [Program.fieldsOf,ht]
     rw [run_equalIn_struct w e t vs.toArray us.toArray (by rw [hf];exact ht) (by simpa using hst),hf]
     exact T3 (fun t x y r hr G ρ w vx vy hvx hvy=>OW hr e (by omega) G ρ w vx vy hvx hvy) h G ρ w vs us hvs hus
   ·cases h
  ·cases h
theorem LR {P:Program} {op:BinOp} {t:TypeId} {x y:Operand} {vx vy:Value} {w:World} (h:P.eqGuardType P.depth t=false) (hx:vx≠ .nilIface):(eqGuard op t x y vx vy).run P w= .ok () w:=by
 unfold eqGuard
 cases op<;>first
  | rfl
  | (cases vx<;>cases vy<;>first | rfl | exact absurd rfl hx | simp [run_program,h])
def YW (t:TypeId) (vx vy:Value):Prop:=vx≠ .nilIface∧binOp .eql t vx vy=(do pure (.bool (← Op.equal t vx vy)))∧binOp .neq t vx vy=(do pure (.bool (!(← Op.equal t vx vy))))
theorem UR {P:Program} {d:Nat} {t:TypeId} {x y:SV} {q:Bool} (hq:tM P (d+1) t x y=some q):
 (∃ ka a kb b,x= .v false [.int ka a]∧y= .v false [.int kb b])∨(∃ a b,x= .v false [.str a]∧y= .v false [.str b])∨
 ∀ (G:Gh) (ρ:Env) (vx vy:Value),bh G ρ x vx→bh G ρ y vy→YW t vx vy:=by
 simp only [tM] at hq
 split at hq
 ·split at hq
  ·exact .inl ⟨_,_,_,_,rfl,rfl⟩
  ·cases hq
 ·split at hq
  ·rename_i a b
   refine .inr (.inr fun G ρ vx vy hvx hvy=> ?_)
   have e1:vx= .bool a:=hvx
   have e2:vy= .bool b:=hvy
   subst e1;subst e2
   exact ⟨by simp,rfl,rfl⟩
  ·cases hq
 ·split at hq
  ·exact .inr (.inl ⟨_,_,rfl,rfl⟩)
  ·cases hq
 ·refine .inr (.inr fun G ρ vx vy hvx hvy=> ?_)
  have hp:(∃ p,vx= .pointer p)∧∃ p,vy= .pointer p:=by
   split at hq
   ·exact ⟨⟨_,hvx⟩,⟨_,hvy⟩⟩
   ·rename_i o k
    refine ⟨⟨_,hvx⟩, ?_⟩
    cases o with
    | none=>exact ⟨_,hvy.1⟩
    | some i=>obtain ⟨b,_,e⟩:=hvy;exact ⟨_,e⟩
   ·rename_i o k
    refine ⟨?_,⟨_,hvy⟩⟩
    cases o with
    | none=>exact ⟨_,hvx.1⟩
    | some i=>obtain ⟨b,_,e⟩:=hvx;exact ⟨_,e⟩
   ·rename_i c _ _
    split at hq
    ·rename_i hp
     obtain ⟨a,e⟩:=GS hp (show aT G ρ c vy from hvy)
     exact ⟨⟨_,hvx⟩,⟨_,e⟩⟩
    ·cases hq
   ·rename_i c _ _
    split at hq
    ·rename_i hp
     obtain ⟨a,e⟩:=GS hp (show aT G ρ c vx from hvx)
     exact ⟨⟨_,e⟩,⟨_,hvy⟩⟩
    ·cases hq
   ·cases hq
  obtain ⟨⟨p,rfl⟩,⟨q',rfl⟩⟩:=hp
  exact ⟨by simp,rfl,rfl⟩
 ·split at hq
  ·refine .inr (.inr fun G ρ vx vy hvx hvy=> ?_)
   obtain ⟨vs,e1,hvs⟩:=hvx
   obtain ⟨us,e2,hus⟩:=hvy
   subst e1;subst e2
   exact ⟨by simp,rfl,rfl⟩
  ·cases hq
 ·cases hq
theorem YO {op:BinOp} {t u:TypeId} {x y:Operand} (ho:o.op= .binOp op t x y u) (hi:∀ ka a kb b,S.ev x= .v false [.int ka a]→S.ev y= .v false [.int kb b]→False)
 (hs:∀ a b,S.ev x= .v false [.str a]→S.ev y= .v false [.str b]→False) (h:W9 X.P op t (S.ev x) (S.ev y) k=some r):∃ s,k s=some r∧gG X.P o S M s:=by
 unfold W9 at h
 split at h
 ·cases h
 ·rename_i hgd
  have hgd':X.P.eqGuardType X.P.depth t=false:=by simpa using hgd
  have key:∀ q,tM X.P 9 t (S.ev x) (S.ev y)=some q→∀ (G:Gh) (ρ:Env) (w:World) (vx vy:Value),bh G ρ (S.ev x) vx→bh G ρ (S.ev y) vy→
   (eqGuard op t x y vx vy).run X.P w= .ok () w∧(binOp .eql t vx vy).run X.P w= .ok (.bool q) w∧(binOp .neq t vx vy).run X.P w= .ok (.bool !q) w:=by
   intro q hq G ρ w vx vy hvx hvy
   have heq':(Op.equal t vx vy).run X.P w= .ok q w:=OW hq Op.maxDepth (by decide) G ρ w vx vy hvx hvy
   rcases UR hq with ⟨ka,a,kb,b,e1,e2⟩ | ⟨a,b,e1,e2⟩ | hB
   ·exact (hi _ _ _ _ e1 e2).elim
   ·exact (hs _ _ e1 e2).elim
   ·obtain ⟨h1,h2,h3⟩:=hB G ρ vx vy hvx hvy
    refine ⟨LR hgd' h1, ?_, ?_⟩
    ·rw [h2];simp [heq']
    ·rw [h3];simp [heq']
  clear hi hs
  split at h
  ·split at h
   ·rename_i q hq
    refine ⟨_,h,fun C G ρ w a hM hop=>⟨.bool q, ?_,rfl⟩⟩
    obtain ⟨h1,h2,_⟩:=key q hq G ρ w _ _ (hop x (by simp [ho,Op.operands])) (hop y (by simp [ho,Op.operands]))
    simp only [execOp,ho,Sem.run_bind,h1,Result.andThen_ok,h2,Sem.run_pure]
   ·split at h
    ·rename_i e b ht hb
     refine ⟨_,h,fun C G ρ w a hM hop=> ?_⟩
     have hvx:=hop x (by simp [ho,Op.operands])
     have hvy:=hop y (by simp [ho,Op.operands])
     generalize S.ev x=sx at hb hvx
     generalize S.ev y=sy at hb hvy
     unfold XM at hb
     split at hb
     ·rename_i ty l
      cases hb
      obtain ⟨p,cap,e1,_,_,hl⟩:=(hvx:eP G _ _ l _)
      have e2:a.eval y= .slice none 0 0:=hvy
      refine ⟨.bool p.isNone, ?_,p.isNone,rfl,fun he=> ?_⟩
      ·have h1:(eqGuard .eql t x y (a.eval x) (a.eval y)).run X.P w= .ok () w:=LR hgd' (by rw [e1];simp)
       have h2:(binOp .eql t (a.eval x) (a.eval y)).run X.P w= .ok (.bool p.isNone) w:=by
        rw [e1,e2]
        have h3:(Op.equal t (.slice p l.length cap) (.slice none 0 0)).run X.P w= .ok p.isNone w:=by
         unfold Op.equal
         obtain ⟨dd,hd⟩:∃ dd,Op.maxDepth=dd+1:=⟨9999,rfl⟩
         rw [hd]
         cases p<;>simp [Op.equalIn,run_underlying ht]
        have h4:binOp .eql t (.slice p l.length cap) (.slice none 0 0)=(do pure (.bool (← Op.equal t (.slice p l.length cap) (.slice none 0 0)))):=rfl
        rw [h4];simp [h3]
       simp only [execOp,ho,Sem.run_bind,h1,Result.andThen_ok,h2,Sem.run_pure]
      ·rcases hl with hl | ⟨_,_,_,_,_,e3,_⟩
       ·subst hl;cases he
       ·rw [e3];rfl
     ·cases hb
    ·cases h
  ·split at h
   ·rename_i q hq
    refine ⟨_,h,fun C G ρ w a hM hop=>⟨.bool !q, ?_,rfl⟩⟩
    obtain ⟨h1,_,h2⟩:=key q hq G ρ w _ _ (hop x (by simp [ho,Op.operands])) (hop y (by simp [ho,Op.operands]))
    simp only [execOp,ho,Sem.run_bind,h1,Result.andThen_ok,h2,Sem.run_pure]
   ·cases h
  ·cases h
theorem Yj {op:BinOp} {t u:TypeId} {x y:Operand} (ho:o.op= .binOp op t x y u) (h:cK X o S M k=some r):∃ s,k s=some r∧gG X.P o S M s:=by
 unfold cK at h
 rw [ho] at h
 simp only [XK] at h
 split at h
 ·rename_i ka n kb m hx hy
  obtain ⟨c,hk,hc⟩:=VH h
  refine ⟨_,hk,fun C G ρ w a hM hop=> ?_⟩
  have h1:=one_cell (hop x (by simp [ho,Op.operands])) hx
  have h2:=one_cell (hop y (by simp [ho,Op.operands])) hy
  obtain ⟨v,hr,hv⟩:=hc X.P G ρ w t
  refine ⟨v, ?_,hv⟩
  simp only [execOp,ho,Sem.run_bind,show a.eval x= .int ka n from h1,show a.eval y= .int kb m from h2,Tj,Result.andThen_ok,hr,Sem.run_pure]
 ·rename_i n m hx hy
  obtain ⟨c,hk,hc⟩:=VI h
  refine ⟨_,hk,fun C G ρ w a hM hop=> ?_⟩
  have h1:=one_cell (hop x (by simp [ho,Op.operands])) hx
  have h2:=one_cell (hop y (by simp [ho,Op.operands])) hy
  obtain ⟨v,hr,hv⟩:=hc X.P G ρ w t
  refine ⟨v, ?_,hv⟩
  simp only [execOp,ho,Sem.run_bind,show a.eval x= .string (bs n) from h1,show a.eval y= .string (bs m) from h2,Tk,Result.andThen_ok,hr,Sem.run_pure]
 ·rename_i hni hns
  exact YO ho hni hns h
theorem YR {op:UnOp} {t:TypeId} {x:Operand} (ho:o.op= .unOp op t x) (h:cK X o S M k=some r):∃ s,k s=some r∧gG X.P o S M s:=by
 unfold cK at h
 rw [ho] at h
 simp only at h
 split at h
 ·rename_i b hx
  refine ⟨_,h,fun C G ρ w a hM hop=> ?_⟩
  have h1:=one_cell (hop x (by simp [ho,Op.operands])) hx
  exact ⟨.bool !b,by simp only [execOp,ho,show a.eval x= .bool b from h1,Op.unary];rfl,rfl⟩
 ·rename_i ik n hx
  refine ⟨_,h,fun C G ρ w a hM hop=> ?_⟩
  have h1:=one_cell (hop x (by simp [ho,Op.operands])) hx
  exact ⟨_,by simp only [execOp,ho,show a.eval x= .int ik n from h1,Op.unary,Op.intArith];rfl,rfl⟩
 ·cases h
theorem WA {t u:TypeId} {x:Operand} (ho:o.op= .convert t u x) (h:cK X o S M k=some r):∃ s,k s=some r∧gG X.P o S M s:=by
 unfold cK at h
 rw [ho] at h
 simp only at h
 split at h
 ·rename_i d ik ik' n hd hu hx
  refine ⟨_,h,fun C G ρ w a hM hop=> ?_⟩
  have h1:=one_cell (hop x (by simp [ho,Op.operands])) hx
  refine ⟨.int ik (ik.wrap n), ?_,rfl⟩
  simp only [execOp,ho,show a.eval x= .int ik' n from h1,convert,Sem.run_bind,run_underlying hd,run_underlying hu,Result.andThen_ok,Conv.intToInt,Sem.run_pure]
 ·rename_i d s hd hu hx
  refine ⟨_,h,fun C G ρ w a hM hop=> ?_⟩
  have h1:=one_cell (hop x (by simp [ho,Op.operands])) hx
  refine ⟨.string (bs s), ?_,rfl⟩
  simp only [execOp,ho,show a.eval x= .string (bs s) from h1,convert,Sem.run_bind,run_underlying hd,run_underlying hu,Result.andThen_ok,Sem.run_pure]
 ·cases h
theorem WC {x:Operand} (ho:o.op= .move x∨o.op= .assign x) (h:cK X o S M k=some r):∃ s,k s=some r∧gG X.P o S M s:=by
 unfold cK at h
 rcases ho with ho | ho<;>rw [ho] at h<;>simp only at h
 all_goals exact ⟨_,h,fun C G ρ w a hM hop=>⟨a.eval x,by simp only [execOp,ho,Sem.run_pure],hop x (by simp [ho,Op.operands])⟩⟩
theorem YQ {c x y:Operand} (ho:o.op= .pick c x y) (h:cK X o S M k=some r):∃ s,k s=some r∧gG X.P o S M s:=by
 unfold cK at h
 rw [ho] at h
 simp only at h
 split at h
 ·rename_i t hc
  cases t with
  | true=>
   refine ⟨_,h,fun C G ρ w a hM hop=>⟨a.eval x, ?_,hop x (by simp [ho,Op.operands])⟩⟩
   have h1:=one_cell (hop c (by simp [ho,Op.operands])) hc
   simp only [execOp,ho,show a.eval c= .bool true from h1,asBool,Sem.run_bind,Sem.run_pure,Result.andThen_ok,abP]
  | false=>
   refine ⟨_,h,fun C G ρ w a hM hop=>⟨a.eval y, ?_,hop y (by simp [ho,Op.operands])⟩⟩
   have h1:=one_cell (hop c (by simp [ho,Op.operands])) hc
   simp [execOp,ho,show a.eval c= .bool false from h1,asBool]
 ·cases h
theorem Vk {x:Operand} (ho:o.op= .nilCheck x) (h:cK X o S M k=some r):∃ s,k s=some r∧gG X.P o S M s:=by
 unfold cK at h
 rw [ho] at h
 simp only at h
 split at h
 ·rename_i i j hx
  refine ⟨_,h,fun C G ρ w a hM hop=> ?_⟩
  have h1:=one_cell (hop x (by simp [ho,Op.operands])) hx
  exact ⟨_,by simp only [execOp,ho,show a.eval x=_ from h1];rfl,rfl⟩
 ·rename_i t y j hx
  refine ⟨_,h,fun C G ρ w a hM hop=> ?_⟩
  have h1:=one_cell (hop x (by simp [ho,Op.operands])) hx
  obtain ⟨b,off,c,T,fz,e,rest⟩:=h1
  exact ⟨_,by simp only [execOp,ho,e];rfl,b,off,c,T,fz,rfl,rest⟩
 ·rename_i i sz j l hx
  refine ⟨_,h,fun C G ρ w a hM hop=> ?_⟩
  have h1:=one_cell (hop x (by simp [ho,Op.operands])) hx
  obtain ⟨b,len,cap,e1,e2⟩:=h1
  exact ⟨_,by simp only [execOp,ho,e2];rfl,b,len,cap,e1,rfl⟩
 ·rename_i g t y hx
  refine ⟨_,h,fun C G ρ w a hM hop=> ?_⟩
  have h1:=one_cell (hop x (by simp [ho,Op.operands])) hx
  obtain ⟨caps,e,hc⟩:=h1
  exact ⟨_,by simp only [execOp,ho,e];rfl,caps,rfl,hc⟩
 ·rename_i g ks hx
  refine ⟨_,h,fun C G ρ w a hM hop=> ?_⟩
  have h1:=one_cell (hop x (by simp [ho,Op.operands])) hx
  exact ⟨_,by simp only [execOp,ho,show a.eval x=_ from h1];rfl,rfl⟩
 ·rename_i oh j hx
  obtain ⟨i,hi,h⟩:=bind_some h
  subst hi
  refine ⟨_,h,fun C G ρ w a hM hop=> ?_⟩
  have h1:=one_cell (hop x (by simp [ho,Op.operands])) hx
  obtain ⟨b,hb,e⟩:=h1
  exact ⟨_,by simp only [execOp,ho,e];rfl,b,hb,rfl⟩
 ·cases h
theorem TP {t:TypeId} {x:Operand} {f:Nat} (ho:o.op= .fieldAddr t x f) (h:cK X o S M k=some r):∃ s,k s=some r∧gG X.P o S M s:=by
 unfold cK at h
 rw [ho] at h
 simp only at h
 split at h
 ·rename_i fs c ht hx
  split at h
  ·rename_i fd hf
   split at h
   ·rename_i hok
    simp only [Zv,ZE] at hok
    obtain ⟨d,i,hd,hi⟩:=iq hok.1
    split at h
    ·rename_i c' hc
     refine ⟨_,h,fun C G ρ w a hM hop=> ?_⟩
     have h1:=one_cell (hop x (by simp [ho,Op.operands])) hx
     obtain ⟨b,off,e,hc'⟩:=PR hc h1
     have hadd:(⟨b,off,none⟩:Addr).add fd.offset=⟨b,off+fd.offset,none⟩:=by unfold Addr.add;split<;>simp_all
     have hz:bO X.P fd.type≠0:=fun e0=>by rw [e0] at hok;simp at hok
     refine ⟨_, ?_,hc'⟩
     simp only [execOp,ho,e,Instr.fieldAt,Sem.run_bind,run_underlying ht,Result.andThen_ok,hf,Instr.sureAddr,Sem.run_pure,fieldPlace,run_sizeOf hi,hz,abO,hadd]
    ·cases h
   ·cases h
  ·cases h
 ·cases h
theorem YP {t:TypeId} {x:Operand} (ho:o.op= .load t x) (h:cK X o S M k=some r):∃ s,k s=some r∧gG X.P o S M s:=by
 unfold cK at h
 rw [ho] at h
 simp only at h
 split at h
 ·rename_i bk off hx
  split at h
  ·rename_i l hl
   obtain ⟨s,hs,hld⟩:=Ag h
   refine ⟨s,hs,fun C G ρ w a hM hop=> ?_⟩
   have h1:=one_cell (hop x (by simp [ho,Op.operands])) hx
   obtain ⟨_,vs,T,hw,hv⟩:=hM.boxes bk l hl
   obtain ⟨v,hr,hsv⟩:=hld G ρ w (ρ.bx bk) 0 vs hv (fun j v hj=>by
    have hadd:(⟨ρ.bx bk,0,none⟩:Addr).add j=⟨ρ.bx bk,j,none⟩:=by unfold Addr.add;split<;>simp_all
    rw [hadd,cell_of_row w _ j _ T (0,0) hw];simpa using hj)
   refine ⟨v, ?_,hsv⟩
   simp only [abu] at hr
   simp only [execOp,ho,show a.eval x=_ from h1,Instr.loadAt,Instr.sureAddr,Sem.run_bind,Sem.run_pure,Result.andThen_ok,hr]
  ·cases h
 ·rename_i ty y off hx
  obtain ⟨s,hs,hld⟩:=Ag h
  refine ⟨s,hs,fun C G ρ w a hM hop=> ?_⟩
  have h1:=one_cell (hop x (by simp [ho,Op.operands])) hx
  obtain ⟨b,base,c,T,fz,e,hb,hsz,hl⟩:=h1
  obtain ⟨v,hr,hsv⟩:=hld G ρ w b base _ (fq ρ hl) (RN (hM.agr b _ hb) _)
  refine ⟨v, ?_,hsv⟩
  simp only [execOp,ho,e,Instr.loadAt,Instr.sureAddr,Sem.run_bind,Sem.run_pure,Result.andThen_ok,hr]
 ·rename_i j sz i off hx
  split at h
  ·rename_i q hq
   obtain ⟨y,hy,h⟩:=bind_some h
   split at h
   ·rename_i hcond
    simp only [Zv,ZE] at hcond
    obtain ⟨s,hs,hld⟩:=Ag h
    refine ⟨s,hs,fun C G ρ w a hM hop=> ?_⟩
    have h1:=one_cell (hop x (by simp [ho,Op.operands])) hx
    obtain ⟨b,len,cap,e1,e2⟩:=h1
    have hrow:=hM.rows j q hq
    unfold cm at hrow
    rw [if_neg (by simp [hcond.1])] at hrow
    obtain ⟨xs,⟨hlen,hn | ⟨g,cap',cur,hv,_,hg,hnc,hcm,hcs,htake⟩⟩,hl,hown⟩:=hrow
    ·have:q.l=[]:=aad hn.2
     rw [this] at hy;simp at hy
    ·rw [e1] at hv
     cases hv
     have hyr:=hl.get (fun x cs hr=>aH.len hr) hy
     have hsz:=aa8 hcond.2
     obtain ⟨v,hr,hsv⟩:=hld G ρ w b (i*sz) _ (fq ρ hyr) (fun n u hu=>by
      rw [aaq] at hu
      split at hu
      ·rw [aal, ← htake,aaq] at hu
       split at hu
       ·have hadd:(⟨b,i*sz,none⟩:Addr).add n=⟨b,i*sz+n,none⟩:=by unfold Addr.add;split<;>simp_all
        rw [hadd,cell_of_row w _ _ _ _ _ hg,hsz];simpa using hu
       ·cases hu
      ·cases hu)
     refine ⟨v, ?_,hsv⟩
     simp only [execOp,ho,e2,Instr.loadAt,Instr.sureAddr,Sem.run_bind,Sem.run_pure,Result.andThen_ok,hr]
   ·cases h
  ·cases h
 ·rename_i i off hx
  split at h
  ·rename_i fz ty l hl
   obtain ⟨y,hy,h⟩:=bind_some h
   obtain ⟨s,hs,hld⟩:=Ag h
   refine ⟨s,hs,fun C G ρ w a hM hop=> ?_⟩
   have h1:=one_cell (hop x (by simp [ho,Op.operands])) hx
   obtain ⟨b,hb,e⟩:=h1
   obtain ⟨b',vs,T,hb',_,_,hw,hrep⟩:=(hM.objs bw _ hl).2.2.2 i y hy
   rw [hb] at hb'
   cases hb'
   obtain ⟨v,hr,hsv⟩:=hld G ρ w b 0 vs (fq ρ hrep) (fun j v hj=>by
    have hadd:(⟨b,0,none⟩:Addr).add j=⟨b,j,none⟩:=by unfold Addr.add;split<;>simp_all
    rw [hadd,cell_of_row w _ j _ T (0,0) hw];simpa using hj)
   refine ⟨v, ?_,hsv⟩
   simp only [abu] at hr
   simp only [execOp,ho,e,Instr.loadAt,Instr.sureAddr,Sem.run_bind,Sem.run_pure,Result.andThen_ok,hr]
  ·cases h
 ·cases h
theorem NS {ik:IntKind}:∀ {cs:List CV} {l:List Int} {i:Nat} {m:Int},JJ ik cs=some l→l[i]? =some m→cs[i]? =some (.int ik m)
 | [],l,i,m,h,hg=>by simp only [JJ,Option.some.injEq] at h;subst h;simp at hg
 | c::cs,l,i,m,h,hg=>by
  cases c<;>simp only [JJ] at h<;>try cases h
  split at h
  ·rename_i k n hk
   subst hk
   split at h
   ·rename_i l' hl'
    cases h
    cases i with
    | zero=>simp at hg;subst hg;rfl
    | succ i=>simp at hg ⊢;exact NS hl' hg
   ·cases h
  ·cases h
theorem TQ {t:TypeId} {x ix:Operand} (ho:o.op= .indexAddr t x ix) (h:cK X o S M k=some r):∃ s,k s=some r∧gG X.P o S M s:=by
 unfold cK at h
 rw [ho] at h
 simp only at h
 split at h
 ·rename_i e ty l ik i ht hx hix
  split at h
  ·rename_i hok
   simp only [Zv] at hok
   obtain ⟨y,hy,h⟩:=bind_some h
   obtain ⟨h0,h1,hget⟩:=MC hy
   refine ⟨_,h,fun C G ρ w a hM hop=> ?_⟩
   have hv1:=one_cell (hop x (by simp [ho,Op.operands])) hx
   have hv2:=one_cell (hop ix (by simp [ho,Op.operands])) hix
   obtain ⟨b,off,c,T,fz,cap,ev,hb,hs,hrep⟩:=eP.at hv1 hget
   have hsz:=aa8 hok.2
   refine ⟨_, ?_,b,off+i.toNat*ty.size,c,T,fz,rfl,hb,hs,hrep⟩
   simp only [execOp,ho,ev,show a.eval ix= .int ik i from hv2,Sem.run_bind,run_indexAt_slice ht hok.1 h0 h1,Result.andThen_ok,Sem.run_pure,hsz,aa5]
  ·cases h
 ·rename_i e j ik i ht hx hix
  split at h
  ·rename_i q hq
   split at h
   ·rename_i hok
    simp only [Zv] at hok
    have hsz:=aa8 hok.2
    split at h
    ·rename_i hfz
     obtain ⟨y,hy,h⟩:=bind_some h
     obtain ⟨h0,h1,hget⟩:=MC hy
     refine ⟨_,h,fun C G ρ w a hM hop=> ?_⟩
     have hv1:=one_cell (hop x (by simp [ho,Op.operands])) hx
     have hv2:=one_cell (hop ix (by simp [ho,Op.operands])) hix
     have hrow:=hM.frozen j q hq hfz
     obtain ⟨b,off,c,T,fz,cap,ev,hb,hs,hrep⟩:=eP.at hrow hget
     refine ⟨_, ?_,b,off+i.toNat*q.t.size,c,T,fz,rfl,hb,hs,hrep⟩
     simp only [execOp,ho,show a.eval x=ρ.rw j from hv1.1,ev,show a.eval ix= .int ik i from hv2,Sem.run_bind,run_indexAt_slice ht hok.1 h0 h1,Result.andThen_ok,Sem.run_pure,hsz,aa5]
    ·rename_i hfz
     obtain ⟨hc,h⟩:=ki h
     simp only [Zv,abJ] at hc
     refine ⟨_,h,fun C G ρ w a hM hop=> ?_⟩
     have hv1:=one_cell (hop x (by simp [ho,Op.operands])) hx
     have hv2:=one_cell (hop ix (by simp [ho,Op.operands])) hix
     have hrow:=hM.rows j q hq
     unfold cm at hrow
     rw [if_neg hfz] at hrow
     obtain ⟨xs,⟨hlen,hn | ⟨g,cap',cur,hv,_,hg,_⟩⟩,hl,hown⟩:=hrow
     ·omega
     ·refine ⟨_, ?_,g,q.l.length,cap',hv,rfl⟩
      simp only [execOp,ho,show a.eval x=ρ.rw j from hv1.1,hv,show a.eval ix= .int ik i from hv2,Sem.run_bind,run_indexAt_slice ht hok.1 hc.1 hc.2,Result.andThen_ok,Sem.run_pure,hsz,abu,aa5]
   ·cases h
  ·cases h
 ·rename_i n e c ik i ht hx hix
  split at h
  ·rename_i hok
   obtain ⟨m,rfl,hlt,h⟩:=Of h
   rw [abu] at hlt
   split at h
   ·rename_i c' hc
    refine ⟨_,h,fun C G ρ w a hM hop=> ?_⟩
    have h1:=one_cell (hop x (by simp [ho,Op.operands])) hx
    have hv2:=one_cell (hop ix (by simp [ho,Op.operands])) hix
    obtain ⟨b,off,e1,hc'⟩:=PR hc h1
    obtain ⟨d,j,hd,hj⟩:=iq hok
    have hadd:(⟨b,off,none⟩:Addr).add (m*bO X.P e)=⟨b,off+m*bO X.P e,none⟩:=by unfold Addr.add;split<;>simp_all
    refine ⟨_, ?_,hc'⟩
    have h0:(0:Int)≤(m:Int)∧(m:Int)<(n:Int):=⟨ZS m,Int.ofNat_lt.2 hlt⟩
    simp only [execOp,ho,e1,show a.eval ix= .int ik (m:Int) from hv2,Instr.indexAt,asIntOf,Instr.sureAddr,Sem.run_bind,Sem.run_pure,run_underlying ht,Result.andThen_ok,if_pos h0,run_sizeOf hj,show ((m:Int)).toNat=m from rfl,hadd]
   ·cases h
  ·cases h
 ·cases h
theorem Ym {t:TypeId} {x ix:Operand} (ho:o.op= .index t x ix) (h:cK X o S M k=some r):∃ s,k s=some r∧gG X.P o S M s:=by
 unfold cK at h
 rw [ho] at h
 simp only at h
 split at h
 ·rename_i s ik i ht hx hix
  obtain ⟨b,hb,h⟩:=bind_some h
  refine ⟨_,h,fun C G ρ w a hM hop=> ?_⟩
  have hv1:=one_cell (hop x (by simp [ho,Op.operands])) hx
  have hv2:=one_cell (hop ix (by simp [ho,Op.operands])) hix
  unfold sG at hb
  split at hb
  ·rename_i h0
   refine ⟨.int .u8 b.toNat, ?_,rfl⟩
   have hb':(bs s)[i.toNat]? =some b:=by
    obtain ⟨hlt,he⟩:=List.getElem?_eq_some_iff.1 hb
    rw [getElem?_pos (bs s) i.toNat (by rw [Ff];exact hlt)]
    simp only [bs,Option.some.injEq]
    rw [← he];rfl
   simp only [execOp,ho,show a.eval x= .string (bs s) from hv1,show a.eval ix= .int ik i from hv2,Instr.index,asIntOf,Sem.run_bind,Sem.run_pure,Result.andThen_ok,run_underlying ht,h0,abP,hb']
  ·cases hb
 ·rename_i n e cs ik i ht hx hix
  split at h
  ·rename_i ek he
   split at h
   ·rename_i l hl
    split at h
    ·rename_i hc
     simp only [Zv,ZE] at hc
     obtain ⟨⟨⟨c1,c2⟩,c3⟩,c4⟩:=hc
     obtain ⟨d,j,hd,hj⟩:=iq c1
     have hsz:=aa8 c2
     have hln:=aa8 c4
     obtain ⟨m,hm,h⟩:=bind_some h
     obtain ⟨h0,h1,hget⟩:=MC hm
     refine ⟨_,h,fun C G ρ w a hM hop=> ?_⟩
     have hv:=hop x (by simp [ho,Op.operands])
     rw [hx] at hv
     obtain ⟨vs,ev,hall⟩:=hv
     have hv2:=one_cell (hop ix (by simp [ho,Op.operands])) hix
     have hcell:=NS hl hget
     obtain ⟨v,hv3,hv4⟩:=hall.get hcell
     refine ⟨v, ?_,hv4⟩
     have hb:0≤i∧i<(n:Int):=⟨h0,by rw [← hln];exact h1⟩
     simp only [execOp,ho,ev,show a.eval ix= .int ik i from hv2,Instr.index,asIntOf,Sem.run_bind,Sem.run_pure,Result.andThen_ok,run_underlying ht,if_pos hb,run_sizeOf hj,hsz,abn,part,o7 hd,c3,Zz,abO]
     simp [hv3]
    ·cases h
   ·cases h
  ·cases h
 ·cases h
theorem WB {x:Operand} {i:Nat} (ho:o.op= .extract x i) (h:cK X o S M k=some r):∃ s,k s=some r∧gG X.P o S M s:=by
 unfold cK at h
 rw [ho] at h
 simp only at h
 split at h
 ·rename_i l hx
  split at h
  ·rename_i p hp
   refine ⟨_,h,fun C G ρ w a hM hop=> ?_⟩
   have hv1:=hop x (by simp [ho,Op.operands])
   rw [hx] at hv1
   obtain ⟨vs,e,hl⟩:=hv1
   obtain ⟨v,hv,hsv⟩:=hl.get hp
   refine ⟨v, ?_,hsv⟩
   simp [execOp,ho,e,Instr.extract,hv]
  ·cases h
 ·cases h
end
end Go.Dn
namespace Go.Dn
variable {P:Program} {G:Gh} {w:World}
theorem VK (a b:List UInt8):(bs a==bs b)=(a==b):=by
 have h:(bs a==bs b)=((bs a).data==(bs b).data):=rfl
 rw [h]
 simp [bs]
theorem Af {t:TypeId} {k:Ty} (h:fW P t k=true) (hn:∀ s,k≠ .st s):bI P t k=true:=by
 cases k with
 | st s=>exact absurd rfl (hn s)
 | _=>exact h
theorem EV {t:TypeId} {k:Ty} (h:bI P t k=true) (d:Nat) (a b:k.den):∃ c1 c2,unpack k a=[c1]∧unpack k b=[c2]∧tM P (d+1) t (.v false [c1]) (.v false [c2])=some (k.beq a b)∧HC k a= .v false [c1]∧HC k b= .v false [c2]:=by
 cases k with
 | int kk=>
  simp only [bI] at h
  split at h
  ·rename_i hu
   exact ⟨_,_,rfl,rfl,by simp [tM,hu,Ty.beq,CC],rfl,rfl⟩
  ·cases h
 | bool=>
  simp only [bI] at h
  split at h
  ·rename_i hu
   exact ⟨_,_,rfl,rfl,by simp [tM,hu,Ty.beq,UH],rfl,rfl⟩
  ·cases h
 | str=>
  simp only [bI] at h
  split at h
  ·rename_i hu
   exact ⟨_,_,rfl,rfl,by simp [tM,hu,Ty.beq,YU],rfl,rfl⟩
  ·cases h
 | _=>simp [bI] at h
theorem uK {t:TypeId} {k:Ty} (h:bI P t k=true):okT P t=true∧qd P t=false∧k.size=1:=by
 cases k with
 | int kk=>
  simp only [bI] at h
  split at h
  ·rename_i hu;exact ⟨by simp [okT,hu],by simp [qd,hu],rfl⟩
  ·cases h
 | bool=>
  simp only [bI] at h
  split at h
  ·rename_i hu;exact ⟨by simp [okT,hu],by simp [qd,hu],rfl⟩
  ·cases h
 | str=>
  simp only [bI] at h
  split at h
  ·rename_i hu;exact ⟨by simp [okT,hu],by simp [qd,hu],rfl⟩
  ·cases h
 | _=>simp [bI] at h
theorem GX {T:TypeId} (hok:okT P T=true) (hag:qd P T=false) (hsz:bO P T=1) {l:List CV} {n:Nat} {c:CV} {r:List CV} (h:l.drop n=c::r):lE P T l n some=some (.v false [c]):=by
 have:(l.drop n).take 1=[c]:=by rw [h];rfl
 simp [lE,hok,KE,hsz,this,hag]
theorem P6 {l:List CV} {n:Nat} {c:CV} {r:List CV} (h:l.drop n=c::r):l.drop (n+1)=r:=by
 have:l.drop (n+1)=(l.drop n).drop 1:=by rw [Z7]
 rw [this,h];rfl
theorem P8 {d:Nat} {xs ys:List CV}:∀ {fs:List Field} {n:Nat} {t:Ty} {a b:t.den},bV P fs n t=true→xs.drop n=unpack t a→ys.drop n=unpack t b→Jp P (tM P (d+1)) xs ys fs=some (t.beq a b)
 | [],n,t,a,b,h,_,_=>by simp [bV] at h
 | [f],n,t,a,b,h,hx,hy=>by
  simp only [bV,Zv,abJ] at h
  obtain ⟨⟨⟨h1,h2⟩,h3⟩,h4⟩:=h
  have e2:=aa8 h2
  have e3:=aa8 h3
  obtain ⟨k1,k2,k3⟩:=uK h4
  obtain ⟨c1,c2,u1,u2,he,_,_⟩:=EV h4 d a b
  simp only [Jp,if_neg h1,e2]
  rw [GX k1 k2 e3 (hx.trans u1),GX k1 k2 e3 (hy.trans u2)]
  simp only [he,Zx]
 | f::g::r,n,t,a,b,h,hx,hy=>by
  cases t with
  | pair s t=>
   simp only [bV,Zv,abJ] at h
   obtain ⟨⟨⟨⟨h1,h2⟩,h3⟩,h4⟩,h5⟩:=h
   have e2:=aa8 h2
   have e3:=aa8 h3
   obtain ⟨k1,k2,k3⟩:=uK h4
   obtain ⟨c1,c2,u1,u2,he,_,_⟩:=EV h4 d a.1 b.1
   simp only [unpack,u1,u2,List.singleton_append] at hx hy
   have ih:=P8 (d:=d) h5 (P6 hx) (P6 hy)
   rw [Jp,if_neg h1,e2]
   rw [GX k1 k2 e3 hx,GX k1 k2 e3 hy]
   simp only [he,ih,Ty.beq]
  | _=>simp [bV] at h
theorem Xe {t:TypeId} {k:Ty} (h:fW P t k=true) (a b:k.den):tM P 9 t (HC k a) (HC k b)=some (k.beq a b):=by
 cases k with
 | st s=>
  simp only [fW] at h
  split at h
  ·rename_i fs hu
   simp only [Zv,ZE] at h
   simp only [HC,tM,hu,h.1,Zz,abO]
   exact P8 (t:=s) (a:=a) (b:=b) (d:=7) (n:=0) h.2 (by simp) (by simp)
  ·cases h
 | _=>
  obtain ⟨c1,c2,u1,u2,he,e1,e2⟩:=EV (P:=P) (t:=t) (Af h (by intro s e;cases e)) 8 a b
  rw [e1,e2]
  exact he
theorem Qf {t:TypeId} {k:Ty} (h:fW P t k=true) {a b:k.den} {va vb:Value} (ha:cr G k a va) (hb:cr G k b vb) (w:World):(Op.equal t va vb).run P w= .ok (k.beq a b) w:=by
 let ρ:Env:=⟨fun _=>0,fun _=> .nilFunc,fun _=>none,fun _=> .nilFunc,fun _ _=>0⟩
 exact OW (Xe h a b) Op.maxDepth (by decide) G ρ w va vb (Ge ρ ha) (Ge ρ hb)
theorem Wd {t:TypeId} {k:Ty} (h:fW P t k=true) {a b:k.den} (e:k.beq a b=true):a=b:=by
 have sc:∀ {t:TypeId} {k:Ty},bI P t k=true→∀ {a b:k.den},k.beq a b=true→a=b:=by
  intro t k h a b e
  cases k with
  | int kk=>exact eq_of_beq (α:=Int) (a:=a) (b:=b) e
  | bool=>exact eq_of_beq (α:=Bool) (a:=a) (b:=b) e
  | str=>exact eq_of_beq (α:=List UInt8) (a:=a) (b:=b) e
  | _=>simp [bI] at h
 have fc:∀ (fs:List Field) (n:Nat) (t:Ty) (a b:t.den),bV P fs n t=true→t.beq a b=true→a=b:=by
  intro fs
  induction fs with
  | nil=>intro n t a b h;simp [bV] at h
  | cons f r ih=>
   intro n t a b h e
   cases r with
   | nil=>
    simp only [bV,Zv] at h
    exact sc h.2 e
   | cons g r=>
    cases t with
    | pair s t=>
     simp only [bV,Zv] at h
     simp only [Ty.beq,Zv] at e
     exact Prod.ext (sc h.1.2 (a:=a.1) (b:=b.1) e.1) (ih (n+1) t a.2 b.2 h.2 e.2)
    | _=>simp [bV] at h
 cases k with
 | st s=>
  simp only [fW] at h
  split at h
  ·rename_i fs hu
   simp only [Zv] at h
   exact fc fs.toList 0 s a b h.2 e
  ·cases h
 | _=>exact sc (t:=t) (a:=a) (b:=b) (Af h (by intro s e;cases e)) e
theorem TV {t:TypeId} {k:Ty} (h:fW P t k=true) {a:k.den} {va vb:Value} (ha:cr G k a va) (hb:cr G k a vb):va=vb:=by
 have sc:∀ {t:TypeId} {k:Ty},bI P t k=true→∀ {a:k.den} {u v:List Value},aH G k a u→aH G k a v→u=v:=by
  intro t k h a u v hu hv
  cases k with
  | int kk=>exact hu.trans hv.symm
  | bool=>exact hu.trans hv.symm
  | str=>exact hu.trans hv.symm
  | _=>simp [bI] at h
 have fc:∀ (fs:List Field) (n:Nat) (t:Ty) (a:t.den) (u v:List Value),bV P fs n t=true→aH G t a u→aH G t a v→u=v:=by
  intro fs
  induction fs with
  | nil=>intro n t a u v h;simp [bV] at h
  | cons f r ih=>
   intro n t a u v h hu hv
   cases r with
   | nil=>
    simp only [bV,Zv] at h
    exact sc h.2 hu hv
   | cons g r=>
    cases t with
    | pair s t=>
     simp only [bV,Zv] at h
     obtain ⟨c1,r1,e1,p1,q1⟩:=hu
     obtain ⟨c2,r2,e2,p2,q2⟩:=hv
     rw [e1,e2,sc h.1.2 p1 p2,ih (n+1) t a.2 r1 r2 h.2 q1 q2]
    | _=>simp [bV] at h
 cases k with
 | st s=>
  simp only [fW] at h
  split at h
  ·rename_i fs hu
   simp only [Zv] at h
   obtain ⟨us,e1,h1⟩:=ha
   obtain ⟨vs,e2,h2⟩:=hb
   rw [e1,e2,fc fs.toList 0 s a us vs h.2 h1 h2]
  ·cases h
 | _=>
  have:=sc (t:=t) (a:=a) (Af h (by intro s e;cases e)) ha hb
  simpa using this
theorem sameBits_self {t:TypeId} {k:Ty} (h:fW P t k=true) {a:k.den} {v:Value} (hv:cr G k a v):Instr.sameBits 10000 v v=true:=by
 have sc:∀ {t:TypeId} {k:Ty},bI P t k=true→∀ {a:k.den} {cs:List Value},aH G k a cs→∀ n u,u∈cs→Instr.sameBits n u u=true:=by
  intro t k h a cs hc n u hu
  cases k with
  | int kk=>
   have e:cs=[_]:=hc
   rw [e] at hu
   rcases aaP.1 hu with rfl
   exact (fun x:Int=>by cases n<;>simp [Instr.sameBits]:∀ x:Int,Instr.sameBits n (.int kk x) (.int kk x)=true) a
  | bool=>
   have e:cs=[_]:=hc
   rw [e] at hu
   rcases aaP.1 hu with rfl
   exact (fun x:Bool=>by cases n<;>simp [Instr.sameBits]:∀ x:Bool,Instr.sameBits n (.bool x) (.bool x)=true) a
  | str=>
   have e:cs=[_]:=hc
   rw [e] at hu
   rcases aaP.1 hu with rfl
   exact (fun x:List UInt8=>by cases n<;>simp [Instr.sameBits,VK]:∀ x:List UInt8,Instr.sameBits n (.string (bs x)) (.string (bs x))=true) a
  | _=>simp [bI] at h
 have fc:∀ (fs:List Field) (n:Nat) (t:Ty) (a:t.den) (cs:List Value),bV P fs n t=true→aH G t a cs→∀ m u,u∈cs→Instr.sameBits m u u=true:=by
  intro fs
  induction fs with
  | nil=>intro n t a cs h;simp [bV] at h
  | cons f r ih=>
   intro n t a cs h hc m u hu
   cases r with
   | nil=>
    simp only [bV,Zv] at h
    exact sc h.2 hc m u hu
   | cons g r=>
    cases t with
    | pair s t=>
     simp only [bV,Zv] at h
     obtain ⟨c1,r1,e1,p1,q1⟩:=hc
     rw [e1,aaE] at hu
     rcases hu with hu | hu
     ·exact sc h.1.2 p1 m u hu
     ·exact ih (n+1) t a.2 r1 h.2 q1 m u hu
    | _=>simp [bV] at h
 cases k with
 | st s=>
  simp only [fW] at h
  split at h
  ·rename_i fs hu
   simp only [Zv] at h
   obtain ⟨us,e1,h1⟩:=hv
   rw [e1]
   have key:=fc fs.toList 0 s a us h.2 h1
   have:∀ (l:List Value),(∀ u,u∈l→Instr.sameBits 9999 u u=true)→((l.zip l).all fun p=>Instr.sameBits 9999 p.1 p.2)=true:=by
    intro l hl
    induction l with
    | nil=>rfl
    | cons x l ih=>simp only [List.zip_cons_cons,ZZ,Zv];exact ⟨hl x (by simp),ih fun u hu=>hl u (by simp [hu])⟩
   show Instr.sameBits (9999+1) _ _=true
   simp only [Instr.sameBits,abE,ZI]
   exact this us fun u hu=>key 9999 u hu
  ·cases h
 | _=>exact sc (t:=t) (a:=a) (Af h (by intro s e;cases e)) hv 10000 v (by simp)
inductive Bl {k v:Ty} (a:k.den) (l:List (k.den×v.den)) (es:List MapEntry):Option (Nat×Value)→Prop
 | no (h:∀ p,p∈l→k.beq a p.1=false):Bl a l es none
 | yes (i:Nat) (p:k.den×v.den) (e:MapEntry) (hp:l[i]? =some p) (he:es[i]? =some e) (hb:k.beq a p.1=true) (hn:∀ j q,j<i→l[j]? =some q→k.beq a q.1=false):Bl a l es (some (i,e.val))
theorem H9 {t:TypeId} {k v:Ty} (h:fW P t k=true) {a:k.den} {va:Value} (ha:cr G k a va):∀ {l:List (k.den×v.den)} {es:List MapEntry} (n:Nat),aK (AH G k v) l es→
 ∃ r,(Instr.findAsking t va es n).run P w= .ok (r.map fun p:Nat×Value=>(n+p.1,p.2)) w∧Bl a l es r
 | [],es,n,he=>by cases he;exact ⟨none,rfl,.no (by simp)⟩
 | p::l,_,n,⟨e,es,ee,hp,hl⟩=>by
  subst ee
  obtain ⟨r,hr,hf⟩:=H9 h ha (n+1) hl
  cases hb:k.beq a p.1 with
  | true=>
   refine ⟨some (0,e.val), ?_,.yes 0 p e rfl rfl hb (fun j q hj=>by omega)⟩
   simp [Instr.findAsking,Qf h ha hp.1 w,hb]
  | false=>
   refine ⟨r.map fun q=>(q.1+1,q.2), ?_, ?_⟩
   ·simp only [Instr.findAsking,Sem.run_bind,Qf h ha hp.1 w,hb,Result.andThen_ok,Zz,abO,hr,abA]
    congr 1
    cases r<;>simp;omega
   ·cases hf with
    | no hn=>
     refine .no fun q hq=> ?_
     rcases aaH.1 hq with rfl | hq
     ·exact hb
     ·exact hn q hq
    | yes i q e' h1 h2 h3 h4=>
     refine .yes (i+1) q e' (by simpa using h1) (by simpa using h2) h3 (fun j q' hj hq=> ?_)
     cases j with
     | zero=>simp only [aak,Option.some.injEq] at hq;subst hq;exact hb
     | succ j=>exact h4 j q' (by omega) (by simpa using hq)
theorem ND {t:TypeId} {k v:Ty} (h:bI P t k=true) {dsc:TypeDesc} (hd:P.underlying t=some dsc) {a:k.den} {va:Value} (ha:cr G k a va):∀ {l:List (k.den×v.den)} {es:List MapEntry} (n:Nat),aK (AH G k v) l es→
 ∃ r,Instr.findNow dsc va es n=some (r.map fun p:Nat×Value=>(n+p.1,p.2))∧Bl a l es r
 | [],es,n,he=>by cases he;exact ⟨none,rfl,.no (by simp)⟩
 | p::l,_,n,⟨e,es,ee,hp,hl⟩=>by
  subst ee
  obtain ⟨r,hr,hf⟩:=ND h hd ha (n+1) hl
  have hs:Instr.sameNow dsc va e.key=some (k.beq a p.1):=by
   obtain ⟨p1,p2⟩:=p
   have hp1:=hp.1
   dsimp only at hp1 ⊢
   cases k with
   | int kk=>
    have e1:va= .int kk a:=by simpa [cr,aH] using ha
    have e2:e.key= .int kk p1:=by simpa [cr,aH] using hp1
    simp only [bI,hd] at h
    cases dsc<;>simp at h
    rw [e1,e2];exact (fun x y:Int=>by simp [Instr.sameNow,CC]:∀ x y:Int,Instr.sameNow (.int _) (.int kk x) (.int kk y)=some (CC x y)) a p1
   | bool=>
    have e1:va= .bool a:=by simpa [cr,aH] using ha
    have e2:e.key= .bool p1:=by simpa [cr,aH] using hp1
    simp only [bI,hd] at h
    cases dsc<;>simp at h
    rw [e1,e2];exact (fun x y:Bool=>by simp [Instr.sameNow,UH]:∀ x y:Bool,Instr.sameNow .bool (.bool x) (.bool y)=some (UH x y)) a p1
   | str=>
    have e1:va= .string (bs a):=by simpa [cr,aH] using ha
    have e2:e.key= .string (bs p1):=by simpa [cr,aH] using hp1
    simp only [bI,hd] at h
    cases dsc<;>simp at h
    rw [e1,e2]
    exact congrArg some (VK a p1)
   | _=>simp [bI] at h
  cases hb:k.beq a p.1 with
  | true=>
   refine ⟨some (0,e.val), ?_,.yes 0 p e rfl rfl hb (fun j q hj=>by omega)⟩
   simp [Instr.findNow,hs,hb]
  | false=>
   refine ⟨r.map fun q=>(q.1+1,q.2), ?_, ?_⟩
   ·simp only [Instr.findNow,hs,hb,hr,abA]
    congr 1
    cases r<;>simp;omega
   ·cases hf with
    | no hn=>
     refine .no fun q hq=> ?_
     rcases aaH.1 hq with rfl | hq
     ·exact hb
     ·exact hn q hq
    | yes i q e' h1 h2 h3 h4=>
     refine .yes (i+1) q e' (by simpa using h1) (by simpa using h2) h3 (fun j q' hj hq=> ?_)
     cases j with
     | zero=>simp only [aak,Option.some.injEq] at hq;subst hq;exact hb
     | succ j=>exact h4 j q' (by omega) (by simpa using hq)
theorem NC {t:TypeId} {k v:Ty} (h:fW P t k=true) {a:k.den} {va:Value} (ha:cr G k a va) {l:List (k.den×v.den)} {es:List MapEntry} (he:aK (AH G k v) l es):
 ∃ r,(Instr.findKey t va es).run P w= .ok r w∧Bl a l es r:=by
 by_cases hst:∃ s,k= .st s
 ·obtain ⟨s,rfl⟩:=hst
  have h0:=h
  simp only [fW] at h
  split at h
  ·rename_i fs hu
   obtain ⟨us,eu,_⟩:=ha
   have ha':cr G (.st s) a va:=⟨us,eu,by assumption⟩
   obtain ⟨r,hr,hf⟩:=H9 (w:=w) h0 ha' 0 he
   have hid:(r.map fun p:Nat×Value=>(0+p.1,p.2))=r:=by cases r<;>simp
   rw [hid] at hr
   cases es with
   | nil=>
    refine ⟨none,by simp [Instr.findKey,run_underlying hu,Instr.findNow], ?_⟩
    have:l=[]:=by
     cases l with
     | nil=>rfl
     | cons p l=>obtain ⟨y,s',e,_⟩:=he;cases e
    subst this
    exact .no (by simp)
   | cons e es=>
    refine ⟨r, ?_,hf⟩
    have hn:Instr.findNow (.struct fs) va (e::es) 0=none:=by simp [Instr.findNow,Instr.sameNow]
    simp only [Instr.findKey,Sem.run_bind,run_underlying hu,Result.andThen_ok,hn,hr]
  ·cases h
 ·have hs:bI P t k=true:=by
   cases k with
   | st s=>exact absurd ⟨s,rfl⟩ hst
   | _=>exact h
  obtain ⟨d,i,hd,_⟩:=iq (uK hs).1
  obtain ⟨r,hr,hf⟩:=ND hs hd ha 0 he
  have hid:(r.map fun p:Nat×Value=>(0+p.1,p.2))=r:=by cases r<;>simp
  rw [hid] at hr
  exact ⟨r,by simp [Instr.findKey,run_underlying hd,hr],hf⟩
theorem Bl.get {k v:Ty} {a:k.den} {l:List (k.den×v.den)} {es:List MapEntry} {r:Option (Nat×Value)} (h:Bl a l es r):match r with
 | none=>ot l a=none
 | some (i,u)=>∃ p e,l[i]? =some p∧es[i]? =some e∧u=e.val∧ot l a=some p.2:=by
 cases h with
 | no hn=>
  simp only [ot]
  have:l.find? (fun p=>k.beq a p.1)=none:=by
   rw [List.find?_eq_none];intro p hp;simp [hn p hp]
  rw [this]
 | yes i p e h1 h2 h3 h4=>
  refine ⟨p,e,h1,h2,rfl, ?_⟩
  have:l.find? (fun p=>k.beq a p.1)=some p:=by
   rw [List.find?_eq_some_iff_getElem]
   obtain ⟨hlt,hp⟩:=List.getElem?_eq_some_iff.1 h1
   exact ⟨h3,i,hlt,hp,fun j hj=>by simp [h4 j l[j] hj (List.getElem?_eq_getElem (by omega))]⟩
  simp [ot,this]
theorem Bl.set {k v:Ty} {a:k.den} (y:v.den) {l:List (k.den×v.den)} {es:List MapEntry} {r:Option (Nat×Value)} (h:Bl a l es r):match r with
 | none=>yK l a y=l++[(a,y)]
 | some (i,_)=>yK l a y=l.set i (a,y):=by
 cases h with
 | no hn=>
  simp only
  clear es
  induction l with
  | nil=>rfl
  | cons p l ih=>
   simp only [yK,hn p (by simp),cond_false,Z4]
   rw [ih fun q hq=>hn q (by simp [hq])]
 | yes i p e h1 h2 h3 h4=>
  simp only
  clear h2
  induction l generalizing i with
  | nil=>simp at h1
  | cons q l ih=>
   cases i with
   | zero=>
    simp only [aak,Option.some.injEq] at h1
    subst h1
    simp [yK,h3]
   | succ i=>
    have hq:=h4 0 q (by omega) rfl
    simp only [yK,hq,cond_false,List.set_cons_succ]
    rw [ih i (by simpa using h1) (fun j q' hj hq'=>h4 (j+1) q' (by omega) (by simpa using hq'))]
theorem DE {b:Bool} {t:TypeId} {k:Ty} (h:bI P t k=true) {u:Value} (n:Nat):(Instr.checkKey b (n+1) t u).run P w= .ok () w:=by
 cases k with
 | int kk=>
  simp only [bI] at h
  split at h
  ·rename_i hu;simp [Instr.checkKey,run_underlying hu]
  ·cases h
 | bool=>
  simp only [bI] at h
  split at h
  ·rename_i hu;simp [Instr.checkKey,run_underlying hu]
  ·cases h
 | str=>
  simp only [bI] at h
  split at h
  ·rename_i hu;simp [Instr.checkKey,run_underlying hu]
  ·cases h
 | _=>simp [bI] at h
def Na (b:Bool) (n:Nat) (us:List Value) (f:Field) (_:PUnit):Sem (ForInStep PUnit):=
 if f.name≠ "_" then do
  let x ← part f.type us.toArray f.offset
  Instr.checkKey b (n+1) f.type x
  pure (ForInStep.yield PUnit.unit)
 else pure (ForInStep.yield PUnit.unit)
theorem VO {b:Bool} {n m:Nat} {us pre c1 rest:List Value} {f:Field} {t1:Ty} {x1:t1.den} (q1:f.name≠ "_") (q2:f.offset=m) (q4:bI P f.type t1=true) (q5:aH G t1 x1 c1) (hpre:pre.length=m) (q6:us=pre++(c1++rest)):
 (Na b n us f PUnit.unit).run P w= .ok (.yield PUnit.unit) w:=by
 obtain ⟨k1,k2,k3⟩:=uK q4
 obtain ⟨d,i,hd,_⟩:=iq k1
 have hl1:c1.length=1:=by rw [q5.len,k3]
 obtain ⟨u,rfl⟩:∃ u,c1=[u]:=by
  match c1,hl1 with
  | [u],_=>exact ⟨u,rfl⟩
 have hget:us[m]? =some u:=by rw [q6,aai (by omega),hpre];simp
 have hp:(part f.type us.toArray f.offset).run P w= .ok u w:=by
  simp [part,o7 hd,k2,q2,hget]
 simp only [Na,if_pos q1,Sem.run_bind,hp,Result.andThen_ok,DE q4 n,Sem.run_pure]
theorem VN {b:Bool} {n:Nat} {us:List Value}:∀ (l:List Field) (m:Nat) (t:Ty) (x:t.den) (pre c:List Value),bV P l m t=true→us=pre++c→pre.length=m→aH G t x c→
 (forIn l PUnit.unit (Na b n us)).run P w= .ok PUnit.unit w
 | [],m,t,x,pre,c,h,_,_,_=>by simp [bV] at h
 | [f],m,t,x,pre,c,h,hus,hpre,hc=>by
  simp only [bV,Zv,abJ] at h
  have:=VO (P:=P) (w:=w) (b:=b) (n:=n) (rest:=[]) h.1.1.1 (aa8 h.1.1.2) h.2 hc hpre (by simpa using hus)
  rw [List.forIn_cons,Sem.run_bind,this]
  rfl
 | f::g::r,m,t,x,pre,c,h,hus,hpre,hc=>by
  cases t with
  | pair s t=>
   simp only [bV,Zv,abJ] at h
   obtain ⟨c1,r1,e1,p1,q1⟩:=hc
   obtain ⟨⟨⟨⟨f1,f2⟩,f3⟩,f4⟩,f5⟩:=h
   have o1:=VO (P:=P) (w:=w) (b:=b) (n:=n) (us:=us) (rest:=r1) f1 (aa8 f2) f4 p1 hpre (by rw [hus,e1])
   have hl1:c1.length=1:=by rw [p1.len,(uK f4).2.2]
   have o2:=VN (b:=b) (n:=n) (us:=us) (g::r) (m+1) t x.2 (pre++c1) r1 f5 (by rw [hus,e1];simp) (by simp;omega) q1
   rw [List.forIn_cons,Sem.run_bind,o1]
   exact o2
  | _=>simp [bV] at h
theorem RO {t:TypeId} {k:Ty} (h:fW P t k=true) {a:k.den} {v:Value} (hv:cr G k a v) (b:Bool) (n:Nat):(Instr.checkKey b (n+1+1) t v).run P w= .ok () w:=by
 cases k with
 | st s=>
  simp only [fW] at h
  split at h
  ·rename_i fs hu
   simp only [Zv] at h
   obtain ⟨us,e1,h1⟩:=hv
   subst e1
   have:=VN (P:=P) (w:=w) (b:=b) (n:=n) (us:=us) fs.toList 0 s a [] us h.2 rfl rfl h1
   rw [Array.forIn_toList] at this
   rw [Instr.checkKey]
   simp only [Sem.run_bind,run_underlying hu,Result.andThen_ok]
   have e2:∀ (X:Sem PUnit),X=forIn fs PUnit.unit (Na b n us)→(X.run P w).andThen (fun _ w'=>Sem.run P (pure ()) w')= .ok () w:=by
    intro X hX;rw [hX,this];rfl
   exact e2 _ rfl
  ·cases h
 | _=>exact DE (Af h (by intro s e;cases e)) (n+1)
theorem ze {t:TypeId} {k:Ty} (h:fW P t k=true) {a:k.den} {v:Value} (hv:cr G k a v) (b:Bool):(Instr.checkKey b 10000 t v).run P w= .ok () w:=
 RO h hv b 9998
end Go.Dn
