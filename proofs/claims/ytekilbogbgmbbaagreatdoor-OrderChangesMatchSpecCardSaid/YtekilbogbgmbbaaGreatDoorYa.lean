/-
  An executor of Go code on plain data, proved sound against the model: values, states, operations. No condition.
-/
import Derived.Laws.AppendOwn
import Derived.Orders
import Derived.Below
import Derived.KernelRfl
import Derived.StillTail
import Derived.Laws.Cells
import Derived.Laws.Strings
import Derived.Laws.BytesString
import Derived.Great.BuildSlice
import Derived.Laws.StructEq
set_option linter.all false
namespace Go.Dn
abbrev ac0:= @Array.getElem?_eq_getElem
abbrev ac1:= @Array.getElem?_eq_some_iff
abbrev ac2:= @Array.getElem?_modify
abbrev ac3:= @Array.getElem?_replicate
abbrev ac4:= @Array.getElem?_setIfInBounds_ne
abbrev ac5:= @Array.getElem?_setIfInBounds_self_of_lt
abbrev ac6:= @Array.length_toList
abbrev ac7:= @Array.mem_toList_iff
abbrev ac8:= @Array.size_push
abbrev ac9:= @Array.toArray_toList
abbrev acY:= @Array.eq_empty_of_size_eq_zero
abbrev acZ:= @Array.getD_eq_getD_getElem?
abbrev ad0:= @List.drop_eq_getElem_cons
abbrev ad1:= @List.drop_left
abbrev ad2:= @List.drop_of_length_le
abbrev ad3:= @List.drop_zero
abbrev ad4:= @List.eq_nil_iff_forall_not_mem
abbrev ad5:= @List.eq_nil_of_length_eq_zero
abbrev ad6:= @List.ext_getElem?
abbrev ad7:= @List.filter_append
abbrev ad8:= @List.filter_cons
abbrev ad9:= @List.flatMap_cons
abbrev adA:= @Int.mul_le_mul_of_nonneg_left
abbrev adB:= @Int.mul_nonneg
abbrev adC:= @Int.mul_one
abbrev adD:= @Int.natAbs_mul
abbrev adE:= @Int.natAbs_natCast
abbrev adF:= @Int.natAbs_pow
abbrev adG:= @Int.natCast_nonneg
abbrev adH:= @Int.pow_add
abbrev adI:= @Int.pow_succ
abbrev adJ:= @Int.sign_eq_neg_one_of_neg
abbrev adK:= @Int.sign_eq_one_of_pos
abbrev adL:= @Int.tdiv_eq_ediv_of_nonneg
abbrev adM:= @Int.tmod_eq_emod_of_nonneg
abbrev adN:= @Int.toNat_natCast
abbrev adO:= @List.Perm.eq_of_pairwise
abbrev adP:= @List.all_cons
abbrev adQ:= @List.all_eq_true
abbrev adR:= @List.any_eq_false
abbrev adS:= @List.any_eq_true
abbrev adT:= @List.append_assoc
abbrev adU:= @List.append_nil
abbrev adV:= @List.cons_append
abbrev adW:= @List.countP_eq_zero
abbrev adY:= @List.countP_pos_iff
abbrev adZ:= @List.drop_drop
abbrev ada:= @Array.toList_push
abbrev adb:= @BitVec.ofInt_natCast
abbrev ade:= @BitVec.toNat_ofNat
abbrev adf:= @Bool.and_eq_true
abbrev adg:= @Bool.and_false
abbrev adh:= @Bool.and_self
abbrev adi:= @Bool.and_true
abbrev adj:= @Bool.eq_false_or_eq_true
abbrev adk:= @Bool.eq_iff_iff
abbrev adl:= @Bool.false_eq_true
abbrev adm:= @Bool.false_ne_true
abbrev adn:= @Bool.false_or
abbrev ado:= @Bool.not_eq_false'
abbrev adp:= @Bool.not_eq_true
abbrev adq:= @Bool.not_eq_true'
abbrev adr:= @Bool.not_false
abbrev ads:= @Bool.not_true
abbrev adt:= @Bool.or_eq_false_iff
abbrev adu:= @Bool.or_eq_true
abbrev adv:= @Bool.true_and
abbrev adw:= @Classical.not_not
abbrev adx:= @Int.fdiv_eq_ediv_of_nonneg
abbrev ady:= @Int.mul_add
abbrev adz:= @Int.mul_assoc
abbrev ae0:= @List.mem_singleton
abbrev ae1:= @List.mergeSort_perm
abbrev ae2:= @List.nil_append
abbrev ae3:= @List.nodup_append
abbrev ae4:= @List.pairwise_append
abbrev ae5:= @List.pairwise_cons
abbrev ae6:= @List.pairwise_iff_getElem
abbrev ae7:= @List.pairwise_map
abbrev ae8:= @List.replicate_succ
abbrev ae9:= @List.set_set
abbrev aeA:= @List.length_map
abbrev aeB:= @List.length_mergeSort
abbrev aeC:= @List.length_nil
abbrev aeD:= @List.length_pos_iff
abbrev aeE:= @List.length_replicate
abbrev aeF:= @List.length_set
abbrev aeG:= @List.length_singleton
abbrev aeH:= @List.length_take
abbrev aeI:= @List.map_append
abbrev aeJ:= @List.map_congr_left
abbrev aeK:= @List.map_cons
abbrev aeL:= @List.map_map
abbrev aeM:= @List.mem_append
abbrev aeN:= @List.mem_append_left
abbrev aeO:= @List.mem_append_right
abbrev aeP:= @List.mem_cons
abbrev aeQ:= @List.mem_cons_of_mem
abbrev aeR:= @List.mem_cons_self
abbrev aeS:= @List.mem_filter
abbrev aeT:= @List.mem_filterMap
abbrev aeU:= @List.mem_iff_getElem?
abbrev aeV:= @List.mem_map
abbrev aeW:= @List.mem_of_getElem?
abbrev aeX:= @List.mem_of_mem_drop
abbrev aeY:= @List.mem_or_eq_of_mem_set
abbrev aeZ:= @List.mem_range
abbrev aea:= @List.getD_eq_getElem?_getD
abbrev aeb:= @List.getElem?_append
abbrev aec:= @List.getElem?_append_left
abbrev aed:= @List.getElem?_append_right
abbrev aee:= @List.getElem?_cons_succ
abbrev aef:= @List.getElem?_cons_zero
abbrev aeg:= @List.getElem?_drop
abbrev aeh:= @List.getElem?_eq_getElem
abbrev aei:= @List.getElem?_eq_none
abbrev aej:= @List.getElem?_eq_some_iff
abbrev aek:= @List.getElem?_map
abbrev ael:= @List.getElem?_of_mem
abbrev aem:= @List.getElem?_range
abbrev aen:= @List.getElem?_set
abbrev aeo:= @List.getElem?_set_ne
abbrev aep:= @List.getElem?_set_self
abbrev aeq:= @List.getElem?_take
abbrev aer:= @List.getElem?_take_of_lt
abbrev aes:= @List.getElem?_toArray
abbrev aet:= @List.getElem_mem
abbrev aeu:= @List.head?_cons
abbrev aev:= @List.length_append
abbrev aew:= @List.length_cons
abbrev aex:= @List.length_drop
abbrev aey:= @List.length_eq_zero_iff
abbrev aez:= @List.length_filter_le
abbrev af0:= @bne_self_eq_false
abbrev af1:= @cond_false
abbrev af2:= @cond_true
abbrev af3:= @decide_eq_decide
abbrev af4:= @decide_eq_false
abbrev af5:= @decide_eq_false_iff_not
abbrev af6:= @decide_eq_true
abbrev af7:= @decide_eq_true_eq
abbrev af8:= @decide_false
abbrev af9:= @decide_true
abbrev afA:= @Nat.lt_succ_self
abbrev afB:= @Nat.lt_trichotomy
abbrev afC:= @Nat.min_eq_left
abbrev afD:= @Nat.mod_eq_of_lt
abbrev afE:= @Nat.mul_comm
abbrev afF:= @Nat.mul_le_mul_right
abbrev afG:= @Nat.mul_one
abbrev afH:= @Nat.not_lt_zero
abbrev afI:= @Nat.pos_of_ne_zero
abbrev afJ:= @Nat.pow_add
abbrev afK:= @Nat.pow_le_pow_right
abbrev afL:= @Nat.pow_succ
abbrev afM:= @Nat.zero_add
abbrev afN:= @Nat.zero_le
abbrev afO:= @Option.bind_some
abbrev afP:= @Option.getD_some
abbrev afQ:= @Option.isNone_iff_eq_none
abbrev afR:= @Option.isNone_some
abbrev afS:= @Option.isSome_iff_exists
abbrev afT:= @Option.map_map
abbrev afU:= @Option.map_some
abbrev afV:= @and_self
abbrev afW:= @and_true
abbrev afX:= @beq_eq_false_iff_ne
abbrev afY:= @beq_iff_eq
abbrev afZ:= @beq_self_eq_true
abbrev afa:= @List.size_toArray
abbrev afb:= @List.tail_drop
abbrev afc:= @List.take_add_one
abbrev afd:= @List.take_append_drop
abbrev afe:= @List.take_append_of_le_length
abbrev aff:= @List.take_left
abbrev afg:= @List.take_length
abbrev afh:= @List.take_of_length_le
abbrev afi:= @List.take_take
abbrev afj:= @Nat.add_assoc
abbrev afk:= @Nat.add_eq_zero_iff
abbrev afl:= @Nat.add_mul
abbrev afm:= @Nat.add_zero
abbrev afn:= @Nat.beq_refl
abbrev afo:= @Nat.div_lt_self
abbrev afp:= @Nat.eq_of_beq_eq_true
abbrev afq:= @Nat.eq_zero_or_pos
abbrev afr:= @Nat.le_of_ble_eq_true
abbrev afs:= @Nat.le_of_lt
abbrev aft:= @Nat.le_refl
abbrev afu:= @Nat.le_trans
abbrev afv:= @Nat.lt_add_of_pos_right
abbrev afw:= @Nat.lt_of_le_of_lt
abbrev afx:= @Nat.lt_of_lt_of_le
abbrev afy:= @Nat.lt_or_ge
abbrev afz:= @Nat.lt_or_gt_of_ne
abbrev aga:= @false_and
abbrev agb:= @false_or
abbrev agc:= @if_false
abbrev agd:= @if_neg
abbrev age:= @if_pos
abbrev agf:= @if_true
abbrev agh:= @not_and
abbrev agi:= @not_exists
abbrev agj:= @not_false_eq_true
abbrev agk:= @not_or
abbrev agl:= @of_decide_eq_true
inductive Ty where
 | int (k:IntKind)
 | bool
 | str
 | unit
 | pair (a b:Ty)
 | st (t:Ty)
 | slice (t:Ty)
 | ptr (t:Ty)
 | clo (g:Nat) (t:Ty)
 | hnd
 deriving DecidableEq
def Ty.den:Ty->Type
 | .int _=>Int
 | .bool=>Bool
 | .str=>List UInt8
 | .unit=>Unit
 | .pair a b=>a.den×b.den
 | .st t=>t.den
 | .slice t=>List t.den
 | .ptr t=>t.den
 | .clo _ t=>t.den
 | .hnd=>Option Nat
def Ty.size:Ty->Nat
 | .unit=>0
 | .pair a b=>a.size+b.size
 | .st t=>t.size
 | _=>1
def Ty.flat:Ty->Bool
 | .pair a b=>a.flat&&b.flat
 | .st t=>t.flat
 | .slice _ | .ptr _ | .clo _ _=>false
 | _=>true
def Ty.aW:Ty->Bool
 | .pair a b=>a.aW&&b.aW
 | .st t=>t.aW
 | .slice t=>t.aW
 | .ptr t=>t.aW
 | .clo _ t=>t.aW
 | .hnd=>false
 | _=>true
structure Gh where
 blk:Nat->Option Obj
 hnd:Nat->Option Nat
instance:CoeFun Gh fun _=>Nat->Option Obj:=⟨Gh.blk⟩
structure Gh.le (G G':Gh):Prop where
 blk:∀ b o,G b=some o->G' b=some o
 hnd:∀ h b,G.hnd h=some b->G'.hnd h=some b
instance {G G':Gh}:CoeFun (G.le G') fun _=>∀ b o,G b=some o->G' b=some o:=⟨Gh.le.blk⟩
theorem Gh.le_refl (G:Gh):G.le G:=⟨fun _ _ h=>h,fun _ _ h=>h⟩
theorem Gh.le_trans {A B C:Gh} (h:A.le B) (k:B.le C):A.le C:=⟨fun b o x=>k b o (h b o x),fun b o x=>k.hnd b o (h.hnd b o x)⟩
def bs (l:List UInt8):ByteArray:=⟨l.toArray⟩
def Agr (G:Gh) (w:World):Prop:=∀ b o,G b=some o->w.heap[b]? =some o
def bN {α:Type} (R:α->List Value->Prop):List α->List Value->Prop
 | [],cs=>cs=[]
 | x::l,cs=>∃ c r,cs=c++r/\R x c/\bN R l r
def de {α:Type} (G:Gh) (sz:Nat) (R:α->List Value->Prop) (l:List α) (v:Value):Prop:=
 ∃ a cap,v= .slice a l.length cap/\l.length<=cap/\cap<=maxLen/\
  (l=[]\/∃ b off c T fz,a=some ⟨b,off,none⟩/\G b=some (.cells c T fz)/\off+l.length*sz<=c.size/\
    bN R l ((c.toList.drop off).take (l.length*sz)))
def aB (G:Gh):(t:Ty)->t.den->List Value->Prop
 | .int k,n,cs=>cs=[.int k n]
 | .bool,b,cs=>cs=[.bool b]
 | .str,s,cs=>cs=[.string (bs s)]
 | .unit,_,cs=>cs=[]
 | .pair a b,(x,y),cs=>∃ c r,cs=c++r/\aB G a x c/\aB G b y r
 | .st t,x,cs=>aB G t x cs
 | .slice t,l,cs=>∃ v,cs=[v]/\de G t.size (aB G t) l v
 | .ptr t,x,cs=>∃ b off c T fz,cs=[.pointer (some ⟨b,off,none⟩)]/\G b=some (.cells c T fz)/\off+t.size<=c.size/\
  aB G t x ((c.toList.drop off).take t.size)
 | .clo g t,x,cs=>∃ caps:List Value,cs=[.func (.func g) #[] caps.toArray]/\aB G t x caps
 | .hnd,none,cs=>cs=[.pointer none]
 | .hnd,some h,cs=>∃ b,G.hnd h=some b/\cs=[.pointer (some ⟨b,0,none⟩)]
theorem bN.mono {α:Type} {R R':α->List Value->Prop} (h:∀ x cs,R x cs->R' x cs):∀ {l:List α} {cs:List Value},bN R l cs->bN R' l cs
 | [],_,hh=>hh
 | _::_,_,⟨c,r,e,hx,hl⟩=>⟨c,r,e,h _ _ hx,bN.mono h hl⟩
theorem aB.mono {G G':Gh} (hG:G.le G'):∀ (t:Ty) (x:t.den) (cs:List Value),aB G t x cs->aB G' t x cs
 | .int _,_,_,h=>h
 | .bool,_,_,h=>h
 | .str,_,_,h=>h
 | .unit,_,_,h=>h
 | .pair a b,(x,y),_,⟨c,r,e,hx,hy⟩=>⟨c,r,e,aB.mono hG a x c hx,aB.mono hG b y r hy⟩
 | .st t,x,cs,h=>aB.mono hG t x cs h
 | .slice t,_,_,⟨v,e,a,cap,hv,h1,h2,h3⟩=>⟨v,e,a,cap,hv,h1,h2,h3.imp id fun ⟨b,off,c,T,fz,ha,hb,hs,hl⟩=>
  ⟨b,off,c,T,fz,ha,hG _ _ hb,hs,hl.mono (aB.mono hG t)⟩⟩
 | .ptr t,x,_,⟨b,off,c,T,fz,e,hb,hs,hl⟩=>⟨b,off,c,T,fz,e,hG _ _ hb,hs,aB.mono hG t x _ hl⟩
 | .clo _ t,x,_,⟨caps,e,h⟩=>⟨caps,e,aB.mono hG t x _ h⟩
 | .hnd,none,_,h=>h
 | .hnd,some _,_,⟨b,hb,e⟩=>⟨b,hG.hnd _ _ hb,e⟩
theorem de.mono {G G':Gh} (hG:G.le G') {t:Ty} {l:List t.den} {v:Value} (h:de G t.size (aB G t) l v):de G' t.size (aB G' t) l v:=by
 obtain⟨a,cap,hv,h1,h2,h3⟩:=h
 exact⟨a,cap,hv,h1,h2,h3.imp id fun ⟨b,off,c,T,fz,ha,hb,hs,hl⟩=>⟨b,off,c,T,fz,ha,hG _ _ hb,hs,hl.mono (aB.mono hG t)⟩⟩
theorem aB.len {G:Gh}:∀ {t:Ty} {x:t.den} {cs:List Value},aB G t x cs->cs.length=t.size
 | .int _,_,_,h=>by cases h;rfl
 | .bool,_,_,h=>by cases h;rfl
 | .str,_,_,h=>by cases h;rfl
 | .unit,_,_,h=>by cases h;rfl
 | .pair a b,(x,y),_,⟨c,r,e,hx,hy⟩=>by
  subst e;rw[aev,hx.len,hy.len];rfl
 | .st t,x,cs,h=>aB.len (t:=t) (x:=x) h
 | .slice t,_,_,⟨v,e,_⟩=>by subst e;rfl
 | .ptr t,x,_,⟨b,off,c,T,fz,e,_⟩=>by subst e;rfl
 | .clo _ t,x,_,⟨caps,e,h⟩=>by subst e;rfl
 | .hnd,none,_,h=>by cases h;rfl
 | .hnd,some _,_,⟨b,hb,e⟩=>by subst e;rfl
theorem bN.len {α:Type} {R:α->List Value->Prop} {n:Nat} (h:∀ x cs,R x cs->cs.length=n):∀ {l:List α} {cs:List Value},bN R l cs->cs.length=l.length*n
 | [],_,hh=>by cases hh;simp
 | _::l,_,⟨c,r,e,hx,hl⟩=>by
  subst e
  rw[aev,h _ _ hx,hl.len h,aew,afl]
  omega
theorem bN.append {α:Type} {R:α->List Value->Prop}:∀ {l l':List α} {cs cs':List Value},bN R l cs->bN R l' cs'->bN R (l++l') (cs++cs')
 | [],_,_,_,hh,h'=>by cases hh;simpa using h'
 | x::l,_,_,_,⟨c,r,e,hx,hl⟩,h'=>by
  subst e
  exact⟨c,r++_,by simp,hx,hl.append h'⟩
theorem Br {α:Type} (c r:List α) (k:Nat):(c++r).drop (c.length+k)=r.drop k:=by
 rw[List.drop_append,ad2 (by omega)];simp
theorem Js {α:Type} (c r:List α) (k:Nat):(c++r).take (c.length+k)=c++r.take k:=by
 rw[List.take_append,afh (by omega)];simp
theorem bN.get {α:Type} {R:α->List Value->Prop} {n:Nat} (h:∀ x cs,R x cs->cs.length=n):∀ {l:List α} {cs:List Value},bN R l cs->∀ {i:Nat} {x:α},l[i]? =some x->R x ((cs.drop (i*n)).take n)
 | [],_,_,_,_,hi=>by simp at hi
 | y::l,_,⟨c,r,e,hx,hl⟩,0,x,hi=>by
  subst e
  have hc:=h _ _ hx
  have hy:y=x:=by simpa using hi
  subst hy
  simp only[Nat.zero_mul,ad3]
  rw[<- hc,aff]
  exact hx
 | y::l,_,⟨c,r,e,hx,hl⟩,i+1,x,hi=>by
  subst e
  have hc:=h _ _ hx
  have:=hl.get h (i:=i) (x:=x) (by simpa using hi)
  rw[show (i+1)*n=c.length+i*n by rw[afl];omega,Br]
  exact this
theorem bN.take {α:Type} {R:α->List Value->Prop} {n:Nat} (h:∀ x cs,R x cs->cs.length=n):∀ {l:List α} {cs:List Value},bN R l cs->∀ (i:Nat),bN R (l.take i) (cs.take (i*n))
 | l,cs,hl,0=>by simp[bN]
 | [],_,hh,i+1=>by cases hh;simp[bN]
 | y::l,_,⟨c,r,e,hx,hl⟩,i+1=>by
  subst e
  have hc:=h _ _ hx
  refine⟨c,r.take (i*n), ?_,hx,hl.take h i⟩
  rw[show (i+1)*n=c.length+i*n by rw[afl];omega,Js]
theorem bN.drop {α:Type} {R:α->List Value->Prop} {n:Nat} (h:∀ x cs,R x cs->cs.length=n):∀ {l:List α} {cs:List Value},bN R l cs->∀ (i:Nat),bN R (l.drop i) (cs.drop (i*n))
 | l,cs,hl,0=>by simpa using hl
 | [],_,hh,i+1=>by cases hh;simp[bN]
 | y::l,_,⟨c,r,e,hx,hl⟩,i+1=>by
  subst e
  have hc:=h _ _ hx
  rw[show (i+1)*n=c.length+i*n by rw[afl];omega,Br]
  exact hl.drop h i
theorem bN.set {α:Type} {R:α->List Value->Prop} {n:Nat} (h:∀ x cs,R x cs->cs.length=n) {y:α} {d:List Value} (hy:R y d):∀ {l:List α} {cs:List Value},bN R l cs->∀ {i:Nat},i<l.length-> bN R (l.set i y) (cs.take (i*n)++d++cs.drop (i*n+n))
 | [],_,_,_,hi=>by simp at hi
 | x::l,_,⟨c,r,e,hx,hl⟩,0,_=>by
  subst e
  have hc:=h _ _ hx
  exact⟨d,r,by simp[<- hc],hy,hl⟩
 | x::l,_,⟨c,r,e,hx,hl⟩,i+1,hi=>by
  subst e
  have hc:=h _ _ hx
  refine⟨c,r.take (i*n)++d++r.drop (i*n+n), ?_,hx,hl.set h hy (by simpa using hi)⟩
  rw[show (i+1)*n=c.length+i*n by rw[afl];omega,afj,Js,Br]
  simp
theorem aB.aW {G G':Gh} (hG:∀ b o,G b=some o->G' b=some o):∀ (t:Ty) (x:t.den) (cs:List Value),t.aW=true->aB G t x cs->aB G' t x cs
 | .int _,_,_,_,h=>h
 | .bool,_,_,_,h=>h
 | .str,_,_,_,h=>h
 | .unit,_,_,_,h=>h
 | .pair a b,(x,y),_,hn,⟨c,r,e,hx,hy⟩=>by
  simp only[Ty.aW,adf] at hn
  exact⟨c,r,e,aB.aW hG a x c hn.1 hx,aB.aW hG b y r hn.2 hy⟩
 | .st t,x,cs,hn,h=>aB.aW hG t x cs hn h
 | .slice t,_,_,hn,⟨v,e,a,cap,hv,h1,h2,h3⟩=>⟨v,e,a,cap,hv,h1,h2,h3.imp id fun ⟨b,off,c,T,fz,ha,hb,hs,hl⟩=>
  ⟨b,off,c,T,fz,ha,hG _ _ hb,hs,hl.mono fun x cs=>aB.aW hG t x cs hn⟩⟩
 | .ptr t,x,_,hn,⟨b,off,c,T,fz,e,hb,hs,hl⟩=>⟨b,off,c,T,fz,e,hG _ _ hb,hs,aB.aW hG t x _ hn hl⟩
 | .clo _ t,x,_,hn,⟨caps,e,h⟩=>⟨caps,e,aB.aW hG t x _ hn h⟩
 | .hnd,_,_,hn,_=>by cases hn
def bX (G:Gh) (t:Ty) (x:t.den) (v:Value):Prop:=
 match t,x with
 | .st t,x=>∃ vs:List Value,v= .agg vs.toArray/\aB G t x vs
 | t,x=>aB G t x [v]
theorem bX.mono {G G':Gh} (hG:G.le G') {t:Ty} {x:t.den} {v:Value} (h:bX G t x v):bX G' t x v:=by
 cases t with
 | st t=>obtain⟨vs,e,hv⟩:=h;exact⟨vs,e,aB.mono hG _ _ _ hv⟩
 | _=>exact aB.mono hG _ _ _ h
end Go.Dn
namespace Go.Dn
inductive CV where
 | int (k:IntKind) (n:Int)
 | bool (b:Bool)
 | str (s:List UInt8)
 | sl (t:Ty) (l:List t.den)
 | cp (t:Ty) (x:t.den) (off:Nat)
 | clo (g:Nat) (t:Ty) (x:t.den)
 | ref (k off:Nat)
 | row (j:Nat)
 | rp (j sz i off:Nat)
 | fn (g:Nat) (ks:List Nat)
 | nilp
 | nils
 | any
 | mp (j:Nat)
 | hnd (o:Option Nat) (off:Nat)
 | stp (j i:Nat)
 | kseq (g j:Nat)
 | nb (b:Bool)
 | opq (v:Value)
inductive SV where
 | v (agg:Bool) (cs:List CV)
 | tup (l:List (Bool×List CV))
structure lY where
 fz:Bool
 e:TypeId
 t:Ty
 l:List t.den
inductive nS where
 | map (k v:Ty) (l:List (k.den×v.den))
 | ar (fz:Bool) (t:Ty) (l:List t.den)
structure St where
 tmps:List SV
 boxes:List (Nat×List CV)
 rows:List (Nat×lY)
 objs:List (Nat×nS)
def look {α:Type}:List (Nat×α)->Nat->Option α
 | [],_=>none
 | (j,x)::r,k=>bif Nat.beq j k then some x else look r k
inductive aX where
 | inl (k:Nat)
 | inr (j:Nat)
 | ob (j:Nat)
 deriving DecidableEq
structure Env where
 bx:Nat->Nat
 rw:Nat->Value
 own:Nat->Option aX
 ob:Nat->Value
 st:Nat->Nat->Int
def aF {α β:Type} (R:α->β->Prop):List α->List β->Prop
 | [],l=>l=[]
 | x::r,l=>∃ y s,l=y::s/\R x y/\aF R r s
def aU (G:Gh) (ρ:Env):CV->Value->Prop
 | .int k n,v=>v= .int k n
 | .bool b,v=>v= .bool b
 | .str s,v=>v= .string (bs s)
 | .sl t l,v=>de G t.size (aB G t) l v
 | .cp t x o,v=>∃ b off c T fz,v= .pointer (some ⟨b,off+o,none⟩)/\G b=some (.cells c T fz)/\off+t.size<=c.size/\
  aB G t x ((c.toList.drop off).take t.size)
 | .clo g t x,v=>∃ caps:List Value,v= .func (.func g) #[] caps.toArray/\aB G t x caps
 | .ref k o,v=>v= .pointer (some ⟨ρ.bx k,o,none⟩)
 | .row j,v=>v=ρ.rw j/\∃ a n c,v= .slice a n c
 | .rp j sz i o,v=>∃ b len cap,ρ.rw j= .slice (some ⟨b,0,none⟩) len cap/\v= .pointer (some ⟨b,i*sz+o,none⟩)
 | .fn g ks,v=>v= .func (.func g) #[] (ks.map fun k=>Value.pointer (some ⟨ρ.bx k,0,none⟩)).toArray
 | .nilp,v=>v= .pointer none
 | .nils,v=>v= .slice none 0 0
 | .any,_=>True
 | .mp j,v=>v=ρ.ob j/\∃ b,v= .map (some b)
 | .hnd none o,v=>v= .pointer none/\o=0
 | .hnd (some h) o,v=>∃ b,G.hnd h=some b/\v= .pointer (some ⟨b,o,none⟩)
 | .stp j i,v=>v= .int .i64 (ρ.st j i)
 | .kseq g j,v=>∃ b T fz,v= .func (.func g) #[] #[.pointer (some ⟨b,0,none⟩)]/\G b=some (.cells #[ρ.ob j] T fz)
 | .nb b,v=>∃ c,v= .bool c/\(b=false->c=false)
 | .opq u,v=>v=u
def kG (G:Gh) (ρ:Env):Bool->List CV->Value->Prop
 | true,cs,v=>∃ vs:List Value,v= .agg vs.toArray/\aF (aU G ρ) cs vs
 | false,[c],v=>aU G ρ c v
 | false,_,_=>False
def bh (G:Gh) (ρ:Env):SV->Value->Prop
 | .v a cs,v=>kG G ρ a cs v
 | .tup l,v=>∃ vs:List Value,v= .tuple vs.toArray/\aF (fun p=>kG G ρ p.1 p.2) l vs
def I6:List Int:=(List.range 20).map fun i=>((10 ^ i:Nat):Int)
structure jf (P:Program) (G:Gh):Prop where
 pow:∀ g,P.globalNamed "internal/strconv.uint64pow10" =some g->∃ T fz,G g=some (.cells (I6.map fun z=>Value.int .u64 z).toArray T fz)
 maxLen:∀ g,P.globalNamed "internal/bytealg.MaxLen" =some g->∃ n T fz,G g=some (.cells #[Value.int .i64 n] T fz)
theorem jf.mono {P:Program} {G G':Gh} (h:jf P G) (hG:G.le G'):jf P G':=
 ⟨fun g hg=>let ⟨T,fz,e⟩:=h.pow g hg;⟨T,fz,hG.blk _ _ e⟩,fun g hg=>let ⟨n,T,fz,e⟩:=h.maxLen g hg;⟨n,T,fz,hG.blk _ _ e⟩⟩
structure Fr (P:Program) where
 n0:Nat
 pin:Nat->Nat
 pinR:Nat->Value
 B:Nat->Prop
 w0:World
 G0:Gh
 noAr:Prop
 tab:jf P G0
def cI (G:Gh) (ρ:Env) (w:World) (j:Nat) (r:lY):Prop:=
 if r.fz then de G r.t.size (aB G r.t) r.l (ρ.rw j)
 else ∃ xs,w.ownsRow 0 r.e r.t.size (ρ.rw j) r.l.length xs/\bN (aB G r.t) r.l xs/\∀ b,(ρ.rw j).ownBlock=some b->ρ.own b=some (.inr j)
def qp (G:Gh) (k v:Ty) (p:k.den×v.den) (e:MapEntry):Prop:=bX G k p.1 e.key/\bX G v p.2 e.val
def jT (G:Gh) (w:World) (own:Nat->Prop) (fz:Bool) (t:Ty) (l:List t.den):Prop:=
 (∀ h b,G.hnd h=some b->h<l.length)/\(∀ h h' b,G.hnd h=some b->G.hnd h'=some b->h=h')/\
   ∀ h x,l[h]? =some x->∃ b vs T,G.hnd h=some b/\(fz=true->G b=some (.cells (List.toArray vs) T (0,0)))/\(fz=false->own b)/\w.heap[b]? =some (.cells (List.toArray vs) T (0,0))/\aB G t x vs
def bz:Nat:=9999
def mA (G:Gh) (ρ:Env) (w:World) (j:Nat):nS->Prop
 | .map k v l=>∃ b es clock,ρ.ob j= .map (some b)/\ρ.own b=some (.ob j)/\w.heap[b]? =some (.map es clock)/\aF (qp G k v) l es.toList/\
  (∀ (i:Nat) (e:MapEntry),es.toList[i]? =some e->(e.born:Int)=ρ.st j i/\e.born<clock)/\es.toList.Pairwise (fun a b=>a.born<b.born)
 | .ar fz t l=>j=bz/\jT G w (fun b=>ρ.own b=some (.ob j)) fz t l
structure Mem {P0:Program} (C:Fr P0) (G:Gh) (ρ:Env) (S:St) (w:World):Prop where
 agr:Agr G w
 le0:C.G0.le G
 old:∀ b,b<C.n0->¬ C.B b->G b=C.G0 b
 frame:∀ b,b<C.n0->¬ C.B b->w.heap[b]? =C.w0.heap[b]?
 size:C.n0<=w.heap.size
 os:w.os=C.w0.os
 output:w.output=C.w0.output
 pin:∀ k,2000<=k->ρ.bx k=C.pin k
 pinR:∀ k,10000000<=k->ρ.rw k=C.pinR k/\ρ.ob k=C.pinR k
 owned:∀ b o,ρ.own b=some o->G b=none/\b<w.heap.size/\(C.n0<=b\/C.B b)
 boxes:∀ k cs,look S.boxes k=some cs->ρ.own (ρ.bx k)=some (.inl k)/\
  ∃ vs T,w.heap[ρ.bx k]? =some (.cells (List.toArray vs) T (0,0))/\aF (aU G ρ) cs vs
 rows:∀ j r,look S.rows j=some r->cI G ρ w j r
 objs:∀ j r,look S.objs j=some r->mA G ρ w j r
 hndI:C.noAr->G.hnd=C.G0.hnd/\∀ t l,look S.objs bz≠some (.ar false t l)
def fV (G:Gh) (ρ:Env) (S:St) (a:Act):Prop:=
 a.tmps.size=S.tmps.length/\∀ (i:Nat) (s:SV),S.tmps[i]? =some s->bh G ρ s (a.tmps.getD i undef)
structure Mod {P0:Program} (C:Fr P0) (G:Gh) (ρ:Env) (S:St) (w:World) (a:Act):Prop extends Mem C G ρ S w where
 tmps:fV G ρ S a
 defers:a.defers=[]
theorem aF.mono {α β:Type} {R R':α->β->Prop} (h:∀ x y,R x y->R' x y):∀ {l:List α} {r:List β},aF R l r->aF R' l r
 | [],_,hh=>hh
 | _::_,_,⟨y,s,e,hx,hl⟩=>⟨y,s,e,h _ _ hx,hl.mono h⟩
theorem aF.uU {α β:Type} {R R':α->β->Prop}:∀ {l:List α} {r:List β},(∀ x,x∈l->∀ y,R x y->R' x y)->aF R l r->aF R' l r
 | [],_,_,hh=>hh
 | x::l,_,h,⟨y,s,e,hx,hl⟩=>⟨y,s,e,h x (by simp) _ hx,aF.uU (fun z hz=>h z (by simp[hz])) hl⟩
theorem aF.len {α β:Type} {R:α->β->Prop}:∀ {l:List α} {r:List β},aF R l r->r.length=l.length
 | [],_,hh=>by cases hh;rfl
 | _::_,_,⟨y,s,e,_,hl⟩=>by subst e;simp[hl.len]
theorem aF.get {α β:Type} {R:α->β->Prop}:∀ {l:List α} {r:List β},aF R l r->∀ {i:Nat} {x:α},l[i]? =some x->∃ y,r[i]? =some y/\R x y
 | [],_,_,_,_,hi=>by simp at hi
 | _::_,_,⟨y,s,e,hx,_⟩,0,x,hi=>by subst e;simp at hi;subst hi;exact⟨y,by simp,hx⟩
 | _::_,_,⟨y,s,e,_,hl⟩,i+1,x,hi=>by
  subst e
  obtain⟨z,hz,hr⟩:=hl.get (i:=i) (x:=x) (by simpa using hi)
  exact⟨z,by simpa using hz,hr⟩
theorem aF.append {α β:Type} {R:α->β->Prop}:∀ {l l':List α} {r r':List β},aF R l r->aF R l' r'->aF R (l++l') (r++r')
 | [],_,_,_,hh,h'=>by cases hh;simpa using h'
 | _::_,_,_,_,⟨y,s,e,hx,hl⟩,h'=>by subst e;exact⟨y,s++_,by simp,hx,hl.append h'⟩
theorem aF.drop {α β:Type} {R:α->β->Prop}:∀ {l:List α} {r:List β},aF R l r->∀ n,aF R (l.drop n) (r.drop n)
 | _,_,h,0=>by simpa using h
 | [],_,hh,n+1=>by cases hh;simp[aF]
 | _::_,_,⟨y,s,e,_,hl⟩,n+1=>by subst e;simpa using hl.drop n
theorem aF.take {α β:Type} {R:α->β->Prop}:∀ {l:List α} {r:List β},aF R l r->∀ n,aF R (l.take n) (r.take n)
 | _,_,_,0=>by simp[aF]
 | [],_,hh,n+1=>by cases hh;simp[aF]
 | _::_,_,⟨y,s,e,hx,hl⟩,n+1=>by subst e;exact⟨y,s.take n,by simp,hx,hl.take n⟩
theorem aF.set {α β:Type} {R:α->β->Prop} {x:α} {y:β} (hxy:R x y):∀ {l:List α} {r:List β},aF R l r->∀ n,aF R (l.set n x) (r.set n y)
 | [],_,hh,n=>by cases hh;simp[aF]
 | _::_,_,⟨z,s,e,_,hl⟩,0=>by subst e;exact⟨y,s,by simp,hxy,hl⟩
 | _::_,_,⟨z,s,e,hx,hl⟩,n+1=>by subst e;exact⟨z,s.set n y,by simp,hx,hl.set hxy n⟩
theorem aF.single {α β:Type} {R:α->β->Prop} {x:α} {r:List β} (h:aF R [x] r):∃ y,r=[y]/\R x y:=by
 obtain⟨y,s,e,hx,hl⟩:=h;cases hl;exact⟨y,e,hx⟩
def CV.bU (k:Nat):CV->Bool
 | .ref j _=>Nat.beq j k
 | .fn _ ks=>ks.any (Nat.beq · k)
 | _=>false
def CV.aZ (k:Nat):CV->Bool
 | .row j=>Nat.beq j k
 | .rp j _ _ _=>Nat.beq j k
 | _=>false
def CV.bC (k:Nat):CV->Bool
 | .mp j=>Nat.beq j k
 | .kseq _ j=>Nat.beq j k
 | _=>false
def CV.bq (k:Nat):CV->Bool
 | .stp j _=>Nat.beq j k
 | _=>false
def SV.bU (k:Nat):SV->Bool
 | .v _ cs=>cs.any (CV.bU k)
 | .tup l=>l.any fun p=>p.2.any (CV.bU k)
def SV.aZ (k:Nat):SV->Bool
 | .v _ cs=>cs.any (CV.aZ k)
 | .tup l=>l.any fun p=>p.2.any (CV.aZ k)
def SV.bC (k:Nat):SV->Bool
 | .v _ cs=>cs.any (CV.bC k)
 | .tup l=>l.any fun p=>p.2.any (CV.bC k)
def St.bC (k:Nat) (S:St):Bool:=S.tmps.any (SV.bC k)||S.boxes.any fun p=>p.2.any (CV.bC k)
def SV.bq (k:Nat):SV->Bool
 | .v _ cs=>cs.any (CV.bq k)
 | .tup l=>l.any fun p=>p.2.any (CV.bq k)
def St.bq (k:Nat) (S:St):Bool:=S.tmps.any (SV.bq k)||S.boxes.any fun p=>p.2.any (CV.bq k)
def St.bU (k:Nat) (S:St):Bool:=S.tmps.any (SV.bU k)||S.boxes.any fun p=>p.2.any (CV.bU k)
def St.aZ (k:Nat) (S:St):Bool:=S.tmps.any (SV.aZ k)||S.boxes.any fun p=>p.2.any (CV.aZ k)
structure CV.eV (ρ ρ':Env) (c:CV):Prop where
 bx:∀ k,c.bU k=true->ρ'.bx k=ρ.bx k
 rw:∀ k,c.aZ k=true->ρ'.rw k=ρ.rw k
 ob:∀ k,c.bC k=true->ρ'.ob k=ρ.ob k
 st:∀ k,c.bq k=true->ρ'.st k=ρ.st k
theorem aU.congr {G G':Gh} (hG:G.le G') {ρ ρ':Env}:∀ {c:CV} {v:Value},c.eV ρ ρ'->aU G ρ c v->aU G' ρ' c v
 | .int _ _,_,_,h=>h
 | .bool _,_,_,h=>h
 | .str _,_,_,h=>h
 | .sl _ _,_,_,h=>de.mono hG h
 | .cp t x _,_,_,⟨b,off,c,T,fz,e,hb,hs,hl⟩=>⟨b,off,c,T,fz,e,hG _ _ hb,hs,aB.mono hG t x _ hl⟩
 | .clo _ t x,_,_,⟨caps,e,h⟩=>⟨caps,e,aB.mono hG t x _ h⟩
 | .ref k _,_,s,h=>by
  have:=s.bx k (by simp[CV.bU]);simp only[aU] at h ⊢;rw[this];exact h
 | .row j,_,s,h=>by
  have:=s.rw j (by simp[CV.aZ]);simp only[aU] at h ⊢;rw[this];exact h
 | .rp j _ _ _,_,s,h=>by
  have:=s.rw j (by simp[CV.aZ]);simp only[aU] at h ⊢;rw[this];exact h
 | .fn g ks,_,s,h=>by
  simp only[aU] at h ⊢
  rw[h]
  congr 2
  refine aeJ fun k hk=> ?_
  rw[s.bx k (by simp[CV.bU,hk])]
 | .nilp,_,_,h=>h
 | .nils,_,_,h=>h
 | .any,_,_,_=>trivial
 | .nb _,_,_,h=>h
 | .opq _,_,_,h=>h
 | .mp j,_,s,h=>by
  have:=s.ob j (by simp[CV.bC]);simp only[aU] at h ⊢;rw[this];exact h
 | .hnd none _,_,_,h=>h
 | .hnd (some _) _,_,_,⟨b,hb,e⟩=>⟨b,hG.hnd _ _ hb,e⟩
 | .stp j i,_,s,h=>by
  have:=s.st j (by simp[CV.bq]);simp only[aU] at h ⊢;rw[this];exact h
 | .kseq g j,_,s,h=>by
  have:=s.ob j (by simp[CV.bC]);simp only[aU] at h ⊢;rw[this]
  obtain⟨b,T,fz,e,hb⟩:=h
  exact⟨b,T,fz,e,hG _ _ hb⟩
theorem kG.congr {G G':Gh} (hG:G.le G') {ρ ρ':Env} {a:Bool} {cs:List CV} {v:Value} (hs:∀ c,c∈cs->c.eV ρ ρ') (h:kG G ρ a cs v):kG G' ρ' a cs v:=by
 cases a with
 | true=>obtain⟨vs,e,hl⟩:=h;exact⟨vs,e,aF.uU (fun c hc y=>aU.congr hG (hs c hc)) hl⟩
 | false=>
  match cs,hs,h with
  | [c],hs,h=>exact aU.congr hG (hs c (by simp)) h
def SV.eV (ρ ρ':Env):SV->Prop
 | .v _ cs=>∀ c,c∈cs->c.eV ρ ρ'
 | .tup l=>∀ p,p∈l->∀ c,c∈p.2->c.eV ρ ρ'
theorem bh.congr {G G':Gh} (hG:G.le G') {ρ ρ':Env} {s:SV} {v:Value} (hs:s.eV ρ ρ') (h:bh G ρ s v):bh G' ρ' s v:=by
 cases s with
 | v a cs=>exact kG.congr hG hs h
 | tup l=>
  obtain⟨vs,e,hl⟩:=h
  exact⟨vs,e,aF.uU (fun p hp y=>kG.congr hG (hs p hp)) hl⟩
theorem CV.eV.refl (ρ:Env) (c:CV):c.eV ρ ρ:=⟨fun _ _=>rfl,fun _ _=>rfl,fun _ _=>rfl,fun _ _=>rfl⟩
theorem SV.eV.refl (ρ:Env) (s:SV):s.eV ρ ρ:=by
 cases s with
 | v a cs=>exact fun c _=> .refl ρ c
 | tup l=>exact fun p _ c _=> .refl ρ c
theorem nj {α:Type} {l:List (Nat×α)} {k:Nat} {x:α} (h:look l k=some x):(k,x)∈l:=by
 induction l with
 | nil=>simp[look] at h
 | cons p r ih=>
  obtain⟨j,y⟩:=p
  simp only[look] at h
  cases hb:Nat.beq j k with
  | true=>rw[hb] at h;simp only[af2,Option.some.injEq] at h;subst h;have:=afp hb;subst this;simp
  | false=>rw[hb] at h;simp only[af1] at h;exact aeQ _ (ih h)
theorem ax {α:Type} (l:List (Nat×α)) (j k:Nat) (x:α):look ((j,x)::l) k=if j=k then some x else look l k:=by
 simp only[look]
 by_cases h:j=k
 ·subst h;simp
 ·have:Nat.beq j k=false:=by
   cases hb:Nat.beq j k with
   | false=>rfl
   | true=>exact absurd (afp hb) h
  simp[this,h]
structure St.eV (ρ ρ':Env) (S:St):Prop where
 tmps:∀ s,s∈S.tmps->s.eV ρ ρ'
 boxes:∀ p,p∈S.boxes->∀ c,c∈p.2->c.eV ρ ρ'
theorem R8 {ρ:Env} {k b:Nat} {S:St} (own:Nat->Option aX) (h:S.bU k=false):S.eV ρ ⟨fun i=>if i=k then b else ρ.bx i,ρ.rw,own,ρ.ob,ρ.st⟩:=by
 simp only[St.bU,adt,adR] at h
 have cv:∀ c:CV,c.bU k=false->c.eV ρ ⟨fun i=>if i=k then b else ρ.bx i,ρ.rw,own,ρ.ob,ρ.st⟩:=fun c hc=>
  ⟨fun i hi=>by
    show (if i=k then b else ρ.bx i)=ρ.bx i
    by_cases e:i=k
    ·subst e;rw[hc] at hi;cases hi
    ·simp[e],fun _ _=>rfl,fun _ _=>rfl,fun _ _=>rfl⟩
 refine⟨fun s hs=> ?_,fun p hp c hc=>cv c ?_⟩
 ·have:=h.1 s hs
  cases s with
  | v a cs=>exact fun c hc=>cv c (by simp only[SV.bU,adS,agi,agh] at this;simpa using this c hc)
  | tup l=>exact fun p hp c hc=>cv c (by simp only[SV.bU,adS,agi,agh] at this;simpa using this p hp c hc)
 ·have:=h.2 p hp
  simp only[adS,agi,agh] at this
  simpa using this c hc
theorem GO {ρ:Env} {k:Nat} {u:Value} {S:St} (own:Nat->Option aX) (h:S.aZ k=false):S.eV ρ ⟨ρ.bx,fun i=>if i=k then u else ρ.rw i,own,ρ.ob,ρ.st⟩:=by
 simp only[St.aZ,adt,adR] at h
 have cv:∀ c:CV,c.aZ k=false->c.eV ρ ⟨ρ.bx,fun i=>if i=k then u else ρ.rw i,own,ρ.ob,ρ.st⟩:=fun c hc=>
  ⟨fun _ _=>rfl,fun i hi=>by
    show (if i=k then u else ρ.rw i)=ρ.rw i
    by_cases e:i=k
    ·subst e;rw[hc] at hi;cases hi
    ·simp[e],fun _ _=>rfl,fun _ _=>rfl⟩
 refine⟨fun s hs=> ?_,fun p hp c hc=>cv c ?_⟩
 ·have:=h.1 s hs
  cases s with
  | v a cs=>exact fun c hc=>cv c (by simp only[SV.aZ,adS,agi,agh] at this;simpa using this c hc)
  | tup l=>exact fun p hp c hc=>cv c (by simp only[SV.aZ,adS,agi,agh] at this;simpa using this p hp c hc)
 ·have:=h.2 p hp
  simp only[adS,agi,agh] at this
  simpa using this c hc
theorem Sa {ρ:Env} {k:Nat} {u:Value} {S:St} (own:Nat->Option aX) (h:S.bC k=false):S.eV ρ ⟨ρ.bx,ρ.rw,own,fun i=>if i=k then u else ρ.ob i,ρ.st⟩:=by
 simp only[St.bC,adt,adR] at h
 have cv:∀ c:CV,c.bC k=false->c.eV ρ ⟨ρ.bx,ρ.rw,own,fun i=>if i=k then u else ρ.ob i,ρ.st⟩:=fun c hc=>
  ⟨fun _ _=>rfl,fun _ _=>rfl,fun i hi=>by
    show (if i=k then u else ρ.ob i)=ρ.ob i
    by_cases e:i=k
    ·subst e;rw[hc] at hi;cases hi
    ·simp[e],fun _ _=>rfl⟩
 refine⟨fun s hs=> ?_,fun p hp c hc=>cv c ?_⟩
 ·have:=h.1 s hs
  cases s with
  | v a cs=>exact fun c hc=>cv c (by simp only[SV.bC,adS,agi,agh] at this;simpa using this c hc)
  | tup l=>exact fun p hp c hc=>cv c (by simp only[SV.bC,adS,agi,agh] at this;simpa using this p hp c hc)
 ·have:=h.2 p hp
  simp only[adS,agi,agh] at this
  simpa using this c hc
theorem fV.congr {G G':Gh} (hG:G.le G') {ρ ρ':Env} {S:St} {a:Act} (hs:S.eV ρ ρ') (h:fV G ρ S a):fV G' ρ' S a:=
 ⟨h.1,fun i s hi=>bh.congr hG (hs.tmps s (aeW hi)) (h.2 i s hi)⟩
def St.put (S:St) (d:Option Tmp) (s:SV):St:=
 match d with
 | some d=>{ S with tmps:=S.tmps.set d s }
 | none=>S
@[simp] theorem St.acM (S:St) (d:Option Tmp) (s:SV):(S.put d s).boxes=S.boxes:=by cases d<;>rfl
@[simp] theorem St.acU (S:St) (d:Option Tmp) (s:SV):(S.put d s).rows=S.rows:=by cases d<;>rfl
@[simp] theorem St.acT (S:St) (d:Option Tmp) (s:SV):(S.put d s).objs=S.objs:=by cases d<;>rfl
theorem fV.put {G:Gh} {ρ:Env} {S:St} {a:Act} (h:fV G ρ S a) (d:Option Tmp) {s:SV} {v:Value} (hv:∀ t,d=some t->bh G ρ s v):fV G ρ (S.put d s) (a.put d v):=by
 cases d with
 | none=>exact h
 | some d=>
  refine⟨by simp[Act.put,St.put,h.1],fun i s' hi=> ?_⟩
  simp only[St.put,aen] at hi
  by_cases e:d=i
  ·subst e
   by_cases hlt:d<S.tmps.length
   ·simp only[age,hlt,Option.some.injEq] at hi
    subst hi
    simp only[Act.put]
    rw[acZ,ac5 (by rw[h.1];exact hlt)]
    exact hv _ rfl
   ·simp[hlt] at hi
  ·simp only[e,agc] at hi
   have:=h.2 i s' hi
   simp only[Act.put]
   rw[acZ,ac4 (by omega), <- acZ]
   exact this
theorem Mem.JS {P0:Program} {C:Fr P0} {G:Gh} {ρ:Env} {S S':St} {w:World} (h:Mem C G ρ S w) (hb:S'.boxes=S.boxes) (hr:S'.rows=S.rows) (ho:S'.objs=S.objs):Mem C G ρ S' w:=
 { h with boxes:=by rw[hb];exact h.boxes,rows:=by rw[hr];exact h.rows,objs:=by rw[ho];exact h.objs,hndI:=by rw[ho];exact h.hndI }
theorem Mod.put {P0:Program} {C:Fr P0} {G:Gh} {ρ:Env} {S:St} {w:World} {a:Act} (h:Mod C G ρ S w a) (d:Option Tmp) {s:SV} {v:Value} (hv:∀ t,d=some t->bh G ρ s v):Mod C G ρ (S.put d s) w (a.put d v):=
 { h.toMem.JS (S':=S.put d s) (by simp) (by simp) (by simp) with tmps:=h.tmps.put d hv,defers:=by cases d<;>exact h.defers }
theorem cI.of_heap {G:Gh} {ρ:Env} {w w':World} {j:Nat} {r:lY} (hh:w'.heap=w.heap) (h:cI G ρ w j r):cI G ρ w' j r:=by
 unfold cI at*
 split
 ·rename_i hf;rw[age hf] at h;exact h
 ·rename_i hf;rw[agd hf] at h
  obtain⟨xs,ho,hl,hb⟩:=h
  exact⟨xs,by simpa [World.ownsRow,hh] using ho,hl,hb⟩
theorem jT.of_heap {G:Gh} {w w':World} {own:Nat->Prop} {fz:Bool} {t:Ty} {l:List t.den} (hh:∀ h b,G.hnd h=some b->w'.heap[b]? =w.heap[b]?) (h:jT G w own fz t l):jT G w' own fz t l:=
 ⟨h.1,h.2.1,fun i x hx=>by
   obtain⟨b,vs,T,h1,h2,h3,h4,h5⟩:=h.2.2 i x hx
   exact⟨b,vs,T,h1,h2,h3,by rw[hh i b h1];exact h4,h5⟩⟩
theorem mA.of_heap {G:Gh} {ρ:Env} {w w':World} {j:Nat} {r:nS} (hh:w'.heap=w.heap) (h:mA G ρ w j r):mA G ρ w' j r:=by
 cases r with
 | map k v l=>obtain⟨b,es,clock,h1,h2,h3,h4,h5⟩:=h;exact⟨b,es,clock,h1,h2,by rw[hh];exact h3,h4,h5⟩
 | ar fz t l=>exact⟨h.1,jT.of_heap (fun _ _ _=>by rw[hh]) h.2⟩
theorem Mem.of_heap {P0:Program} {C:Fr P0} {G:Gh} {ρ:Env} {S:St} {w w':World} (h:Mem C G ρ S w) (hh:w'.heap=w.heap) (ho:w'.os=w.os) (hu:w'.output=w.output):Mem C G ρ S w' where
 agr:=fun b o hb=>by rw[hh];exact h.agr b o hb
 le0:=h.le0
 old:=h.old
 frame:=by rw[hh];exact h.frame
 size:=by rw[hh];exact h.size
 os:=ho.trans h.os
 output:=hu.trans h.output
 pin:=h.pin
 pinR:=h.pinR
 owned:=by rw[hh];exact h.owned
 boxes:=by rw[hh];exact h.boxes
 rows:=fun j r hr=>(h.rows j r hr).of_heap hh
 objs:=fun j r hr=>(h.objs j r hr).of_heap hh
 hndI:=h.hndI
theorem Mod.of_heap {P0:Program} {C:Fr P0} {G:Gh} {ρ:Env} {S:St} {w w':World} {a:Act} (h:Mod C G ρ S w a) (hh:w'.heap=w.heap) (ho:w'.os=w.os) (hu:w'.output=w.output):Mod C G ρ S w' a:=
 { h.toMem.of_heap hh ho hu with tmps:=h.tmps,defers:=h.defers }
structure Grow (ρ:Env) (w w':World) (blk:Option Nat):Prop where
 os:w'.os=w.os
 output:w'.output=w.output
 size:w.heap.size<=w'.heap.size
 block:∀ b,b<w.heap.size->some b≠blk->w'.heap[b]? =w.heap[b]?
theorem bf {w:World} {b:Nat} {o:Obj} (h:w.heap[b]? =some o):b<w.heap.size:=(ac1.1 h).1
theorem cI.kept {G:Gh} {ρ:Env} {w w':World} {j:Nat} {r:lY} {blk:Option Nat} (hg:Grow ρ w w' blk) (hne:∀ b,blk=some b->ρ.own b≠some (.inr j)) (h:cI G ρ w j r):cI G ρ w' j r:=by
 unfold cI at*
 split
 ·rename_i hf;rw[age hf] at h;exact h
 ·rename_i hf;rw[agd hf] at h
  obtain⟨xs,⟨hlen,ho⟩,hl,hb⟩:=h
  refine⟨xs,⟨hlen, ?_⟩,hl,hb⟩
  rcases ho with hn | ⟨g,cap,cur,hv,h0,hgg,rest⟩
  ·exact .inl hn
  ·refine .inr ⟨g,cap,cur,hv,h0, ?_,rest⟩
   rw[hg.block g (bf hgg) ?_]
   ·exact hgg
   ·intro e
    exact hne g e.symm (hb g (by rw[hv];rfl))
theorem mA.kept {G:Gh} {ρ:Env} {w w':World} {j:Nat} {r:nS} {blk:Option Nat} (hg:Grow ρ w w' blk) (hgn:∀ b,blk=some b->G b=none) (hne:∀ b,blk=some b->ρ.own b≠some (.ob j)) (h:mA G ρ w j r):mA G ρ w' j r:=by
 cases r with
 | map k v l=>
  obtain⟨b,es,clock,h1,h2,h3,h4,h5⟩:=h
  refine⟨b,es,clock,h1,h2, ?_,h4,h5⟩
  rw[hg.block b (bf h3) (fun e=>hne b e.symm h2)];exact h3
 | ar fz t l=>
  obtain⟨hj,h⟩:=h
  refine⟨hj,h.1,h.2.1,fun i x hx=> ?_⟩
  obtain⟨b,vs,T,h1,h2,h3,h4,h5⟩:=h.2.2 i x hx
  refine⟨b,vs,T,h1,h2,h3, ?_,h5⟩
  rw[hg.block b (bf h4) (fun e=> ?_)]
  ·exact h4
  ·cases fz with
   | true=>have:=hgn b e.symm;rw[h2 rfl] at this;cases this
   | false=>exact hne b e.symm (h3 rfl)
theorem qp.mono {G G':Gh} (hG:G.le G') {k v:Ty} {p:k.den×v.den} {e:MapEntry} (h:qp G k v p e):qp G' k v p e:=⟨h.1.mono hG,h.2.mono hG⟩
theorem mA.congr {G G':Gh} (hG:G.le G') (hh:G'.hnd=G.hnd) {ρ ρ':Env} {w:World} {j:Nat} {r:nS} (hr:ρ'.ob j=ρ.ob j) (hst:ρ'.st j=ρ.st j) (ho:∀ b,ρ.own b=some (.ob j)->ρ'.own b=some (.ob j)) (h:mA G ρ w j r):mA G' ρ' w j r:=by
 cases r with
 | map k v l=>
  obtain⟨b,es,clock,h1,h2,h3,h4,h5,h6⟩:=h
  exact⟨b,es,clock,by rw[hr];exact h1,ho b h2,h3,h4.mono fun x y hxy=>hxy.mono hG,by rw[hst];exact h5,h6⟩
 | ar fz t l=>
  obtain⟨hj,h⟩:=h
  refine⟨hj,fun i b hb=>h.1 i b (by rw[<- hh];exact hb),fun i i' b hb hb'=>h.2.1 i i' b (by rw[<- hh];exact hb) (by rw[<- hh];exact hb'),fun i x hx=> ?_⟩
  obtain⟨b,vs,T,h1,h2,h3,h4,h5⟩:=h.2.2 i x hx
  exact⟨b,vs,T,by rw[hh];exact h1,fun e=>hG _ _ (h2 e),fun e=>ho b (h3 e),h4,aB.mono hG t x _ h5⟩
theorem cI.congr {G G':Gh} (hG:G.le G') {ρ ρ':Env} {w:World} {j:Nat} {r:lY} (hr:ρ'.rw j=ρ.rw j) (ho:∀ b,ρ.own b=some (.inr j)->ρ'.own b=some (.inr j)) (h:cI G ρ w j r):cI G' ρ' w j r:=by
 unfold cI at*
 rw[hr]
 split
 ·rename_i hf;rw[age hf] at h;exact de.mono hG h
 ·rename_i hf;rw[agd hf] at h
  obtain⟨xs,hown,hl,hb⟩:=h
  exact⟨xs,hown,hl.mono (aB.mono hG r.t),fun b e=>ho b (hb b e)⟩
end Go.Dn
namespace Go.Dn
def unpack:(t:Ty)->t.den->List CV
 | .int k,n=>[.int k n]
 | .bool,b=>[.bool b]
 | .str,s=>[.str s]
 | .unit,_=>[]
 | .pair a b,p=>unpack a p.1++unpack b p.2
 | .st t,x=>unpack t x
 | .slice t,l=>[.sl t l]
 | .ptr t,x=>[.cp t x 0]
 | .clo g t,x=>[.clo g t x]
 | .hnd,o=>[.hnd o 0]
def l8 (t:Ty) (x:t.den):SV:=
 match t,x with
 | .st t,x=> .v true (unpack t x)
 | t,x=> .v false (unpack t x)
def JB (t:Ty) (x:t.den):Bool×List CV:=
 match t,x with
 | .st t,x=>(true,unpack t x)
 | t,x=>(false,unpack t x)
def lP {a b:Ty} (l:List a.den):Option (List b.den):=if h:a=b then some (h ▸ l) else none
def Sk {a b:Ty} (x:a.den):Option b.den:=if h:a=b then some (h ▸ x) else none
def Wx {k v k' v':Ty} (l:List (k.den×v.den)):Option (List (k'.den×v'.den)):=if h:k=k'/\v=v' then some (h.1 ▸ h.2 ▸ l) else none
def VZ (k:IntKind):CV->Option Int
 | .int k' n=>if k=k' then some n else none
 | _=>none
def TX:CV->Option Bool
 | .bool b=>some b
 | _=>none
def V6:CV->Option (List UInt8)
 | .str s=>some s
 | _=>none
def Od (S:St) (t:Ty):CV->Option (List t.den)
 | .sl _ l=>lP (b:=t) l
 | .nils=>some []
 | .row j=>match look S.rows j with
  | some q=>if q.fz then lP (b:=t) q.l else none
  | none=>none
 | _=>none
def VY:CV->Option (Option Nat)
 | .hnd o k=>if Nat.beq k 0 then some o else none
 | .nilp=>some none
 | _=>none
def rI {α:Type} (f:CV->Option α):List CV->Option (α×List CV)
 | c::r=>match f c with | some x=>some (x,r) | none=>none
 | []=>none
def gX {α:Type}:Option (α×List CV)->Option α
 | some (x,[])=>some x
 | _=>none
def inL (l:List Nat) (j:Nat):Bool:=l.any (Nat.beq j)
def PB (S:St) (fb:List Nat) {t:Ty} (g:List CV->Option (t.den×List CV)):CV->Option t.den
 | .cp _ x o=>if Nat.beq o 0 then Sk (b:=t) x else none
 | .ref k o=>if Nat.beq o 0&&inL fb k then (match look S.boxes k with
  | some cs=>gX (g cs)
  | none=>none) else none
 | _=>none
def VX {t:Ty} (g:Nat) (p:List CV->Option (t.den×List CV)):CV->Option t.den
 | .clo g' _ x=>if Nat.beq g g' then Sk (b:=t) x else none
 | .fn g' ks=>if Nat.beq g g' then gX (p (ks.map fun k=> .ref k 0)) else none
 | _=>none
def fE (S:St) (fb:List Nat):(t:Ty)->List CV->Option (t.den×List CV)
 | .int k,r=>rI (VZ k) r
 | .bool,r=>rI TX r
 | .str,r=>rI V6 r
 | .unit,r=>some ((),r)
 | .pair a b,r=>match fE S fb a r with
  | some (x,r)=>match fE S fb b r with
   | some (y,r)=>some ((x,y),r)
   | none=>none
  | none=>none
 | .st t,r=>fE S fb t r
 | .slice t,r=>rI (Od S t) r
 | .ptr t,r=>rI (PB S fb (t:=t) (fE S fb t)) r
 | .clo g t,r=>rI (VX (t:=t) g (fE S fb t)) r
 | .hnd,r=>rI VY r
abbrev pack (S:St) (t:Ty) (cs:List CV):Option (t.den×List CV):=fE S [] t cs
def iD (S:St) (fb:List Nat) (t:Ty) (s:SV):Option t.den:=
 match t,s with
 | .st t,.v true cs=>gX (fE S fb t cs)
 | .st _,_=>none
 | t,.v false cs=>gX (fE S fb t cs)
 | _,_=>none
inductive OT where
 | val (t:Ty)
 | row (e:TypeId) (t:Ty)
 | map (k v:Ty)
def OT.den:OT->Type
 | .val t=>t.den
 | .row _ t=>List t.den
 | .map k v=>List (k.den×v.den)
def kP:List OT->Type
 | []=>Unit
 | o::r=>o.den×kP r
inductive PM where
 | val (t:Ty)
 | row (e:TypeId) (t:Ty)
 | mrow (e:TypeId) (t:Ty)
 | map (k v:Ty)
 | box (l:List OT)
 | ar (t:Ty)
 | arR (t:Ty)
inductive RM where
 | val (t:Ty)
 | row (e:TypeId) (t:Ty)
 | map (k v:Ty)
 | box (l:List OT)
def PM.den:PM->Type
 | .val t=>t.den
 | .row _ t=>List t.den
 | .mrow _ t=>List t.den
 | .map k v=>List (k.den×v.den)
 | .box l=>kP l
 | .ar t=>List t.den
 | .arR t=>List t.den
def RM.den:RM->Type
 | .val t=>t.den
 | .row _ t=>List t.den
 | .map k v=>List (k.den×v.den)
 | .box l=>kP l
def PM.arg:PM->Bool
 | .ar _=>false
 | .arR _=>false
 | _=>true
def gh:List PM->Type
 | []=>Unit
 | p::r=>p.den×gh r
def eG:List PM->Type
 | []=>Unit
 | .mrow _ t::r=>List t.den×eG r
 | .map k v::r=>List (k.den×v.den)×eG r
 | .box l::r=>kP l×eG r
 | .ar t::r=>List t.den×eG r
 | .val _::r=>eG r
 | .row _ _::r=>eG r
 | .arR _::r=>eG r
def dF (ps:List PM):List RM->Type
 | []=>eG ps
 | q::r=>q.den×dF ps r
structure av where
 ps:List PM
 rs:List RM
 m:gh ps->Option (dF ps rs)
inductive tg where
 | mk (g:Nat)
 | srt (g:Nat) (kt e:TypeId)
 | elt (lo nb:Nat) (tb te:Ty) (m:List tb.den->List te.den->Nat->Option (List te.den))
 | nest (p:Nat) (sp:av)
 | srt2 (g:Nat) (kt e:TypeId) (cl:Nat) (cf:List UInt8×List UInt8->List UInt8×List UInt8->Int)
 | cop (sz lo b:Nat) (e:TypeId) (t:Ty)
 | own
structure Cx where
 P:Program
 specs:List (Nat×av)
 keys:List (Nat×tg):=[]
def sK {α:Type} (l:List (Int×α)):List Int:=(l.map (·.1)).mergeSort fun x y=>decide (x<=y)
def mK {α:Type} (l:List (Int×α)):Bool:=decide (l.length<=1000000)&&((l.all fun p=>decide (-9223372036854775808<=p.1/\p.1<=9223372036854775807))&&decide (l.map (·.1)).Nodup)
def FT {α:Type} (cf:List UInt8×List UInt8->List UInt8×List UInt8->Int) (l:List ((List UInt8×List UInt8)×α)):List (List UInt8×List UInt8):=(l.map (·.1)).mergeSort fun x y=> !decide (cf y x<0)
theorem YM {α:Type} (cf:List UInt8×List UInt8->List UInt8×List UInt8->Int) (l:List ((List UInt8×List UInt8)×α)):(FT cf l).length=l.length:=by
 unfold FT
 rw[aeB,aeA]
def VM {α:Type} (cf:List UInt8×List UInt8->List UInt8×List UInt8->Int) (l:List ((List UInt8×List UInt8)×α)):Bool:=decide (l.length<=1000000)&&((l.all fun p=>decide (p.1.1.length<=9223372036854775807)&&decide (p.1.2.length<=9223372036854775807))&&(decide (l.map (·.1)).Nodup&&((l.map (·.1)).all fun x=>(l.map (·.1)).all fun y=>decide (cf x y<0)||(decide (cf y x<0)||decide (x=y)))))
inductive CK where
 | val (t:Ty)
 | own (e:TypeId) (t:Ty)
 | map (k v:Ty)
 | ref (k off:Nat)
 | fn (g:Nat) (ks:List Nat)
 | ar (t:Ty)
 | arF (t:Ty)
 | rowR (j:Nat)
 | rpR (j sz:Nat)
 | rowC (j:Nat) (e:TypeId) (t:Ty)
 | mapR (j:Nat)
 | mapC (j:Nat) (k v:Ty)
def cZ:List CK->Type
 | []=>Unit
 | .val t::r=>t.den×cZ r
 | .own _ t::r=>List t.den×cZ r
 | .map k v::r=>List (k.den×v.den)×cZ r
 | .ref _ _::r=>cZ r
 | .fn _ _::r=>cZ r
 | .ar t::r=>List t.den×cZ r
 | .arF t::r=>List t.den×cZ r
 | .rowR _::r=>cZ r
 | .rpR _ _::r=>Nat×cZ r
 | .rowC _ _ t::r=>List t.den×cZ r
 | .mapR _::r=>cZ r
 | .mapC _ k v::r=>List (k.den×v.den)×cZ r
def CK.size:CK->Nat
 | .val t=>t.size
 | .ar _=>0
 | .arF _=>0
 | .rowC _ _ _=>0
 | .mapC _ _ _=>0
 | _=>1
def mD:List CK->Nat
 | []=>0
 | c::r=>c.size+mD r
def Yb (tmps:List (Nat×CK)) (boxes:List (Nat×List CK)) (cts:List CK):List CK:=
 tmps.map (·.2)++(boxes.flatMap (·.2)++cts)
structure Ann where
 tmps:List (Nat×CK)
 boxes:List (Nat×List CK)
 cts:List CK
 fuel:cZ (Yb tmps boxes cts)->Nat
def Ann.cks (A:Ann):List CK:=Yb A.tmps A.boxes A.cts
def iter {X β:Type}:Nat->X->(X->(X->Option β)->Option β)->Option β
 | 0,_,_=>none
 | n+1,x,f=>f x fun y=>iter n y f
def pR (P:Program) (t:TypeId):Bool:=
 match P.underlying t with
 | some (.struct _) | some (.array _ _)=>true
 | _=>false
def b9 (P:Program) (t:TypeId):Nat:=((P.info? t).map (·.size)).getD 0
def okT (P:Program) (t:TypeId):Bool:=(P.underlying t).isSome
def HR:Value->CV
 | .int k n=> .int k n
 | .bool b=> .bool b
 | .string s=> .str s.data.toList
 | .slice none 0 0=> .nils
 | .pointer none=> .nilp
 | .func (.func g) f c=>if f.isEmpty&&c.isEmpty then .fn g [] else .any
 | _=> .any
def J6:Value->SV
 | .agg cs=> .v true (cs.toList.map HR)
 | v=> .v false [HR v]
def St.ev (S:St):Operand->SV
 | .tmp t=>S.tmps.getD t (.v false [.any])
 | .const v=>J6 v
 | .global _=> .v false [.any]
 | .func f=> .v false [.fn f []]
variable {β:Type}
def chk (b:Bool) (x:Option β):Option β:=bif b then x else none
def idx {α:Type} (l:List α) (i:Int):Option α:=if 0<=i then l[i.toNat]? else none
def qv (s:List UInt8) (i:Int):Option UInt8:=if 0<=i then s[i.toNat]? else none
def MR (op:BinOp) (ka:IntKind) (a:Int) (kb:IntKind) (b:Int) (k:CV->Option β):Option β:=
 match op with
 | .shl=>chk (decide (0<=b)) (k (.int ka (ka.wrap (a*2 ^ (min b.toNat ka.bits)))))
 | .shr=>chk (decide (0<=b)) (k (.int ka (a.fdiv (2 ^ (min b.toNat ka.bits)))))
 | _=>if ka≠kb then none else
  match op with
  | .add=>k (.int ka (ka.wrap (a+b)))
  | .sub=>k (.int ka (ka.wrap (a - b)))
  | .mul=>k (.int ka (ka.wrap (a*b)))
  | .quo=>chk (b != 0) (k (.int ka (ka.wrap (a.tdiv b))))
  | .rem=>chk (b != 0) (k (.int ka (a.tmod b)))
  | .and=>k (.int ka (ka.wrap (BitVec.ofInt ka.bits a &&& BitVec.ofInt ka.bits b).toNat))
  | .or=>k (.int ka (ka.wrap (BitVec.ofInt ka.bits a ||| BitVec.ofInt ka.bits b).toNat))
  | .eql=>k (.bool (a==b))
  | .neq=>k (.bool (a != b))
  | .lss=>k (.bool (decide (a<b)))
  | .leq=>k (.bool (decide (a<=b)))
  | .gtr=>k (.bool (decide (a>b)))
  | .geq=>k (.bool (decide (a>=b)))
  | _=>none
def SH (op:BinOp) (a b:List UInt8) (k:CV->Option β):Option β:=
 match op with
 | .eql=>k (.bool (a==b))
 | .neq=>k (.bool !(a==b))
 | .lss=>k (.bool (Op.bytesLess a b))
 | .leq=>k (.bool (Op.bytesLess a b||a==b))
 | .gtr=>k (.bool !(Op.bytesLess a b||a==b))
 | .geq=>k (.bool !(Op.bytesLess a b))
 | .add=>chk (decide (a.length+b.length<=maxLen)) (k (.str (a++b)))
 | _=>none
def JF (l:List CV) (off n:Nat):Option (List CV):=
 let c:=(l.drop off).take n
 if Nat.beq c.length n then some c else none
def lp (P:Program) (T:TypeId) (l:List CV) (off:Nat) (k:SV->Option β):Option β:=
 if okT P T then
 match JF l off (b9 P T) with
 | some cs=>if pR P T then k (.v true cs) else (match cs with | [c]=>k (.v false [c]) | _=>none)
 | none=>none
 else none
def Ij (P:Program) (g:TypeId->SV->SV->Option Bool) (xs ys:List CV):List Field->Option Bool
 | []=>some true
 | f::fs=>if f.name= "_" then none else
  match lp P f.type xs f.offset some,lp P f.type ys f.offset some with
  | some a,some b=>match g f.type a b with
   | some r=>match Ij P g xs ys fs with
    | some q=>some (r&&q)
    | none=>none
   | none=>none
  | _,_=>none
def CV.Sr:CV->Bool
 | .ref _ _ | .cp _ _ _ | .rp _ _ _ _=>true
 | _=>false
def tj (P:Program):Nat->TypeId->SV->SV->Option Bool
 | 0,_,_,_=>none
 | d+1,t,x,y=>match P.underlying t with
  | some (.int _)=>match x,y with
   | .v false [.int k a],.v false [.int k' b]=>if k=k' then some (a==b) else none
   | _,_=>none
  | some .bool=>match x,y with
   | .v false [.bool a],.v false [.bool b]=>some (a==b)
   | _,_=>none
  | some .string=>match x,y with
   | .v false [.str a],.v false [.str b]=>some (a==b)
   | _,_=>none
  | some (.pointer _)=>match x,y with
   | .v false [.nilp],.v false [.nilp]=>some true
   | .v false [.nilp],.v false [.hnd o _]=>some o.isNone
   | .v false [.hnd o _],.v false [.nilp]=>some o.isNone
   | .v false [.nilp],.v false [c]=>if c.Sr then some false else none
   | .v false [c],.v false [.nilp]=>if c.Sr then some false else none
   | _,_=>none
  | some (.struct fs)=>match x,y with
   | .v true xs,.v true ys=>if P.stoodInHeld t then none else Ij P (tj P d) xs ys fs.toList
   | _,_=>none
  | _=>none
def aaR:SV->SV->Option Bool
 | .v false [.sl _ l],.v false [.nils]=>some l.isEmpty
 | _,_=>none
def Z5 (P:Program) (op:BinOp) (t:TypeId) (x y:SV) (k:SV->Option β):Option β:=
 if P.eqGuardType P.depth t then none else match op with
 | .eql=>match tj P 9 t x y with
  | some r=>k (.v false [.bool r])
  | none=>match P.underlying t,aaR x y with
   | some (.slice _),some b=>k (.v false [.nb b])
   | _,_=>none
 | .neq=>match tj P 9 t x y with
  | some r=>k (.v false [.bool !r])
  | none=>none
 | _=>none
def Wu (P:Program) (op:BinOp) (t:TypeId) (x y:SV) (k:SV->Option β):Option β:=
 match x,y with
 | .v false [.int ka a],.v false [.int kb b]=>MR op ka a kb b fun c=>k (.v false [c])
 | .v false [.str a],.v false [.str b]=>SH op a b fun c=>k (.v false [c])
 | x,y=>Z5 P op t x y k
def MG (n:Nat):CV->Option CV
 | .ref k o=>some (.ref k (o+n))
 | .cp t x o=>some (.cp t x (o+n))
 | .rp j sz i o=>some (.rp j sz i (o+n))
 | .hnd (some h) o=>some (.hnd (some h) (o+n))
 | _=>none
def CV.ok:CV->Bool
 | .any=>false
 | .opq _=>false
 | _=>true
def setAt (l:List CV) (off:Nat) (new:List CV):Option (List CV):=
 if Nat.ble (off+new.length) l.length then some (l.take off++new++l.drop (off+new.length)) else none
def FI (place:Nat->Option (Nat×Nat)):List CV->List (Nat×SV)->Option (List CV)
 | cells,[]=>some cells
 | cells,(i,.v _ cs)::rest=>
  match place i with
  | none=>none
  | some (off,size)=>if Nat.beq cs.length size&&cs.all CV.ok then (match setAt cells off cs with | some c=>FI place c rest | none=>none) else none
 | _,_=>none
def DI (P:Program) (fs:Array Field) (i:Nat):Option (Nat×Nat):=match fs[i]? with | some f=>some (f.offset,b9 P f.type) | none=>none
def zeroCells (P:Program) (t:TypeId):Option (List CV):=
 match (P.info? t).bind (·.zero) with
 | some (.agg cs)=>some (cs.toList.map HR)
 | some v=>some [HR v]
 | none=>none
def PV:List Ty->Ty
 | []=> .unit
 | [a]=>a
 | a::b::r=> .pair a (PV (b::r))
def Gx (P:Program):Nat->TypeId->Option Ty
 | 0,_=>none
 | n+1,t=>match P.underlying t with
  | some (.int k)=>some (.int k)
  | some .bool=>some .bool
  | some .string=>some .str
  | some (.slice e)=>(Gx P n e).map .slice
  | some (.pointer _)=>some .hnd
  | some (.array m e)=>(Gx P n e).map fun t=> .st (PV (List.replicate m t))
  | some (.struct fs)=>(fs.toList.mapM fun f=>Gx P n f.type).map fun l=> .st (PV l)
  | _=>none
def yq (P:Program) (t:TypeId) (ty:Ty):Option ty.den:=
 match (P.info? t).bind (·.zero) with
 | some v=>iD ⟨[],[],[],[]⟩ [] ty (J6 v)
 | none=>none
def BF (a b:Int):Bool:=a==b
def Wt (a b:Bool):Bool:=a==b
def acp (a b:List UInt8):Bool:=a==b
def Ty.beq:(t:Ty)->t.den->t.den->Bool
 | .int _,a,b=>BF a b
 | .bool,a,b=>Wt a b
 | .str,a,b=>acp a b
 | .unit,_,_=>true
 | .pair s t,a,b=>s.beq a.1 b.1&&t.beq a.2 b.2
 | .st t,a,b=>t.beq a b
 | _,_,_=>false
def bQ (P:Program) (t:TypeId):Ty->Bool
 | .int _=>match P.underlying t with | some (.int _)=>true | _=>false
 | .bool=>match P.underlying t with | some .bool=>true | _=>false
 | .str=>match P.underlying t with | some .string=>true | _=>false
 | _=>false
def cB (P:Program):List Field->Nat->Ty->Bool
 | [f],n,t=>f.name≠ "_" &&Nat.beq f.offset n&&Nat.beq (b9 P f.type) 1&&bQ P f.type t
 | f::g::r,n,.pair a b=>f.name≠ "_" &&Nat.beq f.offset n&&Nat.beq (b9 P f.type) 1&&bQ P f.type a&&cB P (g::r) (n+1) b
 | _,_,_=>false
def fy (P:Program) (t:TypeId):Ty->Bool
 | .st s=>match P.underlying t with | some (.struct fs)=> !P.stoodInHeld t&&cB P fs.toList 0 s | _=>false
 | ty=>bQ P t ty
def eH {k v:Ty} (l:List (k.den×v.den)) (x:k.den):Option v.den:=match l.find? (fun p=>k.beq x p.1) with | some p=>some p.2 | none=>none
def lq {k v:Ty} (l:List (k.den×v.den)) (x:k.den) (y:v.den):List (k.den×v.den):=
 match l with
 | []=>[(x,y)]
 | p::r=>bif k.beq x p.1 then (x,y)::r else p::lq r x y
def allRefs:List SV->Option (List Nat)
 | []=>some []
 | .v false [.ref k o]::r=>if Nat.beq o 0 then (match allRefs r with | some l=>some (k::l) | none=>none) else none
 | _=>none
def bnd (d:Int):Option SV->Option Int
 | none=>some d
 | some (.v false [.int _ a])=>some a
 | _=>none
def Xg (M:St) (d:TypeDesc):CV->Option Int
 | .str s=>match d with | .string=>some s.length | _=>none
 | .sl _ l=>match d with | .slice _=>some l.length | _=>none
 | .nils=>match d with | .slice _=>some 0 | _=>none
 | .row j=>match d with
  | .slice _=>match look M.rows j with
   | some q=>some q.l.length
   | none=>none
  | _=>none
 | .mp j=>match d with
  | .map _ _=>match look M.objs j with
   | some (.map _ _ l)=>some l.length
   | _=>none
  | _=>none
 | _=>none
def Yk (P:Program) (b:Builtin) (c:Call) (S M:St) (k:SV->Option β):Option β:=
 match b with
 | .len=>match c.args.toList.map S.ev,c.argTypes.toList with
  | [.v false [x]],[t]=>match P.underlying t with
   | some d=>match Xg M d x with
    | some n=>k (.v false [.int .i64 n])
    | none=>none
   | none=>none
  | _,_=>none
 | .min=>match c.args.toList.map S.ev with
  | [.v false [.int ik a],.v false [.int _ b]]=>k (.v false [.int ik (if b<a then b else a)])
  | _=>none
 | .max=>match c.args.toList.map S.ev with
  | [.v false [.int ik a],.v false [.int _ b]]=>k (.v false [.int ik (if b>a then b else a)])
  | _=>none
 | _=>none
def Oe:Nat->Nat->Int->(Nat->Option β)->Option β
 | 0,_,_,_=>none
 | n+1,j,i,k=>bif i==(j:Int) then k j else Oe n (j+1) i k
theorem Of {r:β}:∀ {n j:Nat} {i:Int} {k:Nat->Option β},Oe n j i k=some r->∃ m:Nat,i=(m:Int)/\m<j+n/\k m=some r
 | 0,_,_,_,h=>by cases h
 | n+1,j,i,k,h=>by
  unfold Oe at h
  cases hb:i==(j:Int) with
  | true=>rw[hb] at h;exact⟨j,by simpa using hb,by omega,h⟩
  | false=>
   rw[hb] at h
   obtain⟨m,h1,h2,h3⟩:=Of (h:Oe n (j+1) i k=some r)
   exact⟨m,h1,by omega,h3⟩
def IB (ik:IntKind):List CV->Option (List Int)
 | []=>some []
 | .int k n::r=>if k=ik then (match IB ik r with | some l=>some (n::l) | none=>none) else none
 | _=>none
def dn (X:Cx) (o:Oper) (S M:St) (k:SV->Option β):Option β:=
 match o.op with
 | .move x | .assign x=>k (S.ev x)
 | .pick c a b=>match S.ev c with
  | .v false [.bool t]=>bif t then k (S.ev a) else k (S.ev b)
  | _=>none
 | .binOp op t x y _=>Wu X.P op t (S.ev x) (S.ev y) k
 | .unOp op _ x=>match op,S.ev x with
  | .not,.v false [.bool b]=>k (.v false [.bool !b])
  | .neg,.v false [.int ik n]=>k (.v false [.int ik (ik.wrap (0 - n))])
  | _,_=>none
 | .convert src dst x=>match X.P.underlying src,X.P.underlying dst,S.ev x with
  | some _,some (.int ik),.v false [.int _ n]=>k (.v false [.int ik (ik.wrap n)])
  | some _,some .string,.v false [.str s]=>k (.v false [.str s])
  | some _,some .string,.v false [.int _ n]=>chk (decide (0<=n)&&decide (n<128)) (k (.v false [.str [UInt8.ofNat n.toNat]]))
  | some (.slice e),some .string,.v false [.row j]=>match X.P.underlying e,look M.rows j with
   | some (.int .u8),some q=>if q.fz then none else match lP (b:= .int .u8) q.l with
    | some l=>k (.v false [.str (l.map fun n=>UInt8.ofNat n.toNat)])
    | none=>none
   | _,_=>none
  | _,_,_=>none
 | .nilCheck x=>match S.ev x with
  | .v false [.ref i j]=>k (.v false [.ref i j])
  | .v false [.cp t y j]=>k (.v false [.cp t y j])
  | .v false [.rp i sz j l]=>k (.v false [.rp i sz j l])
  | .v false [.clo g t y]=>k (.v false [.clo g t y])
  | .v false [.fn g ks]=>k (.v false [.fn g ks])
  | .v false [.hnd o j]=>o.bind fun h=>k (.v false [.hnd (some h) j])
  | _=>none
 | .fieldAddr s x f=>match X.P.underlying s,S.ev x with
  | some (.struct fs),.v false [c]=>match fs[f]? with
   | some fd=>if okT X.P fd.type&& !Nat.beq (b9 X.P fd.type) 0 then (match MG fd.offset c with
    | some c=>k (.v false [c])
    | none=>none) else none
   | none=>none
  | _,_=>none
 | .field s x f=>match X.P.underlying s,S.ev x with
  | some (.struct fs),.v true cs=>match fs[f]? with
   | some fd=>lp X.P fd.type cs fd.offset k
   | none=>none
  | _,_=>none
 | .load t x=>match S.ev x with
  | .v false [.ref b off]=>match look M.boxes b with
   | some l=>lp X.P t l off k
   | none=>none
  | .v false [.cp ty y off]=>lp X.P t (unpack ty y) off k
  | .v false [.rp j sz i off]=>match look M.rows j with
   | some q=>(q.l[i]?).bind fun y=>if !q.fz&&Nat.beq sz q.t.size then lp X.P t (unpack q.t y) off k else none
   | none=>none
  | .v false [.hnd (some h) off]=>match look M.objs bz with
   | some (.ar _ ty l)=>(l[h]?).bind fun y=>lp X.P t (unpack ty y) off k
   | _=>none
  | _=>none
 | .indexAddr t x ix=>match X.P.underlying t,S.ev x,S.ev ix with
  | some (.slice e),.v false [.sl ty l],.v false [.int _ i]=>
   if okT X.P e&&Nat.beq (b9 X.P e) ty.size then (idx l i).bind fun y=>k (.v false [.cp ty y 0]) else none
  | some (.slice e),.v false [.row j],.v false [.int _ i]=>match look M.rows j with
   | some q=>if okT X.P e&&Nat.beq (b9 X.P e) q.t.size then
    (if q.fz then (idx q.l i).bind fun y=>k (.v false [.cp q.t y 0])
     else chk (decide (0<=i)&&decide (i<q.l.length)) (k (.v false [.rp j q.t.size i.toNat 0]))) else none
   | none=>none
  | some (.array n e),.v false [c],.v false [.int _ i]=>
   if okT X.P e then Oe n 0 i fun j=>(match MG (j*b9 X.P e) c with
    | some c=>k (.v false [c])
    | none=>none) else none
  | _,_,_=>none
 | .index t x ix=>match X.P.underlying t,S.ev x,S.ev ix with
  | some .string,.v false [.str s],.v false [.int _ i]=>(qv s i).bind fun b=>k (.v false [.int .u8 b.toNat])
  | some (.array n e),.v true cs,.v false [.int _ i]=>match X.P.underlying e with
   | some (.int ik)=>match IB ik cs with
    | some l=>if okT X.P e&&Nat.beq (b9 X.P e) 1&& !pR X.P e&&Nat.beq l.length n then (idx l i).bind fun m=>k (.v false [.int ik m]) else none
    | none=>none
   | _=>none
  | _,_,_=>none
 | .extract x i=>match S.ev x with
  | .tup l=>match l[i]? with
   | some p=>k (.v p.1 p.2)
   | none=>none
  | _=>none
 | .build t parts=>match X.P.underlying t,zeroCells X.P t with
  | some (.struct fs),some z=>if !fs.all (fun f=>okT X.P f.type) then none else match FI (DI X.P fs) z (parts.toList.map fun p=>(p.1,S.ev p.2)) with
   | some cs=>k (.v true cs)
   | none=>none
  | some (.array _ e),some z=>if !okT X.P e then none else match FI (fun i=>some (i*b9 X.P e,b9 X.P e)) z (parts.toList.map fun p=>(p.1,S.ev p.2)) with
   | some cs=>k (.v true cs)
   | none=>none
  | _,_=>none
 | .slice t x lo hi none=>match X.P.underlying t,S.ev x with
  | some .string,.v false [.str s]=>match bnd 0 (lo.map S.ev),bnd s.length (hi.map S.ev) with
   | some a,some b=>chk (decide (0<=a)&&decide (a<=b)&&decide (b<=s.length)) (k (.v false [.str ((s.take b.toNat).drop a.toNat)]))
   | _,_=>none
  | some (.slice e),.v false [.sl ty l]=>
   if okT X.P e&&Nat.beq (b9 X.P e) ty.size then
   (match bnd 0 (lo.map S.ev),bnd l.length (hi.map S.ev) with
   | some a,some b=>chk (decide (0<=a)&&decide (a<=b)&&decide (b<=l.length)) (k (.v false [.sl ty ((l.take b.toNat).drop a.toNat)]))
   | _,_=>none)
   else none
  | some (.slice e),.v false [.row j]=>match look M.rows j with
   | some q=>if q.fz&&okT X.P e&&Nat.beq (b9 X.P e) q.t.size then
    (match bnd 0 (lo.map S.ev),bnd q.l.length (hi.map S.ev) with
    | some a,some b=>chk (decide (0<=a)&&decide (a<=b)&&decide (b<=q.l.length)) (k (.v false [.sl q.t ((q.l.take b.toNat).drop a.toNat)]))
    | _,_=>none)
    else none
   | none=>none
  | _,_=>none
 | .makeFunc (.func g) first caps=>match allRefs (caps.toList.map S.ev) with
  | some ks=>if first.isEmpty then k (.v false [.fn g ks]) else none
  | none=>none
 | .lookup t x ix ok=>match X.P.underlying t,S.ev x with
  | some (.map kt et),.v false [.mp j]=>match look M.objs j with
   | some (.map kk vv l)=>match iD M [] kk (S.ev ix),yq X.P et vv with
    | some key,some z=>if fy X.P kt kk then
     (if ok then k (.tup [JB vv ((eH l key).getD z),(false,[.bool (eH l key).isSome])]) else k (l8 vv ((eH l key).getD z))) else none
    | _,_=>none
   | _=>none
  | _,_=>none
 | .call c=>match c.callee with
  | .builtin b=>Yk X.P b c S M k
  | _=>none
 | _=>none
end Go.Dn
namespace Go.Dn
variable {β:Type}
structure Del where
 sv:SV
 box:Option (List CV)
 row:Option lY
 obj:Option nS
def St.app (S:St) (d:Option Tmp) (x:Del):St:=
 match d with
 | none=>S
 | some d=>
  { tmps:=S.tmps.set d x.sv,
    boxes:=match x.box with | some c=>(d,c)::S.boxes | none=>S.boxes,
    rows:=match x.row with | some r=>(d,r)::S.rows | none=>S.rows,
    objs:=match x.obj with | some r=>(d,r)::S.objs | none=>S.objs }
def IT:SV->Option (Option Nat)
 | .v false [.row j]=>some (some j)
 | .v false [.nils]=>some none
 | _=>none
def gS:SV->Option Nat
 | .v false [.ref k o]=>if Nat.beq o 0 then some k else none
 | _=>none
def IS:SV->Option Nat
 | .v false [.mp j]=>some j
 | _=>none
def iC (S:St) (e:TypeId) (t:Ty):CV->Option (List t.den)
 | .row j=>match look S.rows j with
  | some q=>if q.fz|| !Nat.beq q.e e then none else lP (b:=t) q.l
  | none=>none
 | .nils=>some []
 | _=>none
def nu (S:St) (k v:Ty):CV->Option (List (k.den×v.den))
 | .mp j=>match look S.objs j with
  | some (.map _ _ l)=>Wx l
  | _=>none
 | _=>none
def qF:SV->Option CV
 | .v false [c]=>some c
 | _=>none
def jw (S:St):(l:List OT)->List CV->Option (kP l)
 | [],[]=>some ()
 | [],_::_=>none
 | .val t::r,cs=>match pack S t cs with
  | some (x,cs')=>match jw S r cs' with
   | some y=>some (x,y)
   | none=>none
  | none=>none
 | .row e t::r,c::cs=>match iC S e t c with
  | some x=>match jw S r cs with
   | some y=>some (x,y)
   | none=>none
  | none=>none
 | .row _ _::_,[]=>none
 | .map k v::r,c::cs=>match nu S k v c with
  | some x=>match jw S r cs with
   | some y=>some (x,y)
   | none=>none
  | none=>none
 | .map _ _::_,[]=>none
def tU (S:St) (fz:Bool) (t:Ty):Option (List t.den):=
 match look S.objs bz with
 | some (.ar f _ l)=>if f&& !fz then none else lP (b:=t) l
 | _=>none
def mh (S:St) (fb:List Nat) (p:PM) (s:SV):Option p.den:=
 match p with
 | .val t=>iD S fb t s
 | .row e t=>match qF s with | some c=>iC S e t c | none=>none
 | .mrow e t=>match qF s with | some c=>iC S e t c | none=>none
 | .map k v=>match qF s with | some c=>nu S k v c | none=>none
 | .box l=>match gS s with
  | some k=>match look S.boxes k with
   | some cs=>jw S l cs
   | none=>none
  | none=>none
 | .ar t=>tU S false t
 | .arR t=>tU S true t
def cW (S:St) (fb:List Nat):(ps:List PM)->List SV->Option (gh ps)
 | [],[]=>some ()
 | [],_::_=>none
 | p::r,l=>match (bif p.arg then l.head? else some (.v false [.any])) with
  | some s=>match mh S fb p s with
   | some x=>match cW S fb r (bif p.arg then l.tail else l) with
    | some y=>some (x,y)
    | none=>none
   | none=>none
  | none=>none
def PM.isVal:PM->Bool
 | .val _=>true
 | .arR _=>true
 | _=>false
def s7:List RM->Bool
 | []=>true
 | .val _::r=>s7 r
 | _=>false
def JT (ps:List PM):(rs:List RM)->dF ps rs->List (Bool×List CV)
 | [],_=>[]
 | .val t::r,x=>JB t x.1::JT ps r x.2
 | .row _ _::r,x=>(false,[.any])::JT ps r x.2
 | .map _ _::r,x=>(false,[.any])::JT ps r x.2
 | .box _::r,x=>(false,[.any])::JT ps r x.2
def yh:List (Bool×List CV)->SV
 | [p]=> .v p.1 p.2
 | []=> .v false [.any]
 | l=> .tup l
def dJ (S:St) (c:Call):Option (Nat×List SV):=
 match c.callee with
 | .value f=>match S.ev f with
  | .v false [.fn g ks]=>some (g,c.args.toList.map S.ev++ks.map fun k=> .v false [.ref k 0])
  | .v false [.clo g t x]=>some (g,c.args.toList.map S.ev++(unpack t x).map fun c=> .v false [c])
  | _=>none
 | _=>none
def ux:List SV->List Nat
 | []=>[]
 | .v _ cs::r=>(cs.flatMap fun | .ref k _=>[k] | .fn _ ks=>ks | _=>[])++ux r
 | .tup _::r=>ux r
def gy (cs:List CV):List Nat:=cs.filterMap fun | .row j=>some j | _=>none
def DM:List SV->List Nat
 | []=>[]
 | .v _ cs::r=>gy cs++DM r
 | .tup _::r=>DM r
def vp (S:St):List Nat->List Nat
 | []=>[]
 | k::r=>(match look S.boxes k with | some cs=>gy cs | none=>[])++vp S r
def Nn (S:St):List Nat->List Nat
 | []=>[]
 | k::r=>(match look S.boxes k with | some cs=>ux [.v false cs] | none=>[])++Nn S r
def gD (S:St) (args:List SV):List Nat:=ux args++Nn S (ux args)
def eF (S:St) (args:List SV):List Nat:=DM args++vp S (gD S args)
def aG (S:St) (js:List Nat):St:=
 { S with rows:=js.foldl (fun rs j=>match look rs j with | some q=>(j,{ q with fz:=true })::rs | none=>rs) S.rows }
def EK (S:St) (args:List SV):Bool:=(gD S args).isEmpty&&((DM args).all fun j=>match look S.rows j with | some q=>q.fz | none=>true)
def ER:List RM->Bool
 | []=>true
 | .val t::r=>t.flat&&ER r
 | _=>false
def Vx (sp:av) (M:St) (args:List SV) (k:SV->Option β):Option β:=
 if sp.ps.all PM.isVal&&s7 sp.rs&&(ER sp.rs||(EK M args&&sp.ps.all PM.arg)) then
  match cW (aG M (eF M args)) (gD M args) sp.ps args with
  | some x=>(sp.m x).bind fun y=>k (yh (JT sp.ps sp.rs y))
  | none=>none
 else none
def AY (S:St) (t:Ty):List SV->Option (List t.den)
 | []=>some []
 | s::r=>match iD S [] t s with
  | some x=>match AY S t r with
   | some l=>some (x::l)
   | none=>none
  | none=>none
def Zq (d:Nat) (ps:List PM):(rs:List RM)->dF ps rs->(Del->Option β)->Option β
 | [.row e t],x,k=>k ⟨.v false [.row d],none,some ⟨false,e,t,x.1⟩,none⟩
 | [.row e t,.map kk vv],x,k=>k ⟨.tup [(false,[.row d]),(false,[.mp d])],none,some ⟨false,e,t,x.1⟩,some (.map kk vv x.2.1)⟩
 | [.row e t,.val t2],x,k=>k ⟨.tup [(false,[.row d]),JB t2 x.2.1],none,some ⟨false,e,t,x.1⟩,none⟩
 | _,_,_=>none
def acG:List RM->Bool
 | [.row _ _]=>true
 | [.row _ _,.map _ _]=>true
 | [.row _ _,.val _]=>true
 | _=>false
def oL:List RM->Bool
 | [.row _ t]=>t.flat
 | [.row _ t,.map kk vv]=>t.flat&&(kk.flat&&vv.flat)
 | [.row _ t,.val t2]=>t.flat&&t2.flat
 | _=>false
def OW (sp:av) (S M:St) (args:List SV) (d:Nat) (k:Del->Option β):Option β:=
 if sp.ps.all PM.isVal&&(oL sp.rs||(EK M args&&sp.ps.all PM.arg))&& !S.aZ d&&Nat.blt d 2000&& !S.bC d&& !S.bq d then
  match cW (aG M (eF M args)) (gD M args) sp.ps args with
  | some x=>(sp.m x).bind fun y=>Zq d sp.ps sp.rs y k
  | none=>none
 else none
def Ol (X:Cx) (o:Oper) (t:TypeId) (len:Nat) (parts:Array (Nat×Operand)) (S M:St) (k:Del->Option β):Option β:=
 match X.P.underlying t,o.dst with
 | some (.slice e),some d=>match Gx X.P 9 e,zeroCells X.P e with
  | some ty,some _=>
   if S.aZ d|| !Nat.blt d 2000|| !Nat.beq parts.size len|| !((parts.toList.map (·.1))==List.range len)|| !Nat.beq (b9 X.P e) ty.size||Nat.beq ty.size 0|| !Nat.ble (len*ty.size) 16777216 then none else
   match AY M ty (parts.toList.map fun p=>S.ev p.2) with
   | some l=>k ⟨.v false [.row d],none,some ⟨false,e,ty,l⟩,none⟩
   | none=>none
  | _,_=>none
 | _,_=>none
def YT (X:Cx) (o:Oper):Bool:=match o.dst with
 | some d=>(match look X.keys (100000+d) with | some .own=>true | _=>false)
 | none=>false
def TC (X:Cx) (S M:St) (f:Nat) (args:List SV) (d:Option Tmp) (k:Del->Option β):Option β:=
 match look X.keys f with
 | some (.mk g)=>match args with
  | [.v false [.mp j]]=>k ⟨.v false [.kseq g j],none,none,none⟩
  | _=>none
 | some (.srt g _ e)=>match args,d with
  | [.v false [.kseq g' j]],some d=>match look M.objs j with
   | some (.map (.int .i64) _ l)=>if Nat.beq g g'&& !S.aZ d&&Nat.blt d 2000 then chk (mK l) (k ⟨.v false [.row d],none,some ⟨false,e,.int .i64,sK l⟩,none⟩) else none
   | _=>none
  | _,_=>none
 | some (.srt2 g _ e cl cf)=>match args,d with
  | [.v false [.kseq g' j],.v false [.fn cl' []]],some d=>match look M.objs j with
   | some (.map (.st (.pair .str .str)) _ l)=>if Nat.beq g g'&&Nat.beq cl cl'&& !S.aZ d&&Nat.blt d 2000 then chk (VM cf l) (k ⟨.v false [.row d],none,some ⟨false,e,.st (.pair .str .str),FT cf l⟩,none⟩) else none
   | _=>none
  | _,_=>none
 | some (.cop sz lo b e t)=>match args,d with
  | [.v true cs],some d=>match cs[lo]? with
   | some (.sl t' l)=>match lP (b:=t) (show List t'.den from l) with
    | some l=>if !Nat.beq cs.length sz||(S.aZ d||(cs.any (CV.aZ d)||(!Nat.blt d 2000|| !cs.all CV.ok))) then none else
     chk (decide (l.length*b<=140737488355328)&&decide (l.length<=maxLen)) (k ⟨.v true (cs.set lo (.row d)),none,some ⟨false,e,t,l⟩,none⟩)
    | none=>none
   | _=>none
  | _,_=>none
 | _=>none
def eo (X:Cx) (o:Oper) (S M:St) (k:Del->Option β):Option β:=
 match o.op with
 | .alloc t=>match zeroCells X.P t,o.dst with
  | some z,some d=>if S.bU d||z.any (CV.bU d)|| !Nat.blt d 2000 then none else k ⟨.v false [.ref d 0],some z,none,none⟩
  | _,_=>none
 | .box t x=>match S.ev x,o.dst with
  | .v a cs,some d=>if S.bU d||cs.any (CV.bU d)|| !Nat.blt d 2000|| !Nat.beq cs.length (b9 X.P t)||(a != pR X.P t)|| !cs.all CV.ok then none else k ⟨.v false [.ref d 0],some cs,none,none⟩
  | _,_=>none
 | .buildSlice t len parts=>if YT X o then Ol X o t len parts S M k else match X.P.underlying t with
  | some (.slice e)=>match Gx X.P 9 e,zeroCells X.P e with
   | some ty,some _=>
    if !Nat.beq parts.size len|| !((parts.toList.map (·.1))==List.range len)|| !Nat.beq (b9 X.P e) ty.size||Nat.beq ty.size 0|| !Nat.ble (len*ty.size) 16777216 then none else
    match AY M ty (parts.toList.map fun p=>S.ev p.2) with
    | some l=>k ⟨.v false [.sl ty l],none,none,none⟩
    | none=>none
   | _,_=>none
  | _=>none
 | .makeSlice t l c=>match X.P.underlying t,o.dst,S.ev l,S.ev c with
  | some (.slice e),some d,.v false [.int _ l],.v false [.int _ c]=>match Gx X.P 9 e with
   | some ty=>match yq X.P e ty with
    | some z=>
     if S.aZ d|| !Nat.blt d 2000|| !Nat.beq (b9 X.P e) ty.size||Nat.beq ty.size 0 then none else
     chk (decide (0<=l)&&decide (l<=c)&&decide (((((X.P.info? e).map (·.bytes)).getD 0:Nat):Int)*c<=281474976710656)&&decide (c<=9223372036854775807)) (k ⟨.v false [.row d],none,some ⟨false,e,ty,List.replicate l.toNat z⟩,none⟩)
    | _=>none
   | _=>none
  | _,_,_,_=>none
 | .makeMap t none=>match X.P.underlying t,o.dst with
  | some (.map kt et),some d=>match Gx X.P 9 kt,Gx X.P 9 et with
   | some kk,some vv=>if S.bC d||S.bq d|| !fy X.P kt kk|| !Nat.blt d 2000 then none else k ⟨.v false [.mp d],none,none,some (.map kk vv [])⟩
   | _,_=>none
  | _,_=>none
 | .call c=>match dJ S c with
  | some (f,args)=>match look X.specs f with
   | some sp=>if acG sp.rs then (match o.dst with | some d=>OW sp S M args d k | none=>none) else Vx sp M args fun s=>k ⟨s,none,none,none⟩
   | none=>TC X S M f args o.dst k
  | none=>dn X o S M fun s=>k ⟨s,none,none,none⟩
 | _=>dn X o S M fun s=>k ⟨s,none,none,none⟩
def aX.beq:aX->aX->Bool
 | .inl a,.inl b=>Nat.beq a b
 | .inr a,.inr b=>Nat.beq a b
 | .ob a,.ob b=>Nat.beq a b
 | _,_=>false
def bI:List (aX×Nat)->aX->Option Nat
 | [],_=>none
 | (o,n)::r,x=>bif aX.beq o x then some n else bI r x
def vS:List (aX×Nat)->Bool
 | []=>false
 | (o,_)::r=>(bI r o).isSome||vS r
def mT (n:Nat):CV->List (aX×Nat)
 | .row j=>[(.inr j,n)]
 | .mp j=>[(.ob j,n)]
 | _=>[]
def kz (n:Nat):List OT->List CV->List (aX×Nat)
 | .val t::r,cs=>kz (n+1) r (cs.drop t.size)
 | .row _ _::r,c::cs=>mT n c++kz (n+1) r cs
 | .map _ _::r,c::cs=>mT n c++kz (n+1) r cs
 | _,_=>[]
def gW (S:St) (i:Nat) (p:PM) (s:SV):List (aX×Nat):=
 match p with
 | .row _ _=>match qF s with | some c=>mT (64*i) c | none=>[]
 | .mrow _ _=>match qF s with | some c=>mT (64*i) c | none=>[]
 | .map _ _=>match qF s with | some c=>mT (64*i) c | none=>[]
 | .box l=>match gS s with
  | some k=>(.inl k,64*i)::(match look S.boxes k with | some cs=>kz (64*i+1) l cs | none=>[])
  | none=>[]
 | .ar _=>[(.ob bz,64*i)]
 | _=>[]
def eD (S:St):Nat->List PM->List SV->List (aX×Nat)
 | _,[],_=>[]
 | i,p::r,l=>(match (bif p.arg then l.head? else some (.v false [.any])) with
  | some s=>gW S i p s
  | none=>[])++eD S (i+1) r (bif p.arg then l.tail else l)
def dY:List PM->List SV->List SV
 | .val _::r,s::q=>s::dY r q
 | .ar _::r,q=>dY r q
 | .arR _::r,q=>dY r q
 | _::r,_::q=>dY r q
 | _,_=>[]
def mP:List OT->Bool
 | []=>true
 | .val t::r=>t.flat&&mP r
 | .row _ t::r=>t.flat&&mP r
 | .map k v::r=>k.flat&&v.flat&&mP r
def fo:List PM->Bool
 | []=>true
 | .mrow _ t::r=>t.flat&&fo r
 | .map k v::r=>k.flat&&v.flat&&fo r
 | .box l::r=>mP l&&fo r
 | .ar t::r=>t.flat&&fo r
 | _::r=>fo r
def ff:List RM->Bool
 | []=>true
 | .val t::r=>t.flat&&ff r
 | .row _ t::r=>t.flat&&ff r
 | .map k v::r=>k.flat&&v.flat&&ff r
 | .box l::r=>mP l&&ff r
def dup:List Nat->Bool
 | []=>false
 | x::r=>r.any (Nat.beq x)||dup r
def nid (d i c:Nat):Nat:=10000+2048*d+64*i+c
def Gf (d i:Nat):Nat->(l:List OT)->kP l->List CV
 | _,[],_=>[]
 | c,.val t::r,x=>unpack t x.1++Gf d i (c+1) r x.2
 | c,.row _ _::r,x=> .row (nid d i c)::Gf d i (c+1) r x.2
 | c,.map _ _::r,x=> .mp (nid d i c)::Gf d i (c+1) r x.2
def mQ (d i:Nat):Nat->(l:List OT)->kP l->List (Nat×lY)
 | _,[],_=>[]
 | c,.val _::r,x=>mQ d i (c+1) r x.2
 | c,.row e t::r,x=>(nid d i c,⟨false,e,t,x.1⟩)::mQ d i (c+1) r x.2
 | c,.map _ _::r,x=>mQ d i (c+1) r x.2
def jv (d i:Nat):Nat->(l:List OT)->kP l->List (Nat×nS)
 | _,[],_=>[]
 | c,.val _::r,x=>jv d i (c+1) r x.2
 | c,.row _ _::r,x=>jv d i (c+1) r x.2
 | c,.map k v::r,x=>(nid d i c,.map k v x.1)::jv d i (c+1) r x.2
def tT (ps:List PM) (d:Nat):(rs:List RM)->Nat->dF ps rs->List (Bool×List CV)
 | [],_,_=>[]
 | .val t::r,c,x=>JB t x.1::tT ps d r (c+1) x.2
 | .row _ _::r,c,x=>(false,[.row (nid d (24+c) 0)])::tT ps d r (c+1) x.2
 | .map _ _::r,c,x=>(false,[.mp (nid d (24+c) 0)])::tT ps d r (c+1) x.2
 | .box _::r,c,x=>(false,[.ref d 0])::tT ps d r (c+1) x.2
def mS (ps:List PM) (d:Nat):(rs:List RM)->Nat->dF ps rs->List (Nat×lY)
 | [],_,_=>[]
 | .val _::r,c,x=>mS ps d r (c+1) x.2
 | .row e t::r,c,x=>(nid d (24+c) 0,⟨false,e,t,x.1⟩)::mS ps d r (c+1) x.2
 | .map _ _::r,c,x=>mS ps d r (c+1) x.2
 | .box l::r,c,x=>mQ d (24+c) 1 l x.1++mS ps d r (c+1) x.2
def iW (ps:List PM) (d:Nat):(rs:List RM)->Nat->dF ps rs->List (Nat×nS)
 | [],_,_=>[]
 | .val _::r,c,x=>iW ps d r (c+1) x.2
 | .row _ _::r,c,x=>iW ps d r (c+1) x.2
 | .map k v::r,c,x=>(nid d (24+c) 0,.map k v x.1)::iW ps d r (c+1) x.2
 | .box l::r,c,x=>jv d (24+c) 1 l x.1++iW ps d r (c+1) x.2
def mR (ps:List PM) (d:Nat):(rs:List RM)->Nat->dF ps rs->List (Nat×List CV)
 | [],_,_=>[]
 | .val _::r,c,x=>mR ps d r (c+1) x.2
 | .row _ _::r,c,x=>mR ps d r (c+1) x.2
 | .map _ _::r,c,x=>mR ps d r (c+1) x.2
 | .box l::r,c,x=>(d,Gf d (24+c) 1 l x.1)::mR ps d r (c+1) x.2
def wD (ps:List PM):(rs:List RM)->dF ps rs->eG ps
 | [],x=>x
 | _::r,x=>wD ps r x.2
def xU:List RM->Nat
 | []=>0
 | .box _::r=>xU r+1
 | _::r=>xU r
def cM (d:Nat):Nat->(ps:List PM)->List SV->eG ps->List (Nat×List CV)
 | _,[],_,_=>[]
 | i,.box l::r,s::q,x=>(match gS s with | some k=>[(k,Gf d i 1 l x.1)] | none=>[])++cM d (i+1) r q x.2
 | i,.mrow _ _::r,_::q,x=>cM d (i+1) r q x.2
 | i,.map _ _::r,_::q,x=>cM d (i+1) r q x.2
 | i,.ar _::r,q,x=>cM d (i+1) r q x.2
 | i,.val _::r,_::q,x=>cM d (i+1) r q x
 | i,.row _ _::r,_::q,x=>cM d (i+1) r q x
 | i,.arR _::r,q,x=>cM d (i+1) r q x
 | _,_::_,[],_=>[]
def eW (d:Nat):Nat->(ps:List PM)->List SV->eG ps->List (Nat×lY)
 | _,[],_,_=>[]
 | i,.box l::r,s::q,x=>(match gS s with | some _=>mQ d i 1 l x.1 | none=>[])++eW d (i+1) r q x.2
 | i,.mrow e t::r,s::q,x=>(match IT s with | some (some j)=>[(j,⟨false,e,t,x.1⟩)] | _=>[])++eW d (i+1) r q x.2
 | i,.map _ _::r,_::q,x=>eW d (i+1) r q x.2
 | i,.ar _::r,q,x=>eW d (i+1) r q x.2
 | i,.val _::r,_::q,x=>eW d (i+1) r q x
 | i,.row _ _::r,_::q,x=>eW d (i+1) r q x
 | i,.arR _::r,q,x=>eW d (i+1) r q x
 | _,_::_,[],_=>[]
def dh (d:Nat):Nat->(ps:List PM)->List SV->eG ps->List (Nat×nS)
 | _,[],_,_=>[]
 | i,.box l::r,s::q,x=>(match gS s with | some _=>jv d i 1 l x.1 | none=>[])++dh d (i+1) r q x.2
 | i,.mrow _ _::r,_::q,x=>dh d (i+1) r q x.2
 | i,.map k v::r,s::q,x=>(match IS s with | some j=>[(j,.map k v x.1)] | _=>[])++dh d (i+1) r q x.2
 | i,.ar t::r,q,x=>(bz,.ar false t x.1)::dh d (i+1) r q x.2
 | i,.val _::r,_::q,x=>dh d (i+1) r q x
 | i,.row _ _::r,_::q,x=>dh d (i+1) r q x
 | i,.arR _::r,q,x=>dh d (i+1) r q x
 | _,_::_,[],_=>[]
def CV.fB (a b:Nat):CV->Bool
 | .row j=>Nat.ble a j&&Nat.blt j b
 | .rp j _ _ _=>Nat.ble a j&&Nat.blt j b
 | .mp j=>Nat.ble a j&&Nat.blt j b
 | .stp j _=>Nat.ble a j&&Nat.blt j b
 | .kseq _ j=>Nat.ble a j&&Nat.blt j b
 | _=>false
def SV.fB (a b:Nat):SV->Bool
 | .v _ cs=>cs.any (CV.fB a b)
 | .tup l=>l.any fun p=>p.2.any (CV.fB a b)
def St.fB (a b:Nat) (S:St):Bool:=S.tmps.any (SV.fB a b)||S.boxes.any fun p=>p.2.any (CV.fB a b)
def rf (d:Nat) (S:St):Bool:= !S.fB (nid d 0 0) (nid (d+1) 0 0)
def eA (d i:Nat):Nat->List OT->List (aX×Nat)
 | _,[]=>[]
 | c,.val _::r=>eA d i (c+1) r
 | c,.row _ _::r=>(.inr (nid d i c),64*i+c)::eA d i (c+1) r
 | c,.map _ _::r=>(.ob (nid d i c),64*i+c)::eA d i (c+1) r
def cm (d:Nat):Nat->List PM->List SV->List (aX×Nat)
 | _,[],_=>[]
 | i,.box l::r,s::q=>(match gS s with | some k=>(.inl k,64*i)::eA d i 1 l | none=>[])++cm d (i+1) r q
 | i,.mrow _ _::r,s::q=>(match IT s with | some (some j)=>[(.inr j,64*i)] | _=>[])++cm d (i+1) r q
 | i,.map _ _::r,s::q=>(match IS s with | some j=>[(.ob j,64*i)] | _=>[])++cm d (i+1) r q
 | i,.ar _::r,q=>(.ob bz,64*i)::cm d (i+1) r q
 | i,.val _::r,_::q=>cm d (i+1) r q
 | i,.row _ _::r,_::q=>cm d (i+1) r q
 | i,.arR _::r,q=>cm d (i+1) r q
 | _,_::_,[]=>[]
def dU (d:Nat):Nat->List RM->List (aX×Nat)
 | _,[]=>[]
 | c,.val _::r=>dU d (c+1) r
 | c,.row _ _::r=>(.inr (nid d (24+c) 0),64*(24+c))::dU d (c+1) r
 | c,.map _ _::r=>(.ob (nid d (24+c) 0),64*(24+c))::dU d (c+1) r
 | c,.box l::r=>((.inl d,64*(24+c))::eA d (24+c) 1 l)++dU d (c+1) r
def vZ:List PM->Bool
 | []=>false
 | .arR _::_=>true
 | _::r=>vZ r
def Mb (S:St) (l:List (aX×Nat)):Bool:=l.all fun p=>match p.1 with | .ob j=> !S.bq j | _=>true
def Xw (d:Nat) (l:List (aX×Nat)):Bool:=l.all fun p=>match p.1 with
 | .inr j=> !(Nat.ble (nid d 0 0) j&&Nat.blt j (nid (d+1) 0 0))
 | .ob j=> !(Nat.ble (nid d 0 0) j&&Nat.blt j (nid (d+1) 0 0))
 | .inl _=>true
def iJ (sp:av) (S:St) (args:List SV) (d:Option Tmp) (k:St->Option β):Option β:=
 let va:=dY sp.ps args
 let js:=eF S va
 let V:=aG S js
 let ow:=eD S 0 sp.ps args
 let fb:=gD S va
 let dd:=d.getD 0
 let fl:=ff sp.rs&&fo sp.ps
 let its:=cm dd 0 sp.ps args++dU dd 0 sp.rs
 if vS ow||vS its||dup (its.map (·.2))|| !(its.all fun p=>Nat.blt p.2 2048)||(fb.any fun k=>(bI ow (.inl k)).isSome)||(js.any fun j=>(bI ow (.inr j)).isSome)||(vZ sp.ps&&(bI ow (.ob bz)).isSome)|| !rf dd S|| !Xw dd ow|| !Mb S its||
  !(fl||(fb.isEmpty&& !vZ sp.ps))||(Nat.blt 0 (xU sp.rs)&&(S.bU dd||d.isNone))|| !Nat.blt dd 2000 then none else
 match cW V fb sp.ps args with
 | some x=>(sp.m x).bind fun y=>
  let R:=if fl then S else V
  let b:=wD sp.ps sp.rs y
  k { tmps:=match d with | some d=>S.tmps.set d (yh (tT sp.ps dd sp.rs 0 y)) | none=>S.tmps,
      boxes:=mR sp.ps dd sp.rs 0 y++(cM dd 0 sp.ps args b++S.boxes.filter fun p=>(bI ow (.inl p.1)).isNone),
      rows:=mS sp.ps dd sp.rs 0 y++(eW dd 0 sp.ps args b++R.rows.filter fun p=>(bI ow (.inr p.1)).isNone),
      objs:=iW sp.ps dd sp.rs 0 y++(dh dd 0 sp.ps args b++S.objs.filter fun p=>(bI ow (.ob p.1)).isNone) }
 | none=>none
def Xu {α:Type} (a:Option α) (k:α->Option β) (e:Option β):Option β:=
 match a with
 | some y=>k y
 | none=>e
def Lx (sp:av) (S:St) (args:List SV) (d:Option Tmp) (k:St->Option β) (e:Option β):Option β:=
 let va:=dY sp.ps args
 let js:=eF S va
 let V:=aG S js
 let ow:=eD S 0 sp.ps args
 let fb:=gD S va
 let dd:=d.getD 0
 let fl:=ff sp.rs&&fo sp.ps
 let its:=cm dd 0 sp.ps args++dU dd 0 sp.rs
 if vS ow||vS its||dup (its.map (·.2))|| !(its.all fun p=>Nat.blt p.2 2048)||(fb.any fun k=>(bI ow (.inl k)).isSome)||(js.any fun j=>(bI ow (.inr j)).isSome)||(vZ sp.ps&&(bI ow (.ob bz)).isSome)|| !rf dd S|| !Xw dd ow|| !Mb S its||
  !(fl||(fb.isEmpty&& !vZ sp.ps))||(Nat.blt 0 (xU sp.rs)&&(S.bU dd||d.isNone))|| !Nat.blt dd 2000 then none else
 match cW V fb sp.ps args with
 | some x=>Xu (sp.m x) (fun y=>
  let R:=if fl then S else V
  let b:=wD sp.ps sp.rs y
  k { tmps:=match d with | some d=>S.tmps.set d (yh (tT sp.ps dd sp.rs 0 y)) | none=>S.tmps,
      boxes:=mR sp.ps dd sp.rs 0 y++(cM dd 0 sp.ps args b++S.boxes.filter fun p=>(bI ow (.inl p.1)).isNone),
      rows:=mS sp.ps dd sp.rs 0 y++(eW dd 0 sp.ps args b++R.rows.filter fun p=>(bI ow (.inr p.1)).isNone),
      objs:=iW sp.ps dd sp.rs 0 y++(dh dd 0 sp.ps args b++S.objs.filter fun p=>(bI ow (.ob p.1)).isNone) }) e
 | none=>none
def oa {α:Type}:List (Nat×α)->Nat->List α
 | [],_=>[]
 | (j,x)::r,k=>bif Nat.beq j k then x::oa r k else oa r k
def qZ (S:St) (args:List SV) (d:Option Tmp) (k:St->Option β):List av->Option β
 | []=>none
 | [sp]=>iJ sp S args d k
 | sp::sp'::r=>Lx sp S args d k (qZ S args d k (sp'::r))
def MP (S:St) (e:TypeId) (ty:Ty):CV->Option (List ty.den×Option Nat)
 | .nils=>some ([],none)
 | .row j=>match look S.rows j with
  | some q=>if q.fz|| !Nat.beq q.e e then none else (match lP (b:=ty) q.l with | some l=>some (l,some j) | none=>none)
  | none=>none
 | _=>none
def HE (S:St) (ty:Ty):CV->Option (List ty.den)
 | .nils=>some []
 | .sl _ l=>lP (b:=ty) l
 | .row j=>match look S.rows j with
  | some q=>lP (b:=ty) q.l
  | none=>none
 | _=>none
def r0 (P:Program) (t:TypeId) (S:St) (b off:Nat) (cs:List CV) (k:St->Option β):Option β:=
 match look S.boxes b with
 | some l=>if okT P t&&Nat.beq cs.length (b9 P t)&&cs.all CV.ok then (match setAt l off cs with
  | some l=>k { S with boxes:=(b,l)::S.boxes }
  | none=>none) else none
 | none=>none
def yg (P:Program) (t:TypeId) (S:St) (j sz i off:Nat) (cs:List CV) (k:St->Option β):Option β:=
 match look S.rows j with
 | some q=>if q.fz|| !Nat.beq sz q.t.size|| !okT P t|| !Nat.beq cs.length (b9 P t)|| !cs.all CV.ok then none else
  (q.l[i]?).bind fun y=>match setAt (unpack q.t y) off cs with
  | some cs=>match gX (pack S q.t cs) with
   | some y=>k { S with rows:=(j,{ q with l:=q.l.set i y })::S.rows }
   | none=>none
  | none=>none
 | none=>none
def A7 (P:Program) (t:TypeId) (S:St) (h off:Nat) (cs:List CV) (k:St->Option β):Option β:=
 match look S.objs bz with
 | some (.ar false ty l)=>if !okT P t|| !Nat.beq cs.length (b9 P t)|| !cs.all CV.ok then none else
  (l[h]?).bind fun y=>match setAt (unpack ty y) off cs with
  | some cs=>match gX (pack S ty cs) with
   | some y=>k { S with objs:=(bz,.ar false ty (l.set h y))::S.objs }
   | none=>none
  | none=>none
 | _=>none
def CV.uK (k h:Nat):CV->CV
 | .ref j o=>bif Nat.beq j k then .hnd (some h) o else .ref j o
 | c=>c
def SV.uK (k h:Nat):SV->SV
 | .v a cs=> .v a (cs.map (CV.uK k h))
 | .tup l=> .tup (l.map fun p=>(p.1,p.2.map (CV.uK k h)))
def CV.FK (k:Nat):CV->Bool
 | .fn _ ks=>ks.any (Nat.beq · k)
 | _=>false
def SV.FK (k:Nat):SV->Bool
 | .v _ cs=>cs.any (CV.FK k)
 | .tup l=>l.any fun p=>p.2.any (CV.FK k)
def St.FK (k:Nat) (S:St):Bool:=S.tmps.any (SV.FK k)||S.boxes.any fun p=>p.2.any (CV.FK k)
def AW (S0:St) (k:Nat):St:=
 match look S0.objs bz,look S0.boxes k with
 | some (.ar false t l),some cs=>
  let S:=aG S0 (gy cs)
  if S.FK k|| !Nat.blt k 2000 then S0 else
  match gX (pack S t cs) with
  | some x=>
   { tmps:=S.tmps.map (SV.uK k l.length),boxes:=(S.boxes.filter fun p=> !Nat.beq p.1 k).map (fun p=>(p.1,p.2.map (CV.uK k l.length))),rows:=S.rows,objs:=(bz,.ar false t (l++[x]))::S.objs }
  | none=>S0
 | _,_=>S0
def Zp (cs:List CV):List Nat:=cs.filterMap fun | .ref k o=>(if Nat.beq o 0 then some k else none) | _=>none
def iL (S:St):List SV->St
 | []=>S
 | .v _ cs::r=>iL ((Zp cs).foldl AW S) r
 | .tup _::r=>iL S r
def xQ (S:St) (d:Option Tmp):St:=
 match d with
 | some d=>(match S.tmps.getD d (.v false [.any]) with
  | .v false [.ref k _]=>bif Nat.beq k d then { S with tmps:=S.tmps.set d (.v false [.any]) } else S
  | _=>S)
 | none=>S
def JJ (E:tg) (S:St) (args:List SV) (d:Option Tmp) (k:St->Option β):Option β:=
 match E with
 | .elt lo nb tb te m=>match args with
  | [.v false [.ref kb o],.v false [.rp j sz i off]]=>
   if !Nat.beq o 0|| !Nat.beq off 0 then none else
   match look S.boxes kb,look S.rows j with
   | some cs,some q=>
    if q.fz|| !Nat.beq sz te.size|| !Nat.beq cs.length nb then none else
    match cs[lo]? with
    | some (.sl _ l)=>match lP (b:=tb) l,lP (b:=te) q.l with
     | some l,some ql=>(m l ql i).bind fun ql'=>k ((⟨S.tmps,(kb,cs)::S.boxes,(j,⟨false,q.e,te,ql'⟩)::S.rows,S.objs⟩:St).put d (.v false [.any]))
     | _,_=>none
    | _=>none
   | _,_=>none
  | _=>none
 | .nest p sp=>match args[p]? with
  | some (.v false [.ref km o])=>
   if !Nat.beq o 0|| !S.bU km then none else
   match look S.boxes km with
   | some [.ref kk o2]=>
    if !Nat.beq o2 0||inL (gD S (dY sp.ps (args.set p (.v false [.ref kk 0])))) km||(bI (eD S 0 sp.ps (args.set p (.v false [.ref kk 0]))) (.inl km)).isSome then none else
    iJ sp S (args.set p (.v false [.ref kk 0])) d fun S'=>match look S'.boxes km with
     | some [.ref k' o']=>if Nat.beq k' kk&&Nat.beq o' 0&&S.bU kk then k S' else none
     | _=>none
   | _=>none
  | _=>none
 | _=>none
def tg.aaU:tg->Bool
 | .elt _ _ _ _ _=>true
 | .nest _ _=>true
 | _=>false
def cJ (X:Cx) (o:Oper) (S:St) (k:St->Option β):Option β:=
 match o.op with
 | .store t a x=>if o.dst.isSome then none else match S.ev a,S.ev x with
  | .v false [.ref b off],.v _ cs=>r0 X.P t S b off cs k
  | .v false [.rp j sz i off],.v _ cs=>yg X.P t (aG S (gy cs)) j sz i off cs k
  | .v false [.hnd (some h) off],.v _ cs=>A7 X.P t (aG S (gy cs)) h off cs k
  | _,_=>none
 | .mapUpdate t m kx x=>if o.dst.isSome then none else
  let S:=iL (aG S (DM [S.ev x])) [S.ev x]
  match X.P.underlying t,S.ev m with
  | some (.map kt _),.v false [.mp j]=>match look S.objs j with
   | some (.map kk vv l)=>match iD S [] kk (S.ev kx),iD S [] vv (S.ev x) with
    | some key,some y=>if fy X.P kt kk&& !S.bq j then k { S with objs:=(j,.map kk vv (lq l key y))::S.objs } else none
    | _,_=>none
   | _=>none
  | _,_=>none
 | .slice _ x _ _ _=>
  let S:=aG S (DM [S.ev x])
  eo X o S S fun x=>k (S.app o.dst x)
 | .alloc _=>eo X o (xQ S o.dst) (xQ S o.dst) fun x=>k ((xQ S o.dst).app o.dst x)
 | .call { callee:= .builtin .append,args,argTypes }=>match args.toList.map S.ev,argTypes.toList,o.dst with
  | [.v false [s],.v false [x]],[t,t'],some d=>match X.P.underlying t with
   | some (.slice e)=>match Gx X.P 9 e,zeroCells X.P e with
    | some ty,some zc=>
     if S.aZ d|| !Nat.blt d 2000|| !Nat.beq t t'|| !Nat.beq (b9 X.P e) ty.size||Nat.beq ty.size 0|| !Nat.beq zc.length ty.size then none else
     match MP S e ty s,HE S ty x with
     | some (l,j),some l'=>
      chk (decide ((l.length+l'.length)*(((X.P.info? e).map (·.bytes)).getD 0)<=140737488355328)&&decide (l.length+l'.length<=maxLen))
       (k { tmps:=S.tmps.set d (.v false [.row d]),boxes:=S.boxes,rows:=(d,⟨false,e,ty,l++l'⟩)::(match j with | some j=>S.rows.filter (fun p=> !Nat.beq p.1 j) | none=>S.rows),objs:=S.objs })
     | _,_=>none
    | _,_=>none
   | _=>none
  | _,_,_=>none
 | .buildSlice t len parts=>
  let S:=iL (aG S (DM (parts.toList.map fun p=>S.ev p.2))) (parts.toList.map fun p=>S.ev p.2)
  Ol X o t len parts S S fun x=>k (S.app o.dst x)
 | .call c=>match dJ S c with
  | some (f,args)=>match look X.keys f with
   | some kf=>if kf.aaU then JJ kf S args o.dst k else eo X o S S fun x=>k (S.app o.dst x)
   | none=>qZ S args o.dst k (oa X.specs f)
  | none=>eo X o S S fun x=>k (S.app o.dst x)
 | _=>eo X o S S fun x=>k (S.app o.dst x)
def guardOf (ops:List Oper) (o:Oper) (S:St):Option (Option (Nat×Bool×Bool)):=
 match o.guard with
 | none=>some none
 | some (j,want)=>match ops[j]? with
  | some g=>match g.dst with
   | some d=>match S.ev (.tmp d) with
    | .v false [.bool b]=>some (some (d,b,want))
    | _=>none
   | none=>none
  | none=>none
def lW (ops:List Oper) (o:Oper) (S:St):Bool:=
 match o.guard with
 | none=>false
 | some (j,_)=>match ops[j]? with
  | some g=>match g.dst with
   | some d=>match S.ev (.tmp d) with
    | .tup []=>true
    | _=>false
   | none=>false
  | none=>false
def nP:SV:= .tup []
def fork (S:St) (d:Nat) (b want:Bool) (yes no:St->Option β):Option β:=
 bif want then (bif b then yes (S.put (some d) (.v false [.bool true])) else no (S.put (some d) (.v false [.bool false])))
 else (bif b then no (S.put (some d) (.v false [.bool true])) else yes (S.put (some d) (.v false [.bool false])))
def lD (X:Cx) (ops:List Oper):List Oper->St->(St->Option β)->Option β
 | [],S,k=>k S
 | o::rest,S,k=>match guardOf ops o S with
  | none=>bif lW ops o S then lD X ops rest (S.put o.dst nP) k else none
  | some none=>cJ X o S fun S=>lD X ops rest S k
  | some (some (d,b,want))=>fork S d b want (fun S=>cJ X o S fun S=>lD X ops rest S k)
   fun S=>lD X ops rest (S.put o.dst nP) k
def PA (S:St) (t:Ty):Option (List t.den):=
 match look S.objs bz with
 | some (.ar true _ l)=>lP (b:=t) l
 | _=>none
def bn (S:St):(cs:List CK)->List CV->Option (cZ cs)
 | [],[]=>some ()
 | [],_::_=>none
 | .val t::r,cvs=>match pack S t cvs with
  | some (x,q)=>match bn S r q with
   | some y=>some (x,y)
   | none=>none
  | none=>none
 | .own e t::r,c::q=>match iC S e t c,bn S r q with
  | some l,some y=>some (l,y)
  | _,_=>none
 | .own _ _::_,[]=>none
 | .map kk vv::r,c::q=>match nu S kk vv c,bn S r q with
  | some l,some y=>some (l,y)
  | _,_=>none
 | .map _ _::_,[]=>none
 | .ref k off::r,c::q=>match c with
  | .ref k' off'=>if Nat.beq k k'&&Nat.beq off off' then bn S r q else none
  | _=>none
 | .ref _ _::_,[]=>none
 | .fn g ks::r,c::q=>match c with
  | .fn g' ks'=>if Nat.beq g g'&&ks==ks' then bn S r q else none
  | _=>none
 | .fn _ _::_,[]=>none
 | .ar t::r,q=>match tU S false t,bn S r q with
  | some l,some y=>some (l,y)
  | _,_=>none
 | .arF t::r,q=>match PA S t,bn S r q with
  | some l,some y=>some (l,y)
  | _,_=>none
 | .rowR j::r,c::q=>match c with
  | .row j'=>if Nat.beq j j' then bn S r q else none
  | _=>none
 | .rowR _::_,[]=>none
 | .rpR j sz::r,c::q=>match c with
  | .rp j' sz' i off=>if Nat.beq j j'&&(Nat.beq sz sz'&&Nat.beq off 0) then (match bn S r q with
   | some y=>some (i,y)
   | none=>none) else none
  | _=>none
 | .rpR _ _::_,[]=>none
 | .mapR j::r,c::q=>match c with
  | .mp j'=>if Nat.beq j j' then bn S r q else none
  | _=>none
 | .mapR _::_,[]=>none
 | .rowC j e t::r,q=>match iC S e t (.row j),bn S r q with
  | some l,some y=>some (l,y)
  | _,_=>none
 | .mapC j k v::r,q=>match nu S k v (.mp j),bn S r q with
  | some l,some y=>some (l,y)
  | _,_=>none
def CK.agg:CK->Bool
 | .val (.st _)=>true
 | _=>false
def Jt (S:St):List (Nat×CK)->Option (List CV)
 | []=>some []
 | p::r=>match S.tmps.getD p.1 (.v false [.any]) with
  | .v a cs=>match Jt S r with
   | some l=>if (a==p.2.agg)&&(Nat.beq cs.length p.2.size&&(a||Nat.beq p.2.size 1)) then some (cs++l) else none
   | none=>none
  | _=>none
def HJ (S:St):List (Nat×List CK)->Option (List CV)
 | []=>some []
 | p::r=>match look S.boxes p.1 with
  | some cs=>if Nat.beq cs.length (mD p.2) then (match HJ S r with
   | some l=>some (cs++l)
   | none=>none) else none
  | none=>none
def St.places (S:St) (A:Ann):Option (List CV):=
 match Jt S A.tmps,HJ S A.boxes with
 | some a,some b=>some (a++b)
 | _,_=>none
def carried (base:Nat):List CK->List CV->List (aX×Nat)
 | .val t::r,cvs=>carried base r (cvs.drop t.size)
 | .own _ _::r,c::q=>mT base c++carried (base+1) r q
 | .map _ _::r,c::q=>mT base c++carried (base+1) r q
 | .ref _ _::r,_::q=>carried base r q
 | .fn _ _::r,_::q=>carried base r q
 | .ar _::r,q=>(.ob bz,bz)::carried base r q
 | .arF _::r,q=>carried base r q
 | .rowR _::r,_::q=>carried base r q
 | .rpR _ _::r,_::q=>carried base r q
 | .mapR _::r,_::q=>carried base r q
 | .rowC j _ _::r,q=>(.inr j,j)::carried base r q
 | .mapC j _ _::r,q=>(.ob j,j)::carried base r q
 | _,_=>[]
def dX:Nat:=4000
def l6:List CK->Nat
 | []=>0
 | .own _ _::r=>l6 r+1
 | .map _ _::r=>l6 r+1
 | _::r=>l6 r
def CK.qE (n:Nat):CK->Bool
 | .rowR j=>Nat.blt j dX||Nat.ble (dX+n) j
 | .rpR j _=>Nat.blt j dX||Nat.ble (dX+n) j
 | .rowC j _ _=>Nat.blt j dX||Nat.ble (dX+n) j
 | .mapR j=>Nat.blt j dX||Nat.ble (dX+n) j
 | .mapC j _ _=>Nat.blt j dX||Nat.ble (dX+n) j
 | _=>true
def SK (A:Ann) (S:St):Option (cZ A.cks):=
 match S.places A with
 | some cvs=>if !A.cks.all (CK.qE (l6 A.cks))|| !Nat.blt A.cks.length 1000||vS (carried dX A.cks cvs)||dup ((carried dX A.cks cvs).map (·.2)) then none else bn S A.cks cvs
 | none=>none
def Ix:List CK->List CV->List Nat
 | .val t::r,cvs=>gy (cvs.take t.size)++Ix r (cvs.drop t.size)
 | .ar _::r,q=>Ix r q
 | .arF _::r,q=>Ix r q
 | .rowC _ _ _::r,q=>Ix r q
 | .mapC _ _ _::r,q=>Ix r q
 | _::r,_::q=>Ix r q
 | _,_=>[]
def carry (A:Ann) (S:St):Option (cZ A.cks):=
 match S.places A with
 | some cvs=>SK A (aG S (Ix A.cks cvs))
 | none=>none
def lg (base:Nat):(cs:List CK)->cZ cs->List CV
 | [],_=>[]
 | .val t::r,x=>unpack t x.1++lg base r x.2
 | .own _ _::r,x=> .row base::lg (base+1) r x.2
 | .map _ _::r,x=> .mp base::lg (base+1) r x.2
 | .ref k off::r,x=> .ref k off::lg base r x
 | .fn g ks::r,x=> .fn g ks::lg base r x
 | .ar _::r,x=>lg base r x.2
 | .arF _::r,x=>lg base r x.2
 | .rowR j::r,x=> .row j::lg base r x
 | .rpR j sz::r,x=> .rp j sz x.1 0::lg base r x.2
 | .mapR j::r,x=> .mp j::lg base r x
 | .rowC _ _ _::r,x=>lg base r x.2
 | .mapC _ _ _::r,x=>lg base r x.2
def fH (base:Nat):(cs:List CK)->cZ cs->List (Nat×lY)
 | [],_=>[]
 | .val _::r,x=>fH base r x.2
 | .own e t::r,x=>(base,⟨false,e,t,x.1⟩)::fH (base+1) r x.2
 | .map _ _::r,x=>fH (base+1) r x.2
 | .ref _ _::r,x=>fH base r x
 | .fn _ _::r,x=>fH base r x
 | .ar _::r,x=>fH base r x.2
 | .arF _::r,x=>fH base r x.2
 | .rowR _::r,x=>fH base r x
 | .rpR _ _::r,x=>fH base r x.2
 | .mapR _::r,x=>fH base r x
 | .rowC j e t::r,x=>(j,⟨false,e,t,x.1⟩)::fH base r x.2
 | .mapC _ _ _::r,x=>fH base r x.2
def dB (base:Nat):(cs:List CK)->cZ cs->List (Nat×nS)
 | [],_=>[]
 | .val _::r,x=>dB base r x.2
 | .own _ _::r,x=>dB (base+1) r x.2
 | .map k v::r,x=>(base,.map k v x.1)::dB (base+1) r x.2
 | .ref _ _::r,x=>dB base r x
 | .fn _ _::r,x=>dB base r x
 | .ar t::r,x=>(bz,.ar false t x.1)::dB base r x.2
 | .arF t::r,x=>(bz,.ar true t x.1)::dB base r x.2
 | .rowR _::r,x=>dB base r x
 | .rpR _ _::r,x=>dB base r x.2
 | .mapR _::r,x=>dB base r x
 | .rowC _ _ _::r,x=>dB base r x.2
 | .mapC j k v::r,x=>(j,.map k v x.1)::dB base r x.2
def zx:List (Nat×CK)->List CV->List SV->List SV
 | p::r,q,tmps=>zx r (q.drop p.2.size) (tmps.set p.1 (.v p.2.agg (q.take p.2.size)))
 | [],_,tmps=>tmps
def HI:List (Nat×List CK)->List CV->List (Nat×List CV)
 | p::r,cs=>(p.1,cs.take (mD p.2))::HI r (cs.drop (mD p.2))
 | [],_=>[]
def head (A:Ann) (n:Nat) (x:cZ A.cks):St:=
 let cvs:=lg dX A.cks x
 { tmps:=zx A.tmps cvs (List.replicate n (.v false [.any])),
   boxes:=HI A.boxes (cvs.drop (mD (A.tmps.map (·.2)))),
   rows:=fH dX A.cks x,
   objs:=dB dX A.cks x }
inductive Ex where
 | normal
 | exit (id:Nat)
 | ret
def jg:Code->Nat
 | .region id _ _=>id
 | .seq a _=>jg a
 | .block _ c=>jg c
 | .loop c=>jg c
 | .scope c=>jg c
 | .cond _ a _=>jg a
 | _=>0
structure Msk where
 m:Nat
def inM (s:Msk) (j:Nat):Bool:=Nat.beq (Nat.land (Nat.shiftRight s.m j) 1) 1
def m0:Msk:=⟨0⟩
instance:Membership Nat Msk:=⟨fun s j=>inM s j=true⟩
def mE (acc:List Msk) (es:List Edge):Msk:=
 match es with
 | []=>m0
 | e::r=>bif Region.binds .any e then ⟨Nat.lor (Nat.lor (Nat.shiftLeft 1 e.on) (acc.getD e.on m0).m) (mE acc r).m⟩ else mE acc r
def pO:List Oper->List Msk->List Msk
 | [],acc=>acc
 | o::r,acc=>pO r (acc++[mE acc o.after.toList])
def deps (ops:List Oper):List Msk:=pO ops []
def vh (ds:List Msk) (k:Nat):Bool:=(List.range k).all fun j=>inM (ds.getD k m0) j
def yf (ds:List Msk):Nat->Nat
 | 0=>0
 | k+1=>if vh ds k then yf ds k else k+1
def mask (n N:Nat):Array Bool:=(List.replicate n true++List.replicate (N - n) false).toArray
def bT (ops:List Oper) (j:Nat):Option Nat:=match ops[j]? with | some p=>p.dst | none=>none
def Ns (t:Nat) (m:Msk):List (Option Nat)->Nat->Bool
 | [],_=>true
 | d::r,j=>((match d with | some d=> !Nat.beq d t | none=>true)||inM m j)&&Ns t m r (j+1)
def Ev (t i:Nat) (m:Msk) (ds:List Msk):List (Option Nat)->Nat->Bool
 | [],_=>true
 | d::r,j=>((match d with | some d=> !Nat.beq d t | none=>true)||(inM m j||inM (ds.getD j m0) i))&&Ev t i m ds r (j+1)
def EH (ops:List Oper) (ds:List Msk) (n:Nat):Bool:=
 let dl:=(ops.take n).map (·.dst)
 !dup ((ops.take n).filterMap (·.dst))&&(List.range n).all fun i=>match ops[i]? with
  | some o=>o.dst.isSome&&((o.looksAt ops.toArray).all fun t=>Ns t (ds.getD i m0) dl 0)
  | none=>false
def gO (ops:List Oper):Bool:=(List.range ops.length).all fun i=>match ops[i]? with
 | some o=>o.after.toList.all fun e=> !Region.binds .any e||Nat.blt e.on i
 | none=>true
def AU (ops:List Oper) (n:Nat):Bool:=
 let ds:=deps ops
 Nat.ble n ops.length&&EH ops ds n&&((List.range ops.length).all fun k=>Nat.blt k n||vh ds k)&&gO ops&&Region.seqB .any ops.toArray (ops.length - n) n (mask n ops.length)
def CV.dz (d:Nat) (c:CV):Bool:=c.bU d||(c.aZ d||(c.bC d||c.bq d))
def SV.dz (d:Nat):SV->Bool
 | .v _ cs=>cs.any (CV.dz d)
 | .tup l=>l.any fun p=>p.2.any (CV.dz d)
def St.dz (d:Nat) (S:St):Bool:=S.tmps.any (SV.dz d)||S.boxes.any fun p=>p.2.any (CV.dz d)
def PJ (Sn:St) (d dj:Nat):Bool:=
 (Sn.tmps.getD dj (.v false [.any])).dz d||(match look Sn.boxes dj with | some cs=>cs.any (CV.dz d) | none=>false)
def Xa:CV->List Nat
 | .ref j _=>[j]
 | .fn _ ks=>ks
 | .row j=>[j]
 | .rp j _ _ _=>[j]
 | .mp j=>[j]
 | .stp j _=>[j]
 | .kseq _ j=>[j]
 | _=>[]
def BG:List CV->List Nat
 | []=>[]
 | c::r=>Xa c++BG r
def Sp:List (Bool×List CV)->List Nat
 | []=>[]
 | c::r=>BG c.2++Sp r
def Xb:SV->List Nat
 | .v _ cs=>BG cs
 | .tup l=>Sp l
def NG:List SV->List Nat
 | []=>[]
 | c::r=>Xb c++NG r
def Sm:List (Nat×List CV)->List Nat
 | []=>[]
 | c::r=>c.1::(BG c.2++Sm r)
def NP {α:Type}:List (Nat×α)->List Nat
 | []=>[]
 | c::r=>c.1::NP r
def St.ids (S:St):List Nat:=NG S.tmps++(Sm S.boxes++(NP S.rows++NP S.objs))
def Sl (Sn:St) (dj:Nat):List Nat:=Xb (Sn.tmps.getD dj (.v false [.any]))++(match look Sn.boxes dj with | some cs=>BG cs | none=>[])
def zl (ops:List Oper) (n:Nat) (S Sn:St):Bool:=
 let ds:=deps ops
 let hs:=S.ids
 ((ops.take n).all fun o=>match o.dst with | some d=> !inL hs d | none=>false)&&
 (List.range n).all fun j=>match bT ops j with
   | some dj=>(Sl Sn dj).all fun a=>(List.range n).all fun i=>Nat.beq i j||(inM (ds.getD j m0) i||(match bT ops i with | some d=> !Nat.beq d a | none=>true))
   | none=>true
def qn (X:Cx) (ops:List Oper) (M:St):List Oper->St->(St->Option β)->Option β
 | [],S,k=>k S
 | o::rest,S,k=>match guardOf ops o S with
  | none=>bif lW ops o S then qn X ops M rest (S.put o.dst nP) k else none
  | some none=>eo X o S M fun x=>qn X ops M rest (S.app o.dst x) k
  | some (some (d,b,want))=>fork S d b want (fun S=>eo X o S M fun x=>qn X ops M rest (S.app o.dst x) k)
   fun S=>qn X ops M rest (S.put o.dst nP) k
def JO:Op->Bool
 | .store _ _ _=>true
 | _=>false
def vo:Op->Bool
 | .move _=>true
 | .assign _=>true
 | .binOp _ _ _ _ _=>true
 | _=>false
def rq:Op->Bool
 | .makeSlice _ _ _=>true
 | _=>false
def rD:St:=⟨[],[],[],[]⟩
def YP (ops:List Oper) (ds:List Msk) (m:Nat):Bool:=match ops[m]? with
 | some o=>JO o.op&&o.guard.isNone&&o.dst.isNone&&((List.range m).all fun i=>inM (ds.getD m m0) i||(match ops[i]? with | some p=>vo p.op&&p.guard.isNone | none=>false))&&
  ((o.looksAt ops.toArray).all fun t=>(List.range m).all fun j=>if bT ops j==some t then inM (ds.getD m m0) j else true)
 | none=>false
def LR (ops:List Oper) (m:Nat):Bool:=
 let ds:=deps ops
 Nat.ble (m+1) ops.length&&EH ops ds m&&((List.range ops.length).all fun k=>Nat.blt k (m+1)||vh ds k)&&gO ops&&Region.seqB .any ops.toArray (ops.length - (m+1)) (m+1) (mask (m+1) ops.length)&&YP ops ds m
def VN (ops:List Oper) (ds:List Msk) (m:Nat):Bool:=match ops[m]? with
 | some o=>JO o.op&&o.guard.isNone&&o.dst.isNone&&((List.range m).all fun i=>inM (ds.getD m m0) i||(match ops[i]? with | some p=>(vo p.op||rq p.op)&&p.guard.isNone | none=>false))&&
  ((o.looksAt ops.toArray).all fun t=>(List.range m).all fun j=>if bT ops j==some t then inM (ds.getD m m0) j else true)
 | none=>false
def LS (ops:List Oper) (m:Nat):Bool:=
 let ds:=deps ops
 Nat.ble (m+1) ops.length&&EH ops ds m&&((List.range ops.length).all fun k=>Nat.blt k (m+1)||vh ds k)&&gO ops&&Region.seqB .any ops.toArray (ops.length - (m+1)) (m+1) (mask (m+1) ops.length)&&VN ops ds m
def II (ops:List Oper) (m:Nat):List Nat:=(List.range m).filterMap fun i=>match ops[i]? with
 | some p=>if rq p.op&& !inM ((deps ops).getD m m0) i then p.dst else none
 | none=>none
def uT:Op->Bool
 | .call { callee:= .builtin .append, .. }=>true
 | _=>false
def jh:List PM->Bool
 | []=>true
 | .val _::r=>jh r
 | .row _ _::r=>jh r
 | _=>false
def Xo:List RM->Bool
 | [.row _ _]=>true
 | _=>false
def EJ (X:Cx):Op->Bool
 | .call c=>match c.callee with
  | .value (.func g)=>(match look X.keys g with
   | none=>(match oa X.specs g with
    | [sp]=>jh sp.ps&&(!sp.ps.all PM.isVal&&Xo sp.rs)
    | _=>false)
   | some _=>false)
  | _=>false
 | _=>false
def Sx:Ty->Bool
 | .int _=>true
 | .bool=>true
 | .str=>true
 | _=>false
def pY:List OT->Bool
 | []=>true
 | .val t::r=>Sx t&&pY r
 | _=>false
def mW:List PM->Bool
 | []=>true
 | .val t::r=>Sx t&&mW r
 | _=>false
def Ap:List PM->Bool
 | .box l::r=>pY l&&mW r
 | _=>false
def BH (X:Cx):Op->Bool
 | .call c=>match c.callee with
  | .value (.func g)=>(match look X.keys g with
   | none=>(match oa X.specs g with
    | [sp]=>Ap sp.ps&&(s7 sp.rs&&ff sp.rs)
    | _=>false)
   | some _=>false)
  | _=>false
 | _=>false
def abP (X:Cx) (op:Op):Option Operand:=bif BH X op then (match op with
 | .call c=>c.args.toList.head?
 | _=>none) else none
def isApp (X:Cx) (op:Op):Bool:=uT op||(EJ X op||BH X op)
def AV (hs:List Nat) (d:Nat):Bool:=hs.all fun j=> !(Nat.ble (nid d 0 0) j&&Nat.blt j (nid (d+1) 0 0))
def oX (A:Op->Bool):List Oper->Nat
 | []=>0
 | o::r=>bif JO o.op||A o.op then 0 else Nat.succ (oX A r)
def acA:Op->Bool
 | .assign _=>true
 | _=>false
def xS:List Oper->Nat
 | []=>0
 | o::r=>bif acA o.op then 0 else Nat.succ (xS r)
def opAt (ops:List Oper) (t:Nat):Option Oper:=ops.find? (fun o=>match o.dst with | some d=>Nat.beq d t | none=>false)
def MF (ops:List Oper):Nat->Operand->Bool
 | 0,_=>false
 | f+1,.tmp t=>match opAt ops t with
  | some o=>(match o.op with | .indexAddr _ _ _=>true | .fieldAddr _ x _=>MF ops f x | .nilCheck x=>MF ops f x | .move x=>MF ops f x | _=>false)
  | none=>false
 | _+1,_=>false
def Eb (ops:List Oper) (S:St):Nat->Operand->Option Nat
 | 0,_=>none
 | f+1,.tmp t=>match opAt ops t with
  | some o=>(match o.op with | .fieldAddr _ x _=>Eb ops S f x | .nilCheck x=>Eb ops S f x | .move x=>Eb ops S f x | .alloc _=>some t | _=>none)
  | none=>(match S.ev (.tmp t) with | .v false [.ref b _]=>some b | _=>none)
 | _+1,_=>none
def ZH:Op->Option Operand
 | .store _ a _=>some a
 | _=>none
def adX (X:Cx) (op:Op):Option Operand:=match ZH op with
 | some a=>some a
 | none=>abP X op
structure Touch where
 rt:Bool
 bs:Option (List Nat)
def cN (X:Cx) (ops:List Oper) (S:St):List Oper->Touch
 | []=>⟨false,some []⟩
 | o::r=>match adX X o.op with
  | some a=>bif MF ops 9 a then ⟨true,(cN X ops S r).bs⟩ else (match Eb ops S 9 a with
   | some b=>⟨(cN X ops S r).rt,(match (cN X ops S r).bs with | some l=>some (b::l) | none=>none)⟩
   | none=>⟨true,none⟩)
  | none=>bif isApp X o.op then ⟨true,(cN X ops S r).bs⟩ else cN X ops S r
def iO (t:Touch) (k:Nat):Bool:=match t.bs with
 | some l=> !inL l k
 | none=>false
def JN:Op->Bool
 | .binOp _ _ _ _ _=>true
 | _=>false
def Ew (ops:List Oper) (ds:List Msk) (m j:Nat):Bool:=match ops[j]? with
 | some o=>JN o.op&&(Nat.blt m j&&(o.guard.isNone&&((o.after.toList.all fun e=> !Region.binds .any e||(Nat.beq (e.on+1) j||inM (ds.getD (j - 1) m0) e.on))&&
  (Region.noSelect ops.toArray&&Region.free .any ops.toArray ((List.range ops.length).map fun k=>inM (ds.getD j m0) k).toArray j))))
 | none=>false
def Sz (ds:List Msk) (m n:Nat):Bool:=(List.range n).all fun i=>Nat.blt i m||(List.range i).all fun j=>Nat.blt j m||inM (ds.getD i m0) j
def Wi (ops:List Oper) (ds:List Msk) (m n:Nat):Bool:=
 let dl:=(ops.take n).map (·.dst)
 !dup ((ops.take n).filterMap (·.dst))&&((List.range n).all fun i=>match ops[i]? with
  | some o=>((o.looksAt ops.toArray).all fun t=>Ev t i (ds.getD i m0) ds dl 0)&&((Nat.blt i m||o.guard.isNone)&&(Nat.blt i m||(List.range i).all fun j=>Nat.blt j m||(inM (ds.getD i m0) j||Ew ops ds m j)))
  | none=>false)
def xP (ops:List Oper) (m n:Nat):Bool:=
 let ds:=deps ops
 Nat.blt m n&&(Nat.ble n ops.length&&(EH ops ds m&&(((List.range ops.length).all fun k=>Nat.blt k n||vh ds k)&&(gO ops&&(Region.seqB .any ops.toArray (ops.length - n) n (mask n ops.length)&&Wi ops ds m n)))))
def dI (t:Touch) (S:St):St:=⟨[],S.boxes.filter (fun p=>iO t p.1),bif t.rt then [] else S.rows,bif t.rt then [] else S.objs⟩
def yC (x:Del):Bool:=x.box.isNone&&(x.row.isNone&&x.obj.isNone)
def FO:Op->Bool
 | .alloc _=>true
 | _=>false
def wj (lb:Bool) (op:Op) (x:Del):Bool:=bif lb&&FO op then x.row.isNone&&x.obj.isNone else yC x
def NR (ops:List Oper) (m:Nat):List (Nat×List Nat):=(List.range m).filterMap fun i=>match ops[i]? with
 | some o=>bif FO o.op&& !inM ((deps ops).getD m m0) i then (match o.dst with
  | some d=>some (d,(List.range m).filterMap fun j=>bif Nat.beq j i||inM ((deps ops).getD j m0) i then bT ops j else none)
  | none=>none) else none
 | none=>none
def inU (sd:List (Nat×List Nat)) (k:Nat):Bool:=sd.any fun p=>Nat.beq p.1 k
def noB (sd:List (Nat×List Nat)) (S:St):St:={ S with boxes:=S.boxes.filter fun p=> !inU sd p.1 }
def CW (sd:List (Nat×List Nat)) (S:St):Bool:=sd.all fun q=>(S.boxes.all fun p=> !p.2.any (CV.bU q.1))&&
 (List.range S.tmps.length).all fun t=>inL q.2 t|| !(S.tmps.getD t (.v false [.any])).bU q.1
def WY (t:Touch) (sd:List (Nat×List Nat)):Bool:=sd.all fun q=>iO t q.1
def TH (ops:List Oper) (m n i:Nat):List Oper:=(List.range n).filterMap fun j=>if Nat.ble m j&& !inM ((deps ops).getD j m0) i then ops[j]? else none
def gL (X:Cx) (ops:List Oper) (M:St) (Mr:Nat->St) (dm:Msk) (lb:Bool):Nat->List Oper->St->(St->Option β)->Option β
 | _,[],S,k=>k S
 | i,o::rest,S,k=>match guardOf ops o S with
  | none=>bif lW ops o S then gL X ops M Mr dm lb (i+1) rest (S.put o.dst nP) k else none
  | some none=>bif inM dm i then eo X o S M fun x=>gL X ops M Mr dm lb (i+1) rest (S.app o.dst x) k
   else eo X o S (Mr i) fun x=>bif wj lb o.op x then gL X ops M Mr dm lb (i+1) rest (S.app o.dst x) k else none
  | some (some (d,b,want))=>fork S d b want (fun S=>bif inM dm i then eo X o S M fun x=>gL X ops M Mr dm lb (i+1) rest (S.app o.dst x) k
   else eo X o S (Mr i) fun x=>bif wj lb o.op x then gL X ops M Mr dm lb (i+1) rest (S.app o.dst x) k else none)
   fun S=>gL X ops M Mr dm lb (i+1) rest (S.put o.dst nP) k
def OJ (t:Touch):SV->Bool
 | .v false [.ref b _]=> !iO t b
 | _=>t.rt
def IA (S:St):Op->Bool
 | .binOp .add _ x y _=>match S.ev x,S.ev y with
  | .v false [.int _ _],.v false [.int _ _]=>true
  | _,_=>false
 | _=>false
def aaA (S:St) (hs:List Nat) (d:Option Nat) (x:Del):Bool:=x.box.isNone&&(x.obj.isNone&&(match d with
 | some d=> !inL hs d&&(look S.rows d).isNone
 | none=>false))
def NV (sd:List (Nat×List Nat)) (hs:List Nat) (t:Touch) (o:Oper) (S:St):Bool:=match o.op with
 | .call c=>match c.args.toList.map S.ev with
  | .v false [.ref b _]::q=> !iO t b&&(!inU sd b&&((ux q).isEmpty&&AV hs (o.dst.getD 0)))
  | _=>false
 | _=>false
def lF (X:Cx) (ops:List Oper) (S0:St) (hs:List Nat) (sd:List (Nat×List Nat)) (e:Bool):List Oper->St->(St->Option β)->Option β
 | [],S,k=>bif CW sd S then k S else none
 | o::rest,S,k=>bif CW sd S then (match ZH o.op with
  | some a=>bif sd.isEmpty&&OJ (cN X ops S0 [o]) (S.ev a) then cJ X o S fun S=>lF X ops S0 hs sd e rest S k else none
  | none=>bif uT o.op
   then (bif sd.isEmpty&&((cN X ops S0 [o]).rt&&(match o.dst with | some d=> !inL hs d | none=>false)) then cJ X o S fun S=>lF X ops S0 hs sd e rest S k else none)
   else bif EJ X o.op
   then (bif sd.isEmpty&&((cN X ops S0 [o]).rt&&(match o.dst with | some d=>AV hs d | none=>false)) then cJ X o S fun S=>lF X ops S0 hs sd e rest S k else none)
   else bif BH X o.op
   then (bif NV sd hs (cN X ops S0 [o]) o S then cJ X o S fun S=>lF X ops S0 hs sd e rest S k else none)
   else bif e&&(JN o.op&& !IA S o.op) then none
   else eo X o S (noB sd S) fun x=>bif yC x||aaA S hs o.dst x then lF X ops S0 hs sd e rest (S.app o.dst x) k else none) else none
def Gs (X:Cx) (ops:List Oper) (S:St) (k:St->Option β) (m n:Nat):Option β:=
 let sd:=NR ops m
 bif WY (cN X ops S ((ops.take n).drop m)) sd then
 gL X ops S (fun i=>dI (cN X ops S (TH ops m n i)) S) ((deps ops).getD m m0) true 0 (ops.take m) S fun Sn=>if zl ops m S Sn then lF X ops S S.ids sd (!Sz (deps ops) m n) ((ops.take n).drop m) Sn fun S=>lD X ops (ops.drop n) S k else none
 else none
def runM (X:Cx) (ops:List Oper) (m:Nat) (S:St) (k:St->Option β):Option β:=match ops[m]? with
 | some o=>match o.op with
  | .store _ a _=>match S.ev a with
   | .v false [.ref _ _]=>cJ X o S fun S'=>bif (II ops m).all fun d=> !S'.boxes.any fun p=>p.2.any (CV.aZ d) then k S' else none
   | _=>none
  | _=>none
 | none=>none
def u5 (X:Cx) (ops:List Oper) (S:St) (k:St->Option β) (els:Option β):Option β:=
 let n:=yf (deps ops) ops.length
 if AU ops n&& !(ops.take n).any (fun o=>isApp X o.op) then qn X ops S (ops.take n) S fun Sn=>if zl ops n S Sn then lD X ops (ops.drop n) Sn k else none
 else if LR ops (n - 1)&& !(ops.take (n - 1)).any (fun o=>isApp X o.op) then qn X ops S (ops.take (n - 1)) S fun Sn=>if zl ops (n - 1) S Sn then lD X ops (ops.drop (n - 1)) Sn k else none
 else if LS ops (n - 1)&& !(ops.take (n - 1)).any (fun o=>isApp X o.op) then qn X ops S (ops.take (n - 1)) S fun Sn=>if zl ops (n - 1) S Sn then runM X ops (n - 1) Sn fun S'=>lD X ops (ops.drop (n - 1+1)) S' k else none
 else if xP ops (oX (isApp X) ops) n then Gs X ops S k (oX (isApp X) ops) n
 else if xP ops (xS ops) n&& !(ops.take (xS ops)).any (fun o=>isApp X o.op) then Gs X ops S k (xS ops) n
 else els
def abW (X:Cx) (ops:List Oper):Bool:=
 let n:=yf (deps ops) ops.length
 (AU ops n&& !(ops.take n).any (fun o=>isApp X o.op))||((LR ops (n - 1)&& !(ops.take (n - 1)).any (fun o=>isApp X o.op))||((LS ops (n - 1)&& !(ops.take (n - 1)).any (fun o=>isApp X o.op))||
   (xP ops (oX (isApp X) ops) n||(xP ops (xS ops) n&& !(ops.take (xS ops)).any (fun o=>isApp X o.op)))))
def JY (σ:Nat->Nat) (o:Oper):Oper:={ o with after:=o.after.map fun e=>{ e with on:=σ e.on } }
def Pm (A:Op->Bool) (ds:List Msk):Nat->List Oper->List Nat->List Nat->List Nat
 | _,[],sp,fl=>fl++sp
 | i,o::r,sp,fl=>bif JO o.op||(A o.op||sp.any fun j=>inM (ds.getD i m0) j) then Pm A ds (i+1) r (sp++[i]) fl else Pm A ds (i+1) r sp (fl++[i])
def oY (A:Op->Bool) (ops:List Oper):List Nat:=List.range (oX A ops)++Pm A (deps ops) (oX A ops) (ops.drop (oX A ops)) [] []
def posOf:List Nat->Nat->Nat
 | [],_=>0
 | x::r,i=>bif Nat.beq x i then 0 else Nat.succ (posOf r i)
def vC (ops:List Oper) (p:List Nat):List Oper:=match ops with
 | []=>[]
 | o0::_=>p.map fun i=>JY (posOf p) (ops.getD i o0)
def A6 (ops:List Oper) (p:List Nat):Bool:=
 Nat.beq p.length ops.length&&(((List.range ops.length).all fun i=>Nat.blt (posOf p i) ops.length&&Nat.beq (p.getD (posOf p i) ops.length) i)&&
  (((List.range ops.length).all fun j=>Nat.blt (p.getD j ops.length) ops.length&&Nat.beq (posOf p (p.getD j ops.length)) j)&&
    ops.all fun o=>o.guard.isNone&&o.after.toList.all fun e=>Nat.blt e.on ops.length))
def YW (e:Edge):Bool:=match e.ground with
 | .phase=>true
 | .chain=>true
 | _=>false
def wq (o:Oper):Oper:=match o.op with
 | .fieldAddr _ _ _=>{ o with after:=(o.after.toList.filter fun e=> !YW e).toArray }
 | _=>o
def kr (ops:List Oper):List Oper:=ops.map wq
def xK (o:Oper):Oper:={ o with after:=o.after.push ⟨0,.phase⟩ }
def JR:List Oper->List Oper
 | []=>[]
 | o::r=>o::r.map xK
def Xp (ops:List Oper):Bool:=match ops with
 | []=>false
 | o::_=>(match o.op with | .move _=>true | _=>false)&&(ops.all (fun p=>p.guard.isNone)&&(o.after.isEmpty&&(o.dst.isSome&&(Region.noSelect ops.toArray&&Region.free .any ops.toArray (Array.replicate ops.length false) 0))))
def yz (ops:List Oper) (mask:Array Bool) (may:List Nat):Bool:=
 !(Region.ready .any ops.toArray mask).isEmpty&&(Region.ready .any ops.toArray mask).all (inL may)
def abY (ops:List Oper):Bool:=
 let A:=ops.toArray
 (Region.noSelect A&&ops.all fun o=>o.guard.isNone)&&
 ((Region.free .any A #[false,false,false,false,false,false,false,false] 0&&(Region.ready .any A #[false,false,false,false,false,false,false,false]).contains 0)&&
 ((Region.free .any A #[true,false,false,false,false,false,false,false] 3&&(Region.ready .any A #[true,false,false,false,false,false,false,false]).contains 3)&&
 (yz ops #[true,false,false,true,false,false,false,false] [1]&&
 (yz ops #[true,true,false,true,false,false,false,false] [2,5]&&
 (yz ops #[true,true,true,true,false,false,false,false] [4,5]&&
 (yz ops #[true,true,true,true,true,false,false,false] [5]&&
 (yz ops #[true,true,false,true,false,true,false,false] [2,6]&&
 (yz ops #[true,true,true,true,false,true,false,false] [4,6]&&
 (yz ops #[true,true,true,true,true,true,false,false] [6]&&
 (yz ops #[true,true,false,true,false,true,true,false] [2]&&
 (yz ops #[true,true,true,true,false,true,true,false] [4]&&
 yz ops #[true,true,true,true,true,true,true,false] [7])))))))))))
def PI (X:Cx) (ops:List Oper) (S:St) (k:St->Option β):Option β:=
 if ops.any (YT X)&&Xp ops then u5 X (JR ops) S k none
 else u5 X ops S k (if A6 ops (oY (isApp X) ops) then (
  if abW X (vC ops (oY (isApp X) ops)) then u5 X (vC ops (oY (isApp X) ops)) S k none
  else if gO ops&&A6 (kr ops) (oY (isApp X) (kr ops)) then u5 X (vC (kr ops) (oY (isApp X) (kr ops))) S k none else none) else none)
def aC {β γ:Type}:Option (β ⊕ γ)->(γ->Option β)->Option β
 | none,_=>none
 | some (.inl r),_=>some r
 | some (.inr v),f=>f v
def FN {β γ:Type}:Option β->Option (β ⊕ γ)
 | some r=>some (.inl r)
 | none=>none
def meet {β:Type} (A:Ann) (n:Nat) (S:St):Option (β ⊕ cZ A.cks):=
 match carry A S with
 | some v=>bif Nat.beq S.tmps.length n then some (.inr v) else none
 | none=>none
def abl (x y:Code):Nat:=100000+max (jg x) (jg y)
def ZL (c:Code):Nat:=200000+jg c
noncomputable def both {β:Type} (a b:Option β):Option β:=open Classical in if a=b then a else none
def qh:Touch:=⟨false,some []⟩
def XN (X:Cx) (ops:List Oper) (S:St) (k:St->Option β):Option β:=gL X ops S (fun _=>dI qh S) m0 false 0 ops S k
def XK (X:Cx) (ops:List Oper) (dr:Bool) (S:St) (k:St->Option β):Option β:=
 bif dr then (bif AU ops ops.length&& !(ops.any fun o=>uT o.op) then XN X ops S fun Sn=>bif zl ops ops.length S Sn then k Sn else none else none)
 else XN X ops S k
def jL (A:Ann):List (Nat×Ty):=A.tmps.filterMap fun | (i,.val t)=>some (i,t) | _=>none
def Pt:List (Nat×Ty)->Type
 | []=>Unit
 | p::r=>p.2.den×Pt r
def NN (S:St):(l:List (Nat×Ty))->Option (Pt l)
 | []=>some ()
 | p::r=>match iD S [] p.2 (S.tmps.getD p.1 (.v false [.any])) with
  | some x=>match NN S r with
   | some y=>some (x,y)
   | none=>none
  | none=>none
def FR:(l:List (Nat×Ty))->Pt l->List SV->List SV
 | [],_,T=>T
 | p::r,v,T=>(FR r v.2 T).set p.1 (l8 p.2 v.1)
def sG:List Oper->List SV->List SV
 | [],T=>T
 | o::r,T=>sG r (match o.dst with | some d=>T.set d (.v false [.any]) | none=>T)
noncomputable def den (X:Cx) (anns:List (Nat×Ann)):Code->(β:Type)->St->(Ex->St->Option β)->Option β
 | .skip,_,S,K=>K .normal S
 | .region id ops dr,_,S,K=>match look anns (300000+id) with
  | some A=>(XK X ops.toList dr S fun S'=>NN S' (jL A)).bind fun v=>K .normal { S with tmps:=FR (jL A) v (sG ops.toList S.tmps) }
  | none=>bif dr then PI X ops.toList S (K .normal) else lD X ops.toList ops.toList S (K .normal)
 | .seq a b,β,S,K=>den X anns a β S fun e S=>match e with
  | .normal=>den X anns b β S K
  | .exit j=>K (.exit j) S
  | .ret=>K .ret S
 | .cond c x y,β,S,K=>match S.ev c with
  | .v false [.bool b]=>match look anns (abl x y) with
   | some A=>aC (bif b
    then den X anns x (β ⊕ cZ A.cks) S (fun e S'=>match e with
     | .normal=>meet A S.tmps.length S'
     | .exit j=>FN (K (.exit j) S')
     | .ret=>FN (K .ret S'))
    else den X anns y (β ⊕ cZ A.cks) S (fun e S'=>match e with
     | .normal=>meet A S.tmps.length S'
     | .exit j=>FN (K (.exit j) S')
     | .ret=>FN (K .ret S'))) fun v=>K .normal (head A S.tmps.length v)
   | none=>bif b then den X anns x β S K else den X anns y β S K
  | .v false [.nb b]=>bif b then both (den X anns x β S K) (den X anns y β S K) else den X anns y β S K
  | _=>none
 | .block id c,β,S,K=>match look anns (ZL c) with
  | some A=>aC (den X anns c (β ⊕ cZ A.cks) S fun e S'=>match e with
   | .normal=>meet A S.tmps.length S'
   | .exit j=>if Nat.beq j id then meet A S.tmps.length S' else FN (K (.exit j) S')
   | .ret=>FN (K .ret S')) fun v=>K .normal (head A S.tmps.length v)
  | none=>den X anns c β S fun e S'=>match e with
   | .normal=>K .normal S'
   | .exit j=>if Nat.beq j id then K .normal S' else K (.exit j) S'
   | .ret=>K .ret S'
 | .loop c,β,S,K=>match look anns (jg c) with
  | some A=>match carry A S with
   | some x=>iter (A.fuel x) x fun x again=>den X anns c β (head A S.tmps.length x) fun e S'=>match e with
    | .normal=>match carry A S' with
     | some y=>bif Nat.beq S'.tmps.length S.tmps.length then again y else none
     | none=>none
    | .exit j=>K (.exit j) S'
    | .ret=>K .ret S'
   | none=>none
  | none=>none
 | .exit id,_,S,K=>K (.exit id) S
 | .ret,_,S,K=>K .ret S
 | _,_,_,_=>none
def pD:Nat:=5000
def pid (i c:Nat):Nat:=nid pD i c
def jx (i:Nat):(ps:List PM)->gh ps->List SV
 | [],_=>[]
 | .val t::r,x=>l8 t x.1::jx (i+1) r x.2
 | .row _ _::r,x=> .v false [.row (pid i 0)]::jx (i+1) r x.2
 | .mrow _ _::r,x=> .v false [.row (pid i 0)]::jx (i+1) r x.2
 | .map _ _::r,x=> .v false [.mp (pid i 0)]::jx (i+1) r x.2
 | .box _::r,x=> .v false [.ref (2000+i) 0]::jx (i+1) r x.2
 | .ar _::r,x=>jx (i+1) r x.2
 | .arR _::r,x=>jx (i+1) r x.2
def pg (i:Nat):(ps:List PM)->gh ps->List (Nat×List CV)
 | [],_=>[]
 | .box l::r,x=>(2000+i,Gf pD i 1 l x.1)::pg (i+1) r x.2
 | .val _::r,x=>pg (i+1) r x.2
 | .row _ _::r,x=>pg (i+1) r x.2
 | .mrow _ _::r,x=>pg (i+1) r x.2
 | .map _ _::r,x=>pg (i+1) r x.2
 | .ar _::r,x=>pg (i+1) r x.2
 | .arR _::r,x=>pg (i+1) r x.2
def ov (i:Nat):(ps:List PM)->gh ps->List (Nat×lY)
 | [],_=>[]
 | .row e t::r,x=>(pid i 0,⟨false,e,t,x.1⟩)::ov (i+1) r x.2
 | .mrow e t::r,x=>(pid i 0,⟨false,e,t,x.1⟩)::ov (i+1) r x.2
 | .box l::r,x=>mQ pD i 1 l x.1++ov (i+1) r x.2
 | .val _::r,x=>ov (i+1) r x.2
 | .map _ _::r,x=>ov (i+1) r x.2
 | .ar _::r,x=>ov (i+1) r x.2
 | .arR _::r,x=>ov (i+1) r x.2
def gq (i:Nat):(ps:List PM)->gh ps->List (Nat×nS)
 | [],_=>[]
 | .map k v::r,x=>(pid i 0,.map k v x.1)::gq (i+1) r x.2
 | .box l::r,x=>jv pD i 1 l x.1++gq (i+1) r x.2
 | .ar t::r,x=>(bz,.ar false t x.1)::gq (i+1) r x.2
 | .arR t::r,x=>(bz,.ar true t x.1)::gq (i+1) r x.2
 | .val _::r,x=>gq (i+1) r x.2
 | .row _ _::r,x=>gq (i+1) r x.2
 | .mrow _ _::r,x=>gq (i+1) r x.2
def dN:Nat->List PM->List (aX×Nat)
 | _,[]=>[]
 | i,.row _ _::r=>(.inr (pid i 0),64*i)::dN (i+1) r
 | i,.mrow _ _::r=>(.inr (pid i 0),64*i)::dN (i+1) r
 | i,.map _ _::r=>(.ob (pid i 0),64*i)::dN (i+1) r
 | i,.box l::r=>(.inl (2000+i),64*i)::(eA pD i 1 l++dN (i+1) r)
 | i,.ar _::r=>(.ob bz,64*i)::dN (i+1) r
 | i,.val _::r=>dN (i+1) r
 | i,.arR _::r=>dN (i+1) r
def wu:List PM->Nat
 | []=>0
 | p::r=>(bif p.arg then 1 else 0)+wu r
def Iz (n:Nat) (ar:Option Ty) (ps:List PM) (x:gh ps):St:=
 { tmps:=jx 0 ps x++List.replicate (n - wu ps) (.v false [.any]),boxes:=pg 0 ps x,rows:=ov 0 ps x,
   objs:=match ar with | some t=>(bz,.ar false t [])::gq 0 ps x | none=>gq 0 ps x }
def Sw (X:Cx) (S:St):ResultVar->Option SV
 | .tmp t=>some (S.tmps.getD t (.v false [.any]))
 | .cell a T=>match S.tmps.getD a (.v false [.any]) with
  | .v false [.ref b off]=>match look S.boxes b with
   | some l=>lp X.P T l off some
   | none=>none
  | _=>none
def EP (X:Cx) (S:St):List ResultVar->Option (List SV)
 | []=>some []
 | v::r=>match Sw X S v with
  | some s=>match EP X S r with
   | some l=>some (s::l)
   | none=>none
  | none=>none
def J7:List RM->List SV->List SV
 | .val _::r,s::q=>s::J7 r q
 | _::r,_::q=>J7 r q
 | _,_=>[]
def TW:List OT->List CV->List Nat
 | .val t::r,cs=>gy (cs.take t.size)++TW r (cs.drop t.size)
 | .row _ _::r,_::cs=>TW r cs
 | .map _ _::r,_::cs=>TW r cs
 | _,_=>[]
def Su (S:St) (i:Nat):List PM->List Nat
 | []=>[]
 | .box l::r=>(match look S.boxes (2000+i) with | some cs=>TW l cs | none=>[])++Su S (i+1) r
 | _::r=>Su S (i+1) r
def Sv (S:St):List RM->List SV->List Nat
 | .box l::r,s::q=>(match gS s with | some k=>(match look S.boxes k with | some cs=>TW l cs | none=>[]) | none=>[])++Sv S r q
 | _::r,_::q=>Sv S r q
 | _,_=>[]
def AZ (S:St) (p:RM) (s:SV):Option p.den:=
 match p with
 | .val t=>iD S [] t s
 | .row e t=>match qF s with | some c=>iC S e t c | none=>none
 | .map k v=>match qF s with | some c=>nu S k v c | none=>none
 | .box l=>match gS s with
  | some k=>match look S.boxes k with
   | some cs=>jw S l cs
   | none=>none
  | none=>none
def xZ (S:St) (ps:List PM) (bx:Option (eG ps)):(rs:List RM)->List SV->Option (dF ps rs)
 | [],[]=>bx
 | [],_::_=>none
 | p::r,s::q=>match AZ S p s with
  | some x=>match xZ S ps bx r q with
   | some y=>some (x,y)
   | none=>none
  | none=>none
 | _::_,[]=>none
def ou (S:St):Nat->(ps:List PM)->Option (eG ps)
 | _,[]=>some ()
 | i,.mrow e t::r=>match iC S e t (.row (pid i 0)),ou S (i+1) r with
  | some x,some y=>some (x,y)
  | _,_=>none
 | i,.map k v::r=>match nu S k v (.mp (pid i 0)),ou S (i+1) r with
  | some x,some y=>some (x,y)
  | _,_=>none
 | i,.box l::r=>match look S.boxes (2000+i) with
  | some cs=>match jw S l cs,ou S (i+1) r with
   | some x,some y=>some (x,y)
   | _,_=>none
  | none=>none
 | i,.ar t::r=>match tU S false t,ou S (i+1) r with
  | some x,some y=>some (x,y)
  | _,_=>none
 | i,.val _::r=>ou S (i+1) r
 | i,.row _ _::r=>ou S (i+1) r
 | i,.arR _::r=>ou S (i+1) r
def mg (S:St) (c:Nat):List RM->List SV->List (aX×Nat)
 | .row _ _::r,s::q=>(match qF s with | some v=>mT (64*(24+c)) v | none=>[])++mg S (c+1) r q
 | .map _ _::r,s::q=>(match qF s with | some v=>mT (64*(24+c)) v | none=>[])++mg S (c+1) r q
 | .box l::r,s::q=>(match gS s with
  | some k=>(.inl k,64*(24+c))::(match look S.boxes k with | some cs=>kz (64*(24+c)+1) l cs | none=>[])
  | none=>[])++mg S (c+1) r q
 | .val _::r,_::q=>mg S (c+1) r q
 | _,_=>[]
def ku (S:St):Nat->List PM->List (aX×Nat)
 | _,[]=>[]
 | i,.mrow _ _::r=>(.inr (pid i 0),64*i)::ku S (i+1) r
 | i,.map _ _::r=>(.ob (pid i 0),64*i)::ku S (i+1) r
 | i,.box l::r=>(.inl (2000+i),64*i)::(match look S.boxes (2000+i) with | some cs=>kz (64*i+1) l cs | none=>[])++ku S (i+1) r
 | i,.ar _::r=>(.ob bz,64*i)::ku S (i+1) r
 | i,_::r=>ku S (i+1) r
def Pp:List RM->List SV->List SV
 | .val .hnd::r,s::q=>s::Pp r q
 | _::r,_::q=>Pp r q
 | _,_=>[]
def CG (X:Cx) (fn:Func) (rs:List RM) (S:St):St:=
 match EP X S fn.results.toList with
 | some l=>iL S (Pp rs l)
 | none=>S
def aaQ (X:Cx) (fn:Func) (sp:av) (S:St):Option (dF sp.ps sp.rs):=
 match EP X S fn.results.toList with
 | some l=>
  let js:=DM (J7 sp.rs l)++(Sv S sp.rs l++Su S 0 sp.ps)
  let V:=aG S js
  let ow:=mg V 0 sp.rs l++ku V 0 sp.ps
  if vS ow then none else xZ V sp.ps (ou V 0 sp.ps) sp.rs l
 | none=>none
def ends (X:Cx) (fn:Func) (sp:av) (S:St):Option (dF sp.ps sp.rs):=aaQ X fn sp (CG X fn sp.rs S)
def dO:List PM->Bool
 | []=>true
 | .val t::r=>t.aW&&dO r
 | .row _ t::r=>t.aW&&dO r
 | .mrow _ t::r=>t.aW&&dO r
 | .map k v::r=>k.aW&&v.aW&&dO r
 | .box l::r=>(l.all fun | .val t=>t.aW | .row _ t=>t.aW | .map k v=>k.aW&&v.aW)&&dO r
 | _=>false
def qm:List RM->Bool
 | []=>true
 | .val t::r=>t.aW&&qm r
 | .row _ t::r=>t.aW&&qm r
 | .map k v::r=>k.aW&&v.aW&&qm r
 | .box l::r=>(l.all fun | .val t=>t.aW | .row _ t=>t.aW | .map k v=>k.aW&&v.aW)&&qm r
noncomputable def LP (X:Cx) (anns:List (Nat×Ann)) (ar:Option Ty) (fn:Func) (sp:av) (x:gh sp.ps):Option (dF sp.ps sp.rs):=
 if vS (dN 0 sp.ps)||dup ((dN 0 sp.ps).map (·.2))||(ar.isSome&& !(dO sp.ps&&qm sp.rs)) then none else
 match fn.body with
 | some c=>den X anns c (dF sp.ps sp.rs) (Iz fn.ntmps ar sp.ps x) fun e S=>match e with
  | .ret=>ends X fn sp S
  | .normal=>ends X fn sp S
  | .exit _=>none
 | none=>none
end Go.Dn
namespace Go.Dn
theorem aa4 (s:ByteArray):bs s.data.toList=s:=by
 cases s;simp[bs]
theorem Yj (l:List UInt8):(bs l).data.toList=l:=by simp[bs]
theorem JH (G:Gh) (ρ:Env) (v:Value):aU G ρ (HR v) v:=by
 unfold HR
 split
 case h_3 s=>show _=_;rw[aa4]
 all_goals first | rfl | trivial | skip
 split
 ·rename_i g f c h
  simp only[adf,Array.isEmpty_iff] at h
  obtain⟨rfl,rfl⟩:=h
  rfl
 ·trivial
theorem zL {α β:Type} {R:β->α->Prop} (f:α->β) (h:∀ x,R (f x) x):∀ l:List α,aF R (l.map f) l
 | []=>rfl
 | x::l=>⟨x,l,rfl,h x,zL f h l⟩
theorem OA (G:Gh) (ρ:Env) (v:Value):bh G ρ (J6 v) v:=by
 unfold J6
 split
 ·rename_i cs
  exact⟨cs.toList,by simp,zL HR (JH G ρ) cs.toList⟩
 ·exact JH G ρ v
theorem fV.ev {G:Gh} {ρ:Env} {S:St} {a:Act} (h:fV G ρ S a) (x:Operand):bh G ρ (S.ev x) (a.eval x):=by
 cases x with
 | tmp t=>
  simp only[St.ev,Act.eval]
  rw[aea]
  cases hs:S.tmps[t]? with
  | none=>exact trivial
  | some s=>exact h.2 t s hs
 | const v=>exact OA G ρ v
 | global g=>exact trivial
 | func f=>rfl
theorem fP {G:Gh} (ρ:Env):∀ {t:Ty} {x:t.den} {cs:List Value},aB G t x cs->aF (aU G ρ) (unpack t x) cs
 | .int _,_,_,h=>by cases h;exact⟨_,_,rfl,rfl,rfl⟩
 | .bool,_,_,h=>by cases h;exact⟨_,_,rfl,rfl,rfl⟩
 | .str,_,_,h=>by cases h;exact⟨_,_,rfl,rfl,rfl⟩
 | .unit,_,_,h=>h
 | .pair a b,(x,y),_,⟨c,r,e,hx,hy⟩=>by subst e;exact (fP ρ hx).append (fP ρ hy)
 | .st t,x,cs,h=>fP (t:=t) (x:=x) ρ h
 | .slice t,_,_,⟨v,e,h⟩=>by subst e;exact⟨_,_,rfl,h,rfl⟩
 | .ptr t,x,_,⟨b,off,c,T,fz,e,hb,hs,hl⟩=>by subst e;exact⟨_,_,rfl,⟨b,off,c,T,fz,rfl,hb,hs,hl⟩,rfl⟩
 | .clo _ t,x,_,⟨caps,e,h⟩=>by subst e;exact⟨_,_,rfl,⟨caps,rfl,h⟩,rfl⟩
 | .hnd,none,_,h=>by cases h;exact⟨_,_,rfl,⟨rfl,rfl⟩,rfl⟩
 | .hnd,some _,_,⟨b,hb,e⟩=>by subst e;exact⟨_,_,rfl,⟨b,hb,rfl⟩,rfl⟩
theorem yp {G:Gh} (ρ:Env) {t:Ty} {x:t.den} {v:Value} (h:bX G t x v):kG G ρ (JB t x).1 (JB t x).2 v:=by
 cases t with
 | st t=>obtain⟨vs,e,hv⟩:=h;exact⟨vs,e,fP ρ hv⟩
 | int _=>cases h;rfl
 | bool=>cases h;rfl
 | str=>cases h;rfl
 | unit=>cases h
 | slice t=>obtain⟨v',e,h⟩:=h;cases e;exact h
 | ptr t=>obtain⟨b,off,c,T,fz,e,hb,hs,hl⟩:=h;cases e;exact⟨b,off,c,T,fz,rfl,hb,hs,hl⟩
 | clo g t=>obtain⟨caps,e,h⟩:=h;cases e;exact⟨caps,rfl,h⟩
 | hnd=>
  cases x with
  | none=>cases h;exact⟨rfl,rfl⟩
  | some i=>obtain⟨b,hb,e⟩:=h;cases e;exact⟨b,hb,rfl⟩
 | pair a b=>
  have hl:=h.len
  have hu:=fP ρ h
  obtain⟨c,hc⟩:∃ c,unpack (.pair a b) x=[c]:=by
   have:=hu.len
   match hq:unpack (.pair a b) x with
   | [c]=>exact⟨c,rfl⟩
   | []=>rw[hq] at this;simp at this
   | _::_::_=>rw[hq] at this;simp at this
  show kG G ρ false (unpack (.pair a b) x) v
  rw[hc] at hu ⊢
  obtain⟨y,e,hy⟩:=hu.single
  cases e
  exact hy
theorem EZ {G:Gh} (ρ:Env) {t:Ty} {x:t.den} {v:Value} (h:bX G t x v):bh G ρ (l8 t x) v:=by
 have:=yp ρ h
 cases t<;>exact this
theorem fR {a b:Ty} {l:List a.den} {l':List b.den} (h:lP l=some l'):∃ e:a=b,e ▸ l=l':=by
 unfold lP at h
 split at h
 ·rename_i e;exact⟨e,by simpa using h⟩
 ·cases h
theorem MT {a b:Ty} {x:a.den} {x':b.den} (h:Sk x=some x'):∃ e:a=b,e ▸ x=x':=by
 unfold Sk at h
 split at h
 ·rename_i e;exact⟨e,by simpa using h⟩
 ·cases h
def ic (G:Gh) (ρ:Env) (S:St):Prop:=∀ j r,look S.rows j=some r->r.fz=true->de G r.t.size (aB G r.t) r.l (ρ.rw j)
theorem Mem.frozen {P0:Program} {C:Fr P0} {G:Gh} {ρ:Env} {S:St} {w:World} (h:Mem C G ρ S w):ic G ρ S:=fun j r hj hf=>by
 have:=h.rows j r hj
 unfold cI at this
 rw[age hf] at this
 exact this
theorem rJ {G:Gh} {ρ:Env} {t:Ty} {f:CV->Option t.den} (hf:∀ c x v,f c=some x->aU G ρ c v->aB G t x [v]) {cs:List CV} {x:t.den} {r:List CV} {vs:List Value} (h:rI f cs=some (x,r)) (hv:aF (aU G ρ) cs vs):∃ a b,vs=a++b/\aB G t x a/\aF (aU G ρ) r b:=by
 cases cs with
 | nil=>cases h
 | cons c q=>
  obtain⟨y,s,e,hy,hs⟩:=hv
  simp only[rI] at h
  split at h
  ·rename_i z hz
   cases h
   subst e
   exact⟨[y],s,rfl,hf _ _ _ hz hy,hs⟩
  ·cases h
theorem Zj {G:Gh} {ρ:Env} {S:St} (hF:ic G ρ S) {t:Ty} (c:CV) (l:List t.den) (v:Value) (h:Od S t c=some l) (hv:aU G ρ c v):aB G (.slice t) l [v]:=by
 cases c<;>simp only[Od] at h
 case sl t' l'=>
  obtain⟨et,el⟩:=fR h
  subst et;subst el
  exact⟨v,rfl,hv⟩
 case nils=>
  cases h
  exact⟨v,rfl,none,0,hv,aft _,afN _,.inl rfl⟩
 case row j=>
  split at h
  ·rename_i u hu
   split at h
   ·rename_i hfz
    obtain⟨et,el⟩:=fR h
    have hrow:=hF j u hu hfz
    obtain⟨ufz,ue,ut,ul⟩:=u
    dsimp only at et el hrow
    subst et
    subst el
    exact⟨v,rfl,by rw[hv.1];exact hrow⟩
   ·cases h
  ·cases h
 all_goals cases h
theorem Fl {k v k' v':Ty} {l:List (k.den×v.den)} {l':List (k'.den×v'.den)} (h:Wx l=some l'):∃ (e1:k=k') (e2:v=v'),e1 ▸ e2 ▸ l=l':=by
 unfold Wx at h
 split at h
 ·rename_i e;exact⟨e.1,e.2,by simpa using h⟩
 ·cases h
def ld (G:Gh) (ρ:Env) (S:St) (fb:List Nat):Prop:=∀ k cs,inL fb k=true->look S.boxes k=some cs->∃ vs T fz,G (ρ.bx k)=some (.cells (List.toArray vs) T fz)/\aF (aU G ρ) cs vs
theorem ld.nil (G:Gh) (ρ:Env) (S:St):ld G ρ S []:=fun k cs h=>by simp[inL] at h
theorem xY {α:Type} {x:Option (α×List CV)} {y:α} (h:gX x=some y):x=some (y,[]):=by
 unfold gX at h
 split at h
 ·cases h;rfl
 ·cases h
theorem uX {G:Gh} {ρ:Env} {S:St} {fb:List Nat} (hF:ic G ρ S) (hL:ld G ρ S fb):∀ (t:Ty) (cs:List CV) (x:t.den) (r:List CV) (vs:List Value),fE S fb t cs=some (x,r)->aF (aU G ρ) cs vs-> ∃ a b,vs=a++b/\aB G t x a/\aF (aU G ρ) r b
 | .int k,cs,x,r,vs,h,hv=>rJ (t:= .int k) (fun c x v hc hv=>by
  cases c<;>simp only[VZ] at hc
  case int k' n=>
   split at hc
   ·rename_i ek;subst ek;cases hc;rw[hv];rfl
   ·cases hc
  all_goals cases hc) h hv
 | .bool,cs,x,r,vs,h,hv=>rJ (t:= .bool) (fun c x v hc hv=>by
  cases c<;>simp only[TX] at hc
  case bool b=>cases hc;rw[hv];rfl
  all_goals cases hc) h hv
 | .str,cs,x,r,vs,h,hv=>rJ (t:= .str) (fun c x v hc hv=>by
  cases c<;>simp only[V6] at hc
  case str b=>cases hc;rw[hv];rfl
  all_goals cases hc) h hv
 | .unit,cs,x,r,vs,h,hv=>by
  simp only[fE] at h;cases h;exact⟨[],vs,rfl,rfl,hv⟩
 | .pair a b,cs,x,r,vs,h,hv=>by
  simp only[fE] at h
  split at h
  ·rename_i y q h1
   split at h
   ·rename_i z q' h2
    cases h
    obtain⟨c1,c2,e1,r1,r2⟩:=uX hF hL a cs y q vs h1 hv
    obtain⟨d1,d2,e2,s1,s2⟩:=uX hF hL b q z r c2 h2 r2
    exact⟨c1++d1,d2,by rw[e1,e2,adT],⟨c1,d1,rfl,r1,s1⟩,s2⟩
   ·cases h
  ·cases h
 | .st t,cs,x,r,vs,h,hv=>uX hF hL t cs x r vs h hv
 | .slice t,cs,x,r,vs,h,hv=>rJ (t:= .slice t) (fun c x v hc hv=>Zj hF c x v hc hv) h hv
 | .ptr t,cs,x,r,vs,h,hv=>rJ (t:= .ptr t) (fun c x v hc hv=>by
  cases c<;>simp only[PB] at hc
  case cp t' y o=>
   split at hc
   ·rename_i ho
    have:=afp ho
    subst this
    obtain⟨et,el⟩:=MT hc
    subst et;subst el
    obtain⟨b,off,c,T,fz,e,hb,hs',hl⟩:=hv
    exact⟨b,off,c,T,fz,by rw[e];rfl,hb,hs',hl⟩
   ·cases hc
  case ref k o=>
   split at hc
   ·rename_i ho
    simp only[adf] at ho
    have:=afp ho.1
    subst this
    split at hc
    ·rename_i cs hcs
     have hp:=xY hc
     obtain⟨ws,T,fz,hg,hw⟩:=hL k cs ho.2 hcs
     obtain⟨a,b,e,h1,h2⟩:=uX hF hL t cs x [] ws hp hw
     cases h2
     have hrep:aB G t x ws:=by simpa [e] using h1
     have hlen:=hrep.len
     refine⟨ρ.bx k,0,ws.toArray,T,fz,by rw[hv],hg,by simp;omega, ?_⟩
     have e2:(List.drop 0 ws.toArray.toList).take t.size=ws:=by simp[<- hlen]
     rw[e2];exact hrep
    ·cases hc
   ·cases hc
  all_goals cases hc) h hv
 | .clo g t,cs,x,r,vs,h,hv=>rJ (t:= .clo g t) (fun c x v hc hv=>by
  cases c<;>simp only[VX] at hc
  case clo g' t' y=>
   split at hc
   ·rename_i ho
    have:=afp ho
    subst this
    obtain⟨et,el⟩:=MT hc
    subst et;subst el
    obtain⟨caps,e,hc⟩:=hv
    exact⟨caps,by rw[e],hc⟩
   ·cases hc
  case fn g' ks=>
   split at hc
   ·rename_i ho
    have:=afp ho
    subst this
    have hp:=xY hc
    have hk:∀ l:List Nat,aF (aU G ρ) (l.map fun k=> .ref k 0) (l.map fun k=>Value.pointer (some ⟨ρ.bx k,0,none⟩)):=fun l=>by
     induction l with
     | nil=>rfl
     | cons k l ih=>exact⟨_,_,rfl,rfl,ih⟩
    obtain⟨a,b,e,h1,h2⟩:=uX hF hL t _ x [] _ hp (hk ks)
    cases h2
    refine⟨ks.map fun k=>Value.pointer (some ⟨ρ.bx k,0,none⟩),by rw[hv], ?_⟩
    rw[e];simpa using h1
   ·cases hc
  all_goals cases hc) h hv
 | .hnd,cs,x,r,vs,h,hv=>rJ (t:= .hnd) (fun c x v hc hv=>by
  cases c<;>simp only[VY] at hc
  case hnd o k=>
   split at hc
   ·rename_i ho
    have:=afp ho
    subst this
    cases hc
    cases x with
    | none=>rw[hv.1];rfl
    | some i=>obtain⟨b,hb,e⟩:=hv;exact⟨b,hb,by rw[e]⟩
   ·cases hc
  case nilp=>cases hc;rw[hv];rfl
  all_goals cases hc) h hv
theorem V7 {G:Gh} {ρ:Env} {S:St} (hF:ic G ρ S) (t:Ty) (cs:List CV) (x:t.den) (r:List CV) (vs:List Value) (h:pack S t cs=some (x,r)) (hv:aF (aU G ρ) cs vs): ∃ a b,vs=a++b/\aB G t x a/\aF (aU G ρ) r b:=uX hF (ld.nil G ρ S) t cs x r vs h hv
theorem IY {G:Gh} {ρ:Env} {S:St} {fb:List Nat} (hF:ic G ρ S) (hL:ld G ρ S fb) {t:Ty} {cs:List CV} {x:t.den} {vs:List Value} (h:gX (fE S fb t cs)=some x) (hv:aF (aU G ρ) cs vs):aB G t x vs:=by
 obtain⟨a,b,e,h1,h2⟩:=uX hF hL t cs x [] vs (xY h) hv
 cases h2
 simpa [e] using h1
theorem Mp {G:Gh} {ρ:Env} {S:St} (hF:ic G ρ S) {t:Ty} {cs:List CV} {x:t.den} {vs:List Value} (h:gX (pack S t cs)=some x) (hv:aF (aU G ρ) cs vs):aB G t x vs:=IY hF (ld.nil G ρ S) h hv
theorem kS {G:Gh} {ρ:Env} {S:St} {fb:List Nat} (hF:ic G ρ S) (hL:ld G ρ S fb) {t:Ty} {s:SV} {x:t.den} {v:Value} (h:iD S fb t s=some x) (hv:bh G ρ s v):bX G t x v:=by
 unfold iD at h
 split at h
 ·rename_i t cs
  obtain⟨vs,e,hl⟩:=hv
  exact⟨vs,e,IY hF hL h hl⟩
 ·cases h
 ·rename_i t' s' cs hne
  have hl:aB G t x [v]:=by
   match cs,hv,h with
   | [c],hv,hp=>exact IY hF hL hp ⟨v,[],rfl,hv,rfl⟩
  cases t with
  | st t=>exact absurd rfl (hne t)
  | _=>exact hl
 ·cases h
end Go.Dn
namespace Go.Dn
structure zM {P0:Program} (C:Fr P0) (G:Gh) (ρ:Env) (S:St) (w:World) (x:Option aX):Prop where
 agr:Agr G w
 le0:C.G0.le G
 old:∀ b,b<C.n0->¬ C.B b->G b=C.G0 b
 frame:∀ b,b<C.n0->¬ C.B b->w.heap[b]? =C.w0.heap[b]?
 size:C.n0<=w.heap.size
 os:w.os=C.w0.os
 output:w.output=C.w0.output
 pin:∀ k,2000<=k->ρ.bx k=C.pin k
 pinR:∀ k,10000000<=k->ρ.rw k=C.pinR k/\ρ.ob k=C.pinR k
 owned:∀ b o,ρ.own b=some o->G b=none/\b<w.heap.size/\(C.n0<=b\/C.B b)
 boxes:∀ k cs,look S.boxes k=some cs->some (.inl k)≠x->ρ.own (ρ.bx k)=some (.inl k)/\
  ∃ vs T,w.heap[ρ.bx k]? =some (.cells (List.toArray vs) T (0,0))/\aF (aU G ρ) cs vs
 rows:∀ j r,look S.rows j=some r->some (.inr j)≠x->cI G ρ w j r
 objs:∀ j r,look S.objs j=some r->some (.ob j)≠x->mA G ρ w j r
 hndI:C.noAr->G.hnd=C.G0.hnd/\∀ t l,look S.objs bz≠some (.ar false t l)
variable {P0:Program} {C:Fr P0} {G:Gh} {ρ:Env} {S:St} {w:World}
theorem Mem.toX (h:Mem C G ρ S w) (x:Option aX):zM C G ρ S w x:=
 ⟨h.agr,h.le0,h.old,h.frame,h.size,h.os,h.output,h.pin,h.pinR,h.owned,fun k cs hk _=>h.boxes k cs hk,fun j r hj _=>h.rows j r hj,fun j r hj _=>h.objs j r hj,h.hndI⟩
theorem zM.toMem {x:Option aX} (h:zM C G ρ S w x) (hb:∀ k cs,look S.boxes k=some cs->some (.inl k)=x->ρ.own (ρ.bx k)=some (.inl k)/\∃ vs T,w.heap[ρ.bx k]? =some (.cells (List.toArray vs) T (0,0))/\aF (aU G ρ) cs vs) (hr:∀ j r,look S.rows j=some r->some (.inr j)=x->cI G ρ w j r) (hob:∀ j r,look S.objs j=some r->some (.ob j)=x->mA G ρ w j r):Mem C G ρ S w:=
 ⟨h.agr,h.le0,h.old,h.frame,h.size,h.os,h.output,h.pin,h.pinR,h.owned,fun k cs hk=>by
   by_cases e:some (.inl k)=x
   ·exact hb k cs hk e
   ·exact h.boxes k cs hk e,fun j r hj=>by
   by_cases e:some (.inr j)=x
   ·exact hr j r hj e
   ·exact h.rows j r hj e,fun j r hj=>by
   by_cases e:some (.ob j)=x
   ·exact hob j r hj e
   ·exact h.objs j r hj e,h.hndI⟩
theorem zM.state {S':St} {x:Option aX} (h:zM C G ρ S w x) (hb:∀ k cs,look S'.boxes k=some cs->some (.inl k)≠x->look S.boxes k=some cs) (hr:∀ j r,look S'.rows j=some r->some (.inr j)≠x->look S.rows j=some r) (hob:∀ j r,look S'.objs j=some r->some (.ob j)≠x->look S.objs j=some r) (hna:∀ t l,look S'.objs bz=some (.ar false t l)->∃ t l,look S.objs bz=some (.ar false t l)):zM C G ρ S' w x:=
 { h with hndI:=fun hn=>⟨(h.hndI hn).1,fun t l hl=>by obtain⟨t',l',h'⟩:=hna t l hl;exact (h.hndI hn).2 t' l' h'⟩,boxes:=fun k cs hk e=>h.boxes k cs (hb k cs hk e) e,rows:=fun j r hj e=>h.rows j r (hr j r hj e) e,objs:=fun j r hj e=>h.objs j r (hob j r hj e) e }
theorem zM.grow {w':World} {x:Option aX} {blk:Option Nat} (h:zM C G ρ S w x) (hg:Grow ρ w w' blk) (hx:∀ b,blk=some b->∃ o,x=some o/\ρ.own b=some o):zM C G ρ S w' x where
 agr:=fun b o hb=>by
  have hl:=h.agr b o hb
  rw[hg.block b (bf hl) (fun e=>by
   obtain⟨o',_,ho⟩:=hx b e.symm
   have:=(h.owned b o' ho).1
   rw[hb] at this;cases this)]
  exact hl
 le0:=h.le0
 old:=h.old
 frame:=fun b hb hB=>by
  rw[hg.block b (afx hb h.size) (fun e=>by
   obtain⟨o',_,ho⟩:=hx b e.symm
   rcases (h.owned b o' ho).2.2 with h1 | h1
   ·omega
   ·exact hB h1)]
  exact h.frame b hb hB
 size:=afu h.size hg.size
 os:=hg.os.trans h.os
 output:=hg.output.trans h.output
 pin:=h.pin
 pinR:=h.pinR
 owned:=fun b o ho=>⟨(h.owned b o ho).1,afx (h.owned b o ho).2.1 hg.size,(h.owned b o ho).2.2⟩
 boxes:=fun k cs hk hne=>by
  obtain⟨h1,vs,T,h2,h3⟩:=h.boxes k cs hk hne
  refine⟨h1,vs,T, ?_,h3⟩
  rw[hg.block _ (bf h2) (fun e=>by
   obtain⟨o',hx',ho⟩:=hx _ e.symm
   rw[h1] at ho
   cases ho
   exact hne hx'.symm)]
  exact h2
 rows:=fun j r hj hne=>(h.rows j r hj hne).kept hg (fun b e ho=>by
  obtain⟨o',hx',ho'⟩:=hx b e
  rw[ho] at ho'
  cases ho'
  exact hne hx'.symm)
 objs:=fun j r hj hne=>(h.objs j r hj hne).kept hg (fun b e=>by
  obtain⟨o',_,ho'⟩:=hx b e
  exact (h.owned b o' ho').1) (fun b e ho=>by
  obtain⟨o',hx',ho'⟩:=hx b e
  rw[ho] at ho'
  cases ho'
  exact hne hx'.symm)
 hndI:=h.hndI
theorem zM.change {G':Gh} {ρ':Env} {x:Option aX} (h:zM C G ρ S w x) (hG:G.le G') (hh:G'.hnd=G.hnd) (hagr:Agr G' w) (hold:∀ b,b<C.n0->¬ C.B b->G' b=C.G0 b) (hpin:∀ k,2000<=k->ρ'.bx k=ρ.bx k) (hpinR:∀ k,10000000<=k->ρ'.rw k=ρ.rw k/\ρ'.ob k=ρ.ob k) (hs:∀ p,p∈S.boxes->∀ c,c∈p.2->c.eV ρ ρ') (howned:∀ b o,ρ'.own b=some o->G' b=none/\b<w.heap.size/\(C.n0<=b\/C.B b)) (hbx:∀ k cs,look S.boxes k=some cs->some (.inl k)≠x->ρ'.bx k=ρ.bx k/\(ρ.own (ρ.bx k)=some (.inl k)->ρ'.own (ρ.bx k)=some (.inl k))) (hrw:∀ j r,look S.rows j=some r->some (.inr j)≠x->ρ'.rw j=ρ.rw j/\∀ b,ρ.own b=some (.inr j)->ρ'.own b=some (.inr j)) (hob:∀ j r,look S.objs j=some r->some (.ob j)≠x->ρ'.ob j=ρ.ob j/\ρ'.st j=ρ.st j/\∀ b,ρ.own b=some (.ob j)->ρ'.own b=some (.ob j)):zM C G' ρ' S w x where
 agr:=hagr
 le0:=Gh.le_trans h.le0 hG
 old:=hold
 frame:=h.frame
 size:=h.size
 os:=h.os
 output:=h.output
 pin:=fun k hk=>(hpin k hk).trans (h.pin k hk)
 pinR:=fun k hk=>⟨(hpinR k hk).1.trans (h.pinR k hk).1,(hpinR k hk).2.trans (h.pinR k hk).2⟩
 owned:=howned
 boxes:=fun k cs hk hne=>by
  obtain⟨h1,vs,T,h2,h3⟩:=h.boxes k cs hk hne
  obtain⟨e1,e2⟩:=hbx k cs hk hne
  rw[e1]
  exact⟨e2 h1,vs,T,h2,aF.uU (fun c hc y=>aU.congr hG (hs (k,cs) (nj hk) c hc)) h3⟩
 rows:=fun j r hj hne=>by
  obtain⟨e1,e2⟩:=hrw j r hj hne
  exact (h.rows j r hj hne).congr hG e1 e2
 objs:=fun j r hj hne=>by
  obtain⟨e1,e2,e3⟩:=hob j r hj hne
  exact (h.objs j r hj hne).congr hG hh e1 e2 e3
 hndI:=fun hn=>⟨hh.trans (h.hndI hn).1,(h.hndI hn).2⟩
theorem VW (h:Mem C G ρ S w):ρ.own w.heap.size=none:=by
 cases ho:ρ.own w.heap.size with
 | none=>rfl
 | some o=>have:=(h.owned _ o ho).2.1;omega
theorem Iy (h:Mem C G ρ S w):G w.heap.size=none:=by
 cases ho:G w.heap.size with
 | none=>rfl
 | some o=>have:=bf (h.agr _ o ho);omega
theorem Grow.alloc (ρ:Env) (w:World) (o:Obj):Grow ρ w (w.alloc o) none:=
 ⟨rfl,rfl,by simp,fun b hb _=>heap_alloc_old w o b hb⟩
def Env.jr (ρ:Env) (d b:Nat):Env:=⟨fun i=>if i=d then b else ρ.bx i,ρ.rw,fun i=>if i=b then some (.inl d) else ρ.own i,ρ.ob,ρ.st⟩
theorem Rq {ρ:Env} {k b:Nat} (own:Nat->Option aX) {c:CV} (hc:c.bU k=false):c.eV ρ ⟨fun i=>if i=k then b else ρ.bx i,ρ.rw,own,ρ.ob,ρ.st⟩:=
 ⟨fun i hi=>by
   show (if i=k then b else ρ.bx i)=ρ.bx i
   by_cases e:i=k
   ·subst e;rw[hc] at hi;cases hi
   ·simp[e],fun _ _=>rfl,fun _ _=>rfl,fun _ _=>rfl⟩
theorem Mod.jr {a:Act} {d:Nat} {cs:List CV} {vs:List Value} {T:TypeId} (h:Mod C G ρ S w a) (hd:d<2000) (hn:S.bU d=false) (hcs:∀ c,c∈cs->c.bU d=false) (hv:aF (aU G ρ) cs vs): Mod C G (ρ.jr d w.heap.size) { tmps:=S.tmps.set d (.v false [.ref d 0]),boxes:=(d,cs)::S.boxes,rows:=S.rows,objs:=S.objs } (w.alloc (.cells vs.toArray T)) (a.put (some d) (.pointer (some ⟨w.heap.size,0,none⟩))):=by
 have hown:=VW h.toMem
 have hgh:=Iy h.toMem
 have hsame:S.eV ρ (ρ.jr d w.heap.size):=R8 _ hn
 have hX:=((h.toMem.toX (some (.inl d))).grow (Grow.alloc ρ w (.cells vs.toArray T)) (by simp)).change (G':=G) (ρ':=ρ.jr d w.heap.size) (Gh.le_refl G) rfl
  (fun b o hb=>by rw[heap_alloc_old _ _ _ (bf (h.agr b o hb))];exact h.agr b o hb) h.old (fun k hk=>by simp[Env.jr,show ¬ k=d by omega]) (fun _ _=>⟨rfl,rfl⟩) hsame.boxes
  (fun b o ho=>by
    simp only[Env.jr] at ho
    by_cases e:b=w.heap.size
    ·subst e;exact⟨hgh,by simp,.inl h.size⟩
    ·rw[agd e] at ho;exact⟨(h.owned b o ho).1,by have:=(h.owned b o ho).2.1;simp;omega,(h.owned b o ho).2.2⟩)
  (fun k cs' hk hne=>by
    have hkd:k≠d:=fun e=>hne (by rw[e])
    refine⟨by simp[Env.jr,hkd],fun ho=> ?_⟩
    have:ρ.bx k≠w.heap.size:=fun e=>by rw[e,hown] at ho;cases ho
    simp[Env.jr,this,ho])
  (fun j r hj _=>⟨rfl,fun b ho=>by
    have:b≠w.heap.size:=fun e=>by rw[e,hown] at ho;cases ho
    simp[Env.jr,this,ho]⟩)
  (fun j r hj _=>⟨rfl,rfl,fun b ho=>by
    have:b≠w.heap.size:=fun e=>by rw[e,hown] at ho;cases ho
    simp[Env.jr,this,ho]⟩)
 have hX':=hX.state (S':={ tmps:=S.tmps.set d (.v false [.ref d 0]),boxes:=(d,cs)::S.boxes,rows:=S.rows,objs:=S.objs })
  (fun k cs' hk hne=>by
    have hkd:d≠k:=fun e=>hne (by rw[e])
    simpa [ax,hkd] using hk) (fun j r hj _=>hj) (fun j r hj _=>hj) (fun t l h=>⟨t,l,h⟩)
 have hM:=hX'.toMem (fun k cs' hk e=>by
  cases e
  simp only[ax,agf,Option.some.injEq] at hk
  subst hk
  refine⟨by simp[Env.jr],vs,T,by simp only[Env.jr,agf];exact heap_alloc_new w _, ?_⟩
  exact aF.uU (fun c hc y=>aU.congr (Gh.le_refl G) (Rq _ (hcs c hc))) hv) (fun j r hj e=>by cases e) (fun j r hj e=>by cases e)
 exact { hM with
  tmps:=(h.tmps.congr (Gh.le_refl G) hsame).put (some d) (fun _ _=>by show _=_;simp[Env.jr])
  defers:=h.defers }
theorem Em {ρ':Env} (hb:ρ'.bx=ρ.bx) (hr:ρ'.rw=ρ.rw) (ho:ρ'.ob=ρ.ob) (hs:ρ'.st=ρ.st) (c:CV):c.eV ρ ρ':=⟨fun k _=>by rw[hb],fun k _=>by rw[hr],fun k _=>by rw[ho],fun k _=>by rw[hs]⟩
theorem kG.same {ρ':Env} (hb:ρ'.bx=ρ.bx) (hr:ρ'.rw=ρ.rw) (ho:ρ'.ob=ρ.ob) (hs:ρ'.st=ρ.st) {s:SV}:s.eV ρ ρ':=by
 cases s with
 | v a cs=>exact fun c _=>Em hb hr ho hs c
 | tup l=>exact fun p _ c _=>Em hb hr ho hs c
theorem gR {α:Type} (l:List (Nat×α)) (d i:Nat):look (l.filter fun p=> !Nat.beq p.1 d) i=if i=d then none else look l i:=by
 induction l with
 | nil=>simp[look]
 | cons p r ih=>
  obtain⟨j,y⟩:=p
  by_cases e:j=d
  ·subst e
   have:(List.filter (fun p:Nat×α=> !Nat.beq p.1 j) ((j,y)::r))=r.filter fun p=> !Nat.beq p.1 j:=by simp
   rw[this,ih,ax]
   by_cases e':i=j
   ·simp[e']
   ·have:¬ j=i:=fun h=>e' h.symm
    simp[e',this]
  ·have hb:Nat.beq j d=false:=by
    cases hb:Nat.beq j d with
    | false=>rfl
    | true=>exact absurd (afp hb) e
   have:(List.filter (fun p:Nat×α=> !Nat.beq p.1 d) ((j,y)::r))=(j,y)::r.filter fun p=> !Nat.beq p.1 d:=by simp[hb]
   rw[this,ax,ax,ih]
   by_cases e':j=i
   ·subst e';simp[e]
   ·simp[e']
def Env.putRow (ρ:Env) (d:Nat) (v:Value):Env:=⟨ρ.bx,fun i=>if i=d then v else ρ.rw i,fun b=>if v.ownBlock=some b then some (.inr d) else ρ.own b,ρ.ob,ρ.st⟩
theorem Mod.putRow {a:Act} {w':World} {blk jo:Option Nat} {d:Nat} {v:Value} {r:lY} {R:List (Nat×lY)} (h:Mod C G ρ S w a) (hg:Grow ρ w w' blk) (hblk:∀ b,blk=some b->∃ j,jo=some j/\ρ.own b=some (.inr j)) (hR:∀ i q,look R i=some q->look S.rows i=some q/\jo≠some i) (hd2:d<2000) (hd:S.aZ d=false) (hf:r.fz=false) (xs:List Value) (hown:w'.ownsRow 0 r.e r.t.size v r.l.length xs) (hrep:bN (aB G r.t) r.l xs) (hnew:∀ b,v.ownBlock=some b->(w.heap.size<=b/\b<w'.heap.size)\/blk=some b): Mod C G (ρ.putRow d v) { tmps:=S.tmps.set d (.v false [.row d]),boxes:=S.boxes,rows:=(d,r)::R,objs:=S.objs } w' (a.put (some d) v):=by
 have hsame:S.eV ρ (ρ.putRow d v):=GO _ hd
 have hfree:∀ b,v.ownBlock=some b->ρ.own b=none\/∃ j,jo=some j/\ρ.own b=some (.inr j):=fun b hb=>by
  rcases hnew b hb with ⟨h1,_⟩ | h1
  ·left
   cases ho:ρ.own b with
   | none=>rfl
   | some o=>have:=(h.owned b o ho).2.1;omega
  ·exact .inr (hblk b h1)
 have hghost:∀ b,v.ownBlock=some b->G b=none/\b<w'.heap.size/\(C.n0<=b\/C.B b):=fun b hb=>by
  rcases hnew b hb with ⟨h1,h2⟩ | h1
  ·refine⟨?_,h2,.inl (afu h.size h1)⟩
   cases hG:G b with
   | none=>rfl
   | some o=>have:=bf (h.agr b o hG);omega
  ·obtain⟨j,_,ho⟩:=hblk b h1
   have:=h.owned b _ ho
   exact⟨this.1,afx this.2.1 hg.size,this.2.2⟩
 have hX0:=(h.toMem.toX (jo.map .inr)).grow hg (fun b hb=>by
  obtain⟨j,e,ho⟩:=hblk b hb
  exact⟨.inr j,by rw[e];rfl,ho⟩)
 have hX1:=hX0.state (S':={ tmps:=S.tmps,boxes:=S.boxes,rows:=R.filter fun p=> !Nat.beq p.1 d,objs:=S.objs }) (fun k cs hk _=>hk) (fun j q hj _=>by
  simp only[gR] at hj
  split at hj
  ·cases hj
  ·exact (hR j q hj).1) (fun j q hj _=>hj) (fun t l h=>⟨t,l,h⟩)
 have hX2:=hX1.change (G':=G) (ρ':=ρ.putRow d v) (Gh.le_refl G) rfl hX0.agr hX0.old (fun _ _=>rfl) (fun k hk=>⟨by simp[Env.putRow,show ¬ k=d by omega],rfl⟩) hsame.boxes
  (fun b o ho=>by
    simp only[Env.putRow] at ho
    by_cases e:v.ownBlock=some b
    ·exact hghost b e
    ·rw[agd e] at ho;exact hX0.owned b o ho)
  (fun k cs hk _=>⟨rfl,fun ho=>by
    have:v.ownBlock≠some (ρ.bx k):=fun e=>by
     rcases hfree _ e with h1 | ⟨j,_,h1⟩
     ·rw[ho] at h1;cases h1
     ·rw[ho] at h1;cases h1
    simp[Env.putRow,this,ho]⟩)
  (fun j q hj _=>by
    simp only[gR] at hj
    split at hj
    ·cases hj
    ·rename_i hjd
     obtain⟨hj1,hj2⟩:=hR j q hj
     refine⟨by simp[Env.putRow,hjd],fun b ho=> ?_⟩
     have:v.ownBlock≠some b:=fun e=>by
      rcases hfree _ e with h1 | ⟨i,e1,h1⟩
      ·rw[ho] at h1;cases h1
      ·rw[ho] at h1;cases h1;exact hj2 e1
     simp[Env.putRow,this,ho])
  (fun j q hj _=>⟨rfl,rfl,fun b ho=>by
    have:v.ownBlock≠some b:=fun e=>by
     rcases hfree _ e with h1 | ⟨i,_,h1⟩
     ·rw[ho] at h1;cases h1
     ·rw[ho] at h1;cases h1
    simp[Env.putRow,this,ho]⟩)
 refine { agr:=hX2.agr,le0:=hX2.le0,old:=hX2.old,frame:=hX2.frame,size:=hX2.size,os:=hX2.os,output:=hX2.output,pin:=hX2.pin,pinR:=hX2.pinR,owned:=hX2.owned,boxes:= ?_,rows:= ?_,objs:=fun j q hj=>hX2.objs j q hj (by cases jo<;>simp),hndI:=hX2.hndI,tmps:= ?_,defers:=h.defers }
 ·intro k cs hk
  exact hX2.boxes k cs hk (by cases jo<;>simp)
 ·intro j q hj
  simp only[ax] at hj
  split at hj
  ·rename_i e
   subst e
   cases hj
   unfold cI
   rw[agd (by simp[hf])]
   refine⟨xs,by simpa [Env.putRow] using hown,hrep,fun b hb=> ?_⟩
   simp only[Env.putRow,agf] at hb ⊢
   rw[age hb]
  ·rename_i e
   have hjd:¬ j=d:=fun h=>e h.symm
   exact hX2.rows j q (by simp only[gR,agd hjd];exact hj) (by
    have:=(hR j q hj).2
    cases jo with
    | none=>simp
    | some i=>simp only[afU,ne_eq,Option.some.injEq,aX.inr.injEq];exact fun e=>this (by rw[e]))
 ·exact (h.tmps.congr (Gh.le_refl G) hsame).put (some d) (fun _ _=>⟨by simp[Env.putRow],by
   rcases hown.2 with ⟨e,_⟩ | ⟨g,cap,cur,e,_⟩
   ·exact⟨_,_,_,e⟩
   ·exact⟨_,_,_,e⟩⟩)
theorem Mod.Ug {a:Act} {w':World} {k:Nat} {cs:List CV} {vs:List Value} {T:TypeId} (h:Mod C G ρ S w a) (hk:∃ l,look S.boxes k=some l) (hg:Grow ρ w w' (some (ρ.bx k))) (hw:w'.heap[ρ.bx k]? =some (.cells vs.toArray T (0,0))) (hv:aF (aU G ρ) cs vs):Mod C G ρ { S with boxes:=(k,cs)::S.boxes } w' a:=by
 obtain⟨l,hl⟩:=hk
 have ho:=(h.boxes k l hl).1
 have hX:=((h.toMem.toX (some (.inl k))).grow hg (fun b hb=>by cases hb;exact⟨.inl k,rfl,ho⟩)).state (S':={ S with boxes:=(k,cs)::S.boxes })
  (fun i c hi hne=>by
    have:¬ k=i:=fun e=>hne (by rw[e])
    simpa [ax,this] using hi) (fun j r hj _=>hj) (fun j r hj _=>hj) (fun t l h=>⟨t,l,h⟩)
 have hM:=hX.toMem (fun i c hi e=>by
  cases e
  simp only[ax,agf,Option.some.injEq] at hi
  subst hi
  exact⟨ho,vs,T,hw,hv⟩) (fun j r hj e=>by cases e) (fun j r hj e=>by cases e)
 exact { hM with tmps:=h.tmps,defers:=h.defers }
theorem Mod.setRow {a:Act} {w':World} {j:Nat} {q r:lY} (h:Mod C G ρ S w a) (hj:look S.rows j=some q) (hq:q.fz=false) (hr:r.fz=false) {b:Nat} (hb:(ρ.rw j).ownBlock=some b) (hg:Grow ρ w w' (some b)) (xs:List Value) (hown:w'.ownsRow 0 r.e r.t.size (ρ.rw j) r.l.length xs) (hrep:bN (aB G r.t) r.l xs):Mod C G ρ { S with rows:=(j,r)::S.rows } w' a:=by
 have hrow:=h.rows j q hj
 unfold cI at hrow
 rw[agd (by simp[hq])] at hrow
 obtain⟨_,_,_,ho⟩:=hrow
 have hX:=((h.toMem.toX (some (.inr j))).grow hg (fun b' hb'=>by cases hb';exact⟨.inr j,rfl,ho b hb⟩)).state (S':={ S with rows:=(j,r)::S.rows }) (fun k cs hk _=>hk)
  (fun i c hi hne=>by
    have:¬ j=i:=fun e=>hne (by rw[e])
    simpa [ax,this] using hi) (fun j r hj _=>hj) (fun t l h=>⟨t,l,h⟩)
 have hM:=hX.toMem (fun k cs hk e=>by cases e) (fun i c hi e=>by
  cases e
  simp only[ax,agf,Option.some.injEq] at hi
  subst hi
  unfold cI
  rw[agd (by simp[hr])]
  exact⟨xs,hown,hrep,ho⟩) (fun j r hj e=>by cases e)
 exact { hM with tmps:=h.tmps,defers:=h.defers }
structure Fz (G G':Gh) (ρ ρ':Env):Prop where
 le:G.le G'
 bx:ρ'.bx=ρ.bx
 rw:ρ'.rw=ρ.rw
 ob:ρ'.ob=ρ.ob
 st:ρ'.st=ρ.st
 hnd:G'.hnd=G.hnd
 own:∀ b o,ρ'.own b=some o->ρ.own b=some o
 new:∀ b,G' b≠G b->∃ j,ρ.own b=some (.inr j)
theorem Fz.refl (G:Gh) (ρ:Env):Fz G G ρ ρ:=⟨Gh.le_refl G,rfl,rfl,rfl,rfl,rfl,fun _ _ h=>h,fun _ h=>absurd rfl h⟩
theorem Fz.trans {G1 G2 G3:Gh} {r1 r2 r3:Env} (h:Fz G1 G2 r1 r2) (k:Fz G2 G3 r2 r3):Fz G1 G3 r1 r3:=
 ⟨Gh.le_trans h.le k.le,k.bx.trans h.bx,k.rw.trans h.rw,k.ob.trans h.ob,k.st.trans h.st,k.hnd.trans h.hnd,fun b o x=>h.own b o (k.own b o x),fun b hb=>by
   by_cases e:G3 b=G2 b
   ·exact h.new b (fun e'=>hb (e.trans e'))
   ·obtain⟨j,hj⟩:=k.new b e;exact⟨j,h.own b _ hj⟩⟩
def vu (rs:List (Nat×lY)) (j:Nat):List (Nat×lY):=match look rs j with | some q=>(j,{ q with fz:=true })::rs | none=>rs
theorem Mod.vu {a:Act} (h:Mod C G ρ S w a) (j:Nat):∃ G' ρ',Fz G G' ρ ρ'/\Mod C G' ρ' { S with rows:=vu S.rows j } w a:=by
 unfold Dn.vu
 cases hj:look S.rows j with
 | none=>exact⟨G,ρ,Fz.refl G ρ,{ h.toMem.JS (S':={ S with rows:=S.rows }) rfl rfl rfl with tmps:=h.tmps,defers:=h.defers }⟩
 | some q=>
  have hrow:=h.rows j q hj
  have same:de G q.t.size (aB G q.t) q.l (ρ.rw j)->∃ G' ρ',Fz G G' ρ ρ'/\Mod C G' ρ' { S with rows:=(j,{ q with fz:=true })::S.rows } w a:=fun hs=>by
   refine⟨G,ρ,Fz.refl G ρ,{ h with rows:= ?_,tmps:=h.tmps }⟩
   intro i r hi
   simp only[ax] at hi
   split at hi
   ·rename_i e;subst e;cases hi;unfold cI;simpa using hs
   ·exact h.rows i r hi
  by_cases hf:q.fz=true
  ·apply same
   unfold cI at hrow;rw[age hf] at hrow;exact hrow
  ·have hf':q.fz=false:=by simpa using hf
   unfold cI at hrow
   rw[agd hf] at hrow
   obtain⟨xs,⟨hlen,hn | ⟨g,cap,cur,hv,_,hg,hnc,hcm,hcs,htake⟩⟩,hl,ho⟩:=hrow
   ·apply same
    have:q.l=[]:=ad5 hn.2
    exact⟨none,0,by rw[hn.1,this];rfl,by rw[this];simp,afN _,.inl this⟩
   ·have hog:=ho g (by rw[hv];rfl)
    have hgn:=h.owned g _ hog
    let G':Gh:=⟨fun b=>if b=g then w.heap[g]? else G b,G.hnd⟩
    let ρ':Env:=⟨ρ.bx,ρ.rw,fun b=>if b=g then none else ρ.own b,ρ.ob,ρ.st⟩
    have hle:G.le G':=⟨fun b o hb=>by
     show (if b=g then w.heap[g]? else G b)=some o
     by_cases e:b=g
     ·subst e;rw[hgn.1] at hb;cases hb
     ·rw[agd e];exact hb,fun _ _ h=>h⟩
    have hfz:Fz G G' ρ ρ':=⟨hle,rfl,rfl,rfl,rfl,rfl,fun b o ho'=>by
     simp only[ρ'] at ho'
     by_cases e:b=g
     ·simp[e] at ho'
     ·simpa [e] using ho',fun b hb=>by
     by_cases e:b=g
     ·exact⟨j,by rw[e];exact hog⟩
     ·simp[G',e] at hb⟩
    have hX:=(h.toMem.toX (some (.inr j))).change (G':=G') (ρ':=ρ') hle rfl
     (fun b o hb=>by
       simp only[G'] at hb
       by_cases e:b=g
       ·subst e;simpa using hb
       ·rw[agd e] at hb;exact h.agr b o hb)
     (fun b hb hB=>by
       have e:b≠g:=fun e=>by
        subst e
        rcases hgn.2.2 with h1 | h1
        ·omega
        ·exact hB h1
       simp only[G',agd e];exact h.old b hb hB)
     (fun _ _=>rfl) (fun _ _=>⟨rfl,rfl⟩) (fun p _ c _=>Em (ρ:=ρ) (ρ':=ρ') rfl rfl rfl rfl c)
     (fun b o ho'=>by
       have e:b≠g:=fun e=>by simp[ρ',e] at ho'
       have:=h.owned b o (hfz.own b o ho')
       exact⟨by simp only[G',agd e];exact this.1,this.2⟩)
     (fun k cs hk _=>⟨rfl,fun ho'=>by
       have e:ρ.bx k≠g:=fun e=>by rw[e,hog] at ho';cases ho'
       simp only[ρ',agd e];exact ho'⟩)
     (fun i r hi hne=>⟨rfl,fun b ho'=>by
       have e:b≠g:=fun e=>by rw[e,hog] at ho';cases ho';exact hne rfl
       simp only[ρ',agd e];exact ho'⟩)
     (fun i r hi hne=>⟨rfl,rfl,fun b ho'=>by
       have e:b≠g:=fun e=>by rw[e,hog] at ho';cases ho'
       simp only[ρ',agd e];exact ho'⟩)
    refine⟨G',ρ',hfz, ?_⟩
    have hX':=hX.state (S':={ S with rows:=(j,{ q with fz:=true })::S.rows }) (fun k cs hk _=>hk) (fun i c hi hne=>by
     have:¬ j=i:=fun e=>hne (by rw[e])
     simpa [ax,this] using hi) (fun j r hj _=>hj) (fun t l h=>⟨t,l,h⟩)
    have hM:=hX'.toMem (fun k cs hk e=>by cases e) (fun i c hi e=>by
     cases e
     simp only[ax,agf,Option.some.injEq] at hi
     subst hi
     unfold cI
     rw[age rfl]
     refine⟨some ⟨g,0,none⟩,cap,hv,hnc,hcm,.inr ⟨g,0,cur,q.e,(0,0),rfl,by simp[G',hg], ?_, ?_⟩⟩
     ·simp only[afM];rw[hcs];exact afF _ hnc
     ·simp only[ad3];rw[htake];exact hl.mono (aB.mono hle q.t)) (fun j r hj e=>by cases e)
    exact { hM with tmps:=h.tmps.congr hle ⟨fun s _=>kG.same (ρ:=ρ) (ρ':=ρ') rfl rfl rfl rfl,fun p _ c _=>Em (ρ:=ρ) (ρ':=ρ') rfl rfl rfl rfl c⟩,defers:=h.defers }
theorem GJ (S:St) (js:List Nat):aG S js={ S with rows:=js.foldl vu S.rows }:=rfl
theorem Mod.freeze {a:Act}:∀ (js:List Nat) {G:Gh} {ρ:Env} {S:St},Mod C G ρ S w a->∃ G' ρ',Fz G G' ρ ρ'/\Mod C G' ρ' (aG S js) w a
 | [],G,ρ,S,h=>⟨G,ρ,Fz.refl G ρ,h⟩
 | j::js,G,ρ,S,h=>by
  obtain⟨G1,ρ1,f1,h1⟩:=h.vu j
  obtain⟨G2,ρ2,f2,h2⟩:=Mod.freeze js h1
  exact⟨G2,ρ2,f1.trans f2,h2⟩
end Go.Dn
namespace Go.Dn
theorem fF {β:Type} {b:Bool} {x:Option β} {r:β} (h:chk b x=some r):b=true/\x=some r:=by
 cases b with
 | true=>exact⟨rfl,h⟩
 | false=>cases h
theorem bind_some {α β:Type} {x:Option α} {f:α->Option β} {r:β} (h:x.bind f=some r):∃ y,x=some y/\f y=some r:=by
 cases x with
 | none=>cases h
 | some y=>exact⟨y,rfl,h⟩
variable {P:Program} {G:Gh} {ρ:Env} {w:World} {β:Type}
theorem Yd {op:BinOp} {ka kb:IntKind} {x y:Int} {k:CV->Option β} {r:β} (h:MR op ka x kb y k=some r): ∃ c,k c=some r/\∀ (P:Program) (G:Gh) (ρ:Env) (w:World) (t:TypeId),∃ v,(binOp op t (.int ka x) (.int kb y)).run P w= .ok v w/\aU G ρ c v:=by
 unfold MR at h
 cases op
 case shl=>
  obtain⟨h1,h2⟩:=fF h
  exact⟨_,h2,fun P G ρ w t=>⟨_,by simp only[af7] at h1;simp[binOp,Op.shift,show ¬ y<0 by omega],rfl⟩⟩
 case shr=>
  obtain⟨h1,h2⟩:=fF h
  exact⟨_,h2,fun P G ρ w t=>⟨_,by simp only[af7] at h1;simp[binOp,Op.shift,show ¬ y<0 by omega],rfl⟩⟩
 all_goals
  simp only at h
  split at h
  ·cases h
  ·rename_i hk
   have hk':ka=kb:=by simpa using hk
   subst hk'
   first
    | cases h
    | exact⟨_,h,fun P G ρ w t=>⟨_,by simp[binOp,Op.intArith,Op.intCmp,Op.intBits],rfl⟩⟩
    | (obtain⟨h1,h2⟩:=fF h
       exact⟨_,h2,fun P G ρ w t=>⟨_,by simp only[bne_iff_ne,ne_eq] at h1;simp[binOp,Op.intDiv,h1],rfl⟩⟩)
theorem qY (l:List UInt8):(bs l).toList=l:=by rw[ByteArray.toList_eq,Yj]
theorem Ei (l:List UInt8):(bs l).size=l.length:=by simp[bs,ByteArray.size]
theorem abQ (a b:List UInt8):bs a++bs b=bs (a++b):=by
 apply ByteArray.ext
 apply Array.ext'
 simp[bs]
theorem Ye {op:BinOp} {x y:List UInt8} {k:CV->Option β} {r:β} (h:SH op x y k=some r): ∃ c,k c=some r/\∀ (P:Program) (G:Gh) (ρ:Env) (w:World) (t:TypeId),∃ v,(binOp op t (.string (bs x)) (.string (bs y))).run P w= .ok v w/\aU G ρ c v:=by
 unfold SH at h
 cases op
 case add=>
  obtain⟨h1,h2⟩:=fF h
  refine⟨_,h2,fun P G ρ w t=>⟨_, ?_,rfl⟩⟩
  simp only[af7] at h1
  have:¬ ((((bs x).size+(bs y).size:Nat):Int)>IntKind.i64.max):=by
   simp only[maxLen] at h1
   rw[Ei,Ei]
   simp[IntKind.max,IntKind.signed,IntKind.bits]
   omega
  simp only[binOp,Op.stringOp,this,agc,abQ]
  rfl
 all_goals first
  | cases h
  | exact⟨_,h,fun P G ρ w t=>⟨_,by simp only[binOp,Op.stringOp,qY];rfl,rfl⟩⟩
theorem KH {op:BinOp} {t:TypeId} {x y:Operand} {k:IntKind} {n:Int} {v:Value}:(eqGuard op t x y (.int k n) v).run P w= .ok () w:=by
 cases op<;>cases v<;>rfl
theorem US {op:BinOp} {t:TypeId} {x y:Operand} {s:ByteArray} {v:Value}:(eqGuard op t x y (.string s) v).run P w= .ok () w:=by
 cases op<;>cases v<;>rfl
theorem oM {t:TypeId} {d:TypeDesc} (h:P.underlying t=some d):(isAgg t).run P w= .ok (pR P t) w:=by
 simp only[isAgg,Sem.run_bind,run_underlying h,Result.andThen_ok,pR,h]
 cases d<;>rfl
theorem run_sizeOf {t:TypeId} {i:TypeInfo} (h:P.info? t=some i):(sizeOf t).run P w= .ok (b9 P t) w:=by
 simp[sizeOf,typeInfo,h,b9]
theorem SL {b off:Nat} {c:Array Value} {T:TypeId} {fz:Nat×Nat} (hb:w.heap[b]? =some (.cells c T fz)) (n:Nat):∀ j v,((c.toList.drop off).take n)[j]? =some v->w.cell? ((⟨b,off,none⟩:Addr).add j)=some v:=by
 intro j v hj
 rw[aeq] at hj
 split at hj
 ·rw[aeg] at hj
  have hadd:(⟨b,off,none⟩:Addr).add j=⟨b,off+j,none⟩:=by unfold Addr.add;split<;>simp_all
  rw[hadd,cell_of_row w b _ c T fz hb]
  simpa using hj
 ·cases hj
theorem ET {t:TypeId} {d:TypeDesc} {i:TypeInfo} (hu:P.underlying t=some d) (hi:P.info? t=some i) {b off:Nat} {vs:List Value} (hl:vs.length=b9 P t) (h:∀ j v,vs[j]? =some v->w.cell? ((⟨b,off,none⟩:Addr).add j)=some v): (pR P t=true->(loadVar t ⟨b,off,none⟩).run P w= .ok (.agg vs.toArray) w)/\(pR P t=false->∀ v,vs=[v]->(loadVar t ⟨b,off,none⟩).run P w= .ok v w):=by
 constructor
 ·intro ha
  simp only[loadVar,Sem.run_bind,oM hu,Result.andThen_ok,ha,agf,run_sizeOf hi, <- hl]
  rw[run_loadCells_list w ⟨b,off,none⟩ vs h]
  rfl
 ·intro ha v hv
  subst hv
  have h0:=h 0 v rfl
  simp only[loadVar,Sem.run_bind,oM hu,Result.andThen_ok,ha]
  have:(⟨b,off,none⟩:Addr).add 0=⟨b,off,none⟩:=rfl
  rw[this] at h0
  simp[h0]
theorem abj {t:TypeId} {d:TypeDesc} (h:P.underlying t=some d):∃ i,P.info? t=some i:=by
 unfold Program.underlying at h
 cases hi:P.info? t with
 | none=>rw[hi] at h;cases h
 | some i=>exact⟨i,rfl⟩
theorem iw {t:TypeId} (h:okT P t=true):∃ d i,P.underlying t=some d/\P.info? t=some i:=by
 obtain⟨d,hd⟩:=afS.1 h
 obtain⟨i,hi⟩:=abj hd
 exact⟨d,i,hd,hi⟩
theorem Bf {l cs:List CV} {off n:Nat} (h:JF l off n=some cs):cs=(l.drop off).take n/\cs.length=n:=by
 unfold JF at h
 simp only at h
 split at h
 ·rename_i hb;cases h;exact⟨rfl,afp hb⟩
 ·cases h
theorem zj {T:TypeId} {l:List CV} {off:Nat} {k:SV->Option β} {r:β} (h:lp P T l off k=some r): ∃ s,k s=some r/\∀ (G:Gh) (ρ:Env) (w:World) (b base:Nat) (vs:List Value),aF (aU G ρ) l vs->(∀ j v,vs[j]? =some v->w.cell? ((⟨b,base,none⟩:Addr).add j)=some v)-> ∃ v,(loadVar T ⟨b,base+off,none⟩).run P w= .ok v w/\bh G ρ s v:=by
 unfold lp at h
 split at h
 ·rename_i hok
  obtain⟨d,i,hd,hi⟩:=iw hok
  split at h
  ·rename_i cs hc
   obtain⟨e,hlen⟩:=Bf hc
   have key:∀ (G:Gh) (ρ:Env) (w:World) (b base:Nat) (vs:List Value),aF (aU G ρ) l vs->(∀ j v,vs[j]? =some v->w.cell? ((⟨b,base,none⟩:Addr).add j)=some v)->
    ∃ us:List Value,us.length=b9 P T/\aF (aU G ρ) cs us/\∀ j v,us[j]? =some v->w.cell? ((⟨b,base+off,none⟩:Addr).add j)=some v:=by
    intro G ρ w b base vs hv hcell
    refine⟨(vs.drop off).take (b9 P T), ?_,by rw[e];exact (hv.drop off).take _, ?_⟩
    ·have:=((hv.drop off).take (b9 P T)).len
     rw[this, <- e,hlen]
    ·intro j v hj
     rw[aeq] at hj
     split at hj
     ·rw[aeg] at hj
      have:=hcell (off+j) v hj
      have e1:(⟨b,base,none⟩:Addr).add (off+j)=⟨b,base+off+j,none⟩:=by unfold Addr.add;split<;>simp_all [afj]
      have e2:(⟨b,base+off,none⟩:Addr).add j=⟨b,base+off+j,none⟩:=by unfold Addr.add;split<;>simp_all
      rw[e2, <- e1];exact this
     ·cases hj
   split at h
   ·rename_i ha
    refine⟨_,h,fun G ρ w b base vs hv hcell=> ?_⟩
    obtain⟨us,hl,hus,hc'⟩:=key G ρ w b base vs hv hcell
    exact⟨_,(ET hd hi hl hc').1 ha,us,rfl,hus⟩
   ·rename_i ha
    split at h
    ·rename_i c
     refine⟨_,h,fun G ρ w b base vs hv hcell=> ?_⟩
     obtain⟨us,hl,hus,hc'⟩:=key G ρ w b base vs hv hcell
     obtain⟨y,ey,hy⟩:=hus.single
     exact⟨y,(ET hd hi hl hc').2 (by simpa using ha) y ey,hy⟩
    ·cases h
  ·cases h
 ·cases h
theorem Ma {α:Type} {l:List α} {i:Int} {x:α} (h:idx l i=some x):0<=i/\i<l.length/\l[i.toNat]? =some x:=by
 unfold idx at h
 split at h
 ·rename_i h0
  refine⟨h0, ?_,h⟩
  have:=(aej.1 h).1
  omega
 ·cases h
theorem run_indexAt_slice {t e:TypeId} (ht:P.underlying t=some (.slice e)) (hok:okT P e=true) {ik:IntKind} {i:Int} {b off len cap:Nat} (h0:0<=i) (h1:i<len): (Instr.indexAt t (.slice (some ⟨b,off,none⟩) len cap) (.int ik i)).run P w= .ok (.pointer (some ⟨b,off+i.toNat*b9 P e,none⟩)) w:=by
 obtain⟨d,inf,hd,hi⟩:=iw hok
 have hadd:(⟨b,off,none⟩:Addr).add (i.toNat*b9 P e)=⟨b,off+i.toNat*b9 P e,none⟩:=by unfold Addr.add;split<;>simp_all
 simp only[Instr.indexAt,asIntOf,Sem.run_bind,Sem.run_pure,Result.andThen_ok,run_underlying ht,h0,h1,afV,agf,run_sizeOf hi,hadd]
theorem de.at {t:Ty} {l:List t.den} {v:Value} (h:de G t.size (aB G t) l v) {i:Nat} {x:t.den} (hx:l[i]? =some x): ∃ b off c T fz cap,v= .slice (some ⟨b,off,none⟩) l.length cap/\G b=some (.cells c T fz)/\off+i*t.size+t.size<=c.size/\aB G t x ((c.toList.drop (off+i*t.size)).take t.size):=by
 obtain⟨a,cap,hv,h1,h2,h3⟩:=h
 have hlt:=(aej.1 hx).1
 rcases h3 with rfl | ⟨b,off,c,T,fz,ha,hb,hs,hl⟩
 ·simp at hx
 ·refine⟨b,off,c,T,fz,cap,by rw[hv,ha],hb, ?_, ?_⟩
  ·have:i*t.size+t.size<=l.length*t.size:=by rw[<- Nat.succ_mul];exact afF _ hlt
   omega
  ·have:=hl.get (fun x cs hr=>aB.len hr) hx
   rw[List.drop_take,afi,adZ] at this
   have e:min t.size (l.length*t.size - i*t.size)=t.size:=by
    have:i*t.size+t.size<=l.length*t.size:=by rw[<- Nat.succ_mul];exact afF _ hlt
    omega
   rw[e] at this
   exact this
end Go.Dn
namespace Go.Dn
variable {β:Type}
def gv (P:Program) (o:Oper) (S M:St) (s:SV):Prop:=
 ∀ (C:Fr P) (G:Gh) (ρ:Env) (w:World) (a:Act),Mem C G ρ M w->(∀ x,x∈o.op.operands->bh G ρ (S.ev x) (a.eval x))->
  ∃ v,(execOp a.eval o).run P w= .ok (.value v) w/\bh G ρ s v
theorem one_cell {G:Gh} {ρ:Env} {s:SV} {c:CV} {v:Value} (h:bh G ρ s v) (e:s= .v false [c]):aU G ρ c v:=by subst e;exact h
theorem P7 {G:Gh} {ρ:Env} {n:Nat} {c c':CV} {v:Value} (h:MG n c=some c') (hv:aU G ρ c v):∃ b off,v= .pointer (some ⟨b,off,none⟩)/\aU G ρ c' (.pointer (some ⟨b,off+n,none⟩)):=by
 cases c<;>simp only[MG] at h<;>try cases h
 case ref k o=>exact⟨_,_,hv,rfl⟩
 case cp t x o=>
  obtain⟨b,off,c,T,fz,e,hb,hs,hl⟩:=hv
  exact⟨_,_,e,b,off,c,T,fz,by rw[afj],hb,hs,hl⟩
 case rp j sz i o=>
  obtain⟨b,len,cap,e1,e2⟩:=hv
  exact⟨_,_,e2,b,len,cap,e1,by rw[afj]⟩
 case hnd o k=>
  cases o with
  | none=>cases h
  | some i=>
   cases h
   obtain⟨b,hb,e⟩:=hv
   exact⟨_,_,e,b,hb,rfl⟩
theorem El {G:Gh} {ρ:Env} {c:CV} {v:Value} (h:aU G ρ c v) (hok:c.ok=true):v.oneCell'=true/\v.cells= #[v]:=by
 cases c
 case any=>cases hok
 case opq u=>cases hok
 case sl t l=>obtain⟨a,cap,e,_⟩:=h;subst e;exact⟨rfl,rfl⟩
 case cp t x o=>obtain⟨b,off,c,T,fz,e,_⟩:=h;subst e;exact⟨rfl,rfl⟩
 case clo g t x=>obtain⟨caps,e,_⟩:=h;subst e;exact⟨rfl,rfl⟩
 case rp j sz i o=>obtain⟨b,len,cap,_,e⟩:=h;subst e;exact⟨rfl,rfl⟩
 case row j=>obtain⟨_,a,n,c,e⟩:=h;subst e;exact⟨rfl,rfl⟩
 case mp j=>obtain⟨_,b,e⟩:=h;subst e;exact⟨rfl,rfl⟩
 case kseq g j=>obtain⟨b,T,fz,e,_⟩:=h;subst e;exact⟨rfl,rfl⟩
 case nb b=>obtain⟨c,e,_⟩:=h;subst e;exact⟨rfl,rfl⟩
 case hnd o k=>
  cases o with
  | none=>obtain⟨e,_⟩:=h;subst e;exact⟨rfl,rfl⟩
  | some i=>obtain⟨b,_,e⟩:=h;subst e;exact⟨rfl,rfl⟩
 all_goals (have e:v=_:=h;subst e;exact⟨rfl,rfl⟩)
section
variable {X:Cx} {o:Oper} {S M:St} {k:SV->Option β} {r:β}
theorem V9 {P:Program} {T:TypeId} {l:List CV} {off:Nat} {s:SV} (h:lp P T l off some=some s): ∀ (G:Gh) (ρ:Env) (w:World) (vs:List Value),aF (aU G ρ) l vs->∃ v,(part T vs.toArray off).run P w= .ok v w/\bh G ρ s v:=by
 unfold lp at h
 split at h
 ·rename_i hok
  obtain⟨d,i,hd,hi⟩:=iw hok
  split at h
  ·rename_i cs' hc
   obtain⟨e,hlen⟩:=Bf hc
   split at h
   ·rename_i ha
    cases h
    intro G ρ w vs hl
    refine⟨.agg ((vs.drop off).take (b9 P T)).toArray, ?_,_,rfl,by rw[e];exact (hl.drop _).take _⟩
    simp only[Sem.run_bind,Result.andThen_ok,Sem.run_pure,part,oM hd,ha,agf,run_sizeOf hi]
    congr 2
    simp
   ·rename_i ha
    split at h
    ·rename_i c
     cases h
     intro G ρ w vs hl
     have hsub:=(hl.drop off).take (b9 P T)
     rw[<- e] at hsub
     obtain⟨y,ey,hy⟩:=hsub.single
     have hy0:vs[off]? =some y:=by
      have:((vs.drop off).take (b9 P T))[0]? =some y:=by rw[ey];rfl
      rw[aeq] at this
      split at this
      ·simpa using this
      ·cases this
     refine⟨y, ?_,hy⟩
     simp[part,oM hd,ha,hy0]
    ·cases h
  ·cases h
 ·cases h
theorem VD {P:Program} {g:TypeId->SV->SV->Option Bool} {d:Nat} (hg:∀ t x y r,g t x y=some r->∀ (G:Gh) (ρ:Env) (w:World) vx vy,bh G ρ x vx->bh G ρ y vy->(Op.equalIn d t vx vy).run P w= .ok r w) {xs ys:List CV}: ∀ {fs:List Field} {r:Bool},Ij P g xs ys fs=some r->∀ (G:Gh) (ρ:Env) (w:World) vs us,aF (aU G ρ) xs vs->aF (aU G ρ) ys us->(Op.eqFields d vs.toArray us.toArray fs).run P w= .ok r w
 | [],r,h,G,ρ,w,vs,us,hv,hu=>by simp only[Ij,Option.some.injEq] at h;subst h;rfl
 | f::fs,r,h,G,ρ,w,vs,us,hv,hu=>by
  simp only[Ij] at h
  split at h
  ·cases h
  ·rename_i hn
   split at h
   ·rename_i a b ha hb
    split at h
    ·rename_i r1 hr1
     split at h
     ·rename_i q hq
      cases h
      obtain⟨x,hx1,hx2⟩:=V9 ha G ρ w vs hv
      obtain⟨y,hy1,hy2⟩:=V9 hb G ρ w us hu
      have h1:=hg _ _ _ _ hr1 G ρ w x y hx2 hy2
      have h2:=VD hg hq G ρ w vs us hv hu
      simp only[Op.eqFields,age hn,Sem.run_bind,hx1,hy1,h1,Result.andThen_ok,Sem.run_ite,Sem.run_pure,h2]
      cases r1<;>simp
     ·cases h
    ·cases h
   ·cases h
theorem FQ {G:Gh} {ρ:Env} {c:CV} {v:Value} (h:c.Sr=true) (hv:aU G ρ c v):∃ a,v= .pointer (some a):=by
 cases c<;>simp only[CV.Sr] at h<;>try cases h
 case ref k o=>exact⟨_,hv⟩
 case cp t x o=>obtain⟨b,off,c,T,fz,e,_⟩:=hv;exact⟨_,e⟩
 case rp j sz i o=>obtain⟨b,len,cap,_,e⟩:=hv;exact⟨_,e⟩
theorem Pf {P:Program}:∀ {d:Nat} {t:TypeId} {x y:SV} {r:Bool},tj P d t x y=some r->∀ (d':Nat),d<=d'->∀ (G:Gh) (ρ:Env) (w:World) vx vy,bh G ρ x vx->bh G ρ y vy->(Op.equalIn d' t vx vy).run P w= .ok r w
 | 0,t,x,y,r,h=>by simp[tj] at h
 | d+1,t,x,y,r,h=>by
  intro d' hd' G ρ w vx vy hx hy
  obtain⟨e,rfl⟩:∃ e,d'=e+1:=⟨d' - 1,by omega⟩
  simp only[tj] at h
  split at h
  ·rename_i k0 ht
   split at h
   ·rename_i k a k' b
    split at h
    ·rename_i hk
     cases h
     subst hk
     have e1:vx= .int k a:=hx
     have e2:vy= .int k b:=hy
     subst e1;subst e2
     exact run_equalIn_int w e t k k0 a b ht
    ·cases h
   ·cases h
  ·rename_i ht
   split at h
   ·rename_i a b
    cases h
    have e1:vx= .bool a:=hx
    have e2:vy= .bool b:=hy
    subst e1;subst e2
    exact run_equalIn_bool w e t a b ht
   ·cases h
  ·rename_i ht
   split at h
   ·rename_i a b
    cases h
    have e1:vx= .string (bs a):=hx
    have e2:vy= .string (bs b):=hy
    subst e1;subst e2
    have:=run_equalIn_string w e t (bs a) (bs b) ht
    rw[qY,qY] at this
    exact this
   ·cases h
  ·rename_i el ht
   split at h
   ·cases h
    have e1:vx= .pointer none:=hx
    have e2:vy= .pointer none:=hy
    subst e1;subst e2
    simp[Op.equalIn,run_underlying ht]
   ·rename_i o k
    cases h
    have e1:vx= .pointer none:=hx
    subst e1
    cases o with
    | none=>obtain⟨e2,_⟩:=hy;subst e2;simp[Op.equalIn,run_underlying ht]
    | some i=>obtain⟨b,_,e2⟩:=hy;subst e2;simp[Op.equalIn,run_underlying ht]
   ·rename_i o k
    cases h
    have e1:vy= .pointer none:=hy
    subst e1
    cases o with
    | none=>obtain⟨e2,_⟩:=hx;subst e2;simp[Op.equalIn,run_underlying ht]
    | some i=>obtain⟨b,_,e2⟩:=hx;subst e2;simp[Op.equalIn,run_underlying ht]
   ·rename_i c _ _
    split at h
    ·rename_i hp
     cases h
     have e1:vx= .pointer none:=hx
     obtain⟨a,e2⟩:=FQ hp (show aU G ρ c vy from hy)
     subst e1;subst e2
     simp[Op.equalIn,run_underlying ht]
    ·cases h
   ·rename_i c _ _
    split at h
    ·rename_i hp
     cases h
     have e2:vy= .pointer none:=hy
     obtain⟨a,e1⟩:=FQ hp (show aU G ρ c vx from hx)
     subst e1;subst e2
     simp[Op.equalIn,run_underlying ht]
    ·cases h
   ·cases h
  ·rename_i fs ht
   split at h
   ·rename_i xs ys
    split at h
    ·cases h
    ·rename_i hst
     obtain⟨vs,e1,hvs⟩:=hx
     obtain⟨us,e2,hus⟩:=hy
     subst e1;subst e2
     have hf:P.fieldsOf t=fs:=by simp[Program.fieldsOf,ht]
     rw[run_equalIn_struct w e t vs.toArray us.toArray (by rw[hf];exact ht) (by simpa using hst),hf]
     exact VD (fun t x y r hr G ρ w vx vy hvx hvy=>Pf hr e (by omega) G ρ w vx vy hvx hvy) h G ρ w vs us hvs hus
   ·cases h
  ·cases h
theorem KI {P:Program} {op:BinOp} {t:TypeId} {x y:Operand} {vx vy:Value} {w:World} (h:P.eqGuardType P.depth t=false) (hx:vx≠ .nilIface):(eqGuard op t x y vx vy).run P w= .ok () w:=by
 unfold eqGuard
 cases op<;>first
  | rfl
  | (cases vx<;>cases vy<;>first | rfl | exact absurd rfl hx | simp[run_program,h])
def acs (t:TypeId) (vx vy:Value):Prop:=vx≠ .nilIface/\binOp .eql t vx vy=(do pure (.bool (<- Op.equal t vx vy)))/\binOp .neq t vx vy=(do pure (.bool (!(<- Op.equal t vx vy))))
theorem WS {P:Program} {d:Nat} {t:TypeId} {x y:SV} {q:Bool} (hq:tj P (d+1) t x y=some q): (∃ ka a kb b,x= .v false [.int ka a]/\y= .v false [.int kb b])\/(∃ a b,x= .v false [.str a]/\y= .v false [.str b])\/ ∀ (G:Gh) (ρ:Env) (vx vy:Value),bh G ρ x vx->bh G ρ y vy->acs t vx vy:=by
 simp only[tj] at hq
 split at hq
 ·split at hq
  ·exact .inl ⟨_,_,_,_,rfl,rfl⟩
  ·cases hq
 ·split at hq
  ·rename_i a b
   refine .inr (.inr fun G ρ vx vy hvx hvy=> ?_)
   have e1:vx= .bool a:=hvx
   have e2:vy= .bool b:=hvy
   subst e1;subst e2
   exact⟨by simp,rfl,rfl⟩
  ·cases hq
 ·split at hq
  ·exact .inr (.inl ⟨_,_,rfl,rfl⟩)
  ·cases hq
 ·refine .inr (.inr fun G ρ vx vy hvx hvy=> ?_)
  have hp:(∃ p,vx= .pointer p)/\∃ p,vy= .pointer p:=by
   split at hq
   ·exact⟨⟨_,hvx⟩,⟨_,hvy⟩⟩
   ·rename_i o k
    refine⟨⟨_,hvx⟩, ?_⟩
    cases o with
    | none=>exact⟨_,hvy.1⟩
    | some i=>obtain⟨b,_,e⟩:=hvy;exact⟨_,e⟩
   ·rename_i o k
    refine⟨?_,⟨_,hvy⟩⟩
    cases o with
    | none=>exact⟨_,hvx.1⟩
    | some i=>obtain⟨b,_,e⟩:=hvx;exact⟨_,e⟩
   ·rename_i c _ _
    split at hq
    ·rename_i hp
     obtain⟨a,e⟩:=FQ hp (show aU G ρ c vy from hvy)
     exact⟨⟨_,hvx⟩,⟨_,e⟩⟩
    ·cases hq
   ·rename_i c _ _
    split at hq
    ·rename_i hp
     obtain⟨a,e⟩:=FQ hp (show aU G ρ c vx from hvx)
     exact⟨⟨_,e⟩,⟨_,hvy⟩⟩
    ·cases hq
   ·cases hq
  obtain⟨⟨p,rfl⟩,⟨q',rfl⟩⟩:=hp
  exact⟨by simp,rfl,rfl⟩
 ·split at hq
  ·refine .inr (.inr fun G ρ vx vy hvx hvy=> ?_)
   obtain⟨vs,e1,hvs⟩:=hvx
   obtain⟨us,e2,hus⟩:=hvy
   subst e1;subst e2
   exact⟨by simp,rfl,rfl⟩
  ·cases hq
 ·cases hq
theorem ach {op:BinOp} {t u:TypeId} {x y:Operand} (ho:o.op= .binOp op t x y u) (hi:∀ ka a kb b,S.ev x= .v false [.int ka a]->S.ev y= .v false [.int kb b]->False) (hs:∀ a b,S.ev x= .v false [.str a]->S.ev y= .v false [.str b]->False) (h:Z5 X.P op t (S.ev x) (S.ev y) k=some r):∃ s,k s=some r/\gv X.P o S M s:=by
 unfold Z5 at h
 split at h
 ·cases h
 ·rename_i hgd
  have hgd':X.P.eqGuardType X.P.depth t=false:=by simpa using hgd
  have key:∀ q,tj X.P 9 t (S.ev x) (S.ev y)=some q->∀ (G:Gh) (ρ:Env) (w:World) (vx vy:Value),bh G ρ (S.ev x) vx->bh G ρ (S.ev y) vy->
   (eqGuard op t x y vx vy).run X.P w= .ok () w/\(binOp .eql t vx vy).run X.P w= .ok (.bool q) w/\(binOp .neq t vx vy).run X.P w= .ok (.bool !q) w:=by
   intro q hq G ρ w vx vy hvx hvy
   have heq':(Op.equal t vx vy).run X.P w= .ok q w:=Pf hq Op.maxDepth (by decide) G ρ w vx vy hvx hvy
   rcases WS hq with ⟨ka,a,kb,b,e1,e2⟩ | ⟨a,b,e1,e2⟩ | hB
   ·exact (hi _ _ _ _ e1 e2).elim
   ·exact (hs _ _ e1 e2).elim
   ·obtain⟨h1,h2,h3⟩:=hB G ρ vx vy hvx hvy
    refine⟨KI hgd' h1, ?_, ?_⟩
    ·rw[h2];simp[heq']
    ·rw[h3];simp[heq']
  clear hi hs
  split at h
  ·split at h
   ·rename_i q hq
    refine⟨_,h,fun C G ρ w a hM hop=>⟨.bool q, ?_,rfl⟩⟩
    obtain⟨h1,h2,_⟩:=key q hq G ρ w _ _ (hop x (by simp[ho,Op.operands])) (hop y (by simp[ho,Op.operands]))
    simp only[execOp,ho,Sem.run_bind,h1,Result.andThen_ok,h2,Sem.run_pure]
   ·split at h
    ·rename_i e b ht hb
     refine⟨_,h,fun C G ρ w a hM hop=> ?_⟩
     have hvx:=hop x (by simp[ho,Op.operands])
     have hvy:=hop y (by simp[ho,Op.operands])
     generalize S.ev x=sx at hb hvx
     generalize S.ev y=sy at hb hvy
     unfold aaR at hb
     split at hb
     ·rename_i ty l
      cases hb
      obtain⟨p,cap,e1,_,_,hl⟩:=(hvx:de G _ _ l _)
      have e2:a.eval y= .slice none 0 0:=hvy
      refine⟨.bool p.isNone, ?_,p.isNone,rfl,fun he=> ?_⟩
      ·have h1:(eqGuard .eql t x y (a.eval x) (a.eval y)).run X.P w= .ok () w:=KI hgd' (by rw[e1];simp)
       have h2:(binOp .eql t (a.eval x) (a.eval y)).run X.P w= .ok (.bool p.isNone) w:=by
        rw[e1,e2]
        have h3:(Op.equal t (.slice p l.length cap) (.slice none 0 0)).run X.P w= .ok p.isNone w:=by
         unfold Op.equal
         obtain⟨dd,hd⟩:∃ dd,Op.maxDepth=dd+1:=⟨9999,rfl⟩
         rw[hd]
         cases p<;>simp[Op.equalIn,run_underlying ht]
        have h4:binOp .eql t (.slice p l.length cap) (.slice none 0 0)=(do pure (.bool (<- Op.equal t (.slice p l.length cap) (.slice none 0 0)))):=rfl
        rw[h4];simp[h3]
       simp only[execOp,ho,Sem.run_bind,h1,Result.andThen_ok,h2,Sem.run_pure]
      ·rcases hl with hl | ⟨_,_,_,_,_,e3,_⟩
       ·subst hl;cases he
       ·rw[e3];rfl
     ·cases hb
    ·cases h
  ·split at h
   ·rename_i q hq
    refine⟨_,h,fun C G ρ w a hM hop=>⟨.bool !q, ?_,rfl⟩⟩
    obtain⟨h1,_,h2⟩:=key q hq G ρ w _ _ (hop x (by simp[ho,Op.operands])) (hop y (by simp[ho,Op.operands]))
    simp only[execOp,ho,Sem.run_bind,h1,Result.andThen_ok,h2,Sem.run_pure]
   ·cases h
  ·cases h
theorem abw {op:BinOp} {t u:TypeId} {x y:Operand} (ho:o.op= .binOp op t x y u) (h:dn X o S M k=some r):∃ s,k s=some r/\gv X.P o S M s:=by
 unfold dn at h
 rw[ho] at h
 simp only[Wu] at h
 split at h
 ·rename_i ka n kb m hx hy
  obtain⟨c,hk,hc⟩:=Yd h
  refine⟨_,hk,fun C G ρ w a hM hop=> ?_⟩
  have h1:=one_cell (hop x (by simp[ho,Op.operands])) hx
  have h2:=one_cell (hop y (by simp[ho,Op.operands])) hy
  obtain⟨v,hr,hv⟩:=hc X.P G ρ w t
  refine⟨v, ?_,hv⟩
  simp only[execOp,ho,Sem.run_bind,show a.eval x= .int ka n from h1,show a.eval y= .int kb m from h2,KH,Result.andThen_ok,hr,Sem.run_pure]
 ·rename_i n m hx hy
  obtain⟨c,hk,hc⟩:=Ye h
  refine⟨_,hk,fun C G ρ w a hM hop=> ?_⟩
  have h1:=one_cell (hop x (by simp[ho,Op.operands])) hx
  have h2:=one_cell (hop y (by simp[ho,Op.operands])) hy
  obtain⟨v,hr,hv⟩:=hc X.P G ρ w t
  refine⟨v, ?_,hv⟩
  simp only[execOp,ho,Sem.run_bind,show a.eval x= .string (bs n) from h1,show a.eval y= .string (bs m) from h2,US,Result.andThen_ok,hr,Sem.run_pure]
 ·rename_i hni hns
  exact ach ho hni hns h
theorem ack {op:UnOp} {t:TypeId} {x:Operand} (ho:o.op= .unOp op t x) (h:dn X o S M k=some r):∃ s,k s=some r/\gv X.P o S M s:=by
 unfold dn at h
 rw[ho] at h
 simp only at h
 split at h
 ·rename_i b hx
  refine⟨_,h,fun C G ρ w a hM hop=> ?_⟩
  have h1:=one_cell (hop x (by simp[ho,Op.operands])) hx
  exact⟨.bool !b,by simp only[execOp,ho,show a.eval x= .bool b from h1,Op.unary];rfl,rfl⟩
 ·rename_i ik n hx
  refine⟨_,h,fun C G ρ w a hM hop=> ?_⟩
  have h1:=one_cell (hop x (by simp[ho,Op.operands])) hx
  exact⟨_,by simp only[execOp,ho,show a.eval x= .int ik n from h1,Op.unary,Op.intArith];rfl,rfl⟩
 ·cases h
theorem QU {G:Gh}:∀ {l:List Int} {vs:List Value},bN (aB G (.int .u8)) l vs->vs=l.map (Value.int .u8)
 | [],vs,h=>h
 | x::r,vs,h=>by
  obtain⟨a,b,e,h1,h2⟩:=h
  have h1:a=[.int .u8 x]:=h1
  rw[e,h1,QU h2]
  rfl
theorem fold_push:∀ (ns:List Int) (s:ByteArray),ns.foldl (fun r n=>r.push (UInt8.ofNat n.toNat)) s=⟨(s.data.toList++ns.map fun n=>UInt8.ofNat n.toNat).toArray⟩
 | [],s=>by simp
 | n::r,s=>by
  rw[List.foldl_cons,fold_push r]
  simp[ByteArray.push]
theorem UD {P:Program} (w:World) {t u e e':TypeId} (hd:P.underlying t=some (.slice e)) (he:P.underlying e=some (.int .u8)) (hu:P.underlying u=some .string) (v:Value) (ql:List Int) {xs:List Value} (hown:w.ownsRow 0 e' 1 v ql.length xs) (hxs:xs=ql.map (Value.int .u8)):(convert t u v).run P w= .ok (.string (bs (ql.map fun n=>UInt8.ofNat n.toNat))) w:=by
 obtain⟨hlen,hv⟩:=hown
 rcases hv with ⟨hv,h0⟩ | ⟨g,cap,cur,hv,_,hheap,hle,lZ,hsz,htake⟩
 ·have:ql=[]:=aey.1 h0
  subst this
  rw[hv,run_convert_bytes_string w t u e none 0 0 hd he hu]
  rfl
 ·have hcell:∀ i v,(ql.map (Value.int .u8))[i]? =some v->w.cell? ((⟨g,0,none⟩:Addr).add i)=some v:=fun i v hi=>by
   rw[<- hxs, <- htake] at hi
   have hlt:i<ql.length*1:=by
    have:=(aej.1 hi).1
    rw[aeH] at this
    exact afx this (Nat.min_le_left _ _)
   rw[aer hlt] at hi
   have hi:cur[i]? =some v:=by simpa using hi
   by_cases h0:i=0
   ·subst h0;simp[World.cell?,Addr.add,hheap,hi]
   ·simp[World.cell?,Addr.add,h0,hheap,hi]
  have h:=run_loadCells_list (P:=P) (w:=w) ⟨g,0,none⟩ (ql.map (Value.int .u8)) hcell
  rw[aeA] at h
  rw[hv,run_convert_bytes_string w t u e _ _ _ hd he hu,run_bytesToString w _ _ _ ql h,fold_push]
  rfl
theorem Zl {t u:TypeId} {x:Operand} (ho:o.op= .convert t u x) (h:dn X o S M k=some r):∃ s,k s=some r/\gv X.P o S M s:=by
 unfold dn at h
 rw[ho] at h
 simp only at h
 split at h
 ·rename_i d ik ik' n hd hu hx
  refine⟨_,h,fun C G ρ w a hM hop=> ?_⟩
  have h1:=one_cell (hop x (by simp[ho,Op.operands])) hx
  refine⟨.int ik (ik.wrap n), ?_,rfl⟩
  simp only[execOp,ho,show a.eval x= .int ik' n from h1,convert,Sem.run_bind,run_underlying hd,run_underlying hu,Result.andThen_ok,Conv.intToInt,Sem.run_pure]
 ·rename_i d s hd hu hx
  refine⟨_,h,fun C G ρ w a hM hop=> ?_⟩
  have h1:=one_cell (hop x (by simp[ho,Op.operands])) hx
  refine⟨.string (bs s), ?_,rfl⟩
  simp only[execOp,ho,show a.eval x= .string (bs s) from h1,convert,Sem.run_bind,run_underlying hd,run_underlying hu,Result.andThen_ok,Sem.run_pure]
 ·rename_i d ik n hd hu hx
  obtain⟨hc,h⟩:=fF h
  simp only[adf,af7] at hc
  refine⟨_,h,fun C G ρ w a hM hop=> ?_⟩
  have h1:=one_cell (hop x (by simp[ho,Op.operands])) hx
  have he:Utf8.encode n=bs [UInt8.ofNat n.toNat]:=by
   have hv:Utf8.valid n=true:=by
    unfold Utf8.valid
    rw[adu,adf,af7,af7]
    exact .inl ⟨hc.1,by omega⟩
   unfold Utf8.encode
   rw[hv]
   simp only[agf]
   rw[age (show n.toNat<128 by omega)]
   rfl
  refine⟨.string (bs [UInt8.ofNat n.toNat]), ?_,rfl⟩
  simp only[execOp,ho,show a.eval x= .int ik n from h1,convert,Sem.run_bind,run_underlying hd,run_underlying hu,Result.andThen_ok,Conv.intToString,Sem.run_pure,he]
 ·rename_i d e j hd hu hx
  split at h
  ·rename_i q he hq
   split at h
   ·cases h
   ·rename_i hfz
    cases hc:lP (b:= .int .u8) q.l with
    | none=>rw[hc] at h;cases h
    | some l=>
     rw[hc] at h
     simp only at h
     refine⟨_,h,fun C G ρ w a hM hop=> ?_⟩
     have h1:a.eval x=ρ.rw j:=by
      exact (one_cell (hop x (by simp[ho,Op.operands])) hx).1
     have hr:=hM.rows j q hq
     obtain⟨fz,e',t',ql⟩:=q
     obtain⟨et,hl⟩:=fR hc
     simp only at et hl hfz
     subst et
     subst hl
     unfold cI at hr
     simp only at hr
     rw[agd hfz] at hr
     obtain⟨xs,⟨hlen,hv⟩,hrep,_⟩:=hr
     have hxs:=QU hrep
     have hrun:(convert t u (a.eval x)).run X.P w= .ok (.string (bs (ql.map fun n=>UInt8.ofNat n.toNat))) w:=by
      rw[h1]
      exact UD w hd he hu _ ql ⟨hlen,hv⟩ hxs
     exact⟨_,by simp only[execOp,ho,Sem.run_bind,hrun,Result.andThen_ok,Sem.run_pure],rfl⟩
  ·cases h
 ·cases h
theorem Zn {x:Operand} (ho:o.op= .move x\/o.op= .assign x) (h:dn X o S M k=some r):∃ s,k s=some r/\gv X.P o S M s:=by
 unfold dn at h
 rcases ho with ho | ho<;>rw[ho] at h<;>simp only at h
 all_goals exact⟨_,h,fun C G ρ w a hM hop=>⟨a.eval x,by simp only[execOp,ho,Sem.run_pure],hop x (by simp[ho,Op.operands])⟩⟩
theorem acj {c x y:Operand} (ho:o.op= .pick c x y) (h:dn X o S M k=some r):∃ s,k s=some r/\gv X.P o S M s:=by
 unfold dn at h
 rw[ho] at h
 simp only at h
 split at h
 ·rename_i t hc
  cases t with
  | true=>
   refine⟨_,h,fun C G ρ w a hM hop=>⟨a.eval x, ?_,hop x (by simp[ho,Op.operands])⟩⟩
   have h1:=one_cell (hop c (by simp[ho,Op.operands])) hc
   simp only[execOp,ho,show a.eval c= .bool true from h1,asBool,Sem.run_bind,Sem.run_pure,Result.andThen_ok,agf]
  | false=>
   refine⟨_,h,fun C G ρ w a hM hop=>⟨a.eval y, ?_,hop y (by simp[ho,Op.operands])⟩⟩
   have h1:=one_cell (hop c (by simp[ho,Op.operands])) hc
   simp[execOp,ho,show a.eval c= .bool false from h1,asBool]
 ·cases h
theorem XE {x:Operand} (ho:o.op= .nilCheck x) (h:dn X o S M k=some r):∃ s,k s=some r/\gv X.P o S M s:=by
 unfold dn at h
 rw[ho] at h
 simp only at h
 split at h
 ·rename_i i j hx
  refine⟨_,h,fun C G ρ w a hM hop=> ?_⟩
  have h1:=one_cell (hop x (by simp[ho,Op.operands])) hx
  exact⟨_,by simp only[execOp,ho,show a.eval x=_ from h1];rfl,rfl⟩
 ·rename_i t y j hx
  refine⟨_,h,fun C G ρ w a hM hop=> ?_⟩
  have h1:=one_cell (hop x (by simp[ho,Op.operands])) hx
  obtain⟨b,off,c,T,fz,e,rest⟩:=h1
  exact⟨_,by simp only[execOp,ho,e];rfl,b,off,c,T,fz,rfl,rest⟩
 ·rename_i i sz j l hx
  refine⟨_,h,fun C G ρ w a hM hop=> ?_⟩
  have h1:=one_cell (hop x (by simp[ho,Op.operands])) hx
  obtain⟨b,len,cap,e1,e2⟩:=h1
  exact⟨_,by simp only[execOp,ho,e2];rfl,b,len,cap,e1,rfl⟩
 ·rename_i g t y hx
  refine⟨_,h,fun C G ρ w a hM hop=> ?_⟩
  have h1:=one_cell (hop x (by simp[ho,Op.operands])) hx
  obtain⟨caps,e,hc⟩:=h1
  exact⟨_,by simp only[execOp,ho,e];rfl,caps,rfl,hc⟩
 ·rename_i g ks hx
  refine⟨_,h,fun C G ρ w a hM hop=> ?_⟩
  have h1:=one_cell (hop x (by simp[ho,Op.operands])) hx
  exact⟨_,by simp only[execOp,ho,show a.eval x=_ from h1];rfl,rfl⟩
 ·rename_i oh j hx
  obtain⟨i,hi,h⟩:=bind_some h
  subst hi
  refine⟨_,h,fun C G ρ w a hM hop=> ?_⟩
  have h1:=one_cell (hop x (by simp[ho,Op.operands])) hx
  obtain⟨b,hb,e⟩:=h1
  exact⟨_,by simp only[execOp,ho,e];rfl,b,hb,rfl⟩
 ·cases h
theorem Vl {t:TypeId} {x:Operand} {f:Nat} (ho:o.op= .fieldAddr t x f) (h:dn X o S M k=some r):∃ s,k s=some r/\gv X.P o S M s:=by
 unfold dn at h
 rw[ho] at h
 simp only at h
 split at h
 ·rename_i fs c ht hx
  split at h
  ·rename_i fd hf
   split at h
   ·rename_i hok
    simp only[adf,adq] at hok
    obtain⟨d,i,hd,hi⟩:=iw hok.1
    split at h
    ·rename_i c' hc
     refine⟨_,h,fun C G ρ w a hM hop=> ?_⟩
     have h1:=one_cell (hop x (by simp[ho,Op.operands])) hx
     obtain⟨b,off,e,hc'⟩:=P7 hc h1
     have hadd:(⟨b,off,none⟩:Addr).add fd.offset=⟨b,off+fd.offset,none⟩:=by unfold Addr.add;split<;>simp_all
     have hz:b9 X.P fd.type≠0:=fun e0=>by rw[e0] at hok;simp at hok
     refine⟨_, ?_,hc'⟩
     simp only[execOp,ho,e,Instr.fieldAt,Sem.run_bind,run_underlying ht,Result.andThen_ok,hf,Instr.sureAddr,Sem.run_pure,fieldPlace,run_sizeOf hi,hz,agc,hadd]
    ·cases h
   ·cases h
  ·cases h
 ·cases h
theorem aci {t:TypeId} {x:Operand} (ho:o.op= .load t x) (h:dn X o S M k=some r):∃ s,k s=some r/\gv X.P o S M s:=by
 unfold dn at h
 rw[ho] at h
 simp only at h
 split at h
 ·rename_i bk off hx
  split at h
  ·rename_i l hl
   obtain⟨s,hs,hld⟩:=zj h
   refine⟨s,hs,fun C G ρ w a hM hop=> ?_⟩
   have h1:=one_cell (hop x (by simp[ho,Op.operands])) hx
   obtain⟨_,vs,T,hw,hv⟩:=hM.boxes bk l hl
   obtain⟨v,hr,hsv⟩:=hld G ρ w (ρ.bx bk) 0 vs hv (fun j v hj=>by
    have hadd:(⟨ρ.bx bk,0,none⟩:Addr).add j=⟨ρ.bx bk,j,none⟩:=by unfold Addr.add;split<;>simp_all
    rw[hadd,cell_of_row w _ j _ T (0,0) hw];simpa using hj)
   refine⟨v, ?_,hsv⟩
   simp only[afM] at hr
   simp only[execOp,ho,show a.eval x=_ from h1,Instr.loadAt,Instr.sureAddr,Sem.run_bind,Sem.run_pure,Result.andThen_ok,hr]
  ·cases h
 ·rename_i ty y off hx
  obtain⟨s,hs,hld⟩:=zj h
  refine⟨s,hs,fun C G ρ w a hM hop=> ?_⟩
  have h1:=one_cell (hop x (by simp[ho,Op.operands])) hx
  obtain⟨b,base,c,T,fz,e,hb,hsz,hl⟩:=h1
  obtain⟨v,hr,hsv⟩:=hld G ρ w b base _ (fP ρ hl) (SL (hM.agr b _ hb) _)
  refine⟨v, ?_,hsv⟩
  simp only[execOp,ho,e,Instr.loadAt,Instr.sureAddr,Sem.run_bind,Sem.run_pure,Result.andThen_ok,hr]
 ·rename_i j sz i off hx
  split at h
  ·rename_i q hq
   obtain⟨y,hy,h⟩:=bind_some h
   split at h
   ·rename_i hcond
    simp only[adf,adq] at hcond
    obtain⟨s,hs,hld⟩:=zj h
    refine⟨s,hs,fun C G ρ w a hM hop=> ?_⟩
    have h1:=one_cell (hop x (by simp[ho,Op.operands])) hx
    obtain⟨b,len,cap,e1,e2⟩:=h1
    have hrow:=hM.rows j q hq
    unfold cI at hrow
    rw[agd (by simp[hcond.1])] at hrow
    obtain⟨xs,⟨hlen,hn | ⟨g,cap',cur,hv,_,hg,hnc,hcm,hcs,htake⟩⟩,hl,hown⟩:=hrow
    ·have:q.l=[]:=ad5 hn.2
     rw[this] at hy;simp at hy
    ·rw[e1] at hv
     cases hv
     have hyr:=hl.get (fun x cs hr=>aB.len hr) hy
     have hsz:=afp hcond.2
     obtain⟨v,hr,hsv⟩:=hld G ρ w b (i*sz) _ (fP ρ hyr) (fun n u hu=>by
      rw[aeq] at hu
      split at hu
      ·rw[aeg, <- htake,aeq] at hu
       split at hu
       ·have hadd:(⟨b,i*sz,none⟩:Addr).add n=⟨b,i*sz+n,none⟩:=by unfold Addr.add;split<;>simp_all
        rw[hadd,cell_of_row w _ _ _ _ _ hg,hsz];simpa using hu
       ·cases hu
      ·cases hu)
     refine⟨v, ?_,hsv⟩
     simp only[execOp,ho,e2,Instr.loadAt,Instr.sureAddr,Sem.run_bind,Sem.run_pure,Result.andThen_ok,hr]
   ·cases h
  ·cases h
 ·rename_i i off hx
  split at h
  ·rename_i fz ty l hl
   obtain⟨y,hy,h⟩:=bind_some h
   obtain⟨s,hs,hld⟩:=zj h
   refine⟨s,hs,fun C G ρ w a hM hop=> ?_⟩
   have h1:=one_cell (hop x (by simp[ho,Op.operands])) hx
   obtain⟨b,hb,e⟩:=h1
   obtain⟨b',vs,T,hb',_,_,hw,hrep⟩:=(hM.objs bz _ hl).2.2.2 i y hy
   rw[hb] at hb'
   cases hb'
   obtain⟨v,hr,hsv⟩:=hld G ρ w b 0 vs (fP ρ hrep) (fun j v hj=>by
    have hadd:(⟨b,0,none⟩:Addr).add j=⟨b,j,none⟩:=by unfold Addr.add;split<;>simp_all
    rw[hadd,cell_of_row w _ j _ T (0,0) hw];simpa using hj)
   refine⟨v, ?_,hsv⟩
   simp only[afM] at hr
   simp only[execOp,ho,e,Instr.loadAt,Instr.sureAddr,Sem.run_bind,Sem.run_pure,Result.andThen_ok,hr]
  ·cases h
 ·cases h
theorem NJ {ik:IntKind}:∀ {cs:List CV} {l:List Int} {i:Nat} {m:Int},IB ik cs=some l->l[i]? =some m->cs[i]? =some (.int ik m)
 | [],l,i,m,h,hg=>by simp only[IB,Option.some.injEq] at h;subst h;simp at hg
 | c::cs,l,i,m,h,hg=>by
  cases c<;>simp only[IB] at h<;>try cases h
  split at h
  ·rename_i k n hk
   subst hk
   split at h
   ·rename_i l' hl'
    cases h
    cases i with
    | zero=>simp at hg;subst hg;rfl
    | succ i=>simp at hg ⊢;exact NJ hl' hg
   ·cases h
  ·cases h
theorem Vm {t:TypeId} {x ix:Operand} (ho:o.op= .indexAddr t x ix) (h:dn X o S M k=some r):∃ s,k s=some r/\gv X.P o S M s:=by
 unfold dn at h
 rw[ho] at h
 simp only at h
 split at h
 ·rename_i e ty l ik i ht hx hix
  split at h
  ·rename_i hok
   simp only[adf] at hok
   obtain⟨y,hy,h⟩:=bind_some h
   obtain⟨h0,h1,hget⟩:=Ma hy
   refine⟨_,h,fun C G ρ w a hM hop=> ?_⟩
   have hv1:=one_cell (hop x (by simp[ho,Op.operands])) hx
   have hv2:=one_cell (hop ix (by simp[ho,Op.operands])) hix
   obtain⟨b,off,c,T,fz,cap,ev,hb,hs,hrep⟩:=de.at hv1 hget
   have hsz:=afp hok.2
   refine⟨_, ?_,b,off+i.toNat*ty.size,c,T,fz,rfl,hb,hs,hrep⟩
   simp only[execOp,ho,ev,show a.eval ix= .int ik i from hv2,Sem.run_bind,run_indexAt_slice ht hok.1 h0 h1,Result.andThen_ok,Sem.run_pure,hsz,afm]
  ·cases h
 ·rename_i e j ik i ht hx hix
  split at h
  ·rename_i q hq
   split at h
   ·rename_i hok
    simp only[adf] at hok
    have hsz:=afp hok.2
    split at h
    ·rename_i hfz
     obtain⟨y,hy,h⟩:=bind_some h
     obtain⟨h0,h1,hget⟩:=Ma hy
     refine⟨_,h,fun C G ρ w a hM hop=> ?_⟩
     have hv1:=one_cell (hop x (by simp[ho,Op.operands])) hx
     have hv2:=one_cell (hop ix (by simp[ho,Op.operands])) hix
     have hrow:=hM.frozen j q hq hfz
     obtain⟨b,off,c,T,fz,cap,ev,hb,hs,hrep⟩:=de.at hrow hget
     refine⟨_, ?_,b,off+i.toNat*q.t.size,c,T,fz,rfl,hb,hs,hrep⟩
     simp only[execOp,ho,show a.eval x=ρ.rw j from hv1.1,ev,show a.eval ix= .int ik i from hv2,Sem.run_bind,run_indexAt_slice ht hok.1 h0 h1,Result.andThen_ok,Sem.run_pure,hsz,afm]
    ·rename_i hfz
     obtain⟨hc,h⟩:=fF h
     simp only[adf,af7] at hc
     refine⟨_,h,fun C G ρ w a hM hop=> ?_⟩
     have hv1:=one_cell (hop x (by simp[ho,Op.operands])) hx
     have hv2:=one_cell (hop ix (by simp[ho,Op.operands])) hix
     have hrow:=hM.rows j q hq
     unfold cI at hrow
     rw[agd hfz] at hrow
     obtain⟨xs,⟨hlen,hn | ⟨g,cap',cur,hv,_,hg,_⟩⟩,hl,hown⟩:=hrow
     ·omega
     ·refine⟨_, ?_,g,q.l.length,cap',hv,rfl⟩
      simp only[execOp,ho,show a.eval x=ρ.rw j from hv1.1,hv,show a.eval ix= .int ik i from hv2,Sem.run_bind,run_indexAt_slice ht hok.1 hc.1 hc.2,Result.andThen_ok,Sem.run_pure,hsz,afM,afm]
   ·cases h
  ·cases h
 ·rename_i n e c ik i ht hx hix
  split at h
  ·rename_i hok
   obtain⟨m,rfl,hlt,h⟩:=Of h
   rw[afM] at hlt
   split at h
   ·rename_i c' hc
    refine⟨_,h,fun C G ρ w a hM hop=> ?_⟩
    have h1:=one_cell (hop x (by simp[ho,Op.operands])) hx
    have hv2:=one_cell (hop ix (by simp[ho,Op.operands])) hix
    obtain⟨b,off,e1,hc'⟩:=P7 hc h1
    obtain⟨d,j,hd,hj⟩:=iw hok
    have hadd:(⟨b,off,none⟩:Addr).add (m*b9 X.P e)=⟨b,off+m*b9 X.P e,none⟩:=by unfold Addr.add;split<;>simp_all
    refine⟨_, ?_,hc'⟩
    have h0:(0:Int)<=(m:Int)/\(m:Int)<(n:Int):=⟨adG m,Int.ofNat_lt.2 hlt⟩
    simp only[execOp,ho,e1,show a.eval ix= .int ik (m:Int) from hv2,Instr.indexAt,asIntOf,Instr.sureAddr,Sem.run_bind,Sem.run_pure,run_underlying ht,Result.andThen_ok,age h0,run_sizeOf hj,show ((m:Int)).toNat=m from rfl,hadd]
   ·cases h
  ·cases h
 ·cases h
theorem abz {t:TypeId} {x ix:Operand} (ho:o.op= .index t x ix) (h:dn X o S M k=some r):∃ s,k s=some r/\gv X.P o S M s:=by
 unfold dn at h
 rw[ho] at h
 simp only at h
 split at h
 ·rename_i s ik i ht hx hix
  obtain⟨b,hb,h⟩:=bind_some h
  refine⟨_,h,fun C G ρ w a hM hop=> ?_⟩
  have hv1:=one_cell (hop x (by simp[ho,Op.operands])) hx
  have hv2:=one_cell (hop ix (by simp[ho,Op.operands])) hix
  unfold qv at hb
  split at hb
  ·rename_i h0
   refine⟨.int .u8 b.toNat, ?_,rfl⟩
   have hb':(bs s)[i.toNat]? =some b:=by
    obtain⟨hlt,he⟩:=aej.1 hb
    rw[getElem?_pos (bs s) i.toNat (by rw[Ei];exact hlt)]
    simp only[bs,Option.some.injEq]
    rw[<- he];rfl
   simp only[execOp,ho,show a.eval x= .string (bs s) from hv1,show a.eval ix= .int ik i from hv2,Instr.index,asIntOf,Sem.run_bind,Sem.run_pure,Result.andThen_ok,run_underlying ht,h0,agf,hb']
  ·cases hb
 ·rename_i n e cs ik i ht hx hix
  split at h
  ·rename_i ek he
   split at h
   ·rename_i l hl
    split at h
    ·rename_i hc
     simp only[adf,adq] at hc
     obtain⟨⟨⟨c1,c2⟩,c3⟩,c4⟩:=hc
     obtain⟨d,j,hd,hj⟩:=iw c1
     have hsz:=afp c2
     have hln:=afp c4
     obtain⟨m,hm,h⟩:=bind_some h
     obtain⟨h0,h1,hget⟩:=Ma hm
     refine⟨_,h,fun C G ρ w a hM hop=> ?_⟩
     have hv:=hop x (by simp[ho,Op.operands])
     rw[hx] at hv
     obtain⟨vs,ev,hall⟩:=hv
     have hv2:=one_cell (hop ix (by simp[ho,Op.operands])) hix
     have hcell:=NJ hl hget
     obtain⟨v,hv3,hv4⟩:=hall.get hcell
     refine⟨v, ?_,hv4⟩
     have hb:0<=i/\i<(n:Int):=⟨h0,by rw[<- hln];exact h1⟩
     simp only[execOp,ho,ev,show a.eval ix= .int ik i from hv2,Instr.index,asIntOf,Sem.run_bind,Sem.run_pure,Result.andThen_ok,run_underlying ht,age hb,run_sizeOf hj,hsz,afG,part,oM hd,c3,adl,agc]
     simp[hv3]
    ·cases h
   ·cases h
  ·cases h
 ·cases h
theorem Zm {x:Operand} {i:Nat} (ho:o.op= .extract x i) (h:dn X o S M k=some r):∃ s,k s=some r/\gv X.P o S M s:=by
 unfold dn at h
 rw[ho] at h
 simp only at h
 split at h
 ·rename_i l hx
  split at h
  ·rename_i p hp
   refine⟨_,h,fun C G ρ w a hM hop=> ?_⟩
   have hv1:=hop x (by simp[ho,Op.operands])
   rw[hx] at hv1
   obtain⟨vs,e,hl⟩:=hv1
   obtain⟨v,hv,hsv⟩:=hl.get hp
   refine⟨v, ?_,hsv⟩
   simp[execOp,ho,e,Instr.extract,hv]
  ·cases h
 ·cases h
end
end Go.Dn
namespace Go.Dn
variable {P:Program} {G:Gh} {w:World}
theorem Yi (a b:List UInt8):(bs a==bs b)=(a==b):=by
 have h:(bs a==bs b)=((bs a).data==(bs b).data):=rfl
 rw[h]
 simp[bs]
theorem zi {t:TypeId} {k:Ty} (h:fy P t k=true) (hn:∀ s,k≠ .st s):bQ P t k=true:=by
 cases k with
 | st s=>exact absurd rfl (hn s)
 | _=>exact h
theorem DY {t:TypeId} {k:Ty} (h:bQ P t k=true) (d:Nat) (a b:k.den):∃ c1 c2,unpack k a=[c1]/\unpack k b=[c2]/\tj P (d+1) t (.v false [c1]) (.v false [c2])=some (k.beq a b)/\l8 k a= .v false [c1]/\l8 k b= .v false [c2]:=by
 cases k with
 | int kk=>
  simp only[bQ] at h
  split at h
  ·rename_i hu
   exact⟨_,_,rfl,rfl,by simp[tj,hu,Ty.beq,BF],rfl,rfl⟩
  ·cases h
 | bool=>
  simp only[bQ] at h
  split at h
  ·rename_i hu
   exact⟨_,_,rfl,rfl,by simp[tj,hu,Ty.beq,Wt],rfl,rfl⟩
  ·cases h
 | str=>
  simp only[bQ] at h
  split at h
  ·rename_i hu
   exact⟨_,_,rfl,rfl,by simp[tj,hu,Ty.beq,acp],rfl,rfl⟩
  ·cases h
 | _=>simp[bQ] at h
theorem tX {t:TypeId} {k:Ty} (h:bQ P t k=true):okT P t=true/\pR P t=false/\k.size=1:=by
 cases k with
 | int kk=>
  simp only[bQ] at h
  split at h
  ·rename_i hu;exact⟨by simp[okT,hu],by simp[pR,hu],rfl⟩
  ·cases h
 | bool=>
  simp only[bQ] at h
  split at h
  ·rename_i hu;exact⟨by simp[okT,hu],by simp[pR,hu],rfl⟩
  ·cases h
 | str=>
  simp only[bQ] at h
  split at h
  ·rename_i hu;exact⟨by simp[okT,hu],by simp[pR,hu],rfl⟩
  ·cases h
 | _=>simp[bQ] at h
theorem FX {T:TypeId} (hok:okT P T=true) (hag:pR P T=false) (hsz:b9 P T=1) {l:List CV} {n:Nat} {c:CV} {r:List CV} (h:l.drop n=c::r):lp P T l n some=some (.v false [c]):=by
 have:(l.drop n).take 1=[c]:=by rw[h];rfl
 simp[lp,hok,JF,hsz,this,hag]
theorem Ql {l:List CV} {n:Nat} {c:CV} {r:List CV} (h:l.drop n=c::r):l.drop (n+1)=r:=by
 have:l.drop (n+1)=(l.drop n).drop 1:=by rw[adZ]
 rw[this,h];rfl
theorem Qo {d:Nat} {xs ys:List CV}:∀ {fs:List Field} {n:Nat} {t:Ty} {a b:t.den},cB P fs n t=true->xs.drop n=unpack t a->ys.drop n=unpack t b->Ij P (tj P (d+1)) xs ys fs=some (t.beq a b)
 | [],n,t,a,b,h,_,_=>by simp[cB] at h
 | [f],n,t,a,b,h,hx,hy=>by
  simp only[cB,adf,af7] at h
  obtain⟨⟨⟨h1,h2⟩,h3⟩,h4⟩:=h
  have e2:=afp h2
  have e3:=afp h3
  obtain⟨k1,k2,k3⟩:=tX h4
  obtain⟨c1,c2,u1,u2,he,_,_⟩:=DY h4 d a b
  simp only[Ij,agd h1,e2]
  rw[FX k1 k2 e3 (hx.trans u1),FX k1 k2 e3 (hy.trans u2)]
  simp only[he,adi]
 | f::g::r,n,t,a,b,h,hx,hy=>by
  cases t with
  | pair s t=>
   simp only[cB,adf,af7] at h
   obtain⟨⟨⟨⟨h1,h2⟩,h3⟩,h4⟩,h5⟩:=h
   have e2:=afp h2
   have e3:=afp h3
   obtain⟨k1,k2,k3⟩:=tX h4
   obtain⟨c1,c2,u1,u2,he,_,_⟩:=DY h4 d a.1 b.1
   simp only[unpack,u1,u2,List.singleton_append] at hx hy
   have ih:=Qo (d:=d) h5 (Ql hx) (Ql hy)
   rw[Ij,agd h1,e2]
   rw[FX k1 k2 e3 hx,FX k1 k2 e3 hy]
   simp only[he,ih,Ty.beq]
  | _=>simp[cB] at h
theorem aac {t:TypeId} {k:Ty} (h:fy P t k=true) (a b:k.den):tj P 9 t (l8 k a) (l8 k b)=some (k.beq a b):=by
 cases k with
 | st s=>
  simp only[fy] at h
  split at h
  ·rename_i fs hu
   simp only[adf,adq] at h
   simp only[l8,tj,hu,h.1,adl,agc]
   exact Qo (t:=s) (a:=a) (b:=b) (d:=7) (n:=0) h.2 (by simp) (by simp)
  ·cases h
 | _=>
  obtain⟨c1,c2,u1,u2,he,e1,e2⟩:=DY (P:=P) (t:=t) (zi h (by intro s e;cases e)) 8 a b
  rw[e1,e2]
  exact he
theorem Qt {t:TypeId} {k:Ty} (h:fy P t k=true) {a b:k.den} {va vb:Value} (ha:bX G k a va) (hb:bX G k b vb) (w:World):(Op.equal t va vb).run P w= .ok (k.beq a b) w:=by
 let ρ:Env:=⟨fun _=>0,fun _=> .nilFunc,fun _=>none,fun _=> .nilFunc,fun _ _=>0⟩
 exact Pf (aac h a b) Op.maxDepth (by decide) G ρ w va vb (EZ ρ ha) (EZ ρ hb)
theorem Qu {t:TypeId} {k:Ty} (h:fy P t k=true) {a b:k.den} (e:k.beq a b=true):a=b:=by
 have sc:∀ {t:TypeId} {k:Ty},bQ P t k=true->∀ {a b:k.den},k.beq a b=true->a=b:=by
  intro t k h a b e
  cases k with
  | int kk=>exact eq_of_beq (α:=Int) (a:=a) (b:=b) e
  | bool=>exact eq_of_beq (α:=Bool) (a:=a) (b:=b) e
  | str=>exact eq_of_beq (α:=List UInt8) (a:=a) (b:=b) e
  | _=>simp[bQ] at h
 have fc:∀ (fs:List Field) (n:Nat) (t:Ty) (a b:t.den),cB P fs n t=true->t.beq a b=true->a=b:=by
  intro fs
  induction fs with
  | nil=>intro n t a b h;simp[cB] at h
  | cons f r ih=>
   intro n t a b h e
   cases r with
   | nil=>
    simp only[cB,adf] at h
    exact sc h.2 e
   | cons g r=>
    cases t with
    | pair s t=>
     simp only[cB,adf] at h
     simp only[Ty.beq,adf] at e
     exact Prod.ext (sc h.1.2 (a:=a.1) (b:=b.1) e.1) (ih (n+1) t a.2 b.2 h.2 e.2)
    | _=>simp[cB] at h
 cases k with
 | st s=>
  simp only[fy] at h
  split at h
  ·rename_i fs hu
   simp only[adf] at h
   exact fc fs.toList 0 s a b h.2 e
  ·cases h
 | _=>exact sc (t:=t) (a:=a) (b:=b) (zi h (by intro s e;cases e)) e
theorem KX {t:TypeId} {k:Ty} (h:fy P t k=true) {a:k.den} {va vb:Value} (ha:bX G k a va) (hb:bX G k a vb):va=vb:=by
 have sc:∀ {t:TypeId} {k:Ty},bQ P t k=true->∀ {a:k.den} {u v:List Value},aB G k a u->aB G k a v->u=v:=by
  intro t k h a u v hu hv
  cases k with
  | int kk=>exact hu.trans hv.symm
  | bool=>exact hu.trans hv.symm
  | str=>exact hu.trans hv.symm
  | _=>simp[bQ] at h
 have fc:∀ (fs:List Field) (n:Nat) (t:Ty) (a:t.den) (u v:List Value),cB P fs n t=true->aB G t a u->aB G t a v->u=v:=by
  intro fs
  induction fs with
  | nil=>intro n t a u v h;simp[cB] at h
  | cons f r ih=>
   intro n t a u v h hu hv
   cases r with
   | nil=>
    simp only[cB,adf] at h
    exact sc h.2 hu hv
   | cons g r=>
    cases t with
    | pair s t=>
     simp only[cB,adf] at h
     obtain⟨c1,r1,e1,p1,q1⟩:=hu
     obtain⟨c2,r2,e2,p2,q2⟩:=hv
     rw[e1,e2,sc h.1.2 p1 p2,ih (n+1) t a.2 r1 r2 h.2 q1 q2]
    | _=>simp[cB] at h
 cases k with
 | st s=>
  simp only[fy] at h
  split at h
  ·rename_i fs hu
   simp only[adf] at h
   obtain⟨us,e1,h1⟩:=ha
   obtain⟨vs,e2,h2⟩:=hb
   rw[e1,e2,fc fs.toList 0 s a us vs h.2 h1 h2]
  ·cases h
 | _=>
  have:=sc (t:=t) (a:=a) (zi h (by intro s e;cases e)) ha hb
  simpa using this
theorem sameBits_self {t:TypeId} {k:Ty} (h:fy P t k=true) {a:k.den} {v:Value} (hv:bX G k a v):Instr.sameBits 10000 v v=true:=by
 have sc:∀ {t:TypeId} {k:Ty},bQ P t k=true->∀ {a:k.den} {cs:List Value},aB G k a cs->∀ n u,u∈cs->Instr.sameBits n u u=true:=by
  intro t k h a cs hc n u hu
  cases k with
  | int kk=>
   have e:cs=[_]:=hc
   rw[e] at hu
   rcases ae0.1 hu with rfl
   exact (fun x:Int=>by cases n<;>simp[Instr.sameBits]:∀ x:Int,Instr.sameBits n (.int kk x) (.int kk x)=true) a
  | bool=>
   have e:cs=[_]:=hc
   rw[e] at hu
   rcases ae0.1 hu with rfl
   exact (fun x:Bool=>by cases n<;>simp[Instr.sameBits]:∀ x:Bool,Instr.sameBits n (.bool x) (.bool x)=true) a
  | str=>
   have e:cs=[_]:=hc
   rw[e] at hu
   rcases ae0.1 hu with rfl
   exact (fun x:List UInt8=>by cases n<;>simp[Instr.sameBits,Yi]:∀ x:List UInt8,Instr.sameBits n (.string (bs x)) (.string (bs x))=true) a
  | _=>simp[bQ] at h
 have fc:∀ (fs:List Field) (n:Nat) (t:Ty) (a:t.den) (cs:List Value),cB P fs n t=true->aB G t a cs->∀ m u,u∈cs->Instr.sameBits m u u=true:=by
  intro fs
  induction fs with
  | nil=>intro n t a cs h;simp[cB] at h
  | cons f r ih=>
   intro n t a cs h hc m u hu
   cases r with
   | nil=>
    simp only[cB,adf] at h
    exact sc h.2 hc m u hu
   | cons g r=>
    cases t with
    | pair s t=>
     simp only[cB,adf] at h
     obtain⟨c1,r1,e1,p1,q1⟩:=hc
     rw[e1,aeM] at hu
     rcases hu with hu | hu
     ·exact sc h.1.2 p1 m u hu
     ·exact ih (n+1) t a.2 r1 h.2 q1 m u hu
    | _=>simp[cB] at h
 cases k with
 | st s=>
  simp only[fy] at h
  split at h
  ·rename_i fs hu
   simp only[adf] at h
   obtain⟨us,e1,h1⟩:=hv
   rw[e1]
   have key:=fc fs.toList 0 s a us h.2 h1
   have:∀ (l:List Value),(∀ u,u∈l->Instr.sameBits 9999 u u=true)->((l.zip l).all fun p=>Instr.sameBits 9999 p.1 p.2)=true:=by
    intro l hl
    induction l with
    | nil=>rfl
    | cons x l ih=>simp only[List.zip_cons_cons,adP,adf];exact⟨hl x (by simp),ih fun u hu=>hl u (by simp[hu])⟩
   show Instr.sameBits (9999+1) _ _=true
   simp only[Instr.sameBits,afZ,adv]
   exact this us fun u hu=>key 9999 u hu
  ·cases h
 | _=>exact sc (t:=t) (a:=a) (zi h (by intro s e;cases e)) hv 10000 v (by simp)
inductive Ao {k v:Ty} (a:k.den) (l:List (k.den×v.den)) (es:List MapEntry):Option (Nat×Value)->Prop
 | no (h:∀ p,p∈l->k.beq a p.1=false):Ao a l es none
 | yes (i:Nat) (p:k.den×v.den) (e:MapEntry) (hp:l[i]? =some p) (he:es[i]? =some e) (hb:k.beq a p.1=true) (hn:∀ j q,j<i->l[j]? =some q->k.beq a q.1=false):Ao a l es (some (i,e.val))
theorem GI {t:TypeId} {k v:Ty} (h:fy P t k=true) {a:k.den} {va:Value} (ha:bX G k a va):∀ {l:List (k.den×v.den)} {es:List MapEntry} (n:Nat),aF (qp G k v) l es-> ∃ r,(Instr.findAsking t va es n).run P w= .ok (r.map fun p:Nat×Value=>(n+p.1,p.2)) w/\Ao a l es r
 | [],es,n,he=>by cases he;exact⟨none,rfl,.no (by simp)⟩
 | p::l,_,n,⟨e,es,ee,hp,hl⟩=>by
  subst ee
  obtain⟨r,hr,hf⟩:=GI h ha (n+1) hl
  cases hb:k.beq a p.1 with
  | true=>
   refine⟨some (0,e.val), ?_,.yes 0 p e rfl rfl hb (fun j q hj=>by omega)⟩
   simp[Instr.findAsking,Qt h ha hp.1 w,hb]
  | false=>
   refine⟨r.map fun q=>(q.1+1,q.2), ?_, ?_⟩
   ·simp only[Instr.findAsking,Sem.run_bind,Qt h ha hp.1 w,hb,Result.andThen_ok,adl,agc,hr,afT]
    congr 1
    cases r<;>simp;omega
   ·cases hf with
    | no hn=>
     refine .no fun q hq=> ?_
     rcases aeP.1 hq with rfl | hq
     ·exact hb
     ·exact hn q hq
    | yes i q e' h1 h2 h3 h4=>
     refine .yes (i+1) q e' (by simpa using h1) (by simpa using h2) h3 (fun j q' hj hq=> ?_)
     cases j with
     | zero=>simp only[aef,Option.some.injEq] at hq;subst hq;exact hb
     | succ j=>exact h4 j q' (by omega) (by simpa using hq)
theorem NC {t:TypeId} {k v:Ty} (h:bQ P t k=true) {dsc:TypeDesc} (hd:P.underlying t=some dsc) {a:k.den} {va:Value} (ha:bX G k a va):∀ {l:List (k.den×v.den)} {es:List MapEntry} (n:Nat),aF (qp G k v) l es-> ∃ r,Instr.findNow dsc va es n=some (r.map fun p:Nat×Value=>(n+p.1,p.2))/\Ao a l es r
 | [],es,n,he=>by cases he;exact⟨none,rfl,.no (by simp)⟩
 | p::l,_,n,⟨e,es,ee,hp,hl⟩=>by
  subst ee
  obtain⟨r,hr,hf⟩:=NC h hd ha (n+1) hl
  have hs:Instr.sameNow dsc va e.key=some (k.beq a p.1):=by
   obtain⟨p1,p2⟩:=p
   have hp1:=hp.1
   dsimp only at hp1 ⊢
   cases k with
   | int kk=>
    have e1:va= .int kk a:=by simpa [bX,aB] using ha
    have e2:e.key= .int kk p1:=by simpa [bX,aB] using hp1
    simp only[bQ,hd] at h
    cases dsc<;>simp at h
    rw[e1,e2];exact (fun x y:Int=>by simp[Instr.sameNow,BF]:∀ x y:Int,Instr.sameNow (.int _) (.int kk x) (.int kk y)=some (BF x y)) a p1
   | bool=>
    have e1:va= .bool a:=by simpa [bX,aB] using ha
    have e2:e.key= .bool p1:=by simpa [bX,aB] using hp1
    simp only[bQ,hd] at h
    cases dsc<;>simp at h
    rw[e1,e2];exact (fun x y:Bool=>by simp[Instr.sameNow,Wt]:∀ x y:Bool,Instr.sameNow .bool (.bool x) (.bool y)=some (Wt x y)) a p1
   | str=>
    have e1:va= .string (bs a):=by simpa [bX,aB] using ha
    have e2:e.key= .string (bs p1):=by simpa [bX,aB] using hp1
    simp only[bQ,hd] at h
    cases dsc<;>simp at h
    rw[e1,e2]
    exact congrArg some (Yi a p1)
   | _=>simp[bQ] at h
  cases hb:k.beq a p.1 with
  | true=>
   refine⟨some (0,e.val), ?_,.yes 0 p e rfl rfl hb (fun j q hj=>by omega)⟩
   simp[Instr.findNow,hs,hb]
  | false=>
   refine⟨r.map fun q=>(q.1+1,q.2), ?_, ?_⟩
   ·simp only[Instr.findNow,hs,hb,hr,afT]
    congr 1
    cases r<;>simp;omega
   ·cases hf with
    | no hn=>
     refine .no fun q hq=> ?_
     rcases aeP.1 hq with rfl | hq
     ·exact hb
     ·exact hn q hq
    | yes i q e' h1 h2 h3 h4=>
     refine .yes (i+1) q e' (by simpa using h1) (by simpa using h2) h3 (fun j q' hj hq=> ?_)
     cases j with
     | zero=>simp only[aef,Option.some.injEq] at hq;subst hq;exact hb
     | succ j=>exact h4 j q' (by omega) (by simpa using hq)
theorem Ay {t:TypeId} {k v:Ty} (h:fy P t k=true) {a:k.den} {va:Value} (ha:bX G k a va) {l:List (k.den×v.den)} {es:List MapEntry} (he:aF (qp G k v) l es): ∃ r,(Instr.findKey t va es).run P w= .ok r w/\Ao a l es r:=by
 by_cases hst:∃ s,k= .st s
 ·obtain⟨s,rfl⟩:=hst
  have h0:=h
  simp only[fy] at h
  split at h
  ·rename_i fs hu
   obtain⟨us,eu,_⟩:=ha
   have ha':bX G (.st s) a va:=⟨us,eu,by assumption⟩
   obtain⟨r,hr,hf⟩:=GI (w:=w) h0 ha' 0 he
   have hid:(r.map fun p:Nat×Value=>(0+p.1,p.2))=r:=by cases r<;>simp
   rw[hid] at hr
   cases es with
   | nil=>
    refine⟨none,by simp[Instr.findKey,run_underlying hu,Instr.findNow], ?_⟩
    have:l=[]:=by
     cases l with
     | nil=>rfl
     | cons p l=>obtain⟨y,s',e,_⟩:=he;cases e
    subst this
    exact .no (by simp)
   | cons e es=>
    refine⟨r, ?_,hf⟩
    have hn:Instr.findNow (.struct fs) va (e::es) 0=none:=by simp[Instr.findNow,Instr.sameNow]
    simp only[Instr.findKey,Sem.run_bind,run_underlying hu,Result.andThen_ok,hn,hr]
  ·cases h
 ·have hs:bQ P t k=true:=by
   cases k with
   | st s=>exact absurd ⟨s,rfl⟩ hst
   | _=>exact h
  obtain⟨d,i,hd,_⟩:=iw (tX hs).1
  obtain⟨r,hr,hf⟩:=NC hs hd ha 0 he
  have hid:(r.map fun p:Nat×Value=>(0+p.1,p.2))=r:=by cases r<;>simp
  rw[hid] at hr
  exact⟨r,by simp[Instr.findKey,run_underlying hd,hr],hf⟩
theorem Ao.get {k v:Ty} {a:k.den} {l:List (k.den×v.den)} {es:List MapEntry} {r:Option (Nat×Value)} (h:Ao a l es r):match r with
 | none=>eH l a=none
 | some (i,u)=>∃ p e,l[i]? =some p/\es[i]? =some e/\u=e.val/\eH l a=some p.2:=by
 cases h with
 | no hn=>
  simp only[eH]
  have:l.find? (fun p=>k.beq a p.1)=none:=by
   rw[List.find?_eq_none];intro p hp;simp[hn p hp]
  rw[this]
 | yes i p e h1 h2 h3 h4=>
  refine⟨p,e,h1,h2,rfl, ?_⟩
  have:l.find? (fun p=>k.beq a p.1)=some p:=by
   rw[List.find?_eq_some_iff_getElem]
   obtain⟨hlt,hp⟩:=aej.1 h1
   exact⟨h3,i,hlt,hp,fun j hj=>by simp[h4 j l[j] hj (aeh (by omega))]⟩
  simp[eH,this]
theorem Ao.set {k v:Ty} {a:k.den} (y:v.den) {l:List (k.den×v.den)} {es:List MapEntry} {r:Option (Nat×Value)} (h:Ao a l es r):match r with
 | none=>lq l a y=l++[(a,y)]
 | some (i,_)=>lq l a y=l.set i (a,y):=by
 cases h with
 | no hn=>
  simp only
  clear es
  induction l with
  | nil=>rfl
  | cons p l ih=>
   simp only[lq,hn p (by simp),af1,adV]
   rw[ih fun q hq=>hn q (by simp[hq])]
 | yes i p e h1 h2 h3 h4=>
  simp only
  clear h2
  induction l generalizing i with
  | nil=>simp at h1
  | cons q l ih=>
   cases i with
   | zero=>
    simp only[aef,Option.some.injEq] at h1
    subst h1
    simp[lq,h3]
   | succ i=>
    have hq:=h4 0 q (by omega) rfl
    simp only[lq,hq,af1,List.set_cons_succ]
    rw[ih i (by simpa using h1) (fun j q' hj hq'=>h4 (j+1) q' (by omega) (by simpa using hq'))]
theorem Cv {b:Bool} {t:TypeId} {k:Ty} (h:bQ P t k=true) {u:Value} (n:Nat):(Instr.checkKey b (n+1) t u).run P w= .ok () w:=by
 cases k with
 | int kk=>
  simp only[bQ] at h
  split at h
  ·rename_i hu;simp[Instr.checkKey,run_underlying hu]
  ·cases h
 | bool=>
  simp only[bQ] at h
  split at h
  ·rename_i hu;simp[Instr.checkKey,run_underlying hu]
  ·cases h
 | str=>
  simp only[bQ] at h
  split at h
  ·rename_i hu;simp[Instr.checkKey,run_underlying hu]
  ·cases h
 | _=>simp[bQ] at h
def MV (b:Bool) (n:Nat) (us:List Value) (f:Field) (_:PUnit):Sem (ForInStep PUnit):=
 if f.name≠ "_" then do
  let x <- part f.type us.toArray f.offset
  Instr.checkKey b (n+1) f.type x
  pure (ForInStep.yield PUnit.unit)
 else pure (ForInStep.yield PUnit.unit)
theorem Ym {b:Bool} {n m:Nat} {us pre c1 rest:List Value} {f:Field} {t1:Ty} {x1:t1.den} (q1:f.name≠ "_") (q2:f.offset=m) (q4:bQ P f.type t1=true) (q5:aB G t1 x1 c1) (hpre:pre.length=m) (q6:us=pre++(c1++rest)): (MV b n us f PUnit.unit).run P w= .ok (.yield PUnit.unit) w:=by
 obtain⟨k1,k2,k3⟩:=tX q4
 obtain⟨d,i,hd,_⟩:=iw k1
 have hl1:c1.length=1:=by rw[q5.len,k3]
 obtain⟨u,rfl⟩:∃ u,c1=[u]:=by
  match c1,hl1 with
  | [u],_=>exact⟨u,rfl⟩
 have hget:us[m]? =some u:=by rw[q6,aed (by omega),hpre];simp
 have hp:(part f.type us.toArray f.offset).run P w= .ok u w:=by
  simp[part,oM hd,k2,q2,hget]
 simp only[MV,age q1,Sem.run_bind,hp,Result.andThen_ok,Cv q4 n,Sem.run_pure]
theorem Yl {b:Bool} {n:Nat} {us:List Value}:∀ (l:List Field) (m:Nat) (t:Ty) (x:t.den) (pre c:List Value),cB P l m t=true->us=pre++c->pre.length=m->aB G t x c-> (forIn l PUnit.unit (MV b n us)).run P w= .ok PUnit.unit w
 | [],m,t,x,pre,c,h,_,_,_=>by simp[cB] at h
 | [f],m,t,x,pre,c,h,hus,hpre,hc=>by
  simp only[cB,adf,af7] at h
  have:=Ym (P:=P) (w:=w) (b:=b) (n:=n) (rest:=[]) h.1.1.1 (afp h.1.1.2) h.2 hc hpre (by simpa using hus)
  rw[List.forIn_cons,Sem.run_bind,this]
  rfl
 | f::g::r,m,t,x,pre,c,h,hus,hpre,hc=>by
  cases t with
  | pair s t=>
   simp only[cB,adf,af7] at h
   obtain⟨c1,r1,e1,p1,q1⟩:=hc
   obtain⟨⟨⟨⟨f1,f2⟩,f3⟩,f4⟩,f5⟩:=h
   have o1:=Ym (P:=P) (w:=w) (b:=b) (n:=n) (us:=us) (rest:=r1) f1 (afp f2) f4 p1 hpre (by rw[hus,e1])
   have hl1:c1.length=1:=by rw[p1.len,(tX f4).2.2]
   have o2:=Yl (b:=b) (n:=n) (us:=us) (g::r) (m+1) t x.2 (pre++c1) r1 f5 (by rw[hus,e1];simp) (by simp;omega) q1
   rw[List.forIn_cons,Sem.run_bind,o1]
   exact o2
  | _=>simp[cB] at h
theorem SP {t:TypeId} {k:Ty} (h:fy P t k=true) {a:k.den} {v:Value} (hv:bX G k a v) (b:Bool) (n:Nat):(Instr.checkKey b (n+1+1) t v).run P w= .ok () w:=by
 cases k with
 | st s=>
  simp only[fy] at h
  split at h
  ·rename_i fs hu
   simp only[adf] at h
   obtain⟨us,e1,h1⟩:=hv
   subst e1
   have:=Yl (P:=P) (w:=w) (b:=b) (n:=n) (us:=us) fs.toList 0 s a [] us h.2 rfl rfl h1
   rw[Array.forIn_toList] at this
   rw[Instr.checkKey]
   simp only[Sem.run_bind,run_underlying hu,Result.andThen_ok]
   have e2:∀ (X:Sem PUnit),X=forIn fs PUnit.unit (MV b n us)->(X.run P w).andThen (fun _ w'=>Sem.run P (pure ()) w')= .ok () w:=by
    intro X hX;rw[hX,this];rfl
   exact e2 _ rfl
  ·cases h
 | _=>exact Cv (zi h (by intro s e;cases e)) (n+1)
theorem kR {t:TypeId} {k:Ty} (h:fy P t k=true) {a:k.den} {v:Value} (hv:bX G k a v) (b:Bool):(Instr.checkKey b 10000 t v).run P w= .ok () w:=
 SP h hv b 9998
end Go.Dn
