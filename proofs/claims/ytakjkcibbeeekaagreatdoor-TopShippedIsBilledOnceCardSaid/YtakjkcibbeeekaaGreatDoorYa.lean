/-
  An executor of Go code on plain data, proved sound against the model, a part. No condition.
-/
import Derived.Laws.AppendOwn
import Derived.Orders
import Derived.Below
import Derived.KernelRfl
import Derived.StillTail
import Derived.Laws.Cells
import Derived.Laws.Strings
import Derived.Great.BuildSlice
import Derived.Laws.StructEq
set_option linter.all false
namespace Go.Dn
abbrev ag0:= @BitVec.toNat_ofNat
abbrev ag1:= @Bool.and_eq_true
abbrev ag2:= @Bool.and_false
abbrev ag3:= @Bool.and_true
abbrev ag4:= @Bool.decide_and
abbrev ag5:= @Bool.eq_iff_iff
abbrev ag6:= @Bool.false_eq_true
abbrev ag7:= @Bool.false_ne_true
abbrev ag8:= @Bool.false_or
abbrev ag9:= @Bool.not_eq_false'
abbrev agO:= @Array.getD_eq_getD_getElem?
abbrev agP:= @Array.getElem?_eq_getElem
abbrev agQ:= @Array.getElem?_eq_none
abbrev agR:= @Array.getElem?_eq_some_iff
abbrev agS:= @Array.getElem?_replicate
abbrev agT:= @Array.getElem?_setIfInBounds_ne
abbrev agU:= @Array.getElem?_setIfInBounds_self_of_lt
abbrev agV:= @Array.getElem?_toList
abbrev agW:= @Array.length_toList
abbrev agX:= @Array.mem_toList_iff
abbrev agY:= @Array.toArray_toList
abbrev agZ:= @BitVec.ofInt_natCast
abbrev ah0:= @List.flatMap_cons
abbrev ah1:= @List.getD_eq_getElem?_getD
abbrev ah2:= @List.getElem?_append
abbrev ah3:= @List.getElem?_append_left
abbrev ah4:= @List.getElem?_append_right
abbrev ah5:= @List.getElem?_cons_succ
abbrev ah6:= @List.getElem?_cons_zero
abbrev ah7:= @List.getElem?_drop
abbrev ah8:= @List.getElem?_eq_getElem
abbrev ah9:= @List.getElem?_eq_none
abbrev ahA:= @Int.tdiv_eq_ediv_of_nonneg
abbrev ahB:= @Int.tmod_eq_emod_of_nonneg
abbrev ahC:= @Int.toNat_natCast
abbrev ahD:= @Int.zero_mul
abbrev ahE:= @List.Perm.eq_of_pairwise
abbrev ahF:= @List.all_append
abbrev ahG:= @List.all_cons
abbrev ahH:= @List.all_eq_true
abbrev ahI:= @List.all_nil
abbrev ahJ:= @List.any_eq_false
abbrev ahK:= @List.any_eq_true
abbrev ahL:= @List.append_assoc
abbrev ahM:= @List.append_nil
abbrev ahN:= @List.cons_append
abbrev ahO:= @List.countP_eq_zero
abbrev ahP:= @List.countP_pos_iff
abbrev ahQ:= @List.drop_drop
abbrev ahR:= @List.drop_eq_getElem_cons
abbrev ahS:= @List.drop_left
abbrev ahT:= @List.drop_zero
abbrev ahU:= @List.eq_nil_iff_forall_not_mem
abbrev ahV:= @List.eq_nil_of_length_eq_zero
abbrev ahW:= @List.ext_getElem?
abbrev ahX:= @List.find?_cons
abbrev ahY:= @List.find?_eq_none
abbrev ahZ:= @List.findIdx?_cons
abbrev aha:= @Bool.not_eq_true
abbrev ahb:= @Bool.not_eq_true'
abbrev ahc:= @Bool.not_false
abbrev ahd:= @Bool.not_true
abbrev ahe:= @Bool.or_eq_false_iff
abbrev ahf:= @Bool.or_eq_true
abbrev ahg:= @Bool.or_false
abbrev ahh:= @Bool.true_and
abbrev ahi:= @Bool.true_eq_false
abbrev ahj:= @Classical.not_not
abbrev ahk:= @Decidable.of_not_not
abbrev ahl:= @Int.fdiv_eq_ediv_of_nonneg
abbrev ahm:= @Int.le_refl
abbrev ahn:= @Int.mul_add
abbrev aho:= @Int.mul_assoc
abbrev ahp:= @Int.mul_le_mul_of_nonneg_left
abbrev ahq:= @Int.mul_neg_of_neg_of_pos
abbrev ahr:= @Int.mul_nonneg
abbrev ahs:= @Int.natAbs_natCast
abbrev aht:= @Int.natCast_nonneg
abbrev ahu:= @Int.ofNat_le
abbrev ahv:= @Int.pow_add
abbrev ahw:= @Int.pow_pos
abbrev ahx:= @Int.pow_succ
abbrev ahy:= @Int.sign_eq_neg_one_of_neg
abbrev ahz:= @Int.sign_eq_one_of_pos
abbrev ai0:= @List.take_succ
abbrev ai1:= @List.take_succ_cons
abbrev ai2:= @List.take_take
abbrev ai3:= @Nat.add_assoc
abbrev ai4:= @Nat.add_mul
abbrev ai5:= @Nat.add_zero
abbrev ai6:= @Nat.div_eq_of_lt
abbrev ai7:= @Nat.div_lt_self
abbrev ai8:= @Nat.eq_of_beq_eq_true
abbrev ai9:= @Nat.eq_zero_or_pos
abbrev aiA:= @List.mem_cons_of_mem
abbrev aiB:= @List.mem_cons_self
abbrev aiC:= @List.mem_filterMap
abbrev aiD:= @List.mem_iff_getElem?
abbrev aiE:= @List.mem_map
abbrev aiF:= @List.mem_of_getElem?
abbrev aiG:= @List.mem_of_mem_take
abbrev aiH:= @List.mem_or_eq_of_mem_set
abbrev aiI:= @List.mem_range
abbrev aiJ:= @List.mem_singleton
abbrev aiK:= @List.mergeSort_perm
abbrev aiL:= @List.nil_append
abbrev aiM:= @List.nodup_cons
abbrev aiN:= @List.pairwise_iff_getElem
abbrev aiO:= @List.pairwise_map
abbrev aiP:= @List.pairwise_mergeSort
abbrev aiQ:= @List.replicate_succ
abbrev aiR:= @List.set_cons_succ
abbrev aiS:= @List.set_set
abbrev aiT:= @List.size_toArray
abbrev aiU:= @List.tail_drop
abbrev aiV:= @List.take_add_one
abbrev aiW:= @List.take_append_drop
abbrev aiX:= @List.take_left
abbrev aiY:= @List.take_length
abbrev aiZ:= @List.take_of_length_le
abbrev aia:= @List.getElem?_eq_some_iff
abbrev aib:= @List.getElem?_map
abbrev aic:= @List.getElem?_range
abbrev aid:= @List.getElem?_replicate
abbrev aie:= @List.getElem?_set
abbrev aif:= @List.getElem?_set_ne
abbrev aih:= @List.getElem?_set_self
abbrev aii:= @List.getElem?_take
abbrev aij:= @List.getElem?_take_of_lt
abbrev aik:= @List.getElem?_toArray
abbrev ail:= @List.getElem_mem
abbrev aim:= @List.length_append
abbrev ain:= @List.length_cons
abbrev aio:= @List.length_map
abbrev aip:= @List.length_nil
abbrev aiq:= @List.length_set
abbrev air:= @List.length_singleton
abbrev ais:= @List.length_take
abbrev ait:= @List.map_append
abbrev aiu:= @List.map_congr_left
abbrev aiv:= @List.map_cons
abbrev aiw:= @List.map_map
abbrev aix:= @List.map_nil
abbrev aiy:= @List.mem_append
abbrev aiz:= @List.mem_cons
abbrev aj0:= @if_true
abbrev aj1:= @not_and
abbrev aj2:= @not_exists
abbrev aj3:= @not_false_eq_true
abbrev aj4:= @not_or
abbrev aj5:= @of_decide_eq_true
abbrev ajA:= @Option.bind_some
abbrev ajB:= @Option.getD_some
abbrev ajC:= @Option.isNone_iff_eq_none
abbrev ajD:= @Option.isNone_some
abbrev ajE:= @Option.isSome_iff_exists
abbrev ajF:= @Option.map_map
abbrev ajG:= @Option.map_some
abbrev ajH:= @UInt8.not_lt
abbrev ajI:= @and_self
abbrev ajJ:= @and_true
abbrev ajK:= @beq_eq_false_iff_ne
abbrev ajL:= @beq_iff_eq
abbrev ajM:= @bne_self_eq_false
abbrev ajN:= @cond_false
abbrev ajO:= @cond_true
abbrev ajP:= @decide_eq_decide
abbrev ajQ:= @decide_eq_false
abbrev ajR:= @decide_eq_true
abbrev ajS:= @decide_eq_true_eq
abbrev ajT:= @decide_false
abbrev ajU:= @decide_true
abbrev ajV:= @false_and
abbrev ajW:= @false_or
abbrev ajX:= @if_false
abbrev ajY:= @if_neg
abbrev ajZ:= @if_pos
abbrev aja:= @Nat.le_of_ble_eq_true
abbrev ajb:= @Nat.le_of_lt
abbrev ajc:= @Nat.le_refl
abbrev ajd:= @Nat.le_trans
abbrev aje:= @Nat.lt_add_left
abbrev ajf:= @Nat.lt_add_of_pos_right
abbrev ajg:= @Nat.lt_of_le_of_lt
abbrev ajh:= @Nat.lt_of_lt_of_le
abbrev aji:= @Nat.lt_or_eq_of_le
abbrev ajj:= @Nat.lt_or_ge
abbrev ajk:= @Nat.lt_succ_iff_lt_or_eq
abbrev ajl:= @Nat.lt_succ_self
abbrev ajm:= @Nat.lt_trichotomy
abbrev ajn:= @Nat.min_eq_left
abbrev ajo:= @Nat.mod_eq_of_lt
abbrev ajp:= @Nat.mul_assoc
abbrev ajq:= @Nat.mul_comm
abbrev ajr:= @Nat.mul_le_mul_right
abbrev ajs:= @Nat.not_lt_zero
abbrev ajt:= @Nat.one_mul
abbrev aju:= @Nat.pow_add
abbrev ajv:= @Nat.pow_le_pow_right
abbrev ajw:= @Nat.pow_succ
abbrev ajx:= @Nat.zero_add
abbrev ajy:= @Nat.zero_le
abbrev ajz:= @Nat.zero_lt_two
inductive Ty where
 | int (k:IntKind)
 | bool
 | str
 | unit
 | pair (a b:Ty)
 | st (t:Ty)
 | slice (t:Ty)
 | ptr (t:Ty)
 | clo (g:Nat) (t:Ty)
 | hnd
 deriving DecidableEq
def Ty.den:Ty->Type
 | .int _=>Int
 | .bool=>Bool
 | .str=>List UInt8
 | .unit=>Unit
 | .pair a b=>a.den×b.den
 | .st t=>t.den
 | .slice t=>List t.den
 | .ptr t=>t.den
 | .clo _ t=>t.den
 | .hnd=>Option Nat
def Ty.size:Ty->Nat
 | .unit=>0
 | .pair a b=>a.size+b.size
 | .st t=>t.size
 | _=>1
def Ty.flat:Ty->Bool
 | .pair a b=>a.flat&&b.flat
 | .st t=>t.flat
 | .slice _ | .ptr _ | .clo _ _=>false
 | _=>true
def Ty.bu:Ty->Bool
 | .pair a b=>a.bu&&b.bu
 | .st t=>t.bu
 | .slice t=>t.bu
 | .ptr t=>t.bu
 | .clo _ t=>t.bu
 | .hnd=>false
 | _=>true
structure Gh where
 blk:Nat->Option Obj
 hnd:Nat->Option Nat
instance:CoeFun Gh fun _=>Nat->Option Obj:=⟨Gh.blk⟩
structure Gh.le (G G':Gh):Prop where
 blk:∀ b o,G b=some o->G' b=some o
 hnd:∀ h b,G.hnd h=some b->G'.hnd h=some b
instance {G G':Gh}:CoeFun (G.le G') fun _=>∀ b o,G b=some o->G' b=some o:=⟨Gh.le.blk⟩
theorem Gh.le_refl (G:Gh):G.le G:=⟨fun _ _ h=>h,fun _ _ h=>h⟩
theorem Gh.le_trans {A B C:Gh} (h:A.le B) (k:B.le C):A.le C:=⟨fun b o x=>k b o (h b o x),fun b o x=>k.hnd b o (h.hnd b o x)⟩
def bs (l:List UInt8):ByteArray:=⟨l.toArray⟩
def Agr (G:Gh) (w:World):Prop:=∀ b o,G b=some o->w.heap[b]? =some o
def cM {α:Type} (R:α->List Value->Prop):List α->List Value->Prop
 | [],cs=>cs=[]
 | x::l,cs=>∃ c r,cs=c++r/\R x c/\cM R l r
def iH {α:Type} (G:Gh) (sz:Nat) (R:α->List Value->Prop) (l:List α) (v:Value):Prop:=
 ∃ a cap,v= .slice a l.length cap/\l.length<=cap/\cap<=maxLen/\
  (l=[]\/∃ b off c T fz,a=some ⟨b,off,none⟩/\G b=some (.cells c T fz)/\off+l.length*sz<=c.size/\
    cM R l ((c.toList.drop off).take (l.length*sz)))
def aN (G:Gh):(t:Ty)->t.den->List Value->Prop
 | .int k,n,cs=>cs=[.int k n]
 | .bool,b,cs=>cs=[.bool b]
 | .str,s,cs=>cs=[.string (bs s)]
 | .unit,_,cs=>cs=[]
 | .pair a b,(x,y),cs=>∃ c r,cs=c++r/\aN G a x c/\aN G b y r
 | .st t,x,cs=>aN G t x cs
 | .slice t,l,cs=>∃ v,cs=[v]/\iH G t.size (aN G t) l v
 | .ptr t,x,cs=>∃ b off c T fz,cs=[.pointer (some ⟨b,off,none⟩)]/\G b=some (.cells c T fz)/\off+t.size<=c.size/\
  aN G t x ((c.toList.drop off).take t.size)
 | .clo g t,x,cs=>∃ caps:List Value,cs=[.func (.func g) #[] caps.toArray]/\aN G t x caps
 | .hnd,none,cs=>cs=[.pointer none]
 | .hnd,some h,cs=>∃ b,G.hnd h=some b/\cs=[.pointer (some ⟨b,0,none⟩)]
theorem cM.mono {α:Type} {R R':α->List Value->Prop} (h:∀ x cs,R x cs->R' x cs):∀ {l:List α} {cs:List Value},cM R l cs->cM R' l cs
 | [],_,hh=>hh
 | _::_,_,⟨c,r,e,hx,hl⟩=>⟨c,r,e,h _ _ hx,cM.mono h hl⟩
theorem aN.mono {G G':Gh} (hG:G.le G'):∀ (t:Ty) (x:t.den) (cs:List Value),aN G t x cs->aN G' t x cs
 | .int _,_,_,h=>h
 | .bool,_,_,h=>h
 | .str,_,_,h=>h
 | .unit,_,_,h=>h
 | .pair a b,(x,y),_,⟨c,r,e,hx,hy⟩=>⟨c,r,e,aN.mono hG a x c hx,aN.mono hG b y r hy⟩
 | .st t,x,cs,h=>aN.mono hG t x cs h
 | .slice t,_,_,⟨v,e,a,cap,hv,h1,h2,h3⟩=>⟨v,e,a,cap,hv,h1,h2,h3.imp id fun ⟨b,off,c,T,fz,ha,hb,hs,hl⟩=>
  ⟨b,off,c,T,fz,ha,hG _ _ hb,hs,hl.mono (aN.mono hG t)⟩⟩
 | .ptr t,x,_,⟨b,off,c,T,fz,e,hb,hs,hl⟩=>⟨b,off,c,T,fz,e,hG _ _ hb,hs,aN.mono hG t x _ hl⟩
 | .clo _ t,x,_,⟨caps,e,h⟩=>⟨caps,e,aN.mono hG t x _ h⟩
 | .hnd,none,_,h=>h
 | .hnd,some _,_,⟨b,hb,e⟩=>⟨b,hG.hnd _ _ hb,e⟩
theorem iH.mono {G G':Gh} (hG:G.le G') {t:Ty} {l:List t.den} {v:Value} (h:iH G t.size (aN G t) l v):iH G' t.size (aN G' t) l v:=by
 obtain⟨a,cap,hv,h1,h2,h3⟩:=h
 exact⟨a,cap,hv,h1,h2,h3.imp id fun ⟨b,off,c,T,fz,ha,hb,hs,hl⟩=>⟨b,off,c,T,fz,ha,hG _ _ hb,hs,hl.mono (aN.mono hG t)⟩⟩
theorem aN.len {G:Gh}:∀ {t:Ty} {x:t.den} {cs:List Value},aN G t x cs->cs.length=t.size
 | .int _,_,_,h=>by cases h;rfl
 | .bool,_,_,h=>by cases h;rfl
 | .str,_,_,h=>by cases h;rfl
 | .unit,_,_,h=>by cases h;rfl
 | .pair a b,(x,y),_,⟨c,r,e,hx,hy⟩=>by
  subst e;rw[aim,hx.len,hy.len];rfl
 | .st t,x,cs,h=>aN.len (t:=t) (x:=x) h
 | .slice t,_,_,⟨v,e,_⟩=>by subst e;rfl
 | .ptr t,x,_,⟨b,off,c,T,fz,e,_⟩=>by subst e;rfl
 | .clo _ t,x,_,⟨caps,e,h⟩=>by subst e;rfl
 | .hnd,none,_,h=>by cases h;rfl
 | .hnd,some _,_,⟨b,hb,e⟩=>by subst e;rfl
theorem cM.len {α:Type} {R:α->List Value->Prop} {n:Nat} (h:∀ x cs,R x cs->cs.length=n):∀ {l:List α} {cs:List Value},cM R l cs->cs.length=l.length*n
 | [],_,hh=>by cases hh;simp
 | _::l,_,⟨c,r,e,hx,hl⟩=>by
  subst e
  rw[aim,h _ _ hx,hl.len h,ain,ai4]
  omega
theorem cM.append {α:Type} {R:α->List Value->Prop}:∀ {l l':List α} {cs cs':List Value},cM R l cs->cM R l' cs'->cM R (l++l') (cs++cs')
 | [],_,_,_,hh,h'=>by cases hh;grind
 | x::l,_,_,_,⟨c,r,e,hx,hl⟩,h'=>by
  subst e
  exact⟨c,r++_,by simp,hx,hl.append h'⟩
theorem He {α:Type} (c r:List α) (k:Nat):(c++r).drop (c.length+k)=r.drop k:=by
 simp
theorem O3 {α:Type} (c r:List α) (k:Nat):(c++r).take (c.length+k)=c++r.take k:=by
 rw[List.take_append,aiZ (by omega)];simp
theorem cM.get {α:Type} {R:α->List Value->Prop} {n:Nat} (h:∀ x cs,R x cs->cs.length=n):∀ {l:List α} {cs:List Value},cM R l cs->∀ {i:Nat} {x:α},l[i]? =some x->R x ((cs.drop (i*n)).take n)
 | [],_,_,_,_,hi=>by grind
 | y::l,_,⟨c,r,e,hx,hl⟩,0,x,hi=>by
  grind
 | y::l,_,⟨c,r,e,hx,hl⟩,i+1,x,hi=>by
  subst e
  have hc:=h _ _ hx
  have:=hl.get h (i:=i) (x:=x) (by grind)
  rw[show (i+1)*n=c.length+i*n by grind,He]
  omega
theorem cM.take {α:Type} {R:α->List Value->Prop} {n:Nat} (h:∀ x cs,R x cs->cs.length=n):∀ {l:List α} {cs:List Value},cM R l cs->∀ (i:Nat),cM R (l.take i) (cs.take (i*n))
 | l,cs,hl,0=>by simp[cM]
 | [],_,hh,i+1=>by cases hh;simp[cM]
 | y::l,_,⟨c,r,e,hx,hl⟩,i+1=>by
  subst e
  have hc:=h _ _ hx
  refine⟨c,r.take (i*n), ?_,hx,hl.take h i⟩
  rw[show (i+1)*n=c.length+i*n by grind,O3]
theorem cM.drop {α:Type} {R:α->List Value->Prop} {n:Nat} (h:∀ x cs,R x cs->cs.length=n):∀ {l:List α} {cs:List Value},cM R l cs->∀ (i:Nat),cM R (l.drop i) (cs.drop (i*n))
 | l,cs,hl,0=>by grind
 | [],_,hh,i+1=>by cases hh;simp[cM]
 | y::l,_,⟨c,r,e,hx,hl⟩,i+1=>by
  subst e
  have hc:=h _ _ hx
  rw[show (i+1)*n=c.length+i*n by grind,He]
  exact hl.drop h i
theorem cM.set {α:Type} {R:α->List Value->Prop} {n:Nat} (h:∀ x cs,R x cs->cs.length=n) {y:α} {d:List Value} (hy:R y d):∀ {l:List α} {cs:List Value},cM R l cs->∀ {i:Nat},i<l.length-> cM R (l.set i y) (cs.take (i*n)++d++cs.drop (i*n+n))
 | [],_,_,_,hi=>by grind
 | x::l,_,⟨c,r,e,hx,hl⟩,0,_=>by
  subst e
  have hc:=h _ _ hx
  exact⟨d,r,by grind,hy,hl⟩
 | x::l,_,⟨c,r,e,hx,hl⟩,i+1,hi=>by
  subst e
  have hc:=h _ _ hx
  refine⟨c,r.take (i*n)++d++r.drop (i*n+n), ?_,hx,hl.set h hy (by grind)⟩
  rw[show (i+1)*n=c.length+i*n by grind,ai3,O3,He]
  simp
theorem aN.bu {G G':Gh} (hG:∀ b o,G b=some o->G' b=some o):∀ (t:Ty) (x:t.den) (cs:List Value),t.bu=true->aN G t x cs->aN G' t x cs
 | .int _,_,_,_,h=>h
 | .bool,_,_,_,h=>h
 | .str,_,_,_,h=>h
 | .unit,_,_,_,h=>h
 | .pair a b,(x,y),_,hn,⟨c,r,e,hx,hy⟩=>by
  simp only[Ty.bu,ag1] at hn
  exact⟨c,r,e,aN.bu hG a x c hn.1 hx,aN.bu hG b y r hn.2 hy⟩
 | .st t,x,cs,hn,h=>aN.bu hG t x cs hn h
 | .slice t,_,_,hn,⟨v,e,a,cap,hv,h1,h2,h3⟩=>⟨v,e,a,cap,hv,h1,h2,h3.imp id fun ⟨b,off,c,T,fz,ha,hb,hs,hl⟩=>
  ⟨b,off,c,T,fz,ha,hG _ _ hb,hs,hl.mono fun x cs=>aN.bu hG t x cs hn⟩⟩
 | .ptr t,x,_,hn,⟨b,off,c,T,fz,e,hb,hs,hl⟩=>⟨b,off,c,T,fz,e,hG _ _ hb,hs,aN.bu hG t x _ hn hl⟩
 | .clo _ t,x,_,hn,⟨caps,e,h⟩=>⟨caps,e,aN.bu hG t x _ hn h⟩
 | .hnd,_,_,hn,_=>by cases hn
def cF (G:Gh) (t:Ty) (x:t.den) (v:Value):Prop:=
 match t,x with
 | .st t,x=>∃ vs:List Value,v= .agg vs.toArray/\aN G t x vs
 | t,x=>aN G t x [v]
theorem cF.mono {G G':Gh} (hG:G.le G') {t:Ty} {x:t.den} {v:Value} (h:cF G t x v):cF G' t x v:=by
 cases t with
 | st t=>obtain⟨vs,e,hv⟩:=h;exact⟨vs,e,aN.mono hG _ _ _ hv⟩
 | _=>exact aN.mono hG _ _ _ h
end Go.Dn
namespace Go.Dn
inductive CV where
 | int (k:IntKind) (n:Int)
 | bool (b:Bool)
 | str (s:List UInt8)
 | sl (t:Ty) (l:List t.den)
 | cp (t:Ty) (x:t.den) (off:Nat)
 | clo (g:Nat) (t:Ty) (x:t.den)
 | ref (k off:Nat)
 | row (j:Nat)
 | rp (j sz i off:Nat)
 | fn (g:Nat) (ks:List Nat)
 | nilp
 | nils
 | any
 | mp (j:Nat)
 | hnd (o:Option Nat) (off:Nat)
 | stp (j i:Nat)
 | kseq (g j:Nat)
 | nb (b:Bool)
 | opq (v:Value)
inductive SV where
 | v (agg:Bool) (cs:List CV)
 | tup (l:List (Bool×List CV))
structure rY where
 fz:Bool
 e:TypeId
 t:Ty
 l:List t.den
inductive vS where
 | map (k v:Ty) (l:List (k.den×v.den))
 | ar (fz:Bool) (t:Ty) (l:List t.den)
structure St where
 tmps:List SV
 boxes:List (Nat×List CV)
 rows:List (Nat×rY)
 objs:List (Nat×vS)
def look {α:Type}:List (Nat×α)->Nat->Option α
 | [],_=>none
 | (j,x)::r,k=>bif Nat.beq j k then some x else look r k
inductive bE where
 | inl (k:Nat)
 | inr (j:Nat)
 | ob (j:Nat)
 deriving DecidableEq
structure Env where
 bx:Nat->Nat
 rw:Nat->Value
 own:Nat->Option bE
 ob:Nat->Value
 st:Nat->Nat->Int
def aR {α β:Type} (R:α->β->Prop):List α->List β->Prop
 | [],l=>l=[]
 | x::r,l=>∃ y s,l=y::s/\R x y/\aR R r s
def br (G:Gh) (ρ:Env):CV->Value->Prop
 | .int k n,v=>v= .int k n
 | .bool b,v=>v= .bool b
 | .str s,v=>v= .string (bs s)
 | .sl t l,v=>iH G t.size (aN G t) l v
 | .cp t x o,v=>∃ b off c T fz,v= .pointer (some ⟨b,off+o,none⟩)/\G b=some (.cells c T fz)/\off+t.size<=c.size/\
  aN G t x ((c.toList.drop off).take t.size)
 | .clo g t x,v=>∃ caps:List Value,v= .func (.func g) #[] caps.toArray/\aN G t x caps
 | .ref k o,v=>v= .pointer (some ⟨ρ.bx k,o,none⟩)
 | .row j,v=>v=ρ.rw j/\∃ a n c,v= .slice a n c
 | .rp j sz i o,v=>∃ b len cap,ρ.rw j= .slice (some ⟨b,0,none⟩) len cap/\v= .pointer (some ⟨b,i*sz+o,none⟩)
 | .fn g ks,v=>v= .func (.func g) #[] (ks.map fun k=>Value.pointer (some ⟨ρ.bx k,0,none⟩)).toArray
 | .nilp,v=>v= .pointer none
 | .nils,v=>v= .slice none 0 0
 | .any,_=>True
 | .mp j,v=>v=ρ.ob j/\∃ b,v= .map (some b)
 | .hnd none o,v=>v= .pointer none/\o=0
 | .hnd (some h) o,v=>∃ b,G.hnd h=some b/\v= .pointer (some ⟨b,o,none⟩)
 | .stp j i,v=>v= .int .i64 (ρ.st j i)
 | .kseq g j,v=>∃ b T fz,v= .func (.func g) #[] #[.pointer (some ⟨b,0,none⟩)]/\G b=some (.cells #[ρ.ob j] T fz)
 | .nb b,v=>∃ c,v= .bool c/\(b=false->c=false)
 | .opq u,v=>v=u
def oz (G:Gh) (ρ:Env):Bool->List CV->Value->Prop
 | true,cs,v=>∃ vs:List Value,v= .agg vs.toArray/\aR (br G ρ) cs vs
 | false,[c],v=>br G ρ c v
 | false,_,_=>False
def bK (G:Gh) (ρ:Env):SV->Value->Prop
 | .v a cs,v=>oz G ρ a cs v
 | .tup l,v=>∃ vs:List Value,v= .tuple vs.toArray/\aR (fun p=>oz G ρ p.1 p.2) l vs
def HH:List Int:=(List.range 20).map fun i=>((10 ^ i:Nat):Int)
structure vT (P:Program) (G:Gh):Prop where
 pow:∀ g,P.globalNamed "internal/strconv.uint64pow10" =some g->∃ T fz,G g=some (.cells (HH.map fun z=>Value.int .u64 z).toArray T fz)
 maxLen:∀ g,P.globalNamed "internal/bytealg.MaxLen" =some g->∃ n T fz,G g=some (.cells #[Value.int .i64 n] T fz)
theorem vT.mono {P:Program} {G G':Gh} (h:vT P G) (hG:G.le G'):vT P G':=
 ⟨fun g hg=>let ⟨T,fz,e⟩:=h.pow g hg;⟨T,fz,hG.blk _ _ e⟩,fun g hg=>let ⟨n,T,fz,e⟩:=h.maxLen g hg;⟨n,T,fz,hG.blk _ _ e⟩⟩
structure Fr (P:Program) where
 n0:Nat
 pin:Nat->Nat
 pinR:Nat->Value
 B:Nat->Prop
 w0:World
 G0:Gh
 noAr:Prop
 tab:vT P G0
def dI (G:Gh) (ρ:Env) (w:World) (j:Nat) (r:rY):Prop:=
 if r.fz then iH G r.t.size (aN G r.t) r.l (ρ.rw j)
 else ∃ xs,w.ownsRow 0 r.e r.t.size (ρ.rw j) r.l.length xs/\cM (aN G r.t) r.l xs/\∀ b,(ρ.rw j).ownBlock=some b->ρ.own b=some (.inr j)
def AA (G:Gh) (k v:Ty) (p:k.den×v.den) (e:MapEntry):Prop:=cF G k p.1 e.key/\cF G v p.2 e.val
def Az (G:Gh) (w:World) (own:Nat->Prop) (fz:Bool) (t:Ty) (l:List t.den):Prop:=
 (∀ h b,G.hnd h=some b->h<l.length)/\(∀ h h' b,G.hnd h=some b->G.hnd h'=some b->h=h')/\
   ∀ h x,l[h]? =some x->∃ b vs T,G.hnd h=some b/\(fz=true->G b=some (.cells (List.toArray vs) T (0,0)))/\(fz=false->own b)/\w.heap[b]? =some (.cells (List.toArray vs) T (0,0))/\aN G t x vs
def bQ:Nat:=9999
def sE (G:Gh) (ρ:Env) (w:World) (j:Nat):vS->Prop
 | .map k v l=>∃ b es clock,ρ.ob j= .map (some b)/\ρ.own b=some (.ob j)/\w.heap[b]? =some (.map es clock)/\aR (AA G k v) l es.toList/\
  (∀ (i:Nat) (e:MapEntry),es.toList[i]? =some e->(e.born:Int)=ρ.st j i/\e.born<clock)/\es.toList.Pairwise (fun a b=>a.born<b.born)
 | .ar fz t l=>j=bQ/\Az G w (fun b=>ρ.own b=some (.ob j)) fz t l
structure Mem {P0:Program} (C:Fr P0) (G:Gh) (ρ:Env) (S:St) (w:World):Prop where
 agr:Agr G w
 le0:C.G0.le G
 old:∀ b,b<C.n0->¬ C.B b->G b=C.G0 b
 frame:∀ b,b<C.n0->¬ C.B b->w.heap[b]? =C.w0.heap[b]?
 size:C.n0<=w.heap.size
 os:w.os=C.w0.os
 output:w.output=C.w0.output
 pin:∀ k,2000<=k->ρ.bx k=C.pin k
 pinR:∀ k,10000000<=k->ρ.rw k=C.pinR k/\ρ.ob k=C.pinR k
 owned:∀ b o,ρ.own b=some o->G b=none/\b<w.heap.size/\(C.n0<=b\/C.B b)
 boxes:∀ k cs,look S.boxes k=some cs->ρ.own (ρ.bx k)=some (.inl k)/\
  ∃ vs T,w.heap[ρ.bx k]? =some (.cells (List.toArray vs) T (0,0))/\aR (br G ρ) cs vs
 rows:∀ j r,look S.rows j=some r->dI G ρ w j r
 objs:∀ j r,look S.objs j=some r->sE G ρ w j r
 hndI:C.noAr->G.hnd=C.G0.hnd/\∀ t l,look S.objs bQ≠some (.ar false t l)
def jO (G:Gh) (ρ:Env) (S:St) (a:Act):Prop:=
 a.tmps.size=S.tmps.length/\∀ (i:Nat) (s:SV),S.tmps[i]? =some s->bK G ρ s (a.tmps.getD i undef)
structure Mod {P0:Program} (C:Fr P0) (G:Gh) (ρ:Env) (S:St) (w:World) (a:Act):Prop extends Mem C G ρ S w where
 tmps:jO G ρ S a
 defers:a.defers=[]
theorem aR.mono {α β:Type} {R R':α->β->Prop} (h:∀ x y,R x y->R' x y):∀ {l:List α} {r:List β},aR R l r->aR R' l r
 | [],_,hh=>hh
 | _::_,_,⟨y,s,e,hx,hl⟩=>⟨y,s,e,h _ _ hx,hl.mono h⟩
theorem aR.BQ {α β:Type} {R R':α->β->Prop}:∀ {l:List α} {r:List β},(∀ x,x∈l->∀ y,R x y->R' x y)->aR R l r->aR R' l r
 | [],_,_,hh=>hh
 | x::l,_,h,⟨y,s,e,hx,hl⟩=>⟨y,s,e,h x (by simp) _ hx,aR.BQ (fun z hz=>h z (by simp[hz])) hl⟩
theorem aR.len {α β:Type} {R:α->β->Prop}:∀ {l:List α} {r:List β},aR R l r->r.length=l.length
 | [],_,hh=>by cases hh;rfl
 | _::_,_,⟨y,s,e,_,hl⟩=>by subst e;simp[hl.len]
theorem aR.get {α β:Type} {R:α->β->Prop}:∀ {l:List α} {r:List β},aR R l r->∀ {i:Nat} {x:α},l[i]? =some x->∃ y,r[i]? =some y/\R x y
 | [],_,_,_,_,hi=>by grind
 | _::_,_,⟨y,s,e,hx,_⟩,0,x,hi=>by grind
 | _::_,_,⟨y,s,e,_,hl⟩,i+1,x,hi=>by
  subst e
  obtain⟨z,hz,hr⟩:=hl.get (i:=i) (x:=x) (by grind)
  grind
theorem aR.append {α β:Type} {R:α->β->Prop}:∀ {l l':List α} {r r':List β},aR R l r->aR R l' r'->aR R (l++l') (r++r')
 | [],_,_,_,hh,h'=>by cases hh;grind
 | _::_,_,_,_,⟨y,s,e,hx,hl⟩,h'=>by subst e;exact⟨y,s++_,by simp,hx,hl.append h'⟩
theorem aR.drop {α β:Type} {R:α->β->Prop}:∀ {l:List α} {r:List β},aR R l r->∀ n,aR R (l.drop n) (r.drop n)
 | _,_,h,0=>by grind
 | [],_,hh,n+1=>by cases hh;simp[aR]
 | _::_,_,⟨y,s,e,_,hl⟩,n+1=>by subst e;simpa using hl.drop n
theorem aR.take {α β:Type} {R:α->β->Prop}:∀ {l:List α} {r:List β},aR R l r->∀ n,aR R (l.take n) (r.take n)
 | _,_,_,0=>by simp[aR]
 | [],_,hh,n+1=>by cases hh;simp[aR]
 | _::_,_,⟨y,s,e,hx,hl⟩,n+1=>by subst e;exact⟨y,s.take n,by simp,hx,hl.take n⟩
theorem aR.set {α β:Type} {R:α->β->Prop} {x:α} {y:β} (hxy:R x y):∀ {l:List α} {r:List β},aR R l r->∀ n,aR R (l.set n x) (r.set n y)
 | [],_,hh,n=>by cases hh;simp[aR]
 | _::_,_,⟨z,s,e,_,hl⟩,0=>by subst e;exact⟨y,s,by simp,hxy,hl⟩
 | _::_,_,⟨z,s,e,hx,hl⟩,n+1=>by subst e;exact⟨z,s.set n y,by simp,hx,hl.set hxy n⟩
theorem aR.single {α β:Type} {R:α->β->Prop} {x:α} {r:List β} (h:aR R [x] r):∃ y,r=[y]/\R x y:=by
 obtain⟨y,s,e,hx,hl⟩:=h;cases hl;grind
def CV.cN (k:Nat):CV->Bool
 | .ref j _=>Nat.beq j k
 | .fn _ ks=>ks.any (Nat.beq · k)
 | _=>false
def CV.bG (k:Nat):CV->Bool
 | .row j=>Nat.beq j k
 | .rp j _ _ _=>Nat.beq j k
 | _=>false
def CV.bV (k:Nat):CV->Bool
 | .mp j=>Nat.beq j k
 | .kseq _ j=>Nat.beq j k
 | _=>false
def CV.bN (k:Nat):CV->Bool
 | .stp j _=>Nat.beq j k
 | _=>false
def SV.cN (k:Nat):SV->Bool
 | .v _ cs=>cs.any (CV.cN k)
 | .tup l=>l.any fun p=>p.2.any (CV.cN k)
def SV.bG (k:Nat):SV->Bool
 | .v _ cs=>cs.any (CV.bG k)
 | .tup l=>l.any fun p=>p.2.any (CV.bG k)
def SV.bV (k:Nat):SV->Bool
 | .v _ cs=>cs.any (CV.bV k)
 | .tup l=>l.any fun p=>p.2.any (CV.bV k)
def St.bV (k:Nat) (S:St):Bool:=S.tmps.any (SV.bV k)||S.boxes.any fun p=>p.2.any (CV.bV k)
def SV.bN (k:Nat):SV->Bool
 | .v _ cs=>cs.any (CV.bN k)
 | .tup l=>l.any fun p=>p.2.any (CV.bN k)
def St.bN (k:Nat) (S:St):Bool:=S.tmps.any (SV.bN k)||S.boxes.any fun p=>p.2.any (CV.bN k)
def St.cN (k:Nat) (S:St):Bool:=S.tmps.any (SV.cN k)||S.boxes.any fun p=>p.2.any (CV.cN k)
def St.bG (k:Nat) (S:St):Bool:=S.tmps.any (SV.bG k)||S.boxes.any fun p=>p.2.any (CV.bG k)
structure CV.gZ (ρ ρ':Env) (c:CV):Prop where
 bx:∀ k,c.cN k=true->ρ'.bx k=ρ.bx k
 rw:∀ k,c.bG k=true->ρ'.rw k=ρ.rw k
 ob:∀ k,c.bV k=true->ρ'.ob k=ρ.ob k
 st:∀ k,c.bN k=true->ρ'.st k=ρ.st k
theorem br.congr {G G':Gh} (hG:G.le G') {ρ ρ':Env}:∀ {c:CV} {v:Value},c.gZ ρ ρ'->br G ρ c v->br G' ρ' c v
 | .int _ _,_,_,h=>h
 | .bool _,_,_,h=>h
 | .str _,_,_,h=>h
 | .sl _ _,_,_,h=>iH.mono hG h
 | .cp t x _,_,_,⟨b,off,c,T,fz,e,hb,hs,hl⟩=>⟨b,off,c,T,fz,e,hG _ _ hb,hs,aN.mono hG t x _ hl⟩
 | .clo _ t x,_,_,⟨caps,e,h⟩=>⟨caps,e,aN.mono hG t x _ h⟩
 | .ref k _,_,s,h=>by
  have:=s.bx k (by simp[CV.cN]);simp only[br] at h ⊢;grind
 | .row j,_,s,h=>by
  have:=s.rw j (by simp[CV.bG]);simp only[br] at h ⊢;grind
 | .rp j _ _ _,_,s,h=>by
  have:=s.rw j (by simp[CV.bG]);simp only[br] at h ⊢;grind
 | .fn g ks,_,s,h=>by
  simp only[br] at h ⊢
  rw[h]
  congr 2
  refine aiu fun k hk=> ?_
  rw[s.bx k (by simp[CV.cN,hk])]
 | .nilp,_,_,h=>h
 | .nils,_,_,h=>h
 | .any,_,_,_=>trivial
 | .nb _,_,_,h=>h
 | .opq _,_,_,h=>h
 | .mp j,_,s,h=>by
  have:=s.ob j (by simp[CV.bV]);simp only[br] at h ⊢;grind
 | .hnd none _,_,_,h=>h
 | .hnd (some _) _,_,_,⟨b,hb,e⟩=>⟨b,hG.hnd _ _ hb,e⟩
 | .stp j i,_,s,h=>by
  have:=s.st j (by simp[CV.bN]);simp only[br] at h ⊢;grind
 | .kseq g j,_,s,h=>by
  have:=s.ob j (by simp[CV.bV]);simp only[br] at h ⊢;rw[this]
  obtain⟨b,T,fz,e,hb⟩:=h
  exact⟨b,T,fz,e,hG _ _ hb⟩
theorem oz.congr {G G':Gh} (hG:G.le G') {ρ ρ':Env} {a:Bool} {cs:List CV} {v:Value} (hs:∀ c,c∈cs->c.gZ ρ ρ') (h:oz G ρ a cs v):oz G' ρ' a cs v:=by
 cases a with
 | true=>obtain⟨vs,e,hl⟩:=h;exact⟨vs,e,aR.BQ (fun c hc y=>br.congr hG (hs c hc)) hl⟩
 | false=>
  match cs,hs,h with
  | [c],hs,h=>exact br.congr hG (hs c (by simp)) h
def SV.gZ (ρ ρ':Env):SV->Prop
 | .v _ cs=>∀ c,c∈cs->c.gZ ρ ρ'
 | .tup l=>∀ p,p∈l->∀ c,c∈p.2->c.gZ ρ ρ'
theorem bK.congr {G G':Gh} (hG:G.le G') {ρ ρ':Env} {s:SV} {v:Value} (hs:s.gZ ρ ρ') (h:bK G ρ s v):bK G' ρ' s v:=by
 cases s with
 | v a cs=>exact oz.congr hG hs h
 | tup l=>
  obtain⟨vs,e,hl⟩:=h
  exact⟨vs,e,aR.BQ (fun p hp y=>oz.congr hG (hs p hp)) hl⟩
theorem CV.gZ.refl (ρ:Env) (c:CV):c.gZ ρ ρ:=⟨fun _ _=>rfl,fun _ _=>rfl,fun _ _=>rfl,fun _ _=>rfl⟩
theorem SV.gZ.refl (ρ:Env) (s:SV):s.gZ ρ ρ:=by
 cases s with
 | v a cs=>exact fun c _=> .refl ρ c
 | tup l=>exact fun p _ c _=> .refl ρ c
theorem ur {α:Type} {l:List (Nat×α)} {k:Nat} {x:α} (h:look l k=some x):(k,x)∈l:=by
 induction l with
 | nil=>simp[look] at h
 | cons p r ih=>
  obtain⟨j,y⟩:=p
  simp only[look] at h
  cases hb:Nat.beq j k with
  | true=>simp_all
  | false=>grind
theorem aD {α:Type} (l:List (Nat×α)) (j k:Nat) (x:α):look ((j,x)::l) k=if j=k then some x else look l k:=by
 simp only[look]
 simp
structure St.gZ (ρ ρ':Env) (S:St):Prop where
 tmps:∀ s,s∈S.tmps->s.gZ ρ ρ'
 boxes:∀ p,p∈S.boxes->∀ c,c∈p.2->c.gZ ρ ρ'
theorem WV {ρ:Env} {k b:Nat} {S:St} (own:Nat->Option bE) (h:S.cN k=false):S.gZ ρ ⟨fun i=>if i=k then b else ρ.bx i,ρ.rw,own,ρ.ob,ρ.st⟩:=by
 simp only[St.cN,ahe,ahJ] at h
 have cv:∀ c:CV,c.cN k=false->c.gZ ρ ⟨fun i=>if i=k then b else ρ.bx i,ρ.rw,own,ρ.ob,ρ.st⟩:=fun c hc=>
  ⟨fun i hi=>by
    grind,fun _ _=>rfl,fun _ _=>rfl,fun _ _=>rfl⟩
 refine⟨fun s hs=> ?_,fun p hp c hc=>cv c ?_⟩
 ·have:=h.1 s hs
  cases s with
  | v a cs=>exact fun c hc=>cv c (by simp only[SV.cN,ahK,aj2,aj1] at this;grind)
  | tup l=>exact fun p hp c hc=>cv c (by simp only[SV.cN,ahK,aj2,aj1] at this;grind)
 grind
theorem ME {ρ:Env} {k:Nat} {u:Value} {S:St} (own:Nat->Option bE) (h:S.bG k=false):S.gZ ρ ⟨ρ.bx,fun i=>if i=k then u else ρ.rw i,own,ρ.ob,ρ.st⟩:=by
 simp only[St.bG,ahe,ahJ] at h
 have cv:∀ c:CV,c.bG k=false->c.gZ ρ ⟨ρ.bx,fun i=>if i=k then u else ρ.rw i,own,ρ.ob,ρ.st⟩:=fun c hc=>
  ⟨fun _ _=>rfl,fun i hi=>by
    grind,fun _ _=>rfl,fun _ _=>rfl⟩
 refine⟨fun s hs=> ?_,fun p hp c hc=>cv c ?_⟩
 ·have:=h.1 s hs
  cases s with
  | v a cs=>exact fun c hc=>cv c (by simp only[SV.bG,ahK,aj2,aj1] at this;grind)
  | tup l=>exact fun p hp c hc=>cv c (by simp only[SV.bG,ahK,aj2,aj1] at this;grind)
 grind
theorem WX {ρ:Env} {k:Nat} {u:Value} {S:St} (own:Nat->Option bE) (h:S.bV k=false):S.gZ ρ ⟨ρ.bx,ρ.rw,own,fun i=>if i=k then u else ρ.ob i,ρ.st⟩:=by
 simp only[St.bV,ahe,ahJ] at h
 have cv:∀ c:CV,c.bV k=false->c.gZ ρ ⟨ρ.bx,ρ.rw,own,fun i=>if i=k then u else ρ.ob i,ρ.st⟩:=fun c hc=>
  ⟨fun _ _=>rfl,fun _ _=>rfl,fun i hi=>by
    grind,fun _ _=>rfl⟩
 refine⟨fun s hs=> ?_,fun p hp c hc=>cv c ?_⟩
 ·have:=h.1 s hs
  cases s with
  | v a cs=>exact fun c hc=>cv c (by simp only[SV.bV,ahK,aj2,aj1] at this;grind)
  | tup l=>exact fun p hp c hc=>cv c (by simp only[SV.bV,ahK,aj2,aj1] at this;grind)
 grind
theorem jO.congr {G G':Gh} (hG:G.le G') {ρ ρ':Env} {S:St} {a:Act} (hs:S.gZ ρ ρ') (h:jO G ρ S a):jO G' ρ' S a:=
 ⟨h.1,fun i s hi=>bK.congr hG (hs.tmps s (aiF hi)) (h.2 i s hi)⟩
def St.put (S:St) (d:Option Tmp) (s:SV):St:=
 match d with
 | some d=>{ S with tmps:=S.tmps.set d s }
 | none=>S
@[simp] theorem St.agC (S:St) (d:Option Tmp) (s:SV):(S.put d s).boxes=S.boxes:=by cases d<;>rfl
@[simp] theorem St.agK (S:St) (d:Option Tmp) (s:SV):(S.put d s).rows=S.rows:=by cases d<;>rfl
@[simp] theorem St.agJ (S:St) (d:Option Tmp) (s:SV):(S.put d s).objs=S.objs:=by cases d<;>rfl
theorem jO.put {G:Gh} {ρ:Env} {S:St} {a:Act} (h:jO G ρ S a) (d:Option Tmp) {s:SV} {v:Value} (hv:∀ t,d=some t->bK G ρ s v):jO G ρ (S.put d s) (a.put d v):=by
 cases d with
 | none=>exact h
 | some d=>
  refine⟨by simp[Act.put,St.put,h.1],fun i s' hi=> ?_⟩
  simp only[St.put,aie] at hi
  by_cases e:d=i
  ·subst e
   by_cases hlt:d<S.tmps.length
   ·simp only[ajZ,hlt,Option.some.injEq] at hi
    subst hi
    simp only[Act.put]
    rw[agO,agU (by rw[h.1];exact hlt)]
    grind
   grind
  ·simp only[e,ajX] at hi
   have:=h.2 i s' hi
   simp only[Act.put]
   simp_all
theorem Mem.PA {P0:Program} {C:Fr P0} {G:Gh} {ρ:Env} {S S':St} {w:World} (h:Mem C G ρ S w) (hb:S'.boxes=S.boxes) (hr:S'.rows=S.rows) (ho:S'.objs=S.objs):Mem C G ρ S' w:=
 { h with boxes:=by rw[hb];exact h.boxes,rows:=by rw[hr];exact h.rows,objs:=by rw[ho];exact h.objs,hndI:=by rw[ho];exact h.hndI }
theorem Mod.put {P0:Program} {C:Fr P0} {G:Gh} {ρ:Env} {S:St} {w:World} {a:Act} (h:Mod C G ρ S w a) (d:Option Tmp) {s:SV} {v:Value} (hv:∀ t,d=some t->bK G ρ s v):Mod C G ρ (S.put d s) w (a.put d v):=
 { h.toMem.PA (S':=S.put d s) (by simp) (by simp) (by simp) with tmps:=h.tmps.put d hv,defers:=by cases d<;>exact h.defers }
theorem dI.of_heap {G:Gh} {ρ:Env} {w w':World} {j:Nat} {r:rY} (hh:w'.heap=w.heap) (h:dI G ρ w j r):dI G ρ w' j r:=by
 unfold dI at*
 split
 ·grind
 ·rename_i hf;rw[ajY hf] at h
  obtain⟨xs,ho,hl,hb⟩:=h
  exact⟨xs,by simpa [World.ownsRow,hh] using ho,hl,hb⟩
theorem Az.of_heap {G:Gh} {w w':World} {own:Nat->Prop} {fz:Bool} {t:Ty} {l:List t.den} (hh:∀ h b,G.hnd h=some b->w'.heap[b]? =w.heap[b]?) (h:Az G w own fz t l):Az G w' own fz t l:=
 ⟨h.1,h.2.1,fun i x hx=>by
   obtain⟨b,vs,T,h1,h2,h3,h4,h5⟩:=h.2.2 i x hx
   grind⟩
theorem sE.of_heap {G:Gh} {ρ:Env} {w w':World} {j:Nat} {r:vS} (hh:w'.heap=w.heap) (h:sE G ρ w j r):sE G ρ w' j r:=by
 cases r with
 | map k v l=>obtain⟨b,es,clock,h1,h2,h3,h4,h5⟩:=h;exact⟨b,es,clock,h1,h2,by grind,h4,h5⟩
 | ar fz t l=>exact⟨h.1,Az.of_heap (fun _ _ _=>by rw[hh]) h.2⟩
theorem Mem.of_heap {P0:Program} {C:Fr P0} {G:Gh} {ρ:Env} {S:St} {w w':World} (h:Mem C G ρ S w) (hh:w'.heap=w.heap) (ho:w'.os=w.os) (hu:w'.output=w.output):Mem C G ρ S w' where
 agr:=fun b o hb=>by rw[hh];exact h.agr b o hb
 le0:=h.le0
 old:=h.old
 frame:=by rw[hh];exact h.frame
 size:=by rw[hh];exact h.size
 os:=ho.trans h.os
 output:=hu.trans h.output
 pin:=h.pin
 pinR:=h.pinR
 owned:=by rw[hh];exact h.owned
 boxes:=by rw[hh];exact h.boxes
 rows:=fun j r hr=>(h.rows j r hr).of_heap hh
 objs:=fun j r hr=>(h.objs j r hr).of_heap hh
 hndI:=h.hndI
theorem Mod.of_heap {P0:Program} {C:Fr P0} {G:Gh} {ρ:Env} {S:St} {w w':World} {a:Act} (h:Mod C G ρ S w a) (hh:w'.heap=w.heap) (ho:w'.os=w.os) (hu:w'.output=w.output):Mod C G ρ S w' a:=
 { h.toMem.of_heap hh ho hu with tmps:=h.tmps,defers:=h.defers }
structure Grow (ρ:Env) (w w':World) (blk:Option Nat):Prop where
 os:w'.os=w.os
 output:w'.output=w.output
 size:w.heap.size<=w'.heap.size
 block:∀ b,b<w.heap.size->some b≠blk->w'.heap[b]? =w.heap[b]?
theorem dU {w:World} {b:Nat} {o:Obj} (h:w.heap[b]? =some o):b<w.heap.size:=(agR.1 h).1
theorem dI.kept {G:Gh} {ρ:Env} {w w':World} {j:Nat} {r:rY} {blk:Option Nat} (hg:Grow ρ w w' blk) (hne:∀ b,blk=some b->ρ.own b≠some (.inr j)) (h:dI G ρ w j r):dI G ρ w' j r:=by
 unfold dI at*
 split
 ·grind
 ·rename_i hf;rw[ajY hf] at h
  obtain⟨xs,⟨hlen,ho⟩,hl,hb⟩:=h
  refine⟨xs,⟨hlen, ?_⟩,hl,hb⟩
  rcases ho with hn | ⟨g,cap,cur,hv,h0,hgg,rest⟩
  ·grind
  ·refine .inr ⟨g,cap,cur,hv,h0, ?_,rest⟩
   rw[hg.block g (dU hgg) ?_]
   ·exact hgg
   ·intro e
    exact hne g e.symm (hb g (by rw[hv];rfl))
theorem sE.kept {G:Gh} {ρ:Env} {w w':World} {j:Nat} {r:vS} {blk:Option Nat} (hg:Grow ρ w w' blk) (hgn:∀ b,blk=some b->G b=none) (hne:∀ b,blk=some b->ρ.own b≠some (.ob j)) (h:sE G ρ w j r):sE G ρ w' j r:=by
 cases r with
 | map k v l=>
  obtain⟨b,es,clock,h1,h2,h3,h4,h5⟩:=h
  refine⟨b,es,clock,h1,h2, ?_,h4,h5⟩
  rw[hg.block b (dU h3) (fun e=>hne b e.symm h2)];exact h3
 | ar fz t l=>
  obtain⟨hj,h⟩:=h
  refine⟨hj,h.1,h.2.1,fun i x hx=> ?_⟩
  obtain⟨b,vs,T,h1,h2,h3,h4,h5⟩:=h.2.2 i x hx
  refine⟨b,vs,T,h1,h2,h3, ?_,h5⟩
  rw[hg.block b (dU h4) (fun e=> ?_)]
  all_goals grind
theorem AA.mono {G G':Gh} (hG:G.le G') {k v:Ty} {p:k.den×v.den} {e:MapEntry} (h:AA G k v p e):AA G' k v p e:=⟨h.1.mono hG,h.2.mono hG⟩
theorem sE.congr {G G':Gh} (hG:G.le G') (hh:G'.hnd=G.hnd) {ρ ρ':Env} {w:World} {j:Nat} {r:vS} (hr:ρ'.ob j=ρ.ob j) (hst:ρ'.st j=ρ.st j) (ho:∀ b,ρ.own b=some (.ob j)->ρ'.own b=some (.ob j)) (h:sE G ρ w j r):sE G' ρ' w j r:=by
 cases r with
 | map k v l=>
  obtain⟨b,es,clock,h1,h2,h3,h4,h5,h6⟩:=h
  exact⟨b,es,clock,by grind,ho b h2,h3,h4.mono fun x y hxy=>hxy.mono hG,by grind,h6⟩
 | ar fz t l=>
  obtain⟨hj,h⟩:=h
  refine⟨hj,fun i b hb=>h.1 i b (by grind),fun i i' b hb hb'=>h.2.1 i i' b (by grind) (by grind),fun i x hx=> ?_⟩
  obtain⟨b,vs,T,h1,h2,h3,h4,h5⟩:=h.2.2 i x hx
  exact⟨b,vs,T,by grind,fun e=>hG _ _ (h2 e),fun e=>ho b (h3 e),h4,aN.mono hG t x _ h5⟩
theorem dI.congr {G G':Gh} (hG:G.le G') {ρ ρ':Env} {w:World} {j:Nat} {r:rY} (hr:ρ'.rw j=ρ.rw j) (ho:∀ b,ρ.own b=some (.inr j)->ρ'.own b=some (.inr j)) (h:dI G ρ w j r):dI G' ρ' w j r:=by
 unfold dI at*
 rw[hr]
 split
 ·rename_i hf;rw[ajZ hf] at h;exact iH.mono hG h
 ·rename_i hf;rw[ajY hf] at h
  obtain⟨xs,hown,hl,hb⟩:=h
  exact⟨xs,hown,hl.mono (aN.mono hG r.t),fun b e=>ho b (hb b e)⟩
end Go.Dn
namespace Go.Dn
def unpack:(t:Ty)->t.den->List CV
 | .int k,n=>[.int k n]
 | .bool,b=>[.bool b]
 | .str,s=>[.str s]
 | .unit,_=>[]
 | .pair a b,p=>unpack a p.1++unpack b p.2
 | .st t,x=>unpack t x
 | .slice t,l=>[.sl t l]
 | .ptr t,x=>[.cp t x 0]
 | .clo g t,x=>[.clo g t x]
 | .hnd,o=>[.hnd o 0]
def vD (t:Ty) (x:t.den):SV:=
 match t,x with
 | .st t,x=> .v true (unpack t x)
 | t,x=> .v false (unpack t x)
def O9 (t:Ty) (x:t.den):Bool×List CV:=
 match t,x with
 | .st t,x=>(true,unpack t x)
 | t,x=>(false,unpack t x)
def ym {a b:Ty} (l:List a.den):Option (List b.den):=if h:a=b then some (h ▸ l) else none
def W9 {a b:Ty} (x:a.den):Option b.den:=if h:a=b then some (h ▸ x) else none
def aaJ {k v k' v':Ty} (l:List (k.den×v.den)):Option (List (k'.den×v'.den)):=if h:k=k'/\v=v' then some (h.1 ▸ h.2 ▸ l) else none
def aad (k:IntKind):CV->Option Int
 | .int k' n=>if k=k' then some n else none
 | _=>none
def YA:CV->Option Bool
 | .bool b=>some b
 | _=>none
def aae:CV->Option (List UInt8)
 | .str s=>some s
 | _=>none
def TG (S:St) (t:Ty):CV->Option (List t.den)
 | .sl _ l=>ym (b:=t) l
 | .nils=>some []
 | .row j=>match look S.rows j with
  | some q=>if q.fz then ym (b:=t) q.l else none
  | none=>none
 | _=>none
def aac:CV->Option (Option Nat)
 | .hnd o k=>if Nat.beq k 0 then some o else none
 | .nilp=>some none
 | _=>none
def zm {α:Type} (f:CV->Option α):List CV->Option (α×List CV)
 | c::r=>match f c with | some x=>some (x,r) | none=>none
 | []=>none
def lP {α:Type}:Option (α×List CV)->Option α
 | some (x,[])=>some x
 | _=>none
def inL (l:List Nat) (j:Nat):Bool:=l.any (Nat.beq j)
def Vf (S:St) (fb:List Nat) {t:Ty} (g:List CV->Option (t.den×List CV)):CV->Option t.den
 | .cp _ x o=>if Nat.beq o 0 then W9 (b:=t) x else none
 | .ref k o=>if Nat.beq o 0&&inL fb k then (match look S.boxes k with
  | some cs=>lP (g cs)
  | none=>none) else none
 | _=>none
def aab {t:Ty} (g:Nat) (p:List CV->Option (t.den×List CV)):CV->Option t.den
 | .clo g' _ x=>if Nat.beq g g' then W9 (b:=t) x else none
 | .fn g' ks=>if Nat.beq g g' then lP (p (ks.map fun k=> .ref k 0)) else none
 | _=>none
def jd (S:St) (fb:List Nat):(t:Ty)->List CV->Option (t.den×List CV)
 | .int k,r=>zm (aad k) r
 | .bool,r=>zm YA r
 | .str,r=>zm aae r
 | .unit,r=>some ((),r)
 | .pair a b,r=>match jd S fb a r with
  | some (x,r)=>match jd S fb b r with
   | some (y,r)=>some ((x,y),r)
   | none=>none
  | none=>none
 | .st t,r=>jd S fb t r
 | .slice t,r=>zm (TG S t) r
 | .ptr t,r=>zm (Vf S fb (t:=t) (jd S fb t)) r
 | .clo g t,r=>zm (aab (t:=t) g (jd S fb t)) r
 | .hnd,r=>zm aac r
abbrev pack (S:St) (t:Ty) (cs:List CV):Option (t.den×List CV):=jd S [] t cs
def pG (S:St) (fb:List Nat) (t:Ty) (s:SV):Option t.den:=
 match t,s with
 | .st t,.v true cs=>lP (jd S fb t cs)
 | .st _,_=>none
 | t,.v false cs=>lP (jd S fb t cs)
 | _,_=>none
inductive OT where
 | val (t:Ty)
 | row (e:TypeId) (t:Ty)
 | map (k v:Ty)
def OT.den:OT->Type
 | .val t=>t.den
 | .row _ t=>List t.den
 | .map k v=>List (k.den×v.den)
def rE:List OT->Type
 | []=>Unit
 | o::r=>o.den×rE r
inductive PM where
 | val (t:Ty)
 | row (e:TypeId) (t:Ty)
 | mrow (e:TypeId) (t:Ty)
 | map (k v:Ty)
 | box (l:List OT)
 | ar (t:Ty)
 | arR (t:Ty)
inductive RM where
 | val (t:Ty)
 | row (e:TypeId) (t:Ty)
 | map (k v:Ty)
 | box (l:List OT)
def PM.den:PM->Type
 | .val t=>t.den
 | .row _ t=>List t.den
 | .mrow _ t=>List t.den
 | .map k v=>List (k.den×v.den)
 | .box l=>rE l
 | .ar t=>List t.den
 | .arR t=>List t.den
def RM.den:RM->Type
 | .val t=>t.den
 | .row _ t=>List t.den
 | .map k v=>List (k.den×v.den)
 | .box l=>rE l
def PM.arg:PM->Bool
 | .ar _=>false
 | .arR _=>false
 | _=>true
def eL:List PM->Type
 | []=>Unit
 | p::r=>p.den×eL r
def ia:List PM->Type
 | []=>Unit
 | .mrow _ t::r=>List t.den×ia r
 | .map k v::r=>List (k.den×v.den)×ia r
 | .box l::r=>rE l×ia r
 | .ar t::r=>List t.den×ia r
 | .val _::r=>ia r
 | .row _ _::r=>ia r
 | .arR _::r=>ia r
def dc (ps:List PM):List RM->Type
 | []=>ia ps
 | q::r=>q.den×dc ps r
structure ay where
 ps:List PM
 rs:List RM
 m:eL ps->Option (dc ps rs)
inductive BH where
 | mk (g:Nat)
 | srt (g:Nat) (kt e:TypeId)
 | elt (lo nb:Nat) (tb te:Ty) (m:List tb.den->List te.den->Nat->Option (List te.den))
 | nest (p:Nat) (sp:ay)
 | srt2 (g:Nat) (kt e:TypeId) (cl:Nat) (cf:List UInt8×List UInt8->List UInt8×List UInt8->Int)
 | cop (sz lo b:Nat) (e:TypeId) (t:Ty)
 | own
structure Cx where
 P:Program
 specs:List (Nat×ay)
 keys:List (Nat×BH):=[]
def Ad {α:Type} (l:List (Int×α)):List Int:=(l.map (·.1)).mergeSort fun x y=>decide (x<=y)
def Ou {α:Type} (l:List (Int×α)):Bool:=decide (l.length<=1000000)&&((l.all fun p=>decide (-9223372036854775808<=p.1/\p.1<=9223372036854775807))&&decide (l.map (·.1)).Nodup)
def sW {α:Type} (cf:List UInt8×List UInt8->List UInt8×List UInt8->Int) (l:List ((List UInt8×List UInt8)×α)):List (List UInt8×List UInt8):=(l.map (·.1)).mergeSort fun x y=> !decide (cf y x<0)
theorem Oq {α:Type} (cf:List UInt8×List UInt8->List UInt8×List UInt8->Int) (l:List ((List UInt8×List UInt8)×α)):(sW cf l).length=l.length:=by
 unfold sW
 simp
def GG {α:Type} (cf:List UInt8×List UInt8->List UInt8×List UInt8->Int) (l:List ((List UInt8×List UInt8)×α)):Bool:=decide (l.length<=1000000)&&((l.all fun p=>decide (p.1.1.length<=9223372036854775807)&&decide (p.1.2.length<=9223372036854775807))&&(decide (l.map (·.1)).Nodup&&((l.map (·.1)).all fun x=>(l.map (·.1)).all fun y=>decide (cf x y<0)||(decide (cf y x<0)||decide (x=y)))))
inductive CK where
 | val (t:Ty)
 | own (e:TypeId) (t:Ty)
 | map (k v:Ty)
 | ref (k off:Nat)
 | fn (g:Nat) (ks:List Nat)
 | ar (t:Ty)
 | arF (t:Ty)
 | rowR (j:Nat)
 | rpR (j sz:Nat)
 | rowC (j:Nat) (e:TypeId) (t:Ty)
 | mapR (j:Nat)
 | mapC (j:Nat) (k v:Ty)
def dO:List CK->Type
 | []=>Unit
 | .val t::r=>t.den×dO r
 | .own _ t::r=>List t.den×dO r
 | .map k v::r=>List (k.den×v.den)×dO r
 | .ref _ _::r=>dO r
 | .fn _ _::r=>dO r
 | .ar t::r=>List t.den×dO r
 | .arF t::r=>List t.den×dO r
 | .rowR _::r=>dO r
 | .rpR _ _::r=>Nat×dO r
 | .rowC _ _ t::r=>List t.den×dO r
 | .mapR _::r=>dO r
 | .mapC _ k v::r=>List (k.den×v.den)×dO r
def CK.size:CK->Nat
 | .val t=>t.size
 | .ar _=>0
 | .arF _=>0
 | .rowC _ _ _=>0
 | .mapC _ _ _=>0
 | _=>1
def sK:List CK->Nat
 | []=>0
 | c::r=>c.size+sK r
def abA (tmps:List (Nat×CK)) (boxes:List (Nat×List CK)) (cts:List CK):List CK:=
 tmps.map (·.2)++(boxes.flatMap (·.2)++cts)
structure Ann where
 tmps:List (Nat×CK)
 boxes:List (Nat×List CK)
 cts:List CK
 fuel:dO (abA tmps boxes cts)->Nat
def Ann.cks (A:Ann):List CK:=abA A.tmps A.boxes A.cts
def iter {X β:Type}:Nat->X->(X->(X->Option β)->Option β)->Option β
 | 0,_,_=>none
 | n+1,x,f=>f x fun y=>iter n y f
def xh (P:Program) (t:TypeId):Bool:=
 match P.underlying t with
 | some (.struct _) | some (.array _ _)=>true
 | _=>false
def cB (P:Program) (t:TypeId):Nat:=((P.info? t).map (·.size)).getD 0
def okT (P:Program) (t:TypeId):Bool:=(P.underlying t).isSome
def NG:Value->CV
 | .int k n=> .int k n
 | .bool b=> .bool b
 | .string s=> .str s.data.toList
 | .slice none 0 0=> .nils
 | .pointer none=> .nilp
 | .func (.func g) f c=>if f.isEmpty&&c.isEmpty then .fn g [] else .any
 | _=> .any
def PG:Value->SV
 | .agg cs=> .v true (cs.toList.map NG)
 | v=> .v false [NG v]
def St.ev (S:St):Operand->SV
 | .tmp t=>S.tmps.getD t (.v false [.any])
 | .const v=>PG v
 | .global _=> .v false [.any]
 | .func f=> .v false [.fn f []]
variable {β:Type}
def chk (b:Bool) (x:Option β):Option β:=bif b then x else none
def idx {α:Type} (l:List α) (i:Int):Option α:=if 0<=i then l[i.toNat]? else none
def BV (s:List UInt8) (i:Int):Option UInt8:=if 0<=i then s[i.toNat]? else none
def Xu (op:BinOp) (ka:IntKind) (a:Int) (kb:IntKind) (b:Int) (k:CV->Option β):Option β:=
 match op with
 | .shl=>chk (decide (0<=b)) (k (.int ka (ka.wrap (a*2 ^ (min b.toNat ka.bits)))))
 | .shr=>chk (decide (0<=b)) (k (.int ka (a.fdiv (2 ^ (min b.toNat ka.bits)))))
 | _=>if ka≠kb then none else
  match op with
  | .add=>k (.int ka (ka.wrap (a+b)))
  | .sub=>k (.int ka (ka.wrap (a - b)))
  | .mul=>k (.int ka (ka.wrap (a*b)))
  | .quo=>chk (b != 0) (k (.int ka (ka.wrap (a.tdiv b))))
  | .rem=>chk (b != 0) (k (.int ka (a.tmod b)))
  | .and=>k (.int ka (ka.wrap (BitVec.ofInt ka.bits a &&& BitVec.ofInt ka.bits b).toNat))
  | .or=>k (.int ka (ka.wrap (BitVec.ofInt ka.bits a ||| BitVec.ofInt ka.bits b).toNat))
  | .eql=>k (.bool (a==b))
  | .neq=>k (.bool (a != b))
  | .lss=>k (.bool (decide (a<b)))
  | .leq=>k (.bool (decide (a<=b)))
  | .gtr=>k (.bool (decide (a>b)))
  | .geq=>k (.bool (decide (a>=b)))
  | _=>none
def Xv (op:BinOp) (a b:List UInt8) (k:CV->Option β):Option β:=
 match op with
 | .eql=>k (.bool (a==b))
 | .neq=>k (.bool !(a==b))
 | .lss=>k (.bool (Op.bytesLess a b))
 | .leq=>k (.bool (Op.bytesLess a b||a==b))
 | .gtr=>k (.bool !(Op.bytesLess a b||a==b))
 | .geq=>k (.bool !(Op.bytesLess a b))
 | .add=>chk (decide (a.length+b.length<=maxLen)) (k (.str (a++b)))
 | _=>none
def Pf (l:List CV) (off n:Nat):Option (List CV):=
 let c:=(l.drop off).take n
 if Nat.beq c.length n then some c else none
def qQ (P:Program) (T:TypeId) (l:List CV) (off:Nat) (k:SV->Option β):Option β:=
 if okT P T then
 match Pf l off (cB P T) with
 | some cs=>if xh P T then k (.v true cs) else (match cs with | [c]=>k (.v false [c]) | _=>none)
 | none=>none
 else none
def N4 (P:Program) (g:TypeId->SV->SV->Option Bool) (xs ys:List CV):List Field->Option Bool
 | []=>some true
 | f::fs=>if f.name= "_" then none else
  match qQ P f.type xs f.offset some,qQ P f.type ys f.offset some with
  | some a,some b=>match g f.type a b with
   | some r=>match N4 P g xs ys fs with
    | some q=>some (r&&q)
    | none=>none
   | none=>none
  | _,_=>none
def CV.Xd:CV->Bool
 | .ref _ _ | .cp _ _ _ | .rp _ _ _ _=>true
 | _=>false
def AG (P:Program):Nat->TypeId->SV->SV->Option Bool
 | 0,_,_,_=>none
 | d+1,t,x,y=>match P.underlying t with
  | some (.int _)=>match x,y with
   | .v false [.int k a],.v false [.int k' b]=>if k=k' then some (a==b) else none
   | _,_=>none
  | some .bool=>match x,y with
   | .v false [.bool a],.v false [.bool b]=>some (a==b)
   | _,_=>none
  | some .string=>match x,y with
   | .v false [.str a],.v false [.str b]=>some (a==b)
   | _,_=>none
  | some (.pointer _)=>match x,y with
   | .v false [.nilp],.v false [.nilp]=>some true
   | .v false [.nilp],.v false [.hnd o _]=>some o.isNone
   | .v false [.hnd o _],.v false [.nilp]=>some o.isNone
   | .v false [.nilp],.v false [c]=>if c.Xd then some false else none
   | .v false [c],.v false [.nilp]=>if c.Xd then some false else none
   | _,_=>none
  | some (.struct fs)=>match x,y with
   | .v true xs,.v true ys=>if P.stoodInHeld t then none else N4 P (AG P d) xs ys fs.toList
   | _,_=>none
  | _=>none
def aes:SV->SV->Option Bool
 | .v false [.sl _ l],.v false [.nils]=>some l.isEmpty
 | _,_=>none
def adD (P:Program) (op:BinOp) (t:TypeId) (x y:SV) (k:SV->Option β):Option β:=
 if P.eqGuardType P.depth t then none else match op with
 | .eql=>match AG P 9 t x y with
  | some r=>k (.v false [.bool r])
  | none=>match P.underlying t,aes x y with
   | some (.slice _),some b=>k (.v false [.nb b])
   | _,_=>none
 | .neq=>match AG P 9 t x y with
  | some r=>k (.v false [.bool !r])
  | none=>none
 | _=>none
def aep (P:Program) (op:BinOp) (t:TypeId) (x y:SV) (k:SV->Option β):Option β:=
 match x,y with
 | .v false [.int ka a],.v false [.int kb b]=>Xu op ka a kb b fun c=>k (.v false [c])
 | .v false [.str a],.v false [.str b]=>Xv op a b fun c=>k (.v false [c])
 | x,y=>adD P op t x y k
def R8 (n:Nat):CV->Option CV
 | .ref k o=>some (.ref k (o+n))
 | .cp t x o=>some (.cp t x (o+n))
 | .rp j sz i o=>some (.rp j sz i (o+n))
 | .hnd (some h) o=>some (.hnd (some h) (o+n))
 | _=>none
def CV.ok:CV->Bool
 | .any=>false
 | .opq _=>false
 | _=>true
def setAt (l:List CV) (off:Nat) (new:List CV):Option (List CV):=
 if Nat.ble (off+new.length) l.length then some (l.take off++new++l.drop (off+new.length)) else none
def LB (place:Nat->Option (Nat×Nat)):List CV->List (Nat×SV)->Option (List CV)
 | cells,[]=>some cells
 | cells,(i,.v _ cs)::rest=>
  match place i with
  | none=>none
  | some (off,size)=>if Nat.beq cs.length size&&cs.all CV.ok then (match setAt cells off cs with | some c=>LB place c rest | none=>none) else none
 | _,_=>none
def Jt (P:Program) (fs:Array Field) (i:Nat):Option (Nat×Nat):=match fs[i]? with | some f=>some (f.offset,cB P f.type) | none=>none
def zeroCells (P:Program) (t:TypeId):Option (List CV):=
 match (P.info? t).bind (·.zero) with
 | some (.agg cs)=>some (cs.toList.map NG)
 | some v=>some [NG v]
 | none=>none
def Vs:List Ty->Ty
 | []=> .unit
 | [a]=>a
 | a::b::r=> .pair a (Vs (b::r))
def Mm (P:Program):Nat->TypeId->Option Ty
 | 0,_=>none
 | n+1,t=>match P.underlying t with
  | some (.int k)=>some (.int k)
  | some .bool=>some .bool
  | some .string=>some .str
  | some (.slice e)=>(Mm P n e).map .slice
  | some (.pointer _)=>some .hnd
  | some (.array m e)=>(Mm P n e).map fun t=> .st (Vs (List.replicate m t))
  | some (.struct fs)=>(fs.toList.mapM fun f=>Mm P n f.type).map fun l=> .st (Vs l)
  | _=>none
def KX (P:Program) (t:TypeId) (ty:Ty):Option ty.den:=
 match (P.info? t).bind (·.zero) with
 | some v=>pG ⟨[],[],[],[]⟩ [] ty (PG v)
 | none=>none
def Hy (a b:Int):Bool:=a==b
def aaG (a b:Bool):Bool:=a==b
def RT (a b:List UInt8):Bool:=a==b
def Ty.beq:(t:Ty)->t.den->t.den->Bool
 | .int _,a,b=>Hy a b
 | .bool,a,b=>aaG a b
 | .str,a,b=>RT a b
 | .unit,_,_=>true
 | .pair s t,a,b=>s.beq a.1 b.1&&t.beq a.2 b.2
 | .st t,a,b=>t.beq a b
 | _,_,_=>false
def cn (P:Program) (t:TypeId):Ty->Bool
 | .int _=>match P.underlying t with | some (.int _)=>true | _=>false
 | .bool=>match P.underlying t with | some .bool=>true | _=>false
 | .str=>match P.underlying t with | some .string=>true | _=>false
 | _=>false
def cQ (P:Program):List Field->Nat->Ty->Bool
 | [f],n,t=>f.name≠ "_" &&Nat.beq f.offset n&&Nat.beq (cB P f.type) 1&&cn P f.type t
 | f::g::r,n,.pair a b=>f.name≠ "_" &&Nat.beq f.offset n&&Nat.beq (cB P f.type) 1&&cn P f.type a&&cQ P (g::r) (n+1) b
 | _,_,_=>false
def jQ (P:Program) (t:TypeId):Ty->Bool
 | .st s=>match P.underlying t with | some (.struct fs)=> !P.stoodInHeld t&&cQ P fs.toList 0 s | _=>false
 | ty=>cn P t ty
def dN {k v:Ty} (l:List (k.den×v.den)) (x:k.den):Option v.den:=match l.find? (fun p=>k.beq x p.1) with | some p=>some p.2 | none=>none
def jG {k v:Ty} (l:List (k.den×v.den)) (x:k.den) (y:v.den):List (k.den×v.den):=
 match l with
 | []=>[(x,y)]
 | p::r=>bif k.beq x p.1 then (x,y)::r else p::jG r x y
def allRefs:List SV->Option (List Nat)
 | []=>some []
 | .v false [.ref k o]::r=>if Nat.beq o 0 then (match allRefs r with | some l=>some (k::l) | none=>none) else none
 | _=>none
def bnd (d:Int):Option SV->Option Int
 | none=>some d
 | some (.v false [.int _ a])=>some a
 | _=>none
def aa0 (M:St) (d:TypeDesc):CV->Option Int
 | .str s=>match d with | .string=>some s.length | _=>none
 | .sl _ l=>match d with | .slice _=>some l.length | _=>none
 | .nils=>match d with | .slice _=>some 0 | _=>none
 | .row j=>match d with
  | .slice _=>match look M.rows j with
   | some q=>some q.l.length
   | none=>none
  | _=>none
 | .mp j=>match d with
  | .map _ _=>match look M.objs j with
   | some (.map _ _ l)=>some l.length
   | _=>none
  | _=>none
 | _=>none
def abL (P:Program) (b:Builtin) (c:Call) (S M:St) (k:SV->Option β):Option β:=
 match b with
 | .len=>match c.args.toList.map S.ev,c.argTypes.toList with
  | [.v false [x]],[t]=>match P.underlying t with
   | some d=>match aa0 M d x with
    | some n=>k (.v false [.int .i64 n])
    | none=>none
   | none=>none
  | _,_=>none
 | .min=>match c.args.toList.map S.ev with
  | [.v false [.int ik a],.v false [.int _ b]]=>k (.v false [.int ik (if b<a then b else a)])
  | _=>none
 | .max=>match c.args.toList.map S.ev with
  | [.v false [.int ik a],.v false [.int _ b]]=>k (.v false [.int ik (if b>a then b else a)])
  | _=>none
 | _=>none
def TI:Nat->Nat->Int->(Nat->Option β)->Option β
 | 0,_,_,_=>none
 | n+1,j,i,k=>bif i==(j:Int) then k j else TI n (j+1) i k
theorem TJ {r:β}:∀ {n j:Nat} {i:Int} {k:Nat->Option β},TI n j i k=some r->∃ m:Nat,i=(m:Int)/\m<j+n/\k m=some r
 | 0,_,_,_,h=>by cases h
 | n+1,j,i,k,h=>by
  unfold TI at h
  cases hb:i==(j:Int) with
  | true=>grind
  | false=>
   rw[hb] at h
   obtain⟨m,h1,h2,h3⟩:=TJ (h:TI n (j+1) i k=some r)
   grind
def On (ik:IntKind):List CV->Option (List Int)
 | []=>some []
 | .int k n::r=>if k=ik then (match On ik r with | some l=>some (n::l) | none=>none) else none
 | _=>none
def dY (X:Cx) (o:Oper) (S M:St) (k:SV->Option β):Option β:=
 match o.op with
 | .move x | .assign x=>k (S.ev x)
 | .pick c a b=>match S.ev c with
  | .v false [.bool t]=>bif t then k (S.ev a) else k (S.ev b)
  | _=>none
 | .binOp op t x y _=>aep X.P op t (S.ev x) (S.ev y) k
 | .unOp op _ x=>match op,S.ev x with
  | .not,.v false [.bool b]=>k (.v false [.bool !b])
  | .neg,.v false [.int ik n]=>k (.v false [.int ik (ik.wrap (0 - n))])
  | _,_=>none
 | .convert src dst x=>match X.P.underlying src,X.P.underlying dst,S.ev x with
  | some _,some (.int ik),.v false [.int _ n]=>k (.v false [.int ik (ik.wrap n)])
  | some _,some .string,.v false [.str s]=>k (.v false [.str s])
  | some _,some .string,.v false [.int _ n]=>chk (decide (0<=n)&&decide (n<128)) (k (.v false [.str [UInt8.ofNat n.toNat]]))
  | _,_,_=>none
 | .nilCheck x=>match S.ev x with
  | .v false [.ref i j]=>k (.v false [.ref i j])
  | .v false [.cp t y j]=>k (.v false [.cp t y j])
  | .v false [.rp i sz j l]=>k (.v false [.rp i sz j l])
  | .v false [.clo g t y]=>k (.v false [.clo g t y])
  | .v false [.fn g ks]=>k (.v false [.fn g ks])
  | .v false [.hnd o j]=>o.bind fun h=>k (.v false [.hnd (some h) j])
  | _=>none
 | .fieldAddr s x f=>match X.P.underlying s,S.ev x with
  | some (.struct fs),.v false [c]=>match fs[f]? with
   | some fd=>if okT X.P fd.type&& !Nat.beq (cB X.P fd.type) 0 then (match R8 fd.offset c with
    | some c=>k (.v false [c])
    | none=>none) else none
   | none=>none
  | _,_=>none
 | .field s x f=>match X.P.underlying s,S.ev x with
  | some (.struct fs),.v true cs=>match fs[f]? with
   | some fd=>qQ X.P fd.type cs fd.offset k
   | none=>none
  | _,_=>none
 | .load t x=>match S.ev x with
  | .v false [.ref b off]=>match look M.boxes b with
   | some l=>qQ X.P t l off k
   | none=>none
  | .v false [.cp ty y off]=>qQ X.P t (unpack ty y) off k
  | .v false [.rp j sz i off]=>match look M.rows j with
   | some q=>(q.l[i]?).bind fun y=>if !q.fz&&Nat.beq sz q.t.size then qQ X.P t (unpack q.t y) off k else none
   | none=>none
  | .v false [.hnd (some h) off]=>match look M.objs bQ with
   | some (.ar _ ty l)=>(l[h]?).bind fun y=>qQ X.P t (unpack ty y) off k
   | _=>none
  | _=>none
 | .indexAddr t x ix=>match X.P.underlying t,S.ev x,S.ev ix with
  | some (.slice e),.v false [.sl ty l],.v false [.int _ i]=>
   if okT X.P e&&Nat.beq (cB X.P e) ty.size then (idx l i).bind fun y=>k (.v false [.cp ty y 0]) else none
  | some (.slice e),.v false [.row j],.v false [.int _ i]=>match look M.rows j with
   | some q=>if okT X.P e&&Nat.beq (cB X.P e) q.t.size then
    (if q.fz then (idx q.l i).bind fun y=>k (.v false [.cp q.t y 0])
     else chk (decide (0<=i)&&decide (i<q.l.length)) (k (.v false [.rp j q.t.size i.toNat 0]))) else none
   | none=>none
  | some (.array n e),.v false [c],.v false [.int _ i]=>
   if okT X.P e then TI n 0 i fun j=>(match R8 (j*cB X.P e) c with
    | some c=>k (.v false [c])
    | none=>none) else none
  | _,_,_=>none
 | .index t x ix=>match X.P.underlying t,S.ev x,S.ev ix with
  | some .string,.v false [.str s],.v false [.int _ i]=>(BV s i).bind fun b=>k (.v false [.int .u8 b.toNat])
  | some (.array n e),.v true cs,.v false [.int _ i]=>match X.P.underlying e with
   | some (.int ik)=>match On ik cs with
    | some l=>if okT X.P e&&Nat.beq (cB X.P e) 1&& !xh X.P e&&Nat.beq l.length n then (idx l i).bind fun m=>k (.v false [.int ik m]) else none
    | none=>none
   | _=>none
  | _,_,_=>none
 | .extract x i=>match S.ev x with
  | .tup l=>match l[i]? with
   | some p=>k (.v p.1 p.2)
   | none=>none
  | _=>none
 | .build t parts=>match X.P.underlying t,zeroCells X.P t with
  | some (.struct fs),some z=>if !fs.all (fun f=>okT X.P f.type) then none else match LB (Jt X.P fs) z (parts.toList.map fun p=>(p.1,S.ev p.2)) with
   | some cs=>k (.v true cs)
   | none=>none
  | some (.array _ e),some z=>if !okT X.P e then none else match LB (fun i=>some (i*cB X.P e,cB X.P e)) z (parts.toList.map fun p=>(p.1,S.ev p.2)) with
   | some cs=>k (.v true cs)
   | none=>none
  | _,_=>none
 | .slice t x lo hi none=>match X.P.underlying t,S.ev x with
  | some .string,.v false [.str s]=>match bnd 0 (lo.map S.ev),bnd s.length (hi.map S.ev) with
   | some a,some b=>chk (decide (0<=a)&&decide (a<=b)&&decide (b<=s.length)) (k (.v false [.str ((s.take b.toNat).drop a.toNat)]))
   | _,_=>none
  | some (.slice e),.v false [.sl ty l]=>
   if okT X.P e&&Nat.beq (cB X.P e) ty.size then
   (match bnd 0 (lo.map S.ev),bnd l.length (hi.map S.ev) with
   | some a,some b=>chk (decide (0<=a)&&decide (a<=b)&&decide (b<=l.length)) (k (.v false [.sl ty ((l.take b.toNat).drop a.toNat)]))
   | _,_=>none)
   else none
  | some (.slice e),.v false [.row j]=>match look M.rows j with
   | some q=>if q.fz&&okT X.P e&&Nat.beq (cB X.P e) q.t.size then
    (match bnd 0 (lo.map S.ev),bnd q.l.length (hi.map S.ev) with
    | some a,some b=>chk (decide (0<=a)&&decide (a<=b)&&decide (b<=q.l.length)) (k (.v false [.sl q.t ((q.l.take b.toNat).drop a.toNat)]))
    | _,_=>none)
    else none
   | none=>none
  | _,_=>none
 | .makeFunc (.func g) first caps=>match allRefs (caps.toList.map S.ev) with
  | some ks=>if first.isEmpty then k (.v false [.fn g ks]) else none
  | none=>none
 | .lookup t x ix ok=>match X.P.underlying t,S.ev x with
  | some (.map kt et),.v false [.mp j]=>match look M.objs j with
   | some (.map kk vv l)=>match pG M [] kk (S.ev ix),KX X.P et vv with
    | some key,some z=>if jQ X.P kt kk then
     (if ok then k (.tup [O9 vv ((dN l key).getD z),(false,[.bool (dN l key).isSome])]) else k (vD vv ((dN l key).getD z))) else none
    | _,_=>none
   | _=>none
  | _,_=>none
 | .call c=>match c.callee with
  | .builtin b=>abL X.P b c S M k
  | _=>none
 | _=>none
end Go.Dn
namespace Go.Dn
variable {β:Type}
structure Del where
 sv:SV
 box:Option (List CV)
 row:Option rY
 obj:Option vS
def St.app (S:St) (d:Option Tmp) (x:Del):St:=
 match d with
 | none=>S
 | some d=>
  { tmps:=S.tmps.set d x.sv,
    boxes:=match x.box with | some c=>(d,c)::S.boxes | none=>S.boxes,
    rows:=match x.row with | some r=>(d,r)::S.rows | none=>S.rows,
    objs:=match x.obj with | some r=>(d,r)::S.objs | none=>S.objs }
def OI:SV->Option (Option Nat)
 | .v false [.row j]=>some (some j)
 | .v false [.nils]=>some none
 | _=>none
def vj:SV->Option Nat
 | .v false [.ref k o]=>if Nat.beq o 0 then some k else none
 | _=>none
def OH:SV->Option Nat
 | .v false [.mp j]=>some j
 | _=>none
def mH (S:St) (e:TypeId) (t:Ty):CV->Option (List t.den)
 | .row j=>match look S.rows j with
  | some q=>if q.fz|| !Nat.beq q.e e then none else ym (b:=t) q.l
  | none=>none
 | .nils=>some []
 | _=>none
def uz (S:St) (k v:Ty):CV->Option (List (k.den×v.den))
 | .mp j=>match look S.objs j with
  | some (.map _ _ l)=>aaJ l
  | _=>none
 | _=>none
def yy:SV->Option CV
 | .v false [c]=>some c
 | _=>none
def tc (S:St):(l:List OT)->List CV->Option (rE l)
 | [],[]=>some ()
 | [],_::_=>none
 | .val t::r,cs=>match pack S t cs with
  | some (x,cs')=>match tc S r cs' with
   | some y=>some (x,y)
   | none=>none
  | none=>none
 | .row e t::r,c::cs=>match mH S e t c with
  | some x=>match tc S r cs with
   | some y=>some (x,y)
   | none=>none
  | none=>none
 | .row _ _::_,[]=>none
 | .map k v::r,c::cs=>match uz S k v c with
  | some x=>match tc S r cs with
   | some y=>some (x,y)
   | none=>none
  | none=>none
 | .map _ _::_,[]=>none
def A7 (S:St) (fz:Bool) (t:Ty):Option (List t.den):=
 match look S.objs bQ with
 | some (.ar f _ l)=>if f&& !fz then none else ym (b:=t) l
 | _=>none
def Cn (S:St) (fb:List Nat) (p:PM) (s:SV):Option p.den:=
 match p with
 | .val t=>pG S fb t s
 | .row e t=>match yy s with | some c=>mH S e t c | none=>none
 | .mrow e t=>match yy s with | some c=>mH S e t c | none=>none
 | .map k v=>match yy s with | some c=>uz S k v c | none=>none
 | .box l=>match vj s with
  | some k=>match look S.boxes k with
   | some cs=>tc S l cs
   | none=>none
  | none=>none
 | .ar t=>A7 S false t
 | .arR t=>A7 S true t
def lQ (S:St) (fb:List Nat):(ps:List PM)->List SV->Option (eL ps)
 | [],[]=>some ()
 | [],_::_=>none
 | p::r,l=>match (bif p.arg then l.head? else some (.v false [.any])) with
  | some s=>match Cn S fb p s with
   | some x=>match lQ S fb r (bif p.arg then l.tail else l) with
    | some y=>some (x,y)
    | none=>none
   | none=>none
  | none=>none
def PM.isVal:PM->Bool
 | .val _=>true
 | .arR _=>true
 | _=>false
def Mc:List RM->Bool
 | []=>true
 | .val _::r=>Mc r
 | _=>false
def PB (ps:List PM):(rs:List RM)->dc ps rs->List (Bool×List CV)
 | [],_=>[]
 | .val t::r,x=>O9 t x.1::PB ps r x.2
 | .row _ _::r,x=>(false,[.any])::PB ps r x.2
 | .map _ _::r,x=>(false,[.any])::PB ps r x.2
 | .box _::r,x=>(false,[.any])::PB ps r x.2
def KP:List (Bool×List CV)->SV
 | [p]=> .v p.1 p.2
 | []=> .v false [.any]
 | l=> .tup l
def fL (S:St) (c:Call):Option (Nat×List SV):=
 match c.callee with
 | .value f=>match S.ev f with
  | .v false [.fn g ks]=>some (g,c.args.toList.map S.ev++ks.map fun k=> .v false [.ref k 0])
  | .v false [.clo g t x]=>some (g,c.args.toList.map S.ev++(unpack t x).map fun c=> .v false [c])
  | _=>none
 | _=>none
def Tn:List SV->List Nat
 | []=>[]
 | .v _ cs::r=>(cs.flatMap fun | .ref k _=>[k] | .fn _ ks=>ks | _=>[])++Tn r
 | .tup _::r=>Tn r
def kP (cs:List CV):List Nat:=cs.filterMap fun | .row j=>some j | _=>none
def FO:List SV->List Nat
 | []=>[]
 | .v _ cs::r=>kP cs++FO r
 | .tup _::r=>FO r
def Cd (S:St):List Nat->List Nat
 | []=>[]
 | k::r=>(match look S.boxes k with | some cs=>kP cs | none=>[])++Cd S r
def SL (S:St):List Nat->List Nat
 | []=>[]
 | k::r=>(match look S.boxes k with | some cs=>Tn [.v false cs] | none=>[])++SL S r
def mB (S:St) (args:List SV):List Nat:=Tn args++SL S (Tn args)
def iK (S:St) (args:List SV):List Nat:=FO args++Cd S (mB S args)
def aX (S:St) (js:List Nat):St:=
 { S with rows:=js.foldl (fun rs j=>match look rs j with | some q=>(j,{ q with fz:=true })::rs | none=>rs) S.rows }
def Kq (S:St) (args:List SV):Bool:=(mB S args).isEmpty&&((FO args).all fun j=>match look S.rows j with | some q=>q.fz | none=>true)
def Kz:List RM->Bool
 | []=>true
 | .val t::r=>t.flat&&Kz r
 | _=>false
def ZN (sp:ay) (M:St) (args:List SV) (k:SV->Option β):Option β:=
 if sp.ps.all PM.isVal&&Mc sp.rs&&(Kz sp.rs||(Kq M args&&sp.ps.all PM.arg)) then
  match lQ (aX M (iK M args)) (mB M args) sp.ps args with
  | some x=>(sp.m x).bind fun y=>k (KP (PB sp.ps sp.rs y))
  | none=>none
 else none
def GJ (S:St) (t:Ty):List SV->Option (List t.den)
 | []=>some []
 | s::r=>match pG S [] t s with
  | some x=>match GJ S t r with
   | some l=>some (x::l)
   | none=>none
  | none=>none
def ac0 (d:Nat) (ps:List PM):(rs:List RM)->dc ps rs->(Del->Option β)->Option β
 | [.row e t],x,k=>k ⟨.v false [.row d],none,some ⟨false,e,t,x.1⟩,none⟩
 | [.row e t,.map kk vv],x,k=>k ⟨.tup [(false,[.row d]),(false,[.mp d])],none,some ⟨false,e,t,x.1⟩,some (.map kk vv x.2.1)⟩
 | [.row e t,.val t2],x,k=>k ⟨.tup [(false,[.row d]),O9 t2 x.2.1],none,some ⟨false,e,t,x.1⟩,none⟩
 | _,_,_=>none
def agy:List RM->Bool
 | [.row _ _]=>true
 | [.row _ _,.map _ _]=>true
 | [.row _ _,.val _]=>true
 | _=>false
def vJ:List RM->Bool
 | [.row _ t]=>t.flat
 | [.row _ t,.map kk vv]=>t.flat&&(kk.flat&&vv.flat)
 | [.row _ t,.val t2]=>t.flat&&t2.flat
 | _=>false
def Ul (sp:ay) (S M:St) (args:List SV) (d:Nat) (k:Del->Option β):Option β:=
 if sp.ps.all PM.isVal&&(vJ sp.rs||(Kq M args&&sp.ps.all PM.arg))&& !S.bG d&&Nat.blt d 2000&& !S.bV d&& !S.bN d then
  match lQ (aX M (iK M args)) (mB M args) sp.ps args with
  | some x=>(sp.m x).bind fun y=>ac0 d sp.ps sp.rs y k
  | none=>none
 else none
def TO (X:Cx) (o:Oper) (t:TypeId) (len:Nat) (parts:Array (Nat×Operand)) (S M:St) (k:Del->Option β):Option β:=
 match X.P.underlying t,o.dst with
 | some (.slice e),some d=>match Mm X.P 9 e,zeroCells X.P e with
  | some ty,some _=>
   if S.bG d|| !Nat.blt d 2000|| !Nat.beq parts.size len|| !((parts.toList.map (·.1))==List.range len)|| !Nat.beq (cB X.P e) ty.size||Nat.beq ty.size 0|| !Nat.ble (len*ty.size) 16777216 then none else
   match GJ M ty (parts.toList.map fun p=>S.ev p.2) with
   | some l=>k ⟨.v false [.row d],none,some ⟨false,e,ty,l⟩,none⟩
   | none=>none
  | _,_=>none
 | _,_=>none
def acu (X:Cx) (o:Oper):Bool:=match o.dst with
 | some d=>(match look X.keys (100000+d) with | some .own=>true | _=>false)
 | none=>false
def Yg (X:Cx) (S M:St) (f:Nat) (args:List SV) (d:Option Tmp) (k:Del->Option β):Option β:=
 match look X.keys f with
 | some (.mk g)=>match args with
  | [.v false [.mp j]]=>k ⟨.v false [.kseq g j],none,none,none⟩
  | _=>none
 | some (.srt g _ e)=>match args,d with
  | [.v false [.kseq g' j]],some d=>match look M.objs j with
   | some (.map (.int .i64) _ l)=>if Nat.beq g g'&& !S.bG d&&Nat.blt d 2000 then chk (Ou l) (k ⟨.v false [.row d],none,some ⟨false,e,.int .i64,Ad l⟩,none⟩) else none
   | _=>none
  | _,_=>none
 | some (.srt2 g _ e cl cf)=>match args,d with
  | [.v false [.kseq g' j],.v false [.fn cl' []]],some d=>match look M.objs j with
   | some (.map (.st (.pair .str .str)) _ l)=>if Nat.beq g g'&&Nat.beq cl cl'&& !S.bG d&&Nat.blt d 2000 then chk (GG cf l) (k ⟨.v false [.row d],none,some ⟨false,e,.st (.pair .str .str),sW cf l⟩,none⟩) else none
   | _=>none
  | _,_=>none
 | some (.cop sz lo b e t)=>match args,d with
  | [.v true cs],some d=>match cs[lo]? with
   | some (.sl t' l)=>match ym (b:=t) (show List t'.den from l) with
    | some l=>if !Nat.beq cs.length sz||(S.bG d||(cs.any (CV.bG d)||(!Nat.blt d 2000|| !cs.all CV.ok))) then none else
     chk (decide (l.length*b<=140737488355328)&&decide (l.length<=maxLen)) (k ⟨.v true (cs.set lo (.row d)),none,some ⟨false,e,t,l⟩,none⟩)
    | none=>none
   | _=>none
  | _,_=>none
 | _=>none
def gz (X:Cx) (o:Oper) (S M:St) (k:Del->Option β):Option β:=
 match o.op with
 | .alloc t=>match zeroCells X.P t,o.dst with
  | some z,some d=>if S.cN d||z.any (CV.cN d)|| !Nat.blt d 2000 then none else k ⟨.v false [.ref d 0],some z,none,none⟩
  | _,_=>none
 | .box t x=>match S.ev x,o.dst with
  | .v a cs,some d=>if S.cN d||cs.any (CV.cN d)|| !Nat.blt d 2000|| !Nat.beq cs.length (cB X.P t)||(a != xh X.P t)|| !cs.all CV.ok then none else k ⟨.v false [.ref d 0],some cs,none,none⟩
  | _,_=>none
 | .buildSlice t len parts=>if acu X o then TO X o t len parts S M k else match X.P.underlying t with
  | some (.slice e)=>match Mm X.P 9 e,zeroCells X.P e with
   | some ty,some _=>
    if !Nat.beq parts.size len|| !((parts.toList.map (·.1))==List.range len)|| !Nat.beq (cB X.P e) ty.size||Nat.beq ty.size 0|| !Nat.ble (len*ty.size) 16777216 then none else
    match GJ M ty (parts.toList.map fun p=>S.ev p.2) with
    | some l=>k ⟨.v false [.sl ty l],none,none,none⟩
    | none=>none
   | _,_=>none
  | _=>none
 | .makeSlice t l c=>match X.P.underlying t,o.dst,S.ev l,S.ev c with
  | some (.slice e),some d,.v false [.int _ l],.v false [.int _ c]=>match Mm X.P 9 e with
   | some ty=>match KX X.P e ty with
    | some z=>
     if S.bG d|| !Nat.blt d 2000|| !Nat.beq (cB X.P e) ty.size||Nat.beq ty.size 0 then none else
     chk (decide (0<=l)&&decide (l<=c)&&decide (((((X.P.info? e).map (·.bytes)).getD 0:Nat):Int)*c<=281474976710656)&&decide (c<=9223372036854775807)) (k ⟨.v false [.row d],none,some ⟨false,e,ty,List.replicate l.toNat z⟩,none⟩)
    | _=>none
   | _=>none
  | _,_,_,_=>none
 | .makeMap t none=>match X.P.underlying t,o.dst with
  | some (.map kt et),some d=>match Mm X.P 9 kt,Mm X.P 9 et with
   | some kk,some vv=>if S.bV d||S.bN d|| !jQ X.P kt kk|| !Nat.blt d 2000 then none else k ⟨.v false [.mp d],none,none,some (.map kk vv [])⟩
   | _,_=>none
  | _,_=>none
 | .call c=>match fL S c with
  | some (f,args)=>match look X.specs f with
   | some sp=>if agy sp.rs then (match o.dst with | some d=>Ul sp S M args d k | none=>none) else ZN sp M args fun s=>k ⟨s,none,none,none⟩
   | none=>Yg X S M f args o.dst k
  | none=>dY X o S M fun s=>k ⟨s,none,none,none⟩
 | _=>dY X o S M fun s=>k ⟨s,none,none,none⟩
def bE.beq:bE->bE->Bool
 | .inl a,.inl b=>Nat.beq a b
 | .inr a,.inr b=>Nat.beq a b
 | .ob a,.ob b=>Nat.beq a b
 | _,_=>false
def cq:List (bE×Nat)->bE->Option Nat
 | [],_=>none
 | (o,n)::r,x=>bif bE.beq o x then some n else cq r x
def BJ:List (bE×Nat)->Bool
 | []=>false
 | (o,_)::r=>(cq r o).isSome||BJ r
def s7 (n:Nat):CV->List (bE×Nat)
 | .row j=>[(.inr j,n)]
 | .mp j=>[(.ob j,n)]
 | _=>[]
def vm (n:Nat):List OT->List CV->List (bE×Nat)
 | .val t::r,cs=>vm (n+1) r (cs.drop t.size)
 | .row _ _::r,c::cs=>s7 n c++vm (n+1) r cs
 | .map _ _::r,c::cs=>s7 n c++vm (n+1) r cs
 | _,_=>[]
def nO (S:St) (i:Nat) (p:PM) (s:SV):List (bE×Nat):=
 match p with
 | .row _ _=>match yy s with | some c=>s7 (64*i) c | none=>[]
 | .mrow _ _=>match yy s with | some c=>s7 (64*i) c | none=>[]
 | .map _ _=>match yy s with | some c=>s7 (64*i) c | none=>[]
 | .box l=>match vj s with
  | some k=>(.inl k,64*i)::(match look S.boxes k with | some cs=>vm (64*i+1) l cs | none=>[])
  | none=>[]
 | .ar _=>[(.ob bQ,64*i)]
 | _=>[]
def iM (S:St):Nat->List PM->List SV->List (bE×Nat)
 | _,[],_=>[]
 | i,p::r,l=>(match (bif p.arg then l.head? else some (.v false [.any])) with
  | some s=>nO S i p s
  | none=>[])++iM S (i+1) r (bif p.arg then l.tail else l)
def mX:List PM->List SV->List SV
 | .val _::r,s::q=>s::mX r q
 | .ar _::r,q=>mX r q
 | .arR _::r,q=>mX r q
 | _::r,_::q=>mX r q
 | _,_=>[]
def xo:List OT->Bool
 | []=>true
 | .val t::r=>t.flat&&xo r
 | .row _ t::r=>t.flat&&xo r
 | .map k v::r=>k.flat&&v.flat&&xo r
def lF:List PM->Bool
 | []=>true
 | .mrow _ t::r=>t.flat&&lF r
 | .map k v::r=>k.flat&&v.flat&&lF r
 | .box l::r=>xo l&&lF r
 | .ar t::r=>t.flat&&lF r
 | _::r=>lF r
def mV:List RM->Bool
 | []=>true
 | .val t::r=>t.flat&&mV r
 | .row _ t::r=>t.flat&&mV r
 | .map k v::r=>k.flat&&v.flat&&mV r
 | .box l::r=>xo l&&mV r
def dup:List Nat->Bool
 | []=>false
 | x::r=>r.any (Nat.beq x)||dup r
def nid (d i c:Nat):Nat:=10000+2048*d+64*i+c
def ON (d i:Nat):Nat->(l:List OT)->rE l->List CV
 | _,[],_=>[]
 | c,.val t::r,x=>unpack t x.1++ON d i (c+1) r x.2
 | c,.row _ _::r,x=> .row (nid d i c)::ON d i (c+1) r x.2
 | c,.map _ _::r,x=> .mp (nid d i c)::ON d i (c+1) r x.2
def xq (d i:Nat):Nat->(l:List OT)->rE l->List (Nat×rY)
 | _,[],_=>[]
 | c,.val _::r,x=>xq d i (c+1) r x.2
 | c,.row e t::r,x=>(nid d i c,⟨false,e,t,x.1⟩)::xq d i (c+1) r x.2
 | c,.map _ _::r,x=>xq d i (c+1) r x.2
def qU (d i:Nat):Nat->(l:List OT)->rE l->List (Nat×vS)
 | _,[],_=>[]
 | c,.val _::r,x=>qU d i (c+1) r x.2
 | c,.row _ _::r,x=>qU d i (c+1) r x.2
 | c,.map k v::r,x=>(nid d i c,.map k v x.1)::qU d i (c+1) r x.2
def Fg (ps:List PM) (d:Nat):(rs:List RM)->Nat->dc ps rs->List (Bool×List CV)
 | [],_,_=>[]
 | .val t::r,c,x=>O9 t x.1::Fg ps d r (c+1) x.2
 | .row _ _::r,c,x=>(false,[.row (nid d (24+c) 0)])::Fg ps d r (c+1) x.2
 | .map _ _::r,c,x=>(false,[.mp (nid d (24+c) 0)])::Fg ps d r (c+1) x.2
 | .box _::r,c,x=>(false,[.ref d 0])::Fg ps d r (c+1) x.2
def xw (ps:List PM) (d:Nat):(rs:List RM)->Nat->dc ps rs->List (Nat×rY)
 | [],_,_=>[]
 | .val _::r,c,x=>xw ps d r (c+1) x.2
 | .row e t::r,c,x=>(nid d (24+c) 0,⟨false,e,t,x.1⟩)::xw ps d r (c+1) x.2
 | .map _ _::r,c,x=>xw ps d r (c+1) x.2
 | .box l::r,c,x=>xq d (24+c) 1 l x.1++xw ps d r (c+1) x.2
def pF (ps:List PM) (d:Nat):(rs:List RM)->Nat->dc ps rs->List (Nat×vS)
 | [],_,_=>[]
 | .val _::r,c,x=>pF ps d r (c+1) x.2
 | .row _ _::r,c,x=>pF ps d r (c+1) x.2
 | .map k v::r,c,x=>(nid d (24+c) 0,.map k v x.1)::pF ps d r (c+1) x.2
 | .box l::r,c,x=>qU d (24+c) 1 l x.1++pF ps d r (c+1) x.2
def xu (ps:List PM) (d:Nat):(rs:List RM)->Nat->dc ps rs->List (Nat×List CV)
 | [],_,_=>[]
 | .val _::r,c,x=>xu ps d r (c+1) x.2
 | .row _ _::r,c,x=>xu ps d r (c+1) x.2
 | .map _ _::r,c,x=>xu ps d r (c+1) x.2
 | .box l::r,c,x=>(d,ON d (24+c) 1 l x.1)::xu ps d r (c+1) x.2
def L3 (ps:List PM):(rs:List RM)->dc ps rs->ia ps
 | [],x=>x
 | _::r,x=>L3 ps r x.2
def HC:List RM->Nat
 | []=>0
 | .box _::r=>HC r+1
 | _::r=>HC r
def fN (d:Nat):Nat->(ps:List PM)->List SV->ia ps->List (Nat×List CV)
 | _,[],_,_=>[]
 | i,.box l::r,s::q,x=>(match vj s with | some k=>[(k,ON d i 1 l x.1)] | none=>[])++fN d (i+1) r q x.2
 | i,.mrow _ _::r,_::q,x=>fN d (i+1) r q x.2
 | i,.map _ _::r,_::q,x=>fN d (i+1) r q x.2
 | i,.ar _::r,q,x=>fN d (i+1) r q x.2
 | i,.val _::r,_::q,x=>fN d (i+1) r q x
 | i,.row _ _::r,_::q,x=>fN d (i+1) r q x
 | i,.arR _::r,q,x=>fN d (i+1) r q x
 | _,_::_,[],_=>[]
def kJ (d:Nat):Nat->(ps:List PM)->List SV->ia ps->List (Nat×rY)
 | _,[],_,_=>[]
 | i,.box l::r,s::q,x=>(match vj s with | some _=>xq d i 1 l x.1 | none=>[])++kJ d (i+1) r q x.2
 | i,.mrow e t::r,s::q,x=>(match OI s with | some (some j)=>[(j,⟨false,e,t,x.1⟩)] | _=>[])++kJ d (i+1) r q x.2
 | i,.map _ _::r,_::q,x=>kJ d (i+1) r q x.2
 | i,.ar _::r,q,x=>kJ d (i+1) r q x.2
 | i,.val _::r,_::q,x=>kJ d (i+1) r q x
 | i,.row _ _::r,_::q,x=>kJ d (i+1) r q x
 | i,.arR _::r,q,x=>kJ d (i+1) r q x
 | _,_::_,[],_=>[]
def fD (d:Nat):Nat->(ps:List PM)->List SV->ia ps->List (Nat×vS)
 | _,[],_,_=>[]
 | i,.box l::r,s::q,x=>(match vj s with | some _=>qU d i 1 l x.1 | none=>[])++fD d (i+1) r q x.2
 | i,.mrow _ _::r,_::q,x=>fD d (i+1) r q x.2
 | i,.map k v::r,s::q,x=>(match OH s with | some j=>[(j,.map k v x.1)] | _=>[])++fD d (i+1) r q x.2
 | i,.ar t::r,q,x=>(bQ,.ar false t x.1)::fD d (i+1) r q x.2
 | i,.val _::r,_::q,x=>fD d (i+1) r q x
 | i,.row _ _::r,_::q,x=>fD d (i+1) r q x
 | i,.arR _::r,q,x=>fD d (i+1) r q x
 | _,_::_,[],_=>[]
def CV.ni (a b:Nat):CV->Bool
 | .row j=>Nat.ble a j&&Nat.blt j b
 | .rp j _ _ _=>Nat.ble a j&&Nat.blt j b
 | .mp j=>Nat.ble a j&&Nat.blt j b
 | .stp j _=>Nat.ble a j&&Nat.blt j b
 | .kseq _ j=>Nat.ble a j&&Nat.blt j b
 | _=>false
def SV.ni (a b:Nat):SV->Bool
 | .v _ cs=>cs.any (CV.ni a b)
 | .tup l=>l.any fun p=>p.2.any (CV.ni a b)
def St.ni (a b:Nat) (S:St):Bool:=S.tmps.any (SV.ni a b)||S.boxes.any fun p=>p.2.any (CV.ni a b)
def Ht (d:Nat) (S:St):Bool:= !S.ni (nid d 0 0) (nid (d+1) 0 0)
def gR (d i:Nat):Nat->List OT->List (bE×Nat)
 | _,[]=>[]
 | c,.val _::r=>gR d i (c+1) r
 | c,.row _ _::r=>(.inr (nid d i c),64*i+c)::gR d i (c+1) r
 | c,.map _ _::r=>(.ob (nid d i c),64*i+c)::gR d i (c+1) r
def di (d:Nat):Nat->List PM->List SV->List (bE×Nat)
 | _,[],_=>[]
 | i,.box l::r,s::q=>(match vj s with | some k=>(.inl k,64*i)::gR d i 1 l | none=>[])++di d (i+1) r q
 | i,.mrow _ _::r,s::q=>(match OI s with | some (some j)=>[(.inr j,64*i)] | _=>[])++di d (i+1) r q
 | i,.map _ _::r,s::q=>(match OH s with | some j=>[(.ob j,64*i)] | _=>[])++di d (i+1) r q
 | i,.ar _::r,q=>(.ob bQ,64*i)::di d (i+1) r q
 | i,.val _::r,_::q=>di d (i+1) r q
 | i,.row _ _::r,_::q=>di d (i+1) r q
 | i,.arR _::r,q=>di d (i+1) r q
 | _,_::_,[]=>[]
def gp (d:Nat):Nat->List RM->List (bE×Nat)
 | _,[]=>[]
 | c,.val _::r=>gp d (c+1) r
 | c,.row _ _::r=>(.inr (nid d (24+c) 0),64*(24+c))::gp d (c+1) r
 | c,.map _ _::r=>(.ob (nid d (24+c) 0),64*(24+c))::gp d (c+1) r
 | c,.box l::r=>((.inl d,64*(24+c))::gR d (24+c) 1 l)++gp d (c+1) r
def C5:List PM->Bool
 | []=>false
 | .arR _::_=>true
 | _::r=>C5 r
def Ye (S:St) (l:List (bE×Nat)):Bool:=l.all fun p=>match p.1 with | .ob j=> !S.bN j | _=>true
def aex (d:Nat) (l:List (bE×Nat)):Bool:=l.all fun p=>match p.1 with
 | .inr j=> !(Nat.ble (nid d 0 0) j&&Nat.blt j (nid (d+1) 0 0))
 | .ob j=> !(Nat.ble (nid d 0 0) j&&Nat.blt j (nid (d+1) 0 0))
 | .inl _=>true
def u6 (sp:ay) (S:St) (args:List SV) (d:Option Tmp) (k:St->Option β):Option β:=
 let va:=mX sp.ps args
 let js:=iK S va
 let V:=aX S js
 let ow:=iM S 0 sp.ps args
 let fb:=mB S va
 let dd:=d.getD 0
 let fl:=mV sp.rs&&lF sp.ps
 let its:=di dd 0 sp.ps args++gp dd 0 sp.rs
 if BJ ow||BJ its||dup (its.map (·.2))|| !(its.all fun p=>Nat.blt p.2 2048)||(fb.any fun k=>(cq ow (.inl k)).isSome)||(js.any fun j=>(cq ow (.inr j)).isSome)||(C5 sp.ps&&(cq ow (.ob bQ)).isSome)|| !Ht dd S|| !aex dd ow|| !Ye S its||
  !(fl||(fb.isEmpty&& !C5 sp.ps))||(Nat.blt 0 (HC sp.rs)&&(S.cN dd||d.isNone))|| !Nat.blt dd 2000 then none else
 match lQ V fb sp.ps args with
 | some x=>(sp.m x).bind fun y=>
  let R:=if fl then S else V
  let b:=L3 sp.ps sp.rs y
  k { tmps:=match d with | some d=>S.tmps.set d (KP (Fg sp.ps dd sp.rs 0 y)) | none=>S.tmps,
      boxes:=xu sp.ps dd sp.rs 0 y++(fN dd 0 sp.ps args b++S.boxes.filter fun p=>(cq ow (.inl p.1)).isNone),
      rows:=xw sp.ps dd sp.rs 0 y++(kJ dd 0 sp.ps args b++R.rows.filter fun p=>(cq ow (.inr p.1)).isNone),
      objs:=pF sp.ps dd sp.rs 0 y++(fD dd 0 sp.ps args b++S.objs.filter fun p=>(cq ow (.ob p.1)).isNone) }
 | none=>none
def Gu {α:Type} (a:Option α) (k:α->Option β) (e:Option β):Option β:=
 match a with
 | some y=>k y
 | none=>e
def Rc (sp:ay) (S:St) (args:List SV) (d:Option Tmp) (k:St->Option β) (e:Option β):Option β:=
 let va:=mX sp.ps args
 let js:=iK S va
 let V:=aX S js
 let ow:=iM S 0 sp.ps args
 let fb:=mB S va
 let dd:=d.getD 0
 let fl:=mV sp.rs&&lF sp.ps
 let its:=di dd 0 sp.ps args++gp dd 0 sp.rs
 if BJ ow||BJ its||dup (its.map (·.2))|| !(its.all fun p=>Nat.blt p.2 2048)||(fb.any fun k=>(cq ow (.inl k)).isSome)||(js.any fun j=>(cq ow (.inr j)).isSome)||(C5 sp.ps&&(cq ow (.ob bQ)).isSome)|| !Ht dd S|| !aex dd ow|| !Ye S its||
  !(fl||(fb.isEmpty&& !C5 sp.ps))||(Nat.blt 0 (HC sp.rs)&&(S.cN dd||d.isNone))|| !Nat.blt dd 2000 then none else
 match lQ V fb sp.ps args with
 | some x=>Gu (sp.m x) (fun y=>
  let R:=if fl then S else V
  let b:=L3 sp.ps sp.rs y
  k { tmps:=match d with | some d=>S.tmps.set d (KP (Fg sp.ps dd sp.rs 0 y)) | none=>S.tmps,
      boxes:=xu sp.ps dd sp.rs 0 y++(fN dd 0 sp.ps args b++S.boxes.filter fun p=>(cq ow (.inl p.1)).isNone),
      rows:=xw sp.ps dd sp.rs 0 y++(kJ dd 0 sp.ps args b++R.rows.filter fun p=>(cq ow (.inr p.1)).isNone),
      objs:=pF sp.ps dd sp.rs 0 y++(fD dd 0 sp.ps args b++S.objs.filter fun p=>(cq ow (.ob p.1)).isNone) }) e
 | none=>none
def Ag {α:Type}:List (Nat×α)->Nat->List α
 | [],_=>[]
 | (j,x)::r,k=>bif Nat.beq j k then x::Ag r k else Ag r k
def D7 (S:St) (args:List SV) (d:Option Tmp) (k:St->Option β):List ay->Option β
 | []=>none
 | [sp]=>u6 sp S args d k
 | sp::sp'::r=>Rc sp S args d k (D7 S args d k (sp'::r))
def Si (S:St) (e:TypeId) (ty:Ty):CV->Option (List ty.den×Option Nat)
 | .nils=>some ([],none)
 | .row j=>match look S.rows j with
  | some q=>if q.fz|| !Nat.beq q.e e then none else (match ym (b:=ty) q.l with | some l=>some (l,some j) | none=>none)
  | none=>none
 | _=>none
def Nt (S:St) (ty:Ty):CV->Option (List ty.den)
 | .nils=>some []
 | .sl _ l=>ym (b:=ty) l
 | .row j=>match look S.rows j with
  | some q=>ym (b:=ty) q.l
  | none=>none
 | _=>none
def zO (P:Program) (t:TypeId) (S:St) (b off:Nat) (cs:List CV) (k:St->Option β):Option β:=
 match look S.boxes b with
 | some l=>if okT P t&&Nat.beq cs.length (cB P t)&&cs.all CV.ok then (match setAt l off cs with
  | some l=>k { S with boxes:=(b,l)::S.boxes }
  | none=>none) else none
 | none=>none
def Et (P:Program) (t:TypeId) (S:St) (j sz i off:Nat) (cs:List CV) (k:St->Option β):Option β:=
 match look S.rows j with
 | some q=>if q.fz|| !Nat.beq sz q.t.size|| !okT P t|| !Nat.beq cs.length (cB P t)|| !cs.all CV.ok then none else
  (q.l[i]?).bind fun y=>match setAt (unpack q.t y) off cs with
  | some cs=>match lP (pack S q.t cs) with
   | some y=>k { S with rows:=(j,{ q with l:=q.l.set i y })::S.rows }
   | none=>none
  | none=>none
 | none=>none
def GL (P:Program) (t:TypeId) (S:St) (h off:Nat) (cs:List CV) (k:St->Option β):Option β:=
 match look S.objs bQ with
 | some (.ar false ty l)=>if !okT P t|| !Nat.beq cs.length (cB P t)|| !cs.all CV.ok then none else
  (l[h]?).bind fun y=>match setAt (unpack ty y) off cs with
  | some cs=>match lP (pack S ty cs) with
   | some y=>k { S with objs:=(bQ,.ar false ty (l.set h y))::S.objs }
   | none=>none
  | none=>none
 | _=>none
def CV.BD (k h:Nat):CV->CV
 | .ref j o=>bif Nat.beq j k then .hnd (some h) o else .ref j o
 | c=>c
def SV.BD (k h:Nat):SV->SV
 | .v a cs=> .v a (cs.map (CV.BD k h))
 | .tup l=> .tup (l.map fun p=>(p.1,p.2.map (CV.BD k h)))
def CV.LF (k:Nat):CV->Bool
 | .fn _ ks=>ks.any (Nat.beq · k)
 | _=>false
def SV.LF (k:Nat):SV->Bool
 | .v _ cs=>cs.any (CV.LF k)
 | .tup l=>l.any fun p=>p.2.any (CV.LF k)
def St.LF (k:Nat) (S:St):Bool:=S.tmps.any (SV.LF k)||S.boxes.any fun p=>p.2.any (CV.LF k)
def GF (S0:St) (k:Nat):St:=
 match look S0.objs bQ,look S0.boxes k with
 | some (.ar false t l),some cs=>
  let S:=aX S0 (kP cs)
  if S.LF k|| !Nat.blt k 2000 then S0 else
  match lP (pack S t cs) with
  | some x=>
   { tmps:=S.tmps.map (SV.BD k l.length),boxes:=(S.boxes.filter fun p=> !Nat.beq p.1 k).map (fun p=>(p.1,p.2.map (CV.BD k l.length))),rows:=S.rows,objs:=(bQ,.ar false t (l++[x]))::S.objs }
  | none=>S0
 | _,_=>S0
def acW (cs:List CV):List Nat:=cs.filterMap fun | .ref k o=>(if Nat.beq o 0 then some k else none) | _=>none
def mZ (S:St):List SV->St
 | []=>S
 | .v _ cs::r=>mZ ((acW cs).foldl GF S) r
 | .tup _::r=>mZ S r
def Ec (S:St) (d:Option Tmp):St:=
 match d with
 | some d=>(match S.tmps.getD d (.v false [.any]) with
  | .v false [.ref k _]=>bif Nat.beq k d then { S with tmps:=S.tmps.set d (.v false [.any]) } else S
  | _=>S)
 | none=>S
def Pj (E:BH) (S:St) (args:List SV) (d:Option Tmp) (k:St->Option β):Option β:=
 match E with
 | .elt lo nb tb te m=>match args with
  | [.v false [.ref kb o],.v false [.rp j sz i off]]=>
   if !Nat.beq o 0|| !Nat.beq off 0 then none else
   match look S.boxes kb,look S.rows j with
   | some cs,some q=>
    if q.fz|| !Nat.beq sz te.size|| !Nat.beq cs.length nb then none else
    match cs[lo]? with
    | some (.sl _ l)=>match ym (b:=tb) l,ym (b:=te) q.l with
     | some l,some ql=>(m l ql i).bind fun ql'=>k ((⟨S.tmps,(kb,cs)::S.boxes,(j,⟨false,q.e,te,ql'⟩)::S.rows,S.objs⟩:St).put d (.v false [.any]))
     | _,_=>none
    | _=>none
   | _,_=>none
  | _=>none
 | .nest p sp=>match args[p]? with
  | some (.v false [.ref km o])=>
   if !Nat.beq o 0|| !S.cN km then none else
   match look S.boxes km with
   | some [.ref kk o2]=>
    if !Nat.beq o2 0||inL (mB S (mX sp.ps (args.set p (.v false [.ref kk 0])))) km||(cq (iM S 0 sp.ps (args.set p (.v false [.ref kk 0]))) (.inl km)).isSome then none else
    u6 sp S (args.set p (.v false [.ref kk 0])) d fun S'=>match look S'.boxes km with
     | some [.ref k' o']=>if Nat.beq k' kk&&Nat.beq o' 0&&S.cN kk then k S' else none
     | _=>none
   | _=>none
  | _=>none
 | _=>none
def BH.aev:BH->Bool
 | .elt _ _ _ _ _=>true
 | .nest _ _=>true
 | _=>false
def dV (X:Cx) (o:Oper) (S:St) (k:St->Option β):Option β:=
 match o.op with
 | .store t a x=>if o.dst.isSome then none else match S.ev a,S.ev x with
  | .v false [.ref b off],.v _ cs=>zO X.P t S b off cs k
  | .v false [.rp j sz i off],.v _ cs=>Et X.P t (aX S (kP cs)) j sz i off cs k
  | .v false [.hnd (some h) off],.v _ cs=>GL X.P t (aX S (kP cs)) h off cs k
  | _,_=>none
 | .mapUpdate t m kx x=>if o.dst.isSome then none else
  let S:=mZ (aX S (FO [S.ev x])) [S.ev x]
  match X.P.underlying t,S.ev m with
  | some (.map kt _),.v false [.mp j]=>match look S.objs j with
   | some (.map kk vv l)=>match pG S [] kk (S.ev kx),pG S [] vv (S.ev x) with
    | some key,some y=>if jQ X.P kt kk&& !S.bN j then k { S with objs:=(j,.map kk vv (jG l key y))::S.objs } else none
    | _,_=>none
   | _=>none
  | _,_=>none
 | .slice _ x _ _ _=>
  let S:=aX S (FO [S.ev x])
  gz X o S S fun x=>k (S.app o.dst x)
 | .alloc _=>gz X o (Ec S o.dst) (Ec S o.dst) fun x=>k ((Ec S o.dst).app o.dst x)
 | .call { callee:= .builtin .append,args,argTypes }=>match args.toList.map S.ev,argTypes.toList,o.dst with
  | [.v false [s],.v false [x]],[t,t'],some d=>match X.P.underlying t with
   | some (.slice e)=>match Mm X.P 9 e,zeroCells X.P e with
    | some ty,some zc=>
     if S.bG d|| !Nat.blt d 2000|| !Nat.beq t t'|| !Nat.beq (cB X.P e) ty.size||Nat.beq ty.size 0|| !Nat.beq zc.length ty.size then none else
     match Si S e ty s,Nt S ty x with
     | some (l,j),some l'=>
      chk (decide ((l.length+l'.length)*(((X.P.info? e).map (·.bytes)).getD 0)<=140737488355328)&&decide (l.length+l'.length<=maxLen))
       (k { tmps:=S.tmps.set d (.v false [.row d]),boxes:=S.boxes,rows:=(d,⟨false,e,ty,l++l'⟩)::(match j with | some j=>S.rows.filter (fun p=> !Nat.beq p.1 j) | none=>S.rows),objs:=S.objs })
     | _,_=>none
    | _,_=>none
   | _=>none
  | _,_,_=>none
 | .buildSlice t len parts=>
  let S:=mZ (aX S (FO (parts.toList.map fun p=>S.ev p.2))) (parts.toList.map fun p=>S.ev p.2)
  TO X o t len parts S S fun x=>k (S.app o.dst x)
 | .call c=>match fL S c with
  | some (f,args)=>match look X.keys f with
   | some kf=>if kf.aev then Pj kf S args o.dst k else gz X o S S fun x=>k (S.app o.dst x)
   | none=>D7 S args o.dst k (Ag X.specs f)
  | none=>gz X o S S fun x=>k (S.app o.dst x)
 | _=>gz X o S S fun x=>k (S.app o.dst x)
def guardOf (ops:List Oper) (o:Oper) (S:St):Option (Option (Nat×Bool×Bool)):=
 match o.guard with
 | none=>some none
 | some (j,want)=>match ops[j]? with
  | some g=>match g.dst with
   | some d=>match S.ev (.tmp d) with
    | .v false [.bool b]=>some (some (d,b,want))
    | _=>none
   | none=>none
  | none=>none
def rR (ops:List Oper) (o:Oper) (S:St):Bool:=
 match o.guard with
 | none=>false
 | some (j,_)=>match ops[j]? with
  | some g=>match g.dst with
   | some d=>match S.ev (.tmp d) with
    | .tup []=>true
    | _=>false
   | none=>false
  | none=>false
def wU:SV:= .tup []
def fork (S:St) (d:Nat) (b want:Bool) (yes no:St->Option β):Option β:=
 bif want then (bif b then yes (S.put (some d) (.v false [.bool true])) else no (S.put (some d) (.v false [.bool false])))
 else (bif b then no (S.put (some d) (.v false [.bool true])) else yes (S.put (some d) (.v false [.bool false])))
def qX (X:Cx) (ops:List Oper):List Oper->St->(St->Option β)->Option β
 | [],S,k=>k S
 | o::rest,S,k=>match guardOf ops o S with
  | none=>bif rR ops o S then qX X ops rest (S.put o.dst wU) k else none
  | some none=>dV X o S fun S=>qX X ops rest S k
  | some (some (d,b,want))=>fork S d b want (fun S=>dV X o S fun S=>qX X ops rest S k)
   fun S=>qX X ops rest (S.put o.dst wU) k
def Ve (S:St) (t:Ty):Option (List t.den):=
 match look S.objs bQ with
 | some (.ar true _ l)=>ym (b:=t) l
 | _=>none
def bM (S:St):(cs:List CK)->List CV->Option (dO cs)
 | [],[]=>some ()
 | [],_::_=>none
 | .val t::r,cvs=>match pack S t cvs with
  | some (x,q)=>match bM S r q with
   | some y=>some (x,y)
   | none=>none
  | none=>none
 | .own e t::r,c::q=>match mH S e t c,bM S r q with
  | some l,some y=>some (l,y)
  | _,_=>none
 | .own _ _::_,[]=>none
 | .map kk vv::r,c::q=>match uz S kk vv c,bM S r q with
  | some l,some y=>some (l,y)
  | _,_=>none
 | .map _ _::_,[]=>none
 | .ref k off::r,c::q=>match c with
  | .ref k' off'=>if Nat.beq k k'&&Nat.beq off off' then bM S r q else none
  | _=>none
 | .ref _ _::_,[]=>none
 | .fn g ks::r,c::q=>match c with
  | .fn g' ks'=>if Nat.beq g g'&&ks==ks' then bM S r q else none
  | _=>none
 | .fn _ _::_,[]=>none
 | .ar t::r,q=>match A7 S false t,bM S r q with
  | some l,some y=>some (l,y)
  | _,_=>none
 | .arF t::r,q=>match Ve S t,bM S r q with
  | some l,some y=>some (l,y)
  | _,_=>none
 | .rowR j::r,c::q=>match c with
  | .row j'=>if Nat.beq j j' then bM S r q else none
  | _=>none
 | .rowR _::_,[]=>none
 | .rpR j sz::r,c::q=>match c with
  | .rp j' sz' i off=>if Nat.beq j j'&&(Nat.beq sz sz'&&Nat.beq off 0) then (match bM S r q with
   | some y=>some (i,y)
   | none=>none) else none
  | _=>none
 | .rpR _ _::_,[]=>none
 | .mapR j::r,c::q=>match c with
  | .mp j'=>if Nat.beq j j' then bM S r q else none
  | _=>none
 | .mapR _::_,[]=>none
 | .rowC j e t::r,q=>match mH S e t (.row j),bM S r q with
  | some l,some y=>some (l,y)
  | _,_=>none
 | .mapC j k v::r,q=>match uz S k v (.mp j),bM S r q with
  | some l,some y=>some (l,y)
  | _,_=>none
def CK.agg:CK->Bool
 | .val (.st _)=>true
 | _=>false
def O4 (S:St):List (Nat×CK)->Option (List CV)
 | []=>some []
 | p::r=>match S.tmps.getD p.1 (.v false [.any]) with
  | .v a cs=>match O4 S r with
   | some l=>if (a==p.2.agg)&&(Nat.beq cs.length p.2.size&&(a||Nat.beq p.2.size 1)) then some (cs++l) else none
   | none=>none
  | _=>none
def Ny (S:St):List (Nat×List CK)->Option (List CV)
 | []=>some []
 | p::r=>match look S.boxes p.1 with
  | some cs=>if Nat.beq cs.length (sK p.2) then (match Ny S r with
   | some l=>some (cs++l)
   | none=>none) else none
  | none=>none
def St.places (S:St) (A:Ann):Option (List CV):=
 match O4 S A.tmps,Ny S A.boxes with
 | some a,some b=>some (a++b)
 | _,_=>none
def carried (base:Nat):List CK->List CV->List (bE×Nat)
 | .val t::r,cvs=>carried base r (cvs.drop t.size)
 | .own _ _::r,c::q=>s7 base c++carried (base+1) r q
 | .map _ _::r,c::q=>s7 base c++carried (base+1) r q
 | .ref _ _::r,_::q=>carried base r q
 | .fn _ _::r,_::q=>carried base r q
 | .ar _::r,q=>(.ob bQ,bQ)::carried base r q
 | .arF _::r,q=>carried base r q
 | .rowR _::r,_::q=>carried base r q
 | .rpR _ _::r,_::q=>carried base r q
 | .mapR _::r,_::q=>carried base r q
 | .rowC j _ _::r,q=>(.inr j,j)::carried base r q
 | .mapC j _ _::r,q=>(.ob j,j)::carried base r q
 | _,_=>[]
def fO:Nat:=4000
def sg:List CK->Nat
 | []=>0
 | .own _ _::r=>sg r+1
 | .map _ _::r=>sg r+1
 | _::r=>sg r
def CK.yx (n:Nat):CK->Bool
 | .rowR j=>Nat.blt j fO||Nat.ble (fO+n) j
 | .rpR j _=>Nat.blt j fO||Nat.ble (fO+n) j
 | .rowC j _ _=>Nat.blt j fO||Nat.ble (fO+n) j
 | .mapR j=>Nat.blt j fO||Nat.ble (fO+n) j
 | .mapC j _ _=>Nat.blt j fO||Nat.ble (fO+n) j
 | _=>true
def XC (A:Ann) (S:St):Option (dO A.cks):=
 match S.places A with
 | some cvs=>if !A.cks.all (CK.yx (sg A.cks))|| !Nat.blt A.cks.length 1000||BJ (carried fO A.cks cvs)||dup ((carried fO A.cks cvs).map (·.2)) then none else bM S A.cks cvs
 | none=>none
def Og:List CK->List CV->List Nat
 | .val t::r,cvs=>kP (cvs.take t.size)++Og r (cvs.drop t.size)
 | .ar _::r,q=>Og r q
 | .arF _::r,q=>Og r q
 | .rowC _ _ _::r,q=>Og r q
 | .mapC _ _ _::r,q=>Og r q
 | _::r,_::q=>Og r q
 | _,_=>[]
def carry (A:Ann) (S:St):Option (dO A.cks):=
 match S.places A with
 | some cvs=>XC A (aX S (Og A.cks cvs))
 | none=>none
def qM (base:Nat):(cs:List CK)->dO cs->List CV
 | [],_=>[]
 | .val t::r,x=>unpack t x.1++qM base r x.2
 | .own _ _::r,x=> .row base::qM (base+1) r x.2
 | .map _ _::r,x=> .mp base::qM (base+1) r x.2
 | .ref k off::r,x=> .ref k off::qM base r x
 | .fn g ks::r,x=> .fn g ks::qM base r x
 | .ar _::r,x=>qM base r x.2
 | .arF _::r,x=>qM base r x.2
 | .rowR j::r,x=> .row j::qM base r x
 | .rpR j sz::r,x=> .rp j sz x.1 0::qM base r x.2
 | .mapR j::r,x=> .mp j::qM base r x
 | .rowC _ _ _::r,x=>qM base r x.2
 | .mapC _ _ _::r,x=>qM base r x.2
def jq (base:Nat):(cs:List CK)->dO cs->List (Nat×rY)
 | [],_=>[]
 | .val _::r,x=>jq base r x.2
 | .own e t::r,x=>(base,⟨false,e,t,x.1⟩)::jq (base+1) r x.2
 | .map _ _::r,x=>jq (base+1) r x.2
 | .ref _ _::r,x=>jq base r x
 | .fn _ _::r,x=>jq base r x
 | .ar _::r,x=>jq base r x.2
 | .arF _::r,x=>jq base r x.2
 | .rowR _::r,x=>jq base r x
 | .rpR _ _::r,x=>jq base r x.2
 | .mapR _::r,x=>jq base r x
 | .rowC j e t::r,x=>(j,⟨false,e,t,x.1⟩)::jq base r x.2
 | .mapC _ _ _::r,x=>jq base r x.2
def eH (base:Nat):(cs:List CK)->dO cs->List (Nat×vS)
 | [],_=>[]
 | .val _::r,x=>eH base r x.2
 | .own _ _::r,x=>eH (base+1) r x.2
 | .map k v::r,x=>(base,.map k v x.1)::eH (base+1) r x.2
 | .ref _ _::r,x=>eH base r x
 | .fn _ _::r,x=>eH base r x
 | .ar t::r,x=>(bQ,.ar false t x.1)::eH base r x.2
 | .arF t::r,x=>(bQ,.ar true t x.1)::eH base r x.2
 | .rowR _::r,x=>eH base r x
 | .rpR _ _::r,x=>eH base r x.2
 | .mapR _::r,x=>eH base r x
 | .rowC _ _ _::r,x=>eH base r x.2
 | .mapC j k v::r,x=>(j,.map k v x.1)::eH base r x.2
def Fk:List (Nat×CK)->List CV->List SV->List SV
 | p::r,q,tmps=>Fk r (q.drop p.2.size) (tmps.set p.1 (.v p.2.agg (q.take p.2.size)))
 | [],_,tmps=>tmps
def Nx:List (Nat×List CK)->List CV->List (Nat×List CV)
 | p::r,cs=>(p.1,cs.take (sK p.2))::Nx r (cs.drop (sK p.2))
 | [],_=>[]
def head (A:Ann) (n:Nat) (x:dO A.cks):St:=
 let cvs:=qM fO A.cks x
 { tmps:=Fk A.tmps cvs (List.replicate n (.v false [.any])),
   boxes:=Nx A.boxes (cvs.drop (sK (A.tmps.map (·.2)))),
   rows:=jq fO A.cks x,
   objs:=eH fO A.cks x }
inductive Ex where
 | normal
 | exit (id:Nat)
 | ret
def nT:Code->Nat
 | .region id _ _=>id
 | .seq a _=>nT a
 | .block _ c=>nT c
 | .loop c=>nT c
 | .scope c=>nT c
 | .cond _ a _=>nT a
 | _=>0
structure Msk where
 m:Nat
def inM (s:Msk) (j:Nat):Bool:=Nat.beq (Nat.land (Nat.shiftRight s.m j) 1) 1
def m0:Msk:=⟨0⟩
instance:Membership Nat Msk:=⟨fun s j=>inM s j=true⟩
def sP (acc:List Msk) (es:List Edge):Msk:=
 match es with
 | []=>m0
 | e::r=>bif Region.binds .any e then ⟨Nat.lor (Nat.lor (Nat.shiftLeft 1 e.on) (acc.getD e.on m0).m) (sP acc r).m⟩ else sP acc r
def xd:List Oper->List Msk->List Msk
 | [],acc=>acc
 | o::r,acc=>xd r (acc++[sP acc o.after.toList])
def deps (ops:List Oper):List Msk:=xd ops []
def B6 (ds:List Msk) (k:Nat):Bool:=(List.range k).all fun j=>inM (ds.getD k m0) j
def HV (ds:List Msk):Nat->Nat
 | 0=>0
 | k+1=>if B6 ds k then HV ds k else k+1
def mask (n N:Nat):Array Bool:=(List.replicate n true++List.replicate (N - n) false).toArray
def cA (ops:List Oper) (j:Nat):Option Nat:=match ops[j]? with | some p=>p.dst | none=>none
def SN (t:Nat) (m:Msk):List (Option Nat)->Nat->Bool
 | [],_=>true
 | d::r,j=>((match d with | some d=> !Nat.beq d t | none=>true)||inM m j)&&SN t m r (j+1)
def Kb (t i:Nat) (m:Msk) (ds:List Msk):List (Option Nat)->Nat->Bool
 | [],_=>true
 | d::r,j=>((match d with | some d=> !Nat.beq d t | none=>true)||(inM m j||inM (ds.getD j m0) i))&&Kb t i m ds r (j+1)
def Kn (ops:List Oper) (ds:List Msk) (n:Nat):Bool:=
 let dl:=(ops.take n).map (·.dst)
 !dup ((ops.take n).filterMap (·.dst))&&(List.range n).all fun i=>match ops[i]? with
  | some o=>o.dst.isSome&&((o.looksAt ops.toArray).all fun t=>SN t (ds.getD i m0) dl 0)
  | none=>false
def oE (ops:List Oper):Bool:=(List.range ops.length).all fun i=>match ops[i]? with
 | some o=>o.after.toList.all fun e=> !Region.binds .any e||Nat.blt e.on i
 | none=>true
def Ka (ops:List Oper) (n:Nat):Bool:=
 let ds:=deps ops
 Nat.ble n ops.length&&Kn ops ds n&&((List.range ops.length).all fun k=>Nat.blt k n||B6 ds k)&&oE ops&&Region.seqB .any ops.toArray (ops.length - n) n (mask n ops.length)
def CV.ez (d:Nat) (c:CV):Bool:=c.cN d||(c.bG d||(c.bV d||c.bN d))
def SV.ez (d:Nat):SV->Bool
 | .v _ cs=>cs.any (CV.ez d)
 | .tup l=>l.any fun p=>p.2.any (CV.ez d)
def St.ez (d:Nat) (S:St):Bool:=S.tmps.any (SV.ez d)||S.boxes.any fun p=>p.2.any (CV.ez d)
def Vk (Sn:St) (d dj:Nat):Bool:=
 (Sn.tmps.getD dj (.v false [.any])).ez d||(match look Sn.boxes dj with | some cs=>cs.any (CV.ez d) | none=>false)
def aaR:CV->List Nat
 | .ref j _=>[j]
 | .fn _ ks=>ks
 | .row j=>[j]
 | .rp j _ _ _=>[j]
 | .mp j=>[j]
 | .stp j _=>[j]
 | .kseq _ j=>[j]
 | _=>[]
def Hz:List CV->List Nat
 | []=>[]
 | c::r=>aaR c++Hz r
def Xc:List (Bool×List CV)->List Nat
 | []=>[]
 | c::r=>Hz c.2++Xc r
def aaS:SV->List Nat
 | .v _ cs=>Hz cs
 | .tup l=>Xc l
def Te:List SV->List Nat
 | []=>[]
 | c::r=>aaS c++Te r
def Xb:List (Nat×List CV)->List Nat
 | []=>[]
 | c::r=>c.1::(Hz c.2++Xb r)
def Tl {α:Type}:List (Nat×α)->List Nat
 | []=>[]
 | c::r=>c.1::Tl r
def St.ids (S:St):List Nat:=Te S.tmps++(Xb S.boxes++(Tl S.rows++Tl S.objs))
def Xa (Sn:St) (dj:Nat):List Nat:=aaS (Sn.tmps.getD dj (.v false [.any]))++(match look Sn.boxes dj with | some cs=>Hz cs | none=>[])
def Fe (ops:List Oper) (n:Nat) (S Sn:St):Bool:=
 let ds:=deps ops
 let hs:=S.ids
 ((ops.take n).all fun o=>match o.dst with | some d=> !inL hs d | none=>false)&&
 (List.range n).all fun j=>match cA ops j with
   | some dj=>(Xa Sn dj).all fun a=>(List.range n).all fun i=>Nat.beq i j||(inM (ds.getD j m0) i||(match cA ops i with | some d=> !Nat.beq d a | none=>true))
   | none=>true
def xM (X:Cx) (ops:List Oper) (M:St):List Oper->St->(St->Option β)->Option β
 | [],S,k=>k S
 | o::rest,S,k=>match guardOf ops o S with
  | none=>bif rR ops o S then xM X ops M rest (S.put o.dst wU) k else none
  | some none=>gz X o S M fun x=>xM X ops M rest (S.app o.dst x) k
  | some (some (d,b,want))=>fork S d b want (fun S=>gz X o S M fun x=>xM X ops M rest (S.app o.dst x) k)
   fun S=>xM X ops M rest (S.put o.dst wU) k
def Pu:Op->Bool
 | .store _ _ _=>true
 | _=>false
def Cc:Op->Bool
 | .move _=>true
 | .assign _=>true
 | .binOp _ _ _ _ _=>true
 | _=>false
def zb:Op->Bool
 | .makeSlice _ _ _=>true
 | _=>false
def zh:St:=⟨[],[],[],[]⟩
def acr (ops:List Oper) (ds:List Msk) (m:Nat):Bool:=match ops[m]? with
 | some o=>Pu o.op&&o.guard.isNone&&o.dst.isNone&&((List.range m).all fun i=>inM (ds.getD m m0) i||(match ops[i]? with | some p=>Cc p.op&&p.guard.isNone | none=>false))&&
  ((o.looksAt ops.toArray).all fun t=>(List.range m).all fun j=>if cA ops j==some t then inM (ds.getD m m0) j else true)
 | none=>false
def XU (ops:List Oper) (m:Nat):Bool:=
 let ds:=deps ops
 Nat.ble (m+1) ops.length&&Kn ops ds m&&((List.range ops.length).all fun k=>Nat.blt k (m+1)||B6 ds k)&&oE ops&&Region.seqB .any ops.toArray (ops.length - (m+1)) (m+1) (mask (m+1) ops.length)&&acr ops ds m
def ZZ (ops:List Oper) (ds:List Msk) (m:Nat):Bool:=match ops[m]? with
 | some o=>Pu o.op&&o.guard.isNone&&o.dst.isNone&&((List.range m).all fun i=>inM (ds.getD m m0) i||(match ops[i]? with | some p=>(Cc p.op||zb p.op)&&p.guard.isNone | none=>false))&&
  ((o.looksAt ops.toArray).all fun t=>(List.range m).all fun j=>if cA ops j==some t then inM (ds.getD m m0) j else true)
 | none=>false
def XV (ops:List Oper) (m:Nat):Bool:=
 let ds:=deps ops
 Nat.ble (m+1) ops.length&&Kn ops ds m&&((List.range ops.length).all fun k=>Nat.blt k (m+1)||B6 ds k)&&oE ops&&Region.seqB .any ops.toArray (ops.length - (m+1)) (m+1) (mask (m+1) ops.length)&&ZZ ops ds m
def Ox (ops:List Oper) (m:Nat):List Nat:=(List.range m).filterMap fun i=>match ops[i]? with
 | some p=>if zb p.op&& !inM ((deps ops).getD m m0) i then p.dst else none
 | none=>none
def BP:Op->Bool
 | .call { callee:= .builtin .append, .. }=>true
 | _=>false
def nU:List PM->Bool
 | []=>true
 | .val _::r=>nU r
 | .row _ _::r=>nU r
 | _=>false
def aa6:List RM->Bool
 | [.row _ _]=>true
 | _=>false
def Ko (X:Cx):Op->Bool
 | .call c=>match c.callee with
  | .value (.func g)=>(match look X.keys g with
   | none=>(match Ag X.specs g with
    | [sp]=>nU sp.ps&&(!sp.ps.all PM.isVal&&aa6 sp.rs)
    | _=>false)
   | some _=>false)
  | _=>false
 | _=>false
def isApp (X:Cx) (op:Op):Bool:=BP op||Ko X op
def Pn (hs:List Nat) (d:Nat):Bool:=hs.all fun j=> !(Nat.ble (nid d 0 0) j&&Nat.blt j (nid (d+1) 0 0))
def Ac (A:Op->Bool):List Oper->Nat
 | []=>0
 | o::r=>bif Pu o.op||A o.op then 0 else Nat.succ (Ac A r)
def agm:Op->Bool
 | .assign _=>true
 | _=>false
def LD:List Oper->Nat
 | []=>0
 | o::r=>bif agm o.op then 0 else Nat.succ (LD r)
def afW (ops:List Oper) (t:Nat):Option Oper:=ops.find? (fun o=>match o.dst with | some d=>Nat.beq d t | none=>false)
def R7 (ops:List Oper):Nat->Operand->Bool
 | 0,_=>false
 | f+1,.tmp t=>match afW ops t with
  | some o=>(match o.op with | .indexAddr _ _ _=>true | .fieldAddr _ x _=>R7 ops f x | .nilCheck x=>R7 ops f x | .move x=>R7 ops f x | _=>false)
  | none=>false
 | _+1,_=>false
def JK (ops:List Oper) (S:St):Nat->Operand->Option Nat
 | 0,_=>none
 | f+1,.tmp t=>match afW ops t with
  | some o=>(match o.op with | .fieldAddr _ x _=>JK ops S f x | .nilCheck x=>JK ops S f x | .move x=>JK ops S f x | .alloc _=>some t | _=>none)
  | none=>(match S.ev (.tmp t) with | .v false [.ref b _]=>some b | _=>none)
 | _+1,_=>none
def aaC:Op->Option Operand
 | .store _ a _=>some a
 | _=>none
structure Touch where
 rt:Bool
 bs:Option (List Nat)
def eY (A:Op->Bool) (ops:List Oper) (S:St):List Oper->Touch
 | []=>⟨false,some []⟩
 | o::r=>match aaC o.op with
  | some a=>bif R7 ops 9 a then ⟨true,(eY A ops S r).bs⟩ else (match JK ops S 9 a with
   | some b=>⟨(eY A ops S r).rt,(match (eY A ops S r).bs with | some l=>some (b::l) | none=>none)⟩
   | none=>⟨true,none⟩)
  | none=>bif A o.op then ⟨true,(eY A ops S r).bs⟩ else eY A ops S r
def rz (t:Touch) (k:Nat):Bool:=match t.bs with
 | some l=> !inL l k
 | none=>false
def aan (ops:List Oper) (ds:List Msk) (m n:Nat):Bool:=
 let dl:=(ops.take n).map (·.dst)
 !dup ((ops.take n).filterMap (·.dst))&&((List.range n).all fun i=>match ops[i]? with
  | some o=>((o.looksAt ops.toArray).all fun t=>Kb t i (ds.getD i m0) ds dl 0)&&((Nat.blt i m||o.guard.isNone)&&(Nat.blt i m||(List.range i).all fun j=>Nat.blt j m||inM (ds.getD i m0) j))
  | none=>false)
def Lo (ops:List Oper) (m n:Nat):Bool:=
 let ds:=deps ops
 Nat.blt m n&&(Nat.ble n ops.length&&(Kn ops ds m&&(((List.range ops.length).all fun k=>Nat.blt k n||B6 ds k)&&(oE ops&&(Region.seqB .any ops.toArray (ops.length - n) n (mask n ops.length)&&aan ops ds m n)))))
def eX (t:Touch) (S:St):St:=⟨[],S.boxes.filter (fun p=>rz t p.1),bif t.rt then [] else S.rows,bif t.rt then [] else S.objs⟩
def tO (x:Del):Bool:=x.box.isNone&&(x.row.isNone&&x.obj.isNone)
def Yl (ops:List Oper) (m n i:Nat):List Oper:=(List.range n).filterMap fun j=>if Nat.ble m j&& !inM ((deps ops).getD j m0) i then ops[j]? else none
def lE (X:Cx) (ops:List Oper) (M:St) (Mr:Nat->St) (dm:Msk):Nat->List Oper->St->(St->Option β)->Option β
 | _,[],S,k=>k S
 | i,o::rest,S,k=>match guardOf ops o S with
  | none=>bif rR ops o S then lE X ops M Mr dm (i+1) rest (S.put o.dst wU) k else none
  | some none=>bif inM dm i then gz X o S M fun x=>lE X ops M Mr dm (i+1) rest (S.app o.dst x) k
   else gz X o S (Mr i) fun x=>bif tO x then lE X ops M Mr dm (i+1) rest (S.app o.dst x) k else none
  | some (some (d,b,want))=>fork S d b want (fun S=>bif inM dm i then gz X o S M fun x=>lE X ops M Mr dm (i+1) rest (S.app o.dst x) k
   else gz X o S (Mr i) fun x=>bif tO x then lE X ops M Mr dm (i+1) rest (S.app o.dst x) k else none)
   fun S=>lE X ops M Mr dm (i+1) rest (S.put o.dst wU) k
def Ud (t:Touch):SV->Bool
 | .v false [.ref b _]=> !rz t b
 | _=>t.rt
def zz (X:Cx) (ops:List Oper) (S0:St) (hs:List Nat):List Oper->St->(St->Option β)->Option β
 | [],S,k=>k S
 | o::rest,S,k=>match aaC o.op with
  | some a=>bif Ud (eY (isApp X) ops S0 [o]) (S.ev a) then dV X o S fun S=>zz X ops S0 hs rest S k else none
  | none=>bif BP o.op
   then (bif (eY (isApp X) ops S0 [o]).rt&&(match o.dst with | some d=> !inL hs d | none=>false) then dV X o S fun S=>zz X ops S0 hs rest S k else none)
   else bif Ko X o.op
   then (bif (eY (isApp X) ops S0 [o]).rt&&(match o.dst with | some d=>Pn hs d | none=>false) then dV X o S fun S=>zz X ops S0 hs rest S k else none)
   else gz X o S S fun x=>bif tO x then zz X ops S0 hs rest (S.app o.dst x) k else none
def Me (X:Cx) (ops:List Oper) (S:St) (k:St->Option β) (m n:Nat):Option β:=
 lE X ops S (fun i=>eX (eY (isApp X) ops S (Yl ops m n i)) S) ((deps ops).getD m m0) 0 (ops.take m) S fun Sn=>if Fe ops m S Sn then zz X ops S S.ids ((ops.take n).drop m) Sn fun S=>qX X ops (ops.drop n) S k else none
def runM (X:Cx) (ops:List Oper) (m:Nat) (S:St) (k:St->Option β):Option β:=match ops[m]? with
 | some o=>match o.op with
  | .store _ a _=>match S.ev a with
   | .v false [.ref _ _]=>dV X o S fun S'=>bif (Ox ops m).all fun d=> !S'.boxes.any fun p=>p.2.any (CV.bG d) then k S' else none
   | _=>none
  | _=>none
 | none=>none
def HM (X:Cx) (ops:List Oper) (S:St) (k:St->Option β) (els:Option β):Option β:=
 let n:=HV (deps ops) ops.length
 if Ka ops n&& !(ops.take n).any (fun o=>isApp X o.op) then xM X ops S (ops.take n) S fun Sn=>if Fe ops n S Sn then qX X ops (ops.drop n) Sn k else none
 else if XU ops (n - 1)&& !(ops.take (n - 1)).any (fun o=>isApp X o.op) then xM X ops S (ops.take (n - 1)) S fun Sn=>if Fe ops (n - 1) S Sn then qX X ops (ops.drop (n - 1)) Sn k else none
 else if XV ops (n - 1)&& !(ops.take (n - 1)).any (fun o=>isApp X o.op) then xM X ops S (ops.take (n - 1)) S fun Sn=>if Fe ops (n - 1) S Sn then runM X ops (n - 1) Sn fun S'=>qX X ops (ops.drop (n - 1+1)) S' k else none
 else if Lo ops (Ac (isApp X) ops) n then Me X ops S k (Ac (isApp X) ops) n
 else if Lo ops (LD ops) n&& !(ops.take (LD ops)).any (fun o=>isApp X o.op) then Me X ops S k (LD ops) n
 else els
def PD (σ:Nat->Nat) (o:Oper):Oper:={ o with after:=o.after.map fun e=>{ e with on:=σ e.on } }
def UT (A:Op->Bool) (ds:List Msk):Nat->List Oper->List Nat->List Nat->List Nat
 | _,[],sp,fl=>fl++sp
 | i,o::r,sp,fl=>bif Pu o.op||(A o.op||sp.any fun j=>inM (ds.getD i m0) j) then UT A ds (i+1) r (sp++[i]) fl else UT A ds (i+1) r sp (fl++[i])
def Ta (A:Op->Bool) (ops:List Oper):List Nat:=List.range (Ac A ops)++UT A (deps ops) (Ac A ops) (ops.drop (Ac A ops)) [] []
def posOf:List Nat->Nat->Nat
 | [],_=>0
 | x::r,i=>bif Nat.beq x i then 0 else Nat.succ (posOf r i)
def Kw (ops:List Oper) (p:List Nat):List Oper:=match ops with
 | []=>[]
 | o0::_=>p.map fun i=>PD (posOf p) (ops.getD i o0)
def Vg (ops:List Oper) (p:List Nat):Bool:=
 Nat.beq p.length ops.length&&(((List.range ops.length).all fun i=>Nat.blt (posOf p i) ops.length&&Nat.beq (p.getD (posOf p i) ops.length) i)&&
  (((List.range ops.length).all fun j=>Nat.blt (p.getD j ops.length) ops.length&&Nat.beq (posOf p (p.getD j ops.length)) j)&&
    ops.all fun o=>o.guard.isNone&&o.after.toList.all fun e=>Nat.blt e.on ops.length))
def DZ (o:Oper):Oper:={ o with after:=o.after.push ⟨0,.phase⟩ }
def Pz:List Oper->List Oper
 | []=>[]
 | o::r=>o::r.map DZ
def aa9 (ops:List Oper):Bool:=match ops with
 | []=>false
 | o::_=>(match o.op with | .move _=>true | _=>false)&&(ops.all (fun p=>p.guard.isNone)&&(o.after.isEmpty&&(o.dst.isSome&&(Region.noSelect ops.toArray&&Region.free .any ops.toArray (Array.replicate ops.length false) 0))))
def EI (ops:List Oper) (mask:Array Bool) (may:List Nat):Bool:=
 !(Region.ready .any ops.toArray mask).isEmpty&&(Region.ready .any ops.toArray mask).all (inL may)
def afH (ops:List Oper):Bool:=
 let A:=ops.toArray
 (Region.noSelect A&&ops.all fun o=>o.guard.isNone)&&
 ((Region.free .any A #[false,false,false,false,false,false,false,false] 0&&(Region.ready .any A #[false,false,false,false,false,false,false,false]).contains 0)&&
 ((Region.free .any A #[true,false,false,false,false,false,false,false] 3&&(Region.ready .any A #[true,false,false,false,false,false,false,false]).contains 3)&&
 (EI ops #[true,false,false,true,false,false,false,false] [1]&&
 (EI ops #[true,true,false,true,false,false,false,false] [2,5]&&
 (EI ops #[true,true,true,true,false,false,false,false] [4,5]&&
 (EI ops #[true,true,true,true,true,false,false,false] [5]&&
 (EI ops #[true,true,false,true,false,true,false,false] [2,6]&&
 (EI ops #[true,true,true,true,false,true,false,false] [4,6]&&
 (EI ops #[true,true,true,true,true,true,false,false] [6]&&
 (EI ops #[true,true,false,true,false,true,true,false] [2]&&
 (EI ops #[true,true,true,true,false,true,true,false] [4]&&
 EI ops #[true,true,true,true,true,true,true,false] [7])))))))))))
def Vj (X:Cx) (ops:List Oper) (S:St) (k:St->Option β):Option β:=
 if ops.any (acu X)&&aa9 ops then HM X (Pz ops) S k none
 else HM X ops S k (if Vg ops (Ta (isApp X) ops) then HM X (Kw ops (Ta (isApp X) ops)) S k none else none)
def aG {β γ:Type}:Option (β ⊕ γ)->(γ->Option β)->Option β
 | none,_=>none
 | some (.inl r),_=>some r
 | some (.inr v),f=>f v
def LI {β γ:Type}:Option β->Option (β ⊕ γ)
 | some r=>some (.inl r)
 | none=>none
def meet {β:Type} (A:Ann) (n:Nat) (S:St):Option (β ⊕ dO A.cks):=
 match carry A S with
 | some v=>bif Nat.beq S.tmps.length n then some (.inr v) else none
 | none=>none
def ae0 (x y:Code):Nat:=100000+max (nT x) (nT y)
def adu (c:Code):Nat:=200000+nT c
noncomputable def both {β:Type} (a b:Option β):Option β:=open Classical in if a=b then a else none
def xH:Touch:=⟨false,some []⟩
def abm (X:Cx) (ops:List Oper) (S:St) (k:St->Option β):Option β:=lE X ops S (fun _=>eX xH S) m0 0 ops S k
def abi (X:Cx) (ops:List Oper) (dr:Bool) (S:St) (k:St->Option β):Option β:=
 bif dr then (bif Ka ops ops.length&& !(ops.any fun o=>BP o.op) then abm X ops S fun Sn=>bif Fe ops ops.length S Sn then k Sn else none else none)
 else abm X ops S k
def jL (A:Ann):List (Nat×Ty):=A.tmps.filterMap fun | (i,.val t)=>some (i,t) | _=>none
def U4:List (Nat×Ty)->Type
 | []=>Unit
 | p::r=>p.2.den×U4 r
def Tj (S:St):(l:List (Nat×Ty))->Option (U4 l)
 | []=>some ()
 | p::r=>match pG S [] p.2 (S.tmps.getD p.1 (.v false [.any])) with
  | some x=>match Tj S r with
   | some y=>some (x,y)
   | none=>none
  | none=>none
def LL:(l:List (Nat×Ty))->U4 l->List SV->List SV
 | [],_,T=>T
 | p::r,v,T=>(LL r v.2 T).set p.1 (vD p.2 v.1)
def zZ:List Oper->List SV->List SV
 | [],T=>T
 | o::r,T=>zZ r (match o.dst with | some d=>T.set d (.v false [.any]) | none=>T)
noncomputable def den (X:Cx) (anns:List (Nat×Ann)):Code->(β:Type)->St->(Ex->St->Option β)->Option β
 | .skip,_,S,K=>K .normal S
 | .region id ops dr,_,S,K=>match look anns (300000+id) with
  | some A=>(abi X ops.toList dr S fun S'=>Tj S' (jL A)).bind fun v=>K .normal { S with tmps:=LL (jL A) v (zZ ops.toList S.tmps) }
  | none=>bif dr then Vj X ops.toList S (K .normal) else qX X ops.toList ops.toList S (K .normal)
 | .seq a b,β,S,K=>den X anns a β S fun e S=>match e with
  | .normal=>den X anns b β S K
  | .exit j=>K (.exit j) S
  | .ret=>K .ret S
 | .cond c x y,β,S,K=>match S.ev c with
  | .v false [.bool b]=>match look anns (ae0 x y) with
   | some A=>aG (bif b
    then den X anns x (β ⊕ dO A.cks) S (fun e S'=>match e with
     | .normal=>meet A S.tmps.length S'
     | .exit j=>LI (K (.exit j) S')
     | .ret=>LI (K .ret S'))
    else den X anns y (β ⊕ dO A.cks) S (fun e S'=>match e with
     | .normal=>meet A S.tmps.length S'
     | .exit j=>LI (K (.exit j) S')
     | .ret=>LI (K .ret S'))) fun v=>K .normal (head A S.tmps.length v)
   | none=>bif b then den X anns x β S K else den X anns y β S K
  | .v false [.nb b]=>bif b then both (den X anns x β S K) (den X anns y β S K) else den X anns y β S K
  | _=>none
 | .block id c,β,S,K=>match look anns (adu c) with
  | some A=>aG (den X anns c (β ⊕ dO A.cks) S fun e S'=>match e with
   | .normal=>meet A S.tmps.length S'
   | .exit j=>if Nat.beq j id then meet A S.tmps.length S' else LI (K (.exit j) S')
   | .ret=>LI (K .ret S')) fun v=>K .normal (head A S.tmps.length v)
  | none=>den X anns c β S fun e S'=>match e with
   | .normal=>K .normal S'
   | .exit j=>if Nat.beq j id then K .normal S' else K (.exit j) S'
   | .ret=>K .ret S'
 | .loop c,β,S,K=>match look anns (nT c) with
  | some A=>match carry A S with
   | some x=>iter (A.fuel x) x fun x again=>den X anns c β (head A S.tmps.length x) fun e S'=>match e with
    | .normal=>match carry A S' with
     | some y=>bif Nat.beq S'.tmps.length S.tmps.length then again y else none
     | none=>none
    | .exit j=>K (.exit j) S'
    | .ret=>K .ret S'
   | none=>none
  | none=>none
 | .exit id,_,S,K=>K (.exit id) S
 | .ret,_,S,K=>K .ret S
 | _,_,_,_=>none
def pD:Nat:=5000
def pid (i c:Nat):Nat:=nid pD i c
def ig (i:Nat):(ps:List PM)->eL ps->List SV
 | [],_=>[]
 | .val t::r,x=>vD t x.1::ig (i+1) r x.2
 | .row _ _::r,x=> .v false [.row (pid i 0)]::ig (i+1) r x.2
 | .mrow _ _::r,x=> .v false [.row (pid i 0)]::ig (i+1) r x.2
 | .map _ _::r,x=> .v false [.mp (pid i 0)]::ig (i+1) r x.2
 | .box _::r,x=> .v false [.ref (2000+i) 0]::ig (i+1) r x.2
 | .ar _::r,x=>ig (i+1) r x.2
 | .arR _::r,x=>ig (i+1) r x.2
def uA (i:Nat):(ps:List PM)->eL ps->List (Nat×List CV)
 | [],_=>[]
 | .box l::r,x=>(2000+i,ON pD i 1 l x.1)::uA (i+1) r x.2
 | .val _::r,x=>uA (i+1) r x.2
 | .row _ _::r,x=>uA (i+1) r x.2
 | .mrow _ _::r,x=>uA (i+1) r x.2
 | .map _ _::r,x=>uA (i+1) r x.2
 | .ar _::r,x=>uA (i+1) r x.2
 | .arR _::r,x=>uA (i+1) r x.2
def sA (i:Nat):(ps:List PM)->eL ps->List (Nat×rY)
 | [],_=>[]
 | .row e t::r,x=>(pid i 0,⟨false,e,t,x.1⟩)::sA (i+1) r x.2
 | .mrow e t::r,x=>(pid i 0,⟨false,e,t,x.1⟩)::sA (i+1) r x.2
 | .box l::r,x=>xq pD i 1 l x.1++sA (i+1) r x.2
 | .val _::r,x=>sA (i+1) r x.2
 | .map _ _::r,x=>sA (i+1) r x.2
 | .ar _::r,x=>sA (i+1) r x.2
 | .arR _::r,x=>sA (i+1) r x.2
def jH (i:Nat):(ps:List PM)->eL ps->List (Nat×vS)
 | [],_=>[]
 | .map k v::r,x=>(pid i 0,.map k v x.1)::jH (i+1) r x.2
 | .box l::r,x=>qU pD i 1 l x.1++jH (i+1) r x.2
 | .ar t::r,x=>(bQ,.ar false t x.1)::jH (i+1) r x.2
 | .arR t::r,x=>(bQ,.ar true t x.1)::jH (i+1) r x.2
 | .val _::r,x=>jH (i+1) r x.2
 | .row _ _::r,x=>jH (i+1) r x.2
 | .mrow _ _::r,x=>jH (i+1) r x.2
def dz:Nat->List PM->List (bE×Nat)
 | _,[]=>[]
 | i,.row _ _::r=>(.inr (pid i 0),64*i)::dz (i+1) r
 | i,.mrow _ _::r=>(.inr (pid i 0),64*i)::dz (i+1) r
 | i,.map _ _::r=>(.ob (pid i 0),64*i)::dz (i+1) r
 | i,.box l::r=>(.inl (2000+i),64*i)::(gR pD i 1 l++dz (i+1) r)
 | i,.ar _::r=>(.ob bQ,64*i)::dz (i+1) r
 | i,.val _::r=>dz (i+1) r
 | i,.arR _::r=>dz (i+1) r
def Ai:List PM->Nat
 | []=>0
 | p::r=>(bif p.arg then 1 else 0)+Ai r
def Ol (n:Nat) (ar:Option Ty) (ps:List PM) (x:eL ps):St:=
 { tmps:=ig 0 ps x++List.replicate (n - Ai ps) (.v false [.any]),boxes:=uA 0 ps x,rows:=sA 0 ps x,
   objs:=match ar with | some t=>(bQ,.ar false t [])::jH 0 ps x | none=>jH 0 ps x }
def Xf (X:Cx) (S:St):ResultVar->Option SV
 | .tmp t=>some (S.tmps.getD t (.v false [.any]))
 | .cell a T=>match S.tmps.getD a (.v false [.any]) with
  | .v false [.ref b off]=>match look S.boxes b with
   | some l=>qQ X.P T l off some
   | none=>none
  | _=>none
def HK (X:Cx) (S:St):List ResultVar->Option (List SV)
 | []=>some []
 | v::r=>match Xf X S v with
  | some s=>match HK X S r with
   | some l=>some (s::l)
   | none=>none
  | none=>none
def GM:List RM->List SV->List SV
 | .val _::r,s::q=>s::GM r q
 | _::r,_::q=>GM r q
 | _,_=>[]
def Yy:List OT->List CV->List Nat
 | .val t::r,cs=>kP (cs.take t.size)++Yy r (cs.drop t.size)
 | .row _ _::r,_::cs=>Yy r cs
 | .map _ _::r,_::cs=>Yy r cs
 | _,_=>[]
def PC (S:St) (i:Nat):List PM->List Nat
 | []=>[]
 | .box l::r=>(match look S.boxes (2000+i) with | some cs=>Yy l cs | none=>[])++PC S (i+1) r
 | _::r=>PC S (i+1) r
def PE (S:St):List RM->List SV->List Nat
 | .box l::r,s::q=>(match vj s with | some k=>(match look S.boxes k with | some cs=>Yy l cs | none=>[]) | none=>[])++PE S r q
 | _::r,_::q=>PE S r q
 | _,_=>[]
def GK (S:St) (p:RM) (s:SV):Option p.den:=
 match p with
 | .val t=>pG S [] t s
 | .row e t=>match yy s with | some c=>mH S e t c | none=>none
 | .map k v=>match yy s with | some c=>uz S k v c | none=>none
 | .box l=>match vj s with
  | some k=>match look S.boxes k with
   | some cs=>tc S l cs
   | none=>none
  | none=>none
def Co (S:St) (ps:List PM) (bx:Option (ia ps)):(rs:List RM)->List SV->Option (dc ps rs)
 | [],[]=>bx
 | [],_::_=>none
 | p::r,s::q=>match GK S p s with
  | some x=>match Co S ps bx r q with
   | some y=>some (x,y)
   | none=>none
  | none=>none
 | _::_,[]=>none
def s8 (S:St):Nat->(ps:List PM)->Option (ia ps)
 | _,[]=>some ()
 | i,.mrow e t::r=>match mH S e t (.row (pid i 0)),s8 S (i+1) r with
  | some x,some y=>some (x,y)
  | _,_=>none
 | i,.map k v::r=>match uz S k v (.mp (pid i 0)),s8 S (i+1) r with
  | some x,some y=>some (x,y)
  | _,_=>none
 | i,.box l::r=>match look S.boxes (2000+i) with
  | some cs=>match tc S l cs,s8 S (i+1) r with
   | some x,some y=>some (x,y)
   | _,_=>none
  | none=>none
 | i,.ar t::r=>match A7 S false t,s8 S (i+1) r with
  | some x,some y=>some (x,y)
  | _,_=>none
 | i,.val _::r=>s8 S (i+1) r
 | i,.row _ _::r=>s8 S (i+1) r
 | i,.arR _::r=>s8 S (i+1) r
def oN (S:St) (c:Nat):List RM->List SV->List (bE×Nat)
 | .row _ _::r,s::q=>(match yy s with | some v=>s7 (64*(24+c)) v | none=>[])++oN S (c+1) r q
 | .map _ _::r,s::q=>(match yy s with | some v=>s7 (64*(24+c)) v | none=>[])++oN S (c+1) r q
 | .box l::r,s::q=>(match vj s with
  | some k=>(.inl k,64*(24+c))::(match look S.boxes k with | some cs=>vm (64*(24+c)+1) l cs | none=>[])
  | none=>[])++oN S (c+1) r q
 | .val _::r,_::q=>oN S (c+1) r q
 | _,_=>[]
def nD (S:St):Nat->List PM->List (bE×Nat)
 | _,[]=>[]
 | i,.mrow _ _::r=>(.inr (pid i 0),64*i)::nD S (i+1) r
 | i,.map _ _::r=>(.ob (pid i 0),64*i)::nD S (i+1) r
 | i,.box l::r=>(.inl (2000+i),64*i)::(match look S.boxes (2000+i) with | some cs=>vm (64*i+1) l cs | none=>[])++nD S (i+1) r
 | i,.ar _::r=>(.ob bQ,64*i)::nD S (i+1) r
 | i,_::r=>nD S (i+1) r
def UX:List RM->List SV->List SV
 | .val .hnd::r,s::q=>s::UX r q
 | _::r,_::q=>UX r q
 | _,_=>[]
def Iy (X:Cx) (fn:Func) (rs:List RM) (S:St):St:=
 match HK X S fn.results.toList with
 | some l=>mZ S (UX rs l)
 | none=>S
def aer (X:Cx) (fn:Func) (sp:ay) (S:St):Option (dc sp.ps sp.rs):=
 match HK X S fn.results.toList with
 | some l=>
  let js:=FO (GM sp.rs l)++(PE S sp.rs l++PC S 0 sp.ps)
  let V:=aX S js
  let ow:=oN V 0 sp.rs l++nD V 0 sp.ps
  if BJ ow then none else Co V sp.ps (s8 V 0 sp.ps) sp.rs l
 | none=>none
def ends (X:Cx) (fn:Func) (sp:ay) (S:St):Option (dc sp.ps sp.rs):=aer X fn sp (Iy X fn sp.rs S)
def fo:List PM->Bool
 | []=>true
 | .val t::r=>t.bu&&fo r
 | .row _ t::r=>t.bu&&fo r
 | .mrow _ t::r=>t.bu&&fo r
 | .map k v::r=>k.bu&&v.bu&&fo r
 | .box l::r=>(l.all fun | .val t=>t.bu | .row _ t=>t.bu | .map k v=>k.bu&&v.bu)&&fo r
 | _=>false
def xL:List RM->Bool
 | []=>true
 | .val t::r=>t.bu&&xL r
 | .row _ t::r=>t.bu&&xL r
 | .map k v::r=>k.bu&&v.bu&&xL r
 | .box l::r=>(l.all fun | .val t=>t.bu | .row _ t=>t.bu | .map k v=>k.bu&&v.bu)&&xL r
def nr:List PM->Nat->Bool
 | .box _::_,0=>true
 | p::r,n+1=>p.arg&&nr r n
 | _,_=>false
def iL:Nat:=2900
def OE (n p:Nat) (ps:List PM) (x:eL ps):St:=
 { tmps:=(ig 0 ps x++List.replicate (n - Ai ps) (SV.v false [.any])).set p (SV.v false [.ref iL 0]),boxes:=(iL,[.ref (2000+p) 0])::uA 0 ps x,rows:=sA 0 ps x,objs:=jH 0 ps x }
def acI (p:Nat) (S:St):Bool:=match look S.boxes iL with
 | some [.ref k o]=>Nat.beq k (2000+p)&&Nat.beq o 0
 | _=>false
def RE (X:Cx) (fn:Func) (sp:ay) (p:Nat) (S:St):Option (dc sp.ps sp.rs):=
 match HK X S fn.results.toList with
 | some l=>
  let js:=FO (GM sp.rs l)++(PE S sp.rs l++PC S 0 sp.ps)
  let V:=aX S js
  let ow:=oN V 0 sp.rs l++nD V 0 sp.ps
  if BJ ow||(cq ow (.inl iL)).isSome|| !acI p V then none else Co V sp.ps (s8 V 0 sp.ps) sp.rs l
 | none=>none
noncomputable def adC (X:Cx) (anns:List (Nat×Ann)) (fn:Func) (sp:ay) (p:Nat) (x:eL sp.ps):Option (dc sp.ps sp.rs):=
 if BJ (dz 0 sp.ps)||dup ((dz 0 sp.ps).map (·.2))|| !nr sp.ps p||(cq (dz 0 sp.ps) (.inl iL)).isSome then none else
 match fn.body with
 | some c=>den X anns c (dc sp.ps sp.rs) (OE fn.ntmps p sp.ps x) fun e S=>match e with
  | .exit _=>none
  | _=>RE X fn sp p S
 | none=>none
noncomputable def NX (X:Cx) (anns:List (Nat×Ann)) (ar:Option Ty) (fn:Func) (sp:ay) (x:eL sp.ps):Option (dc sp.ps sp.rs):=
 if BJ (dz 0 sp.ps)||dup ((dz 0 sp.ps).map (·.2))||(ar.isSome&& !(fo sp.ps&&xL sp.rs)) then none else
 match fn.body with
 | some c=>den X anns c (dc sp.ps sp.rs) (Ol fn.ntmps ar sp.ps x) fun e S=>match e with
  | .ret=>ends X fn sp S
  | .normal=>ends X fn sp S
  | .exit _=>none
 | none=>none
end Go.Dn
namespace Go.Dn
theorem aeI (s:ByteArray):bs s.data.toList=s:=by
 rfl
theorem abJ (l:List UInt8):(bs l).data.toList=l:=by simp[bs]
theorem Ph (G:Gh) (ρ:Env) (v:Value):br G ρ (NG v) v:=by
 unfold NG
 split
 case h_3 s=>show _=_;rw[aeI]
 all_goals first | rfl | trivial | skip
 split
 ·rename_i g f c h
  simp only[ag1,Array.isEmpty_iff] at h
  obtain⟨rfl,rfl⟩:=h
  rfl
 ·trivial
theorem FC {α β:Type} {R:β->α->Prop} (f:α->β) (h:∀ x,R (f x) x):∀ l:List α,aR R (l.map f) l
 | []=>rfl
 | x::l=>⟨x,l,rfl,h x,FC f h l⟩
theorem TY (G:Gh) (ρ:Env) (v:Value):bK G ρ (PG v) v:=by
 unfold PG
 split
 ·rename_i cs
  exact⟨cs.toList,by simp,FC NG (Ph G ρ) cs.toList⟩
 ·exact Ph G ρ v
theorem jO.ev {G:Gh} {ρ:Env} {S:St} {a:Act} (h:jO G ρ S a) (x:Operand):bK G ρ (S.ev x) (a.eval x):=by
 cases x with
 | tmp t=>
  simp only[St.ev,Act.eval]
  rw[ah1]
  cases hs:S.tmps[t]? with
  | none=>exact trivial
  | some s=>exact h.2 t s hs
 | const v=>exact TY G ρ v
 | global g=>exact trivial
 | func f=>rfl
theorem jy {G:Gh} (ρ:Env):∀ {t:Ty} {x:t.den} {cs:List Value},aN G t x cs->aR (br G ρ) (unpack t x) cs
 | .int _,_,_,h=>by cases h;exact⟨_,_,rfl,rfl,rfl⟩
 | .bool,_,_,h=>by cases h;exact⟨_,_,rfl,rfl,rfl⟩
 | .str,_,_,h=>by cases h;exact⟨_,_,rfl,rfl,rfl⟩
 | .unit,_,_,h=>h
 | .pair a b,(x,y),_,⟨c,r,e,hx,hy⟩=>by subst e;exact (jy ρ hx).append (jy ρ hy)
 | .st t,x,cs,h=>jy (t:=t) (x:=x) ρ h
 | .slice t,_,_,⟨v,e,h⟩=>by subst e;exact⟨_,_,rfl,h,rfl⟩
 | .ptr t,x,_,⟨b,off,c,T,fz,e,hb,hs,hl⟩=>by subst e;exact⟨_,_,rfl,⟨b,off,c,T,fz,rfl,hb,hs,hl⟩,rfl⟩
 | .clo _ t,x,_,⟨caps,e,h⟩=>by subst e;exact⟨_,_,rfl,⟨caps,rfl,h⟩,rfl⟩
 | .hnd,none,_,h=>by cases h;exact⟨_,_,rfl,⟨rfl,rfl⟩,rfl⟩
 | .hnd,some _,_,⟨b,hb,e⟩=>by subst e;exact⟨_,_,rfl,⟨b,hb,rfl⟩,rfl⟩
theorem EC {G:Gh} (ρ:Env) {t:Ty} {x:t.den} {v:Value} (h:cF G t x v):oz G ρ (O9 t x).1 (O9 t x).2 v:=by
 cases t with
 | st t=>obtain⟨vs,e,hv⟩:=h;exact⟨vs,e,jy ρ hv⟩
 | int _=>cases h;rfl
 | bool=>cases h;rfl
 | str=>cases h;rfl
 | unit=>cases h
 | slice t=>obtain⟨v',e,h⟩:=h;cases e;exact h
 | ptr t=>obtain⟨b,off,c,T,fz,e,hb,hs,hl⟩:=h;cases e;exact⟨b,off,c,T,fz,rfl,hb,hs,hl⟩
 | clo g t=>obtain⟨caps,e,h⟩:=h;cases e;exact⟨caps,rfl,h⟩
 | hnd=>
  cases x with
  | none=>cases h;exact⟨rfl,rfl⟩
  | some i=>obtain⟨b,hb,e⟩:=h;cases e;exact⟨b,hb,rfl⟩
 | pair a b=>
  have hl:=h.len
  have hu:=jy ρ h
  obtain⟨c,hc⟩:∃ c,unpack (.pair a b) x=[c]:=by
   have:=hu.len
   match hq:unpack (.pair a b) x with
   | [c]=>simp
   | []=>grind
   | _::_::_=>grind
  show oz G ρ false (unpack (.pair a b) x) v
  rw[hc] at hu ⊢
  obtain⟨y,e,hy⟩:=hu.single
  cases e
  exact hy
theorem KQ {G:Gh} (ρ:Env) {t:Ty} {x:t.den} {v:Value} (h:cF G t x v):bK G ρ (vD t x) v:=by
 have:=EC ρ h
 cases t<;>exact this
theorem mo {a b:Ty} {l:List a.den} {l':List b.den} (h:ym l=some l'):∃ e:a=b,e ▸ l=l':=by
 unfold ym at h
 grind
theorem Sk {a b:Ty} {x:a.den} {x':b.den} (h:W9 x=some x'):∃ e:a=b,e ▸ x=x':=by
 unfold W9 at h
 grind
def mc (G:Gh) (ρ:Env) (S:St):Prop:=∀ j r,look S.rows j=some r->r.fz=true->iH G r.t.size (aN G r.t) r.l (ρ.rw j)
theorem Mem.frozen {P0:Program} {C:Fr P0} {G:Gh} {ρ:Env} {S:St} {w:World} (h:Mem C G ρ S w):mc G ρ S:=fun j r hj hf=>by
 have:=h.rows j r hj
 unfold dI at this
 grind
theorem zn {G:Gh} {ρ:Env} {t:Ty} {f:CV->Option t.den} (hf:∀ c x v,f c=some x->br G ρ c v->aN G t x [v]) {cs:List CV} {x:t.den} {r:List CV} {vs:List Value} (h:zm f cs=some (x,r)) (hv:aR (br G ρ) cs vs):∃ a b,vs=a++b/\aN G t x a/\aR (br G ρ) r b:=by
 cases cs with
 | nil=>cases h
 | cons c q=>
  obtain⟨y,s,e,hy,hs⟩:=hv
  simp only[zm] at h
  grind
theorem acP {G:Gh} {ρ:Env} {S:St} (hF:mc G ρ S) {t:Ty} (c:CV) (l:List t.den) (v:Value) (h:TG S t c=some l) (hv:br G ρ c v):aN G (.slice t) l [v]:=by
 cases c<;>simp only[TG] at h
 case sl t' l'=>
  obtain⟨et,el⟩:=mo h
  subst et;subst el
  exact⟨v,rfl,hv⟩
 case nils=>
  cases h
  exact⟨v,rfl,none,0,hv,ajc _,ajy _,.inl rfl⟩
 case row j=>
  split at h
  ·rename_i u hu
   split at h
   ·rename_i hfz
    obtain⟨et,el⟩:=mo h
    have hrow:=hF j u hu hfz
    obtain⟨ufz,ue,ut,ul⟩:=u
    dsimp only at et el hrow
    subst et
    subst el
    exact⟨v,rfl,by rw[hv.1];omega⟩
   ·cases h
  ·cases h
 all_goals cases h
theorem K8 {k v k' v':Ty} {l:List (k.den×v.den)} {l':List (k'.den×v'.den)} (h:aaJ l=some l'):∃ (e1:k=k') (e2:v=v'),e1 ▸ e2 ▸ l=l':=by
 unfold aaJ at h
 grind
def qK (G:Gh) (ρ:Env) (S:St) (fb:List Nat):Prop:=∀ k cs,inL fb k=true->look S.boxes k=some cs->∃ vs T fz,G (ρ.bx k)=some (.cells (List.toArray vs) T fz)/\aR (br G ρ) cs vs
theorem qK.nil (G:Gh) (ρ:Env) (S:St):qK G ρ S []:=fun k cs h=>by simp[inL] at h
theorem Ek {α:Type} {x:Option (α×List CV)} {y:α} (h:lP x=some y):x=some (y,[]):=by
 unfold lP at h
 grind
theorem BU {G:Gh} {ρ:Env} {S:St} {fb:List Nat} (hF:mc G ρ S) (hL:qK G ρ S fb):∀ (t:Ty) (cs:List CV) (x:t.den) (r:List CV) (vs:List Value),jd S fb t cs=some (x,r)->aR (br G ρ) cs vs-> ∃ a b,vs=a++b/\aN G t x a/\aR (br G ρ) r b
 | .int k,cs,x,r,vs,h,hv=>zn (t:= .int k) (fun c x v hc hv=>by
  cases c<;>simp only[aad] at hc
  case int k' n=>
   split at hc
   ·rename_i ek;subst ek;cases hc;rw[hv];rfl
   grind
  all_goals cases hc) h hv
 | .bool,cs,x,r,vs,h,hv=>zn (t:= .bool) (fun c x v hc hv=>by
  cases c<;>simp only[YA] at hc
  case bool b=>cases hc;rw[hv];rfl
  all_goals cases hc) h hv
 | .str,cs,x,r,vs,h,hv=>zn (t:= .str) (fun c x v hc hv=>by
  cases c<;>simp only[aae] at hc
  case str b=>cases hc;rw[hv];rfl
  all_goals cases hc) h hv
 | .unit,cs,x,r,vs,h,hv=>by
  simp only[jd] at h;cases h;exact⟨[],vs,rfl,rfl,hv⟩
 | .pair a b,cs,x,r,vs,h,hv=>by
  simp only[jd] at h
  split at h
  ·rename_i y q h1
   split at h
   ·rename_i z q' h2
    cases h
    obtain⟨c1,c2,e1,r1,r2⟩:=BU hF hL a cs y q vs h1 hv
    obtain⟨d1,d2,e2,s1,s2⟩:=BU hF hL b q z r c2 h2 r2
    exact⟨c1++d1,d2,by grind,⟨c1,d1,rfl,r1,s1⟩,s2⟩
   ·cases h
  ·cases h
 | .st t,cs,x,r,vs,h,hv=>BU hF hL t cs x r vs h hv
 | .slice t,cs,x,r,vs,h,hv=>zn (t:= .slice t) (fun c x v hc hv=>acP hF c x v hc hv) h hv
 | .ptr t,cs,x,r,vs,h,hv=>zn (t:= .ptr t) (fun c x v hc hv=>by
  cases c<;>simp only[Vf] at hc
  case cp t' y o=>
   split at hc
   ·rename_i ho
    have:=ai8 ho
    subst this
    obtain⟨et,el⟩:=Sk hc
    subst et;subst el
    obtain⟨b,off,c,T,fz,e,hb,hs',hl⟩:=hv
    exact⟨b,off,c,T,fz,by rw[e];rfl,hb,hs',hl⟩
   grind
  case ref k o=>
   split at hc
   ·rename_i ho
    simp only[ag1] at ho
    have:=ai8 ho.1
    subst this
    split at hc
    ·rename_i cs hcs
     have hp:=Ek hc
     obtain⟨ws,T,fz,hg,hw⟩:=hL k cs ho.2 hcs
     obtain⟨a,b,e,h1,h2⟩:=BU hF hL t cs x [] ws hp hw
     cases h2
     have hrep:aN G t x ws:=by grind
     have hlen:=hrep.len
     refine⟨ρ.bx k,0,ws.toArray,T,fz,by rw[hv],hg,by grind, ?_⟩
     grind
    grind
   grind
  all_goals cases hc) h hv
 | .clo g t,cs,x,r,vs,h,hv=>zn (t:= .clo g t) (fun c x v hc hv=>by
  cases c<;>simp only[aab] at hc
  case clo g' t' y=>
   split at hc
   ·rename_i ho
    have:=ai8 ho
    subst this
    obtain⟨et,el⟩:=Sk hc
    subst et;subst el
    obtain⟨caps,e,hc⟩:=hv
    exact⟨caps,by rw[e],hc⟩
   grind
  case fn g' ks=>
   split at hc
   ·rename_i ho
    have:=ai8 ho
    subst this
    have hp:=Ek hc
    have hk:∀ l:List Nat,aR (br G ρ) (l.map fun k=> .ref k 0) (l.map fun k=>Value.pointer (some ⟨ρ.bx k,0,none⟩)):=fun l=>by
     induction l with
     | nil=>rfl
     | cons k l ih=>exact⟨_,_,rfl,rfl,ih⟩
    obtain⟨a,b,e,h1,h2⟩:=BU hF hL t _ x [] _ hp (hk ks)
    cases h2
    refine⟨ks.map fun k=>Value.pointer (some ⟨ρ.bx k,0,none⟩),by rw[hv], ?_⟩
    grind
   grind
  all_goals cases hc) h hv
 | .hnd,cs,x,r,vs,h,hv=>zn (t:= .hnd) (fun c x v hc hv=>by
  cases c<;>simp only[aac] at hc
  case hnd o k=>
   split at hc
   ·rename_i ho
    have:=ai8 ho
    subst this
    cases hc
    cases x with
    | none=>rw[hv.1];rfl
    | some i=>obtain⟨b,hb,e⟩:=hv;exact⟨b,hb,by rw[e]⟩
   grind
  case nilp=>cases hc;rw[hv];rfl
  all_goals cases hc) h hv
theorem aaf {G:Gh} {ρ:Env} {S:St} (hF:mc G ρ S) (t:Ty) (cs:List CV) (x:t.den) (r:List CV) (vs:List Value) (h:pack S t cs=some (x,r)) (hv:aR (br G ρ) cs vs): ∃ a b,vs=a++b/\aN G t x a/\aR (br G ρ) r b:=BU hF (qK.nil G ρ S) t cs x r vs h hv
theorem OP {G:Gh} {ρ:Env} {S:St} {fb:List Nat} (hF:mc G ρ S) (hL:qK G ρ S fb) {t:Ty} {cs:List CV} {x:t.den} {vs:List Value} (h:lP (jd S fb t cs)=some x) (hv:aR (br G ρ) cs vs):aN G t x vs:=by
 obtain⟨a,b,e,h1,h2⟩:=BU hF hL t cs x [] vs (Ek h) hv
 cases h2
 grind
theorem RN {G:Gh} {ρ:Env} {S:St} (hF:mc G ρ S) {t:Ty} {cs:List CV} {x:t.den} {vs:List Value} (h:lP (pack S t cs)=some x) (hv:aR (br G ρ) cs vs):aN G t x vs:=OP hF (qK.nil G ρ S) h hv
theorem qA {G:Gh} {ρ:Env} {S:St} {fb:List Nat} (hF:mc G ρ S) (hL:qK G ρ S fb) {t:Ty} {s:SV} {x:t.den} {v:Value} (h:pG S fb t s=some x) (hv:bK G ρ s v):cF G t x v:=by
 unfold pG at h
 split at h
 ·rename_i t cs
  obtain⟨vs,e,hl⟩:=hv
  exact⟨vs,e,OP hF hL h hl⟩
 ·cases h
 ·rename_i t' s' cs hne
  have hl:aN G t x [v]:=by
   match cs,hv,h with
   | [c],hv,hp=>exact OP hF hL hp ⟨v,[],rfl,hv,rfl⟩
  cases t with
  | st t=>grind
  | _=>exact hl
 ·cases h
end Go.Dn
namespace Go.Dn
structure FD {P0:Program} (C:Fr P0) (G:Gh) (ρ:Env) (S:St) (w:World) (x:Option bE):Prop where
 agr:Agr G w
 le0:C.G0.le G
 old:∀ b,b<C.n0->¬ C.B b->G b=C.G0 b
 frame:∀ b,b<C.n0->¬ C.B b->w.heap[b]? =C.w0.heap[b]?
 size:C.n0<=w.heap.size
 os:w.os=C.w0.os
 output:w.output=C.w0.output
 pin:∀ k,2000<=k->ρ.bx k=C.pin k
 pinR:∀ k,10000000<=k->ρ.rw k=C.pinR k/\ρ.ob k=C.pinR k
 owned:∀ b o,ρ.own b=some o->G b=none/\b<w.heap.size/\(C.n0<=b\/C.B b)
 boxes:∀ k cs,look S.boxes k=some cs->some (.inl k)≠x->ρ.own (ρ.bx k)=some (.inl k)/\
  ∃ vs T,w.heap[ρ.bx k]? =some (.cells (List.toArray vs) T (0,0))/\aR (br G ρ) cs vs
 rows:∀ j r,look S.rows j=some r->some (.inr j)≠x->dI G ρ w j r
 objs:∀ j r,look S.objs j=some r->some (.ob j)≠x->sE G ρ w j r
 hndI:C.noAr->G.hnd=C.G0.hnd/\∀ t l,look S.objs bQ≠some (.ar false t l)
variable {P0:Program} {C:Fr P0} {G:Gh} {ρ:Env} {S:St} {w:World}
theorem Mem.toX (h:Mem C G ρ S w) (x:Option bE):FD C G ρ S w x:=
 ⟨h.agr,h.le0,h.old,h.frame,h.size,h.os,h.output,h.pin,h.pinR,h.owned,fun k cs hk _=>h.boxes k cs hk,fun j r hj _=>h.rows j r hj,fun j r hj _=>h.objs j r hj,h.hndI⟩
theorem FD.toMem {x:Option bE} (h:FD C G ρ S w x) (hb:∀ k cs,look S.boxes k=some cs->some (.inl k)=x->ρ.own (ρ.bx k)=some (.inl k)/\∃ vs T,w.heap[ρ.bx k]? =some (.cells (List.toArray vs) T (0,0))/\aR (br G ρ) cs vs) (hr:∀ j r,look S.rows j=some r->some (.inr j)=x->dI G ρ w j r) (hob:∀ j r,look S.objs j=some r->some (.ob j)=x->sE G ρ w j r):Mem C G ρ S w:=
 ⟨h.agr,h.le0,h.old,h.frame,h.size,h.os,h.output,h.pin,h.pinR,h.owned,fun k cs hk=>by
   by_cases e:some (.inl k)=x
   ·grind
   ·exact h.boxes k cs hk e,fun j r hj=>by
   by_cases e:some (.inr j)=x
   ·grind
   ·exact h.rows j r hj e,fun j r hj=>by
   by_cases e:some (.ob j)=x
   ·grind
   ·exact h.objs j r hj e,h.hndI⟩
theorem FD.state {S':St} {x:Option bE} (h:FD C G ρ S w x) (hb:∀ k cs,look S'.boxes k=some cs->some (.inl k)≠x->look S.boxes k=some cs) (hr:∀ j r,look S'.rows j=some r->some (.inr j)≠x->look S.rows j=some r) (hob:∀ j r,look S'.objs j=some r->some (.ob j)≠x->look S.objs j=some r) (hna:∀ t l,look S'.objs bQ=some (.ar false t l)->∃ t l,look S.objs bQ=some (.ar false t l)):FD C G ρ S' w x:=
 { h with hndI:=fun hn=>⟨(h.hndI hn).1,fun t l hl=>by obtain⟨t',l',h'⟩:=hna t l hl;exact (h.hndI hn).2 t' l' h'⟩,boxes:=fun k cs hk e=>h.boxes k cs (hb k cs hk e) e,rows:=fun j r hj e=>h.rows j r (hr j r hj e) e,objs:=fun j r hj e=>h.objs j r (hob j r hj e) e }
theorem FD.grow {w':World} {x:Option bE} {blk:Option Nat} (h:FD C G ρ S w x) (hg:Grow ρ w w' blk) (hx:∀ b,blk=some b->∃ o,x=some o/\ρ.own b=some o):FD C G ρ S w' x where
 agr:=fun b o hb=>by
  have hl:=h.agr b o hb
  rw[hg.block b (dU hl) (fun e=>by
   obtain⟨o',_,ho⟩:=hx b e.symm
   have:=(h.owned b o' ho).1
   grind)]
  exact hl
 le0:=h.le0
 old:=h.old
 frame:=fun b hb hB=>by
  rw[hg.block b (ajh hb h.size) (fun e=>by
   obtain⟨o',_,ho⟩:=hx b e.symm
   rcases (h.owned b o' ho).2.2 with h1 | h1
   all_goals grind)]
  exact h.frame b hb hB
 size:=ajd h.size hg.size
 os:=hg.os.trans h.os
 output:=hg.output.trans h.output
 pin:=h.pin
 pinR:=h.pinR
 owned:=fun b o ho=>⟨(h.owned b o ho).1,ajh (h.owned b o ho).2.1 hg.size,(h.owned b o ho).2.2⟩
 boxes:=fun k cs hk hne=>by
  obtain⟨h1,vs,T,h2,h3⟩:=h.boxes k cs hk hne
  refine⟨h1,vs,T, ?_,h3⟩
  rw[hg.block _ (dU h2) (fun e=>by
   grind)]
  exact h2
 rows:=fun j r hj hne=>(h.rows j r hj hne).kept hg (fun b e ho=>by
  grind)
 objs:=fun j r hj hne=>(h.objs j r hj hne).kept hg (fun b e=>by
  obtain⟨o',_,ho'⟩:=hx b e
  exact (h.owned b o' ho').1) (fun b e ho=>by
  grind)
 hndI:=h.hndI
theorem FD.change {G':Gh} {ρ':Env} {x:Option bE} (h:FD C G ρ S w x) (hG:G.le G') (hh:G'.hnd=G.hnd) (hagr:Agr G' w) (hold:∀ b,b<C.n0->¬ C.B b->G' b=C.G0 b) (hpin:∀ k,2000<=k->ρ'.bx k=ρ.bx k) (hpinR:∀ k,10000000<=k->ρ'.rw k=ρ.rw k/\ρ'.ob k=ρ.ob k) (hs:∀ p,p∈S.boxes->∀ c,c∈p.2->c.gZ ρ ρ') (howned:∀ b o,ρ'.own b=some o->G' b=none/\b<w.heap.size/\(C.n0<=b\/C.B b)) (hbx:∀ k cs,look S.boxes k=some cs->some (.inl k)≠x->ρ'.bx k=ρ.bx k/\(ρ.own (ρ.bx k)=some (.inl k)->ρ'.own (ρ.bx k)=some (.inl k))) (hrw:∀ j r,look S.rows j=some r->some (.inr j)≠x->ρ'.rw j=ρ.rw j/\∀ b,ρ.own b=some (.inr j)->ρ'.own b=some (.inr j)) (hob:∀ j r,look S.objs j=some r->some (.ob j)≠x->ρ'.ob j=ρ.ob j/\ρ'.st j=ρ.st j/\∀ b,ρ.own b=some (.ob j)->ρ'.own b=some (.ob j)):FD C G' ρ' S w x where
 agr:=hagr
 le0:=Gh.le_trans h.le0 hG
 old:=hold
 frame:=h.frame
 size:=h.size
 os:=h.os
 output:=h.output
 pin:=fun k hk=>(hpin k hk).trans (h.pin k hk)
 pinR:=fun k hk=>⟨(hpinR k hk).1.trans (h.pinR k hk).1,(hpinR k hk).2.trans (h.pinR k hk).2⟩
 owned:=howned
 boxes:=fun k cs hk hne=>by
  obtain⟨h1,vs,T,h2,h3⟩:=h.boxes k cs hk hne
  obtain⟨e1,e2⟩:=hbx k cs hk hne
  rw[e1]
  exact⟨e2 h1,vs,T,h2,aR.BQ (fun c hc y=>br.congr hG (hs (k,cs) (ur hk) c hc)) h3⟩
 rows:=fun j r hj hne=>by
  obtain⟨e1,e2⟩:=hrw j r hj hne
  exact (h.rows j r hj hne).congr hG e1 e2
 objs:=fun j r hj hne=>by
  obtain⟨e1,e2,e3⟩:=hob j r hj hne
  exact (h.objs j r hj hne).congr hG hh e1 e2 e3
 hndI:=fun hn=>⟨hh.trans (h.hndI hn).1,(h.hndI hn).2⟩
theorem aaa (h:Mem C G ρ S w):ρ.own w.heap.size=none:=by
 cases ho:ρ.own w.heap.size with
 | none=>rfl
 | some o=>have:=(h.owned _ o ho).2.1;omega
theorem Oi (h:Mem C G ρ S w):G w.heap.size=none:=by
 cases ho:G w.heap.size with
 | none=>rfl
 | some o=>have:=dU (h.agr _ o ho);omega
theorem Grow.alloc (ρ:Env) (w:World) (o:Obj):Grow ρ w (w.alloc o) none:=
 ⟨rfl,rfl,by simp,fun b hb _=>heap_alloc_old w o b hb⟩
def Env.og (ρ:Env) (d b:Nat):Env:=⟨fun i=>if i=d then b else ρ.bx i,ρ.rw,fun i=>if i=b then some (.inl d) else ρ.own i,ρ.ob,ρ.st⟩
theorem Wu {ρ:Env} {k b:Nat} (own:Nat->Option bE) {c:CV} (hc:c.cN k=false):c.gZ ρ ⟨fun i=>if i=k then b else ρ.bx i,ρ.rw,own,ρ.ob,ρ.st⟩:=
 ⟨fun i hi=>by
   grind,fun _ _=>rfl,fun _ _=>rfl,fun _ _=>rfl⟩
theorem Mod.og {a:Act} {d:Nat} {cs:List CV} {vs:List Value} {T:TypeId} (h:Mod C G ρ S w a) (hd:d<2000) (hn:S.cN d=false) (hcs:∀ c,c∈cs->c.cN d=false) (hv:aR (br G ρ) cs vs): Mod C G (ρ.og d w.heap.size) { tmps:=S.tmps.set d (.v false [.ref d 0]),boxes:=(d,cs)::S.boxes,rows:=S.rows,objs:=S.objs } (w.alloc (.cells vs.toArray T)) (a.put (some d) (.pointer (some ⟨w.heap.size,0,none⟩))):=by
 have hown:=aaa h.toMem
 have hgh:=Oi h.toMem
 have hsame:S.gZ ρ (ρ.og d w.heap.size):=WV _ hn
 have hX:=((h.toMem.toX (some (.inl d))).grow (Grow.alloc ρ w (.cells vs.toArray T)) (by simp)).change (G':=G) (ρ':=ρ.og d w.heap.size) (Gh.le_refl G) rfl
  (fun b o hb=>by rw[heap_alloc_old _ _ _ (dU (h.agr b o hb))];exact h.agr b o hb) h.old (fun k hk=>by simp[Env.og,show ¬ k=d by omega]) (fun _ _=>⟨rfl,rfl⟩) hsame.boxes
  (fun b o ho=>by
    simp only[Env.og] at ho
    by_cases e:b=w.heap.size
    ·subst e;exact⟨hgh,by simp,.inl h.size⟩
    ·rw[ajY e] at ho;exact⟨(h.owned b o ho).1,by have:=(h.owned b o ho).2.1;simp;omega,(h.owned b o ho).2.2⟩)
  (fun k cs' hk hne=>by
    have hkd:k≠d:=fun e=>hne (by rw[e])
    refine⟨by simp[Env.og,hkd],fun ho=> ?_⟩
    have:ρ.bx k≠w.heap.size:=fun e=>by grind
    simp[Env.og,this,ho])
  (fun j r hj _=>⟨rfl,fun b ho=>by
    have:b≠w.heap.size:=fun e=>by grind
    simp[Env.og,this,ho]⟩)
  (fun j r hj _=>⟨rfl,rfl,fun b ho=>by
    have:b≠w.heap.size:=fun e=>by grind
    simp[Env.og,this,ho]⟩)
 have hX':=hX.state (S':={ tmps:=S.tmps.set d (.v false [.ref d 0]),boxes:=(d,cs)::S.boxes,rows:=S.rows,objs:=S.objs })
  (fun k cs' hk hne=>by
    have hkd:d≠k:=fun e=>hne (by rw[e])
    simpa [aD,hkd] using hk) (fun j r hj _=>hj) (fun j r hj _=>hj) (fun t l h=>⟨t,l,h⟩)
 have hM:=hX'.toMem (fun k cs' hk e=>by
  cases e
  simp only[aD,aj0,Option.some.injEq] at hk
  subst hk
  refine⟨by simp[Env.og],vs,T,by simp only[Env.og,aj0];exact heap_alloc_new w _, ?_⟩
  exact aR.BQ (fun c hc y=>br.congr (Gh.le_refl G) (Wu _ (hcs c hc))) hv) (fun j r hj e=>by cases e) (fun j r hj e=>by cases e)
 exact { hM with
  tmps:=(h.tmps.congr (Gh.le_refl G) hsame).put (some d) (fun _ _=>by show _=_;simp[Env.og])
  defers:=h.defers }
theorem JZ {ρ':Env} (hb:ρ'.bx=ρ.bx) (hr:ρ'.rw=ρ.rw) (ho:ρ'.ob=ρ.ob) (hs:ρ'.st=ρ.st) (c:CV):c.gZ ρ ρ':=⟨fun k _=>by rw[hb],fun k _=>by rw[hr],fun k _=>by rw[ho],fun k _=>by rw[hs]⟩
theorem oz.same {ρ':Env} (hb:ρ'.bx=ρ.bx) (hr:ρ'.rw=ρ.rw) (ho:ρ'.ob=ρ.ob) (hs:ρ'.st=ρ.st) {s:SV}:s.gZ ρ ρ':=by
 cases s with
 | v a cs=>exact fun c _=>JZ hb hr ho hs c
 | tup l=>exact fun p _ c _=>JZ hb hr ho hs c
theorem lJ {α:Type} (l:List (Nat×α)) (d i:Nat):look (l.filter fun p=> !Nat.beq p.1 d) i=if i=d then none else look l i:=by
 induction l with
 | nil=>simp[look]
 | cons p r ih=>
  obtain⟨j,y⟩:=p
  by_cases e:j=d
  ·subst e
   have:(List.filter (fun p:Nat×α=> !Nat.beq p.1 j) ((j,y)::r))=r.filter fun p=> !Nat.beq p.1 j:=by simp
   rw[this,ih,aD]
   grind
  ·have hb:Nat.beq j d=false:=by
    cases hb:Nat.beq j d with
    | false=>rfl
    | true=>simp_all
   have:(List.filter (fun p:Nat×α=> !Nat.beq p.1 d) ((j,y)::r))=(j,y)::r.filter fun p=> !Nat.beq p.1 d:=by simp[hb]
   rw[this,aD,aD,ih]
   grind
def Env.putRow (ρ:Env) (d:Nat) (v:Value):Env:=⟨ρ.bx,fun i=>if i=d then v else ρ.rw i,fun b=>if v.ownBlock=some b then some (.inr d) else ρ.own b,ρ.ob,ρ.st⟩
theorem Mod.putRow {a:Act} {w':World} {blk jo:Option Nat} {d:Nat} {v:Value} {r:rY} {R:List (Nat×rY)} (h:Mod C G ρ S w a) (hg:Grow ρ w w' blk) (hblk:∀ b,blk=some b->∃ j,jo=some j/\ρ.own b=some (.inr j)) (hR:∀ i q,look R i=some q->look S.rows i=some q/\jo≠some i) (hd2:d<2000) (hd:S.bG d=false) (hf:r.fz=false) (xs:List Value) (hown:w'.ownsRow 0 r.e r.t.size v r.l.length xs) (hrep:cM (aN G r.t) r.l xs) (hnew:∀ b,v.ownBlock=some b->(w.heap.size<=b/\b<w'.heap.size)\/blk=some b): Mod C G (ρ.putRow d v) { tmps:=S.tmps.set d (.v false [.row d]),boxes:=S.boxes,rows:=(d,r)::R,objs:=S.objs } w' (a.put (some d) v):=by
 have hsame:S.gZ ρ (ρ.putRow d v):=ME _ hd
 have hfree:∀ b,v.ownBlock=some b->ρ.own b=none\/∃ j,jo=some j/\ρ.own b=some (.inr j):=fun b hb=>by
  rcases hnew b hb with ⟨h1,_⟩ | h1
  ·left
   cases ho:ρ.own b with
   | none=>rfl
   | some o=>have:=(h.owned b o ho).2.1;omega
  grind
 have hghost:∀ b,v.ownBlock=some b->G b=none/\b<w'.heap.size/\(C.n0<=b\/C.B b):=fun b hb=>by
  rcases hnew b hb with ⟨h1,h2⟩ | h1
  ·refine⟨?_,h2,.inl (ajd h.size h1)⟩
   cases hG:G b with
   | none=>rfl
   | some o=>have:=dU (h.agr b o hG);omega
  ·obtain⟨j,_,ho⟩:=hblk b h1
   have:=h.owned b _ ho
   exact⟨this.1,ajh this.2.1 hg.size,this.2.2⟩
 have hX0:=(h.toMem.toX (jo.map .inr)).grow hg (fun b hb=>by
  grind)
 have hX1:=hX0.state (S':={ tmps:=S.tmps,boxes:=S.boxes,rows:=R.filter fun p=> !Nat.beq p.1 d,objs:=S.objs }) (fun k cs hk _=>hk) (fun j q hj _=>by
  simp only[lJ] at hj
  grind) (fun j q hj _=>hj) (fun t l h=>⟨t,l,h⟩)
 have hX2:=hX1.change (G':=G) (ρ':=ρ.putRow d v) (Gh.le_refl G) rfl hX0.agr hX0.old (fun _ _=>rfl) (fun k hk=>⟨by simp[Env.putRow,show ¬ k=d by omega],rfl⟩) hsame.boxes
  (fun b o ho=>by
    simp only[Env.putRow] at ho
    by_cases e:v.ownBlock=some b
    ·grind
    ·rw[ajY e] at ho;exact hX0.owned b o ho)
  (fun k cs hk _=>⟨rfl,fun ho=>by
    have:v.ownBlock≠some (ρ.bx k):=fun e=>by
     grind
    simp[Env.putRow,this,ho]⟩)
  (fun j q hj _=>by
    simp only[lJ] at hj
    split at hj
    ·cases hj
    ·rename_i hjd
     obtain⟨hj1,hj2⟩:=hR j q hj
     refine⟨by simp[Env.putRow,hjd],fun b ho=> ?_⟩
     have:v.ownBlock≠some b:=fun e=>by
      grind
     simp[Env.putRow,this,ho])
  (fun j q hj _=>⟨rfl,rfl,fun b ho=>by
    have:v.ownBlock≠some b:=fun e=>by
     grind
    simp[Env.putRow,this,ho]⟩)
 refine { agr:=hX2.agr,le0:=hX2.le0,old:=hX2.old,frame:=hX2.frame,size:=hX2.size,os:=hX2.os,output:=hX2.output,pin:=hX2.pin,pinR:=hX2.pinR,owned:=hX2.owned,boxes:= ?_,rows:= ?_,objs:=fun j q hj=>hX2.objs j q hj (by cases jo<;>simp),hndI:=hX2.hndI,tmps:= ?_,defers:=h.defers }
 ·intro k cs hk
  exact hX2.boxes k cs hk (by cases jo<;>simp)
 ·intro j q hj
  simp only[aD] at hj
  split at hj
  ·rename_i e
   subst e
   cases hj
   unfold dI
   rw[ajY (by simp[hf])]
   refine⟨xs,by simpa [Env.putRow] using hown,hrep,fun b hb=> ?_⟩
   simp only[Env.putRow,aj0] at hb ⊢
   grind
  ·rename_i e
   have hjd:¬ j=d:=fun h=>e h.symm
   exact hX2.rows j q (by simp only[lJ,ajY hjd];exact hj) (by
    have:=(hR j q hj).2
    cases jo with
    | none=>simp
    | some i=>grind)
 ·exact (h.tmps.congr (Gh.le_refl G) hsame).put (some d) (fun _ _=>⟨by simp[Env.putRow],by
   rcases hown.2 with ⟨e,_⟩ | ⟨g,cap,cur,e,_⟩
   all_goals grind⟩)
theorem Mod.TU {a:Act} {w':World} {k:Nat} {cs:List CV} {vs:List Value} {T:TypeId} (h:Mod C G ρ S w a) (hk:∃ l,look S.boxes k=some l) (hg:Grow ρ w w' (some (ρ.bx k))) (hw:w'.heap[ρ.bx k]? =some (.cells vs.toArray T (0,0))) (hv:aR (br G ρ) cs vs):Mod C G ρ { S with boxes:=(k,cs)::S.boxes } w' a:=by
 obtain⟨l,hl⟩:=hk
 have ho:=(h.boxes k l hl).1
 have hX:=((h.toMem.toX (some (.inl k))).grow hg (fun b hb=>by grind)).state (S':={ S with boxes:=(k,cs)::S.boxes })
  (fun i c hi hne=>by
    have:¬ k=i:=fun e=>hne (by rw[e])
    simpa [aD,this] using hi) (fun j r hj _=>hj) (fun j r hj _=>hj) (fun t l h=>⟨t,l,h⟩)
 have hM:=hX.toMem (fun i c hi e=>by
  cases e
  simp only[aD,aj0,Option.some.injEq] at hi
  grind) (fun j r hj e=>by cases e) (fun j r hj e=>by cases e)
 exact { hM with tmps:=h.tmps,defers:=h.defers }
theorem Mod.setRow {a:Act} {w':World} {j:Nat} {q r:rY} (h:Mod C G ρ S w a) (hj:look S.rows j=some q) (hq:q.fz=false) (hr:r.fz=false) {b:Nat} (hb:(ρ.rw j).ownBlock=some b) (hg:Grow ρ w w' (some b)) (xs:List Value) (hown:w'.ownsRow 0 r.e r.t.size (ρ.rw j) r.l.length xs) (hrep:cM (aN G r.t) r.l xs):Mod C G ρ { S with rows:=(j,r)::S.rows } w' a:=by
 have hrow:=h.rows j q hj
 unfold dI at hrow
 rw[ajY (by simp[hq])] at hrow
 obtain⟨_,_,_,ho⟩:=hrow
 have hX:=((h.toMem.toX (some (.inr j))).grow hg (fun b' hb'=>by grind)).state (S':={ S with rows:=(j,r)::S.rows }) (fun k cs hk _=>hk)
  (fun i c hi hne=>by
    have:¬ j=i:=fun e=>hne (by rw[e])
    simpa [aD,this] using hi) (fun j r hj _=>hj) (fun t l h=>⟨t,l,h⟩)
 have hM:=hX.toMem (fun k cs hk e=>by cases e) (fun i c hi e=>by
  cases e
  simp only[aD,aj0,Option.some.injEq] at hi
  subst hi
  unfold dI
  grind) (fun j r hj e=>by cases e)
 exact { hM with tmps:=h.tmps,defers:=h.defers }
structure Fz (G G':Gh) (ρ ρ':Env):Prop where
 le:G.le G'
 bx:ρ'.bx=ρ.bx
 rw:ρ'.rw=ρ.rw
 ob:ρ'.ob=ρ.ob
 st:ρ'.st=ρ.st
 hnd:G'.hnd=G.hnd
 own:∀ b o,ρ'.own b=some o->ρ.own b=some o
 new:∀ b,G' b≠G b->∃ j,ρ.own b=some (.inr j)
theorem Fz.refl (G:Gh) (ρ:Env):Fz G G ρ ρ:=⟨Gh.le_refl G,rfl,rfl,rfl,rfl,rfl,fun _ _ h=>h,fun _ h=>absurd rfl h⟩
theorem Fz.trans {G1 G2 G3:Gh} {r1 r2 r3:Env} (h:Fz G1 G2 r1 r2) (k:Fz G2 G3 r2 r3):Fz G1 G3 r1 r3:=
 ⟨Gh.le_trans h.le k.le,k.bx.trans h.bx,k.rw.trans h.rw,k.ob.trans h.ob,k.st.trans h.st,k.hnd.trans h.hnd,fun b o x=>h.own b o (k.own b o x),fun b hb=>by
   by_cases e:G3 b=G2 b
   ·exact h.new b (fun e'=>hb (e.trans e'))
   ·obtain⟨j,hj⟩:=k.new b e;exact⟨j,h.own b _ hj⟩⟩
def Ci (rs:List (Nat×rY)) (j:Nat):List (Nat×rY):=match look rs j with | some q=>(j,{ q with fz:=true })::rs | none=>rs
theorem Mod.Ci {a:Act} (h:Mod C G ρ S w a) (j:Nat):∃ G' ρ',Fz G G' ρ ρ'/\Mod C G' ρ' { S with rows:=Ci S.rows j } w a:=by
 unfold Dn.Ci
 cases hj:look S.rows j with
 | none=>exact⟨G,ρ,Fz.refl G ρ,{ h.toMem.PA (S':={ S with rows:=S.rows }) rfl rfl rfl with tmps:=h.tmps,defers:=h.defers }⟩
 | some q=>
  have hrow:=h.rows j q hj
  have same:iH G q.t.size (aN G q.t) q.l (ρ.rw j)->∃ G' ρ',Fz G G' ρ ρ'/\Mod C G' ρ' { S with rows:=(j,{ q with fz:=true })::S.rows } w a:=fun hs=>by
   refine⟨G,ρ,Fz.refl G ρ,{ h with rows:= ?_,tmps:=h.tmps }⟩
   intro i r hi
   simp only[aD] at hi
   split at hi
   ·rename_i e;subst e;cases hi;unfold dI;grind
   ·exact h.rows i r hi
  by_cases hf:q.fz=true
  ·apply same
   unfold dI at hrow;grind
  ·have hf':q.fz=false:=by grind
   unfold dI at hrow
   rw[ajY hf] at hrow
   obtain⟨xs,⟨hlen,hn | ⟨g,cap,cur,hv,_,hg,hnc,hcm,hcs,htake⟩⟩,hl,ho⟩:=hrow
   ·apply same
    have:q.l=[]:=ahV hn.2
    exact⟨none,0,by grind,by omega,ajy _,.inl this⟩
   ·have hog:=ho g (by rw[hv];rfl)
    have hgn:=h.owned g _ hog
    let G':Gh:=⟨fun b=>if b=g then w.heap[g]? else G b,G.hnd⟩
    let ρ':Env:=⟨ρ.bx,ρ.rw,fun b=>if b=g then none else ρ.own b,ρ.ob,ρ.st⟩
    have hle:G.le G':=⟨fun b o hb=>by
     grind,fun _ _ h=>h⟩
    have hfz:Fz G G' ρ ρ':=⟨hle,rfl,rfl,rfl,rfl,rfl,fun b o ho'=>by
     grind,fun b hb=>by
     grind⟩
    have hX:=(h.toMem.toX (some (.inr j))).change (G':=G') (ρ':=ρ') hle rfl
     (fun b o hb=>by
       simp only[G'] at hb
       by_cases e:b=g
       ·grind
       ·rw[ajY e] at hb;exact h.agr b o hb)
     (fun b hb hB=>by
       have e:b≠g:=fun e=>by
        grind
       simp only[G',ajY e];exact h.old b hb hB)
     (fun _ _=>rfl) (fun _ _=>⟨rfl,rfl⟩) (fun p _ c _=>JZ (ρ:=ρ) (ρ':=ρ') rfl rfl rfl rfl c)
     (fun b o ho'=>by
       have e:b≠g:=fun e=>by grind
       have:=h.owned b o (hfz.own b o ho')
       grind)
     (fun k cs hk _=>⟨rfl,fun ho'=>by
       grind⟩)
     (fun i r hi hne=>⟨rfl,fun b ho'=>by
       grind⟩)
     (fun i r hi hne=>⟨rfl,rfl,fun b ho'=>by
       grind⟩)
    refine⟨G',ρ',hfz, ?_⟩
    have hX':=hX.state (S':={ S with rows:=(j,{ q with fz:=true })::S.rows }) (fun k cs hk _=>hk) (fun i c hi hne=>by
     have:¬ j=i:=fun e=>hne (by rw[e])
     simpa [aD,this] using hi) (fun j r hj _=>hj) (fun t l h=>⟨t,l,h⟩)
    have hM:=hX'.toMem (fun k cs hk e=>by cases e) (fun i c hi e=>by
     cases e
     simp only[aD,aj0,Option.some.injEq] at hi
     subst hi
     unfold dI
     rw[ajZ rfl]
     refine⟨some ⟨g,0,none⟩,cap,hv,hnc,hcm,.inr ⟨g,0,cur,q.e,(0,0),rfl,by grind, ?_, ?_⟩⟩
     ·grind
     ·simp only[ahT];rw[htake];exact hl.mono (aN.mono hle q.t)) (fun j r hj e=>by cases e)
    exact { hM with tmps:=h.tmps.congr hle ⟨fun s _=>oz.same (ρ:=ρ) (ρ':=ρ') rfl rfl rfl rfl,fun p _ c _=>JZ (ρ:=ρ) (ρ':=ρ') rfl rfl rfl rfl c⟩,defers:=h.defers }
theorem Mz (S:St) (js:List Nat):aX S js={ S with rows:=js.foldl Ci S.rows }:=rfl
theorem Mod.freeze {a:Act}:∀ (js:List Nat) {G:Gh} {ρ:Env} {S:St},Mod C G ρ S w a->∃ G' ρ',Fz G G' ρ ρ'/\Mod C G' ρ' (aX S js) w a
 | [],G,ρ,S,h=>⟨G,ρ,Fz.refl G ρ,h⟩
 | j::js,G,ρ,S,h=>by
  obtain⟨G1,ρ1,f1,h1⟩:=h.Ci j
  obtain⟨G2,ρ2,f2,h2⟩:=Mod.freeze js h1
  exact⟨G2,ρ2,f1.trans f2,h2⟩
end Go.Dn
namespace Go.Dn
theorem lg {β:Type} {b:Bool} {x:Option β} {r:β} (h:chk b x=some r):b=true/\x=some r:=by
 cases b with
 | true=>exact⟨rfl,h⟩
 | false=>cases h
theorem bind_some {α β:Type} {x:Option α} {f:α->Option β} {r:β} (h:x.bind f=some r):∃ y,x=some y/\f y=some r:=by
 cases x with
 | none=>cases h
 | some y=>grind
variable {P:Program} {G:Gh} {ρ:Env} {w:World} {β:Type}
theorem abE {op:BinOp} {ka kb:IntKind} {x y:Int} {k:CV->Option β} {r:β} (h:Xu op ka x kb y k=some r): ∃ c,k c=some r/\∀ (P:Program) (G:Gh) (ρ:Env) (w:World) (t:TypeId),∃ v,(binOp op t (.int ka x) (.int kb y)).run P w= .ok v w/\br G ρ c v:=by
 unfold Xu at h
 cases op
 case shl=>
  obtain⟨h1,h2⟩:=lg h
  exact⟨_,h2,fun P G ρ w t=>⟨_,by simp only[ajS] at h1;simp[binOp,Op.shift,show ¬ y<0 by omega],rfl⟩⟩
 case shr=>
  obtain⟨h1,h2⟩:=lg h
  exact⟨_,h2,fun P G ρ w t=>⟨_,by simp only[ajS] at h1;simp[binOp,Op.shift,show ¬ y<0 by omega],rfl⟩⟩
 all_goals
  simp only at h
  split at h
  ·cases h
  ·rename_i hk
   have hk':ka=kb:=by simpa using hk
   subst hk'
   first
    | cases h
    | exact⟨_,h,fun P G ρ w t=>⟨_,by simp[binOp,Op.intArith,Op.intCmp,Op.intBits],rfl⟩⟩
    | (obtain⟨h1,h2⟩:=lg h
       exact⟨_,h2,fun P G ρ w t=>⟨_,by simp only[bne_iff_ne,ne_eq] at h1;simp[binOp,Op.intDiv,h1],rfl⟩⟩)
theorem Xw (l:List UInt8):(bs l).toList=l:=by rw[ByteArray.toList_eq,abJ]
theorem JX (l:List UInt8):(bs l).size=l.length:=by rfl
theorem afC (a b:List UInt8):bs a++bs b=bs (a++b):=by
 rfl
theorem abF {op:BinOp} {x y:List UInt8} {k:CV->Option β} {r:β} (h:Xv op x y k=some r): ∃ c,k c=some r/\∀ (P:Program) (G:Gh) (ρ:Env) (w:World) (t:TypeId),∃ v,(binOp op t (.string (bs x)) (.string (bs y))).run P w= .ok v w/\br G ρ c v:=by
 unfold Xv at h
 cases op
 case add=>
  obtain⟨h1,h2⟩:=lg h
  refine⟨_,h2,fun P G ρ w t=>⟨_, ?_,rfl⟩⟩
  simp only[ajS] at h1
  have:¬ ((((bs x).size+(bs y).size:Nat):Int)>IntKind.i64.max):=by
   simp only[maxLen] at h1
   rw[JX,JX]
   simp[IntKind.max,IntKind.signed,IntKind.bits]
   omega
  simp only[binOp,Op.stringOp,this,ajX,afC]
  rfl
 all_goals first
  | cases h
  | exact⟨_,h,fun P G ρ w t=>⟨_,by simp only[binOp,Op.stringOp,Xw];rfl,rfl⟩⟩
theorem Zd {op:BinOp} {t:TypeId} {x y:Operand} {k:IntKind} {n:Int} {v:Value}:(eqGuard op t x y (.int k n) v).run P w= .ok () w:=by
 cases op<;>cases v<;>rfl
theorem Ze {op:BinOp} {t:TypeId} {x y:Operand} {s:ByteArray} {v:Value}:(eqGuard op t x y (.string s) v).run P w= .ok () w:=by
 cases op<;>cases v<;>rfl
theorem vK {t:TypeId} {d:TypeDesc} (h:P.underlying t=some d):(isAgg t).run P w= .ok (xh P t) w:=by
 simp only[isAgg,Sem.run_bind,run_underlying h,Result.andThen_ok,xh,h]
 cases d<;>rfl
theorem run_sizeOf {t:TypeId} {i:TypeInfo} (h:P.info? t=some i):(sizeOf t).run P w= .ok (cB P t) w:=by
 simp[sizeOf,typeInfo,h,cB]
theorem XE {b off:Nat} {c:Array Value} {T:TypeId} {fz:Nat×Nat} (hb:w.heap[b]? =some (.cells c T fz)) (n:Nat):∀ j v,((c.toList.drop off).take n)[j]? =some v->w.cell? ((⟨b,off,none⟩:Addr).add j)=some v:=by
 intro j v hj
 rw[aii] at hj
 split at hj
 ·rw[ah7] at hj
  have hadd:(⟨b,off,none⟩:Addr).add j=⟨b,off+j,none⟩:=by unfold Addr.add;simp
  rw[hadd,cell_of_row w b _ c T fz hb]
  grind
 grind
theorem KB {t:TypeId} {d:TypeDesc} {i:TypeInfo} (hu:P.underlying t=some d) (hi:P.info? t=some i) {b off:Nat} {vs:List Value} (hl:vs.length=cB P t) (h:∀ j v,vs[j]? =some v->w.cell? ((⟨b,off,none⟩:Addr).add j)=some v): (xh P t=true->(loadVar t ⟨b,off,none⟩).run P w= .ok (.agg vs.toArray) w)/\(xh P t=false->∀ v,vs=[v]->(loadVar t ⟨b,off,none⟩).run P w= .ok v w):=by
 constructor
 ·intro ha
  simp only[loadVar,Sem.run_bind,vK hu,Result.andThen_ok,ha,aj0,run_sizeOf hi, <- hl]
  rw[run_loadCells_list w ⟨b,off,none⟩ vs h]
  rfl
 ·intro ha v hv
  subst hv
  have h0:=h 0 v rfl
  simp only[loadVar,Sem.run_bind,vK hu,Result.andThen_ok,ha]
  have:(⟨b,off,none⟩:Addr).add 0=⟨b,off,none⟩:=rfl
  simp_all
theorem aeY {t:TypeId} {d:TypeDesc} (h:P.underlying t=some d):∃ i,P.info? t=some i:=by
 unfold Program.underlying at h
 grind
theorem mC {t:TypeId} (h:okT P t=true):∃ d i,P.underlying t=some d/\P.info? t=some i:=by
 obtain⟨d,hd⟩:=ajE.1 h
 obtain⟨i,hi⟩:=aeY hd
 grind
theorem GU {l cs:List CV} {off n:Nat} (h:Pf l off n=some cs):cs=(l.drop off).take n/\cs.length=n:=by
 unfold Pf at h
 simp only at h
 split at h
 ·rename_i hb;cases h;simp_all
 ·cases h
theorem Fa {T:TypeId} {l:List CV} {off:Nat} {k:SV->Option β} {r:β} (h:qQ P T l off k=some r): ∃ s,k s=some r/\∀ (G:Gh) (ρ:Env) (w:World) (b base:Nat) (vs:List Value),aR (br G ρ) l vs->(∀ j v,vs[j]? =some v->w.cell? ((⟨b,base,none⟩:Addr).add j)=some v)-> ∃ v,(loadVar T ⟨b,base+off,none⟩).run P w= .ok v w/\bK G ρ s v:=by
 unfold qQ at h
 split at h
 ·rename_i hok
  obtain⟨d,i,hd,hi⟩:=mC hok
  split at h
  ·rename_i cs hc
   obtain⟨e,hlen⟩:=GU hc
   have key:∀ (G:Gh) (ρ:Env) (w:World) (b base:Nat) (vs:List Value),aR (br G ρ) l vs->(∀ j v,vs[j]? =some v->w.cell? ((⟨b,base,none⟩:Addr).add j)=some v)->
    ∃ us:List Value,us.length=cB P T/\aR (br G ρ) cs us/\∀ j v,us[j]? =some v->w.cell? ((⟨b,base+off,none⟩:Addr).add j)=some v:=by
    intro G ρ w b base vs hv hcell
    refine⟨(vs.drop off).take (cB P T), ?_,by rw[e];exact (hv.drop off).take _, ?_⟩
    ·have:=((hv.drop off).take (cB P T)).len
     grind
    ·intro j v hj
     rw[aii] at hj
     split at hj
     ·rw[ah7] at hj
      have:=hcell (off+j) v hj
      have e1:(⟨b,base,none⟩:Addr).add (off+j)=⟨b,base+off+j,none⟩:=by unfold Addr.add;grind
      have e2:(⟨b,base+off,none⟩:Addr).add j=⟨b,base+off+j,none⟩:=by unfold Addr.add;simp
      grind
     grind
   split at h
   ·rename_i ha
    refine⟨_,h,fun G ρ w b base vs hv hcell=> ?_⟩
    obtain⟨us,hl,hus,hc'⟩:=key G ρ w b base vs hv hcell
    exact⟨_,(KB hd hi hl hc').1 ha,us,rfl,hus⟩
   ·rename_i ha
    split at h
    ·rename_i c
     refine⟨_,h,fun G ρ w b base vs hv hcell=> ?_⟩
     obtain⟨us,hl,hus,hc'⟩:=key G ρ w b base vs hv hcell
     obtain⟨y,ey,hy⟩:=hus.single
     exact⟨y,(KB hd hi hl hc').2 (by grind) y ey,hy⟩
    ·cases h
  ·cases h
 ·cases h
theorem Rz {α:Type} {l:List α} {i:Int} {x:α} (h:idx l i=some x):0<=i/\i<l.length/\l[i.toNat]? =some x:=by
 unfold idx at h
 grind
theorem run_indexAt_slice {t e:TypeId} (ht:P.underlying t=some (.slice e)) (hok:okT P e=true) {ik:IntKind} {i:Int} {b off len cap:Nat} (h0:0<=i) (h1:i<len): (Instr.indexAt t (.slice (some ⟨b,off,none⟩) len cap) (.int ik i)).run P w= .ok (.pointer (some ⟨b,off+i.toNat*cB P e,none⟩)) w:=by
 obtain⟨d,inf,hd,hi⟩:=mC hok
 have hadd:(⟨b,off,none⟩:Addr).add (i.toNat*cB P e)=⟨b,off+i.toNat*cB P e,none⟩:=by unfold Addr.add;simp
 simp only[Instr.indexAt,asIntOf,Sem.run_bind,Sem.run_pure,Result.andThen_ok,run_underlying ht,h0,h1,ajI,aj0,run_sizeOf hi,hadd]
theorem iH.at {t:Ty} {l:List t.den} {v:Value} (h:iH G t.size (aN G t) l v) {i:Nat} {x:t.den} (hx:l[i]? =some x): ∃ b off c T fz cap,v= .slice (some ⟨b,off,none⟩) l.length cap/\G b=some (.cells c T fz)/\off+i*t.size+t.size<=c.size/\aN G t x ((c.toList.drop (off+i*t.size)).take t.size):=by
 obtain⟨a,cap,hv,h1,h2,h3⟩:=h
 have hlt:=(aia.1 hx).1
 rcases h3 with rfl | ⟨b,off,c,T,fz,ha,hb,hs,hl⟩
 ·grind
 ·refine⟨b,off,c,T,fz,cap,by rw[hv,ha],hb, ?_, ?_⟩
  ·have:i*t.size+t.size<=l.length*t.size:=by rw[<- Nat.succ_mul];exact ajr _ hlt
   omega
  ·have:=hl.get (fun x cs hr=>aN.len hr) hx
   rw[List.drop_take,ai2,ahQ] at this
   have e:min t.size (l.length*t.size - i*t.size)=t.size:=by
    have:i*t.size+t.size<=l.length*t.size:=by rw[<- Nat.succ_mul];exact ajr _ hlt
    omega
   grind
end Go.Dn
namespace Go.Dn
variable {β:Type}
def kG (P:Program) (o:Oper) (S M:St) (s:SV):Prop:=
 ∀ (C:Fr P) (G:Gh) (ρ:Env) (w:World) (a:Act),Mem C G ρ M w->(∀ x,x∈o.op.operands->bK G ρ (S.ev x) (a.eval x))->
  ∃ v,(execOp a.eval o).run P w= .ok (.value v) w/\bK G ρ s v
theorem one_cell {G:Gh} {ρ:Env} {s:SV} {c:CV} {v:Value} (h:bK G ρ s v) (e:s= .v false [c]):br G ρ c v:=by subst e;exact h
theorem Vy {G:Gh} {ρ:Env} {n:Nat} {c c':CV} {v:Value} (h:R8 n c=some c') (hv:br G ρ c v):∃ b off,v= .pointer (some ⟨b,off,none⟩)/\br G ρ c' (.pointer (some ⟨b,off+n,none⟩)):=by
 cases c<;>simp only[R8] at h<;>try cases h
 case ref k o=>exact⟨_,_,hv,rfl⟩
 case cp t x o=>
  obtain⟨b,off,c,T,fz,e,hb,hs,hl⟩:=hv
  exact⟨_,_,e,b,off,c,T,fz,by rw[ai3],hb,hs,hl⟩
 case rp j sz i o=>
  obtain⟨b,len,cap,e1,e2⟩:=hv
  exact⟨_,_,e2,b,len,cap,e1,by rw[ai3]⟩
 case hnd o k=>
  cases o with
  | none=>cases h
  | some i=>
   cases h
   obtain⟨b,hb,e⟩:=hv
   exact⟨_,_,e,b,hb,rfl⟩
theorem JY {G:Gh} {ρ:Env} {c:CV} {v:Value} (h:br G ρ c v) (hok:c.ok=true):v.oneCell'=true/\v.cells= #[v]:=by
 cases c
 case any=>cases hok
 case opq u=>cases hok
 case sl t l=>obtain⟨a,cap,e,_⟩:=h;subst e;exact⟨rfl,rfl⟩
 case cp t x o=>obtain⟨b,off,c,T,fz,e,_⟩:=h;subst e;exact⟨rfl,rfl⟩
 case clo g t x=>obtain⟨caps,e,_⟩:=h;subst e;exact⟨rfl,rfl⟩
 case rp j sz i o=>obtain⟨b,len,cap,_,e⟩:=h;subst e;exact⟨rfl,rfl⟩
 case row j=>obtain⟨_,a,n,c,e⟩:=h;subst e;exact⟨rfl,rfl⟩
 case mp j=>obtain⟨_,b,e⟩:=h;subst e;exact⟨rfl,rfl⟩
 case kseq g j=>obtain⟨b,T,fz,e,_⟩:=h;subst e;exact⟨rfl,rfl⟩
 case nb b=>obtain⟨c,e,_⟩:=h;subst e;exact⟨rfl,rfl⟩
 case hnd o k=>
  cases o with
  | none=>obtain⟨e,_⟩:=h;subst e;exact⟨rfl,rfl⟩
  | some i=>obtain⟨b,_,e⟩:=h;subst e;exact⟨rfl,rfl⟩
 all_goals (have e:v=_:=h;subst e;exact⟨rfl,rfl⟩)
section
variable {X:Cx} {o:Oper} {S M:St} {k:SV->Option β} {r:β}
theorem aah {P:Program} {T:TypeId} {l:List CV} {off:Nat} {s:SV} (h:qQ P T l off some=some s): ∀ (G:Gh) (ρ:Env) (w:World) (vs:List Value),aR (br G ρ) l vs->∃ v,(part T vs.toArray off).run P w= .ok v w/\bK G ρ s v:=by
 unfold qQ at h
 split at h
 ·rename_i hok
  obtain⟨d,i,hd,hi⟩:=mC hok
  split at h
  ·rename_i cs' hc
   obtain⟨e,hlen⟩:=GU hc
   split at h
   ·rename_i ha
    cases h
    intro G ρ w vs hl
    refine⟨.agg ((vs.drop off).take (cB P T)).toArray, ?_,_,rfl,by rw[e];exact (hl.drop _).take _⟩
    simp only[Sem.run_bind,Result.andThen_ok,Sem.run_pure,part,vK hd,ha,aj0,run_sizeOf hi]
    simp
   ·rename_i ha
    split at h
    ·rename_i c
     cases h
     intro G ρ w vs hl
     have hsub:=(hl.drop off).take (cB P T)
     rw[<- e] at hsub
     obtain⟨y,ey,hy⟩:=hsub.single
     have hy0:vs[off]? =some y:=by
      have:((vs.drop off).take (cB P T))[0]? =some y:=by grind
      grind
     refine⟨y, ?_,hy⟩
     simp[part,vK hd,ha,hy0]
    ·cases h
  ·cases h
 ·cases h
theorem ZR {P:Program} {g:TypeId->SV->SV->Option Bool} {d:Nat} (hg:∀ t x y r,g t x y=some r->∀ (G:Gh) (ρ:Env) (w:World) vx vy,bK G ρ x vx->bK G ρ y vy->(Op.equalIn d t vx vy).run P w= .ok r w) {xs ys:List CV}: ∀ {fs:List Field} {r:Bool},N4 P g xs ys fs=some r->∀ (G:Gh) (ρ:Env) (w:World) vs us,aR (br G ρ) xs vs->aR (br G ρ) ys us->(Op.eqFields d vs.toArray us.toArray fs).run P w= .ok r w
 | [],r,h,G,ρ,w,vs,us,hv,hu=>by simp only[N4,Option.some.injEq] at h;subst h;rfl
 | f::fs,r,h,G,ρ,w,vs,us,hv,hu=>by
  simp only[N4] at h
  split at h
  ·cases h
  ·rename_i hn
   split at h
   ·rename_i a b ha hb
    split at h
    ·rename_i r1 hr1
     split at h
     ·rename_i q hq
      cases h
      obtain⟨x,hx1,hx2⟩:=aah ha G ρ w vs hv
      obtain⟨y,hy1,hy2⟩:=aah hb G ρ w us hu
      have h1:=hg _ _ _ _ hr1 G ρ w x y hx2 hy2
      have h2:=ZR hg hq G ρ w vs us hv hu
      simp only[Op.eqFields,ajZ hn,Sem.run_bind,hx1,hy1,h1,Result.andThen_ok,Sem.run_ite,Sem.run_pure,h2]
      grind
     ·cases h
    ·cases h
   ·cases h
theorem LK {G:Gh} {ρ:Env} {c:CV} {v:Value} (h:c.Xd=true) (hv:br G ρ c v):∃ a,v= .pointer (some a):=by
 cases c<;>simp only[CV.Xd] at h<;>try cases h
 case ref k o=>exact⟨_,hv⟩
 case cp t x o=>obtain⟨b,off,c,T,fz,e,_⟩:=hv;exact⟨_,e⟩
 case rp j sz i o=>obtain⟨b,len,cap,_,e⟩:=hv;exact⟨_,e⟩
theorem UH {P:Program}:∀ {d:Nat} {t:TypeId} {x y:SV} {r:Bool},AG P d t x y=some r->∀ (d':Nat),d<=d'->∀ (G:Gh) (ρ:Env) (w:World) vx vy,bK G ρ x vx->bK G ρ y vy->(Op.equalIn d' t vx vy).run P w= .ok r w
 | 0,t,x,y,r,h=>by simp[AG] at h
 | d+1,t,x,y,r,h=>by
  intro d' hd' G ρ w vx vy hx hy
  obtain⟨e,rfl⟩:∃ e,d'=e+1:=⟨d' - 1,by omega⟩
  simp only[AG] at h
  split at h
  ·rename_i k0 ht
   split at h
   ·rename_i k a k' b
    split at h
    ·rename_i hk
     cases h
     subst hk
     have e1:vx= .int k a:=hx
     have e2:vy= .int k b:=hy
     subst e1;subst e2
     exact run_equalIn_int w e t k k0 a b ht
    ·cases h
   ·cases h
  ·rename_i ht
   split at h
   ·rename_i a b
    cases h
    have e1:vx= .bool a:=hx
    have e2:vy= .bool b:=hy
    subst e1;subst e2
    exact run_equalIn_bool w e t a b ht
   ·cases h
  ·rename_i ht
   split at h
   ·rename_i a b
    cases h
    have e1:vx= .string (bs a):=hx
    have e2:vy= .string (bs b):=hy
    subst e1;subst e2
    have:=run_equalIn_string w e t (bs a) (bs b) ht
    rw[Xw,Xw] at this
    omega
   ·cases h
  ·rename_i el ht
   split at h
   ·cases h
    have e1:vx= .pointer none:=hx
    have e2:vy= .pointer none:=hy
    subst e1;subst e2
    simp[Op.equalIn,run_underlying ht]
   ·rename_i o k
    cases h
    have e1:vx= .pointer none:=hx
    subst e1
    cases o with
    | none=>obtain⟨e2,_⟩:=hy;subst e2;simp[Op.equalIn,run_underlying ht]
    | some i=>obtain⟨b,_,e2⟩:=hy;subst e2;simp[Op.equalIn,run_underlying ht]
   ·rename_i o k
    cases h
    have e1:vy= .pointer none:=hy
    subst e1
    cases o with
    | none=>obtain⟨e2,_⟩:=hx;subst e2;simp[Op.equalIn,run_underlying ht]
    | some i=>obtain⟨b,_,e2⟩:=hx;subst e2;simp[Op.equalIn,run_underlying ht]
   ·rename_i c _ _
    split at h
    ·rename_i hp
     cases h
     have e1:vx= .pointer none:=hx
     obtain⟨a,e2⟩:=LK hp (show br G ρ c vy from hy)
     subst e1;subst e2
     simp[Op.equalIn,run_underlying ht]
    ·cases h
   ·rename_i c _ _
    split at h
    ·rename_i hp
     cases h
     have e2:vy= .pointer none:=hy
     obtain⟨a,e1⟩:=LK hp (show br G ρ c vx from hx)
     subst e1;subst e2
     simp[Op.equalIn,run_underlying ht]
    ·cases h
   ·cases h
  ·rename_i fs ht
   split at h
   ·rename_i xs ys
    split at h
    ·cases h
    ·rename_i hst
     obtain⟨vs,e1,hvs⟩:=hx
     obtain⟨us,e2,hus⟩:=hy
     subst e1;subst e2
     have hf:P.fieldsOf t=fs:=by simp[Program.fieldsOf,ht]
     rw[run_equalIn_struct w e t vs.toArray us.toArray (by grind) (by grind),hf]
     exact ZR (fun t x y r hr G ρ w vx vy hvx hvy=>UH hr e (by omega) G ρ w vx vy hvx hvy) h G ρ w vs us hvs hus
   ·cases h
  ·cases h
theorem Qw {P:Program} {op:BinOp} {t:TypeId} {x y:Operand} {vx vy:Value} {w:World} (h:P.eqGuardType P.depth t=false) (hx:vx≠ .nilIface):(eqGuard op t x y vx vy).run P w= .ok () w:=by
 unfold eqGuard
 cases op<;>first
  | rfl
  | (cases vx<;>cases vy<;>first | rfl | exact absurd rfl hx | simp[run_program,h])
def agf (t:TypeId) (vx vy:Value):Prop:=vx≠ .nilIface/\binOp .eql t vx vy=(do pure (.bool (<- Op.equal t vx vy)))/\binOp .neq t vx vy=(do pure (.bool (!(<- Op.equal t vx vy))))
theorem aaM {P:Program} {d:Nat} {t:TypeId} {x y:SV} {q:Bool} (hq:AG P (d+1) t x y=some q): (∃ ka a kb b,x= .v false [.int ka a]/\y= .v false [.int kb b])\/(∃ a b,x= .v false [.str a]/\y= .v false [.str b])\/ ∀ (G:Gh) (ρ:Env) (vx vy:Value),bK G ρ x vx->bK G ρ y vy->agf t vx vy:=by
 simp only[AG] at hq
 split at hq
 ·grind
 ·split at hq
  ·rename_i a b
   refine .inr (.inr fun G ρ vx vy hvx hvy=> ?_)
   have e1:vx= .bool a:=hvx
   have e2:vy= .bool b:=hvy
   subst e1;subst e2
   exact⟨by simp,rfl,rfl⟩
  grind
 ·grind
 ·refine .inr (.inr fun G ρ vx vy hvx hvy=> ?_)
  have hp:(∃ p,vx= .pointer p)/\∃ p,vy= .pointer p:=by
   split at hq
   ·exact⟨⟨_,hvx⟩,⟨_,hvy⟩⟩
   ·rename_i o k
    refine⟨⟨_,hvx⟩, ?_⟩
    cases o with
    | none=>exact⟨_,hvy.1⟩
    | some i=>obtain⟨b,_,e⟩:=hvy;grind
   ·rename_i o k
    refine⟨?_,⟨_,hvy⟩⟩
    cases o with
    | none=>exact⟨_,hvx.1⟩
    | some i=>obtain⟨b,_,e⟩:=hvx;grind
   ·rename_i c _ _
    split at hq
    ·rename_i hp
     obtain⟨a,e⟩:=LK hp (show br G ρ c vy from hvy)
     exact⟨⟨_,hvx⟩,⟨_,e⟩⟩
    grind
   ·rename_i c _ _
    split at hq
    ·rename_i hp
     obtain⟨a,e⟩:=LK hp (show br G ρ c vx from hvx)
     exact⟨⟨_,e⟩,⟨_,hvy⟩⟩
    grind
   grind
  obtain⟨⟨p,rfl⟩,⟨q',rfl⟩⟩:=hp
  exact⟨by simp,rfl,rfl⟩
 ·split at hq
  ·refine .inr (.inr fun G ρ vx vy hvx hvy=> ?_)
   obtain⟨vs,e1,hvs⟩:=hvx
   obtain⟨us,e2,hus⟩:=hvy
   subst e1;subst e2
   exact⟨by simp,rfl,rfl⟩
  grind
 grind
theorem af1 {op:BinOp} {t u:TypeId} {x y:Operand} (ho:o.op= .binOp op t x y u) (hi:∀ ka a kb b,S.ev x= .v false [.int ka a]->S.ev y= .v false [.int kb b]->False) (hs:∀ a b,S.ev x= .v false [.str a]->S.ev y= .v false [.str b]->False) (h:adD X.P op t (S.ev x) (S.ev y) k=some r):∃ s,k s=some r/\kG X.P o S M s:=by
 unfold adD at h
 split at h
 ·cases h
 ·rename_i hgd
  have hgd':X.P.eqGuardType X.P.depth t=false:=by grind
  have key:∀ q,AG X.P 9 t (S.ev x) (S.ev y)=some q->∀ (G:Gh) (ρ:Env) (w:World) (vx vy:Value),bK G ρ (S.ev x) vx->bK G ρ (S.ev y) vy->
   (eqGuard op t x y vx vy).run X.P w= .ok () w/\(binOp .eql t vx vy).run X.P w= .ok (.bool q) w/\(binOp .neq t vx vy).run X.P w= .ok (.bool !q) w:=by
   intro q hq G ρ w vx vy hvx hvy
   have heq':(Op.equal t vx vy).run X.P w= .ok q w:=UH hq Op.maxDepth (by decide) G ρ w vx vy hvx hvy
   rcases aaM hq with ⟨ka,a,kb,b,e1,e2⟩ | ⟨a,b,e1,e2⟩ | hB
   ·grind
   ·grind
   ·obtain⟨h1,h2,h3⟩:=hB G ρ vx vy hvx hvy
    refine⟨Qw hgd' h1, ?_, ?_⟩
    all_goals simp_all
  clear hi hs
  split at h
  ·split at h
   ·rename_i q hq
    refine⟨_,h,fun C G ρ w a hM hop=>⟨.bool q, ?_,rfl⟩⟩
    obtain⟨h1,h2,_⟩:=key q hq G ρ w _ _ (hop x (by simp[ho,Op.operands])) (hop y (by simp[ho,Op.operands]))
    simp only[execOp,ho,Sem.run_bind,h1,Result.andThen_ok,h2,Sem.run_pure]
   ·split at h
    ·rename_i e b ht hb
     refine⟨_,h,fun C G ρ w a hM hop=> ?_⟩
     have hvx:=hop x (by simp[ho,Op.operands])
     have hvy:=hop y (by simp[ho,Op.operands])
     generalize S.ev x=sx at hb hvx
     generalize S.ev y=sy at hb hvy
     unfold aes at hb
     split at hb
     ·rename_i ty l
      cases hb
      obtain⟨p,cap,e1,_,_,hl⟩:=(hvx:iH G _ _ l _)
      have e2:a.eval y= .slice none 0 0:=hvy
      refine⟨.bool p.isNone, ?_,p.isNone,rfl,fun he=> ?_⟩
      ·have h1:(eqGuard .eql t x y (a.eval x) (a.eval y)).run X.P w= .ok () w:=Qw hgd' (by grind)
       have h2:(binOp .eql t (a.eval x) (a.eval y)).run X.P w= .ok (.bool p.isNone) w:=by
        rw[e1,e2]
        have h3:(Op.equal t (.slice p l.length cap) (.slice none 0 0)).run X.P w= .ok p.isNone w:=by
         unfold Op.equal
         obtain⟨dd,hd⟩:∃ dd,Op.maxDepth=dd+1:=⟨9999,rfl⟩
         rw[hd]
         cases p<;>simp[Op.equalIn,run_underlying ht]
        have h4:binOp .eql t (.slice p l.length cap) (.slice none 0 0)=(do pure (.bool (<- Op.equal t (.slice p l.length cap) (.slice none 0 0)))):=rfl
        simp_all
       simp only[execOp,ho,Sem.run_bind,h1,Result.andThen_ok,h2,Sem.run_pure]
      grind
     grind
    ·cases h
  ·split at h
   ·rename_i q hq
    refine⟨_,h,fun C G ρ w a hM hop=>⟨.bool !q, ?_,rfl⟩⟩
    obtain⟨h1,_,h2⟩:=key q hq G ρ w _ _ (hop x (by simp[ho,Op.operands])) (hop y (by simp[ho,Op.operands]))
    simp only[execOp,ho,Sem.run_bind,h1,Result.andThen_ok,h2,Sem.run_pure]
   ·cases h
  ·cases h
theorem afi {op:BinOp} {t u:TypeId} {x y:Operand} (ho:o.op= .binOp op t x y u) (h:dY X o S M k=some r):∃ s,k s=some r/\kG X.P o S M s:=by
 unfold dY at h
 rw[ho] at h
 simp only[aep] at h
 split at h
 ·rename_i ka n kb m hx hy
  obtain⟨c,hk,hc⟩:=abE h
  refine⟨_,hk,fun C G ρ w a hM hop=> ?_⟩
  have h1:=one_cell (hop x (by simp[ho,Op.operands])) hx
  have h2:=one_cell (hop y (by simp[ho,Op.operands])) hy
  obtain⟨v,hr,hv⟩:=hc X.P G ρ w t
  refine⟨v, ?_,hv⟩
  simp only[execOp,ho,Sem.run_bind,show a.eval x= .int ka n from h1,show a.eval y= .int kb m from h2,Zd,Result.andThen_ok,hr,Sem.run_pure]
 ·rename_i n m hx hy
  obtain⟨c,hk,hc⟩:=abF h
  refine⟨_,hk,fun C G ρ w a hM hop=> ?_⟩
  have h1:=one_cell (hop x (by simp[ho,Op.operands])) hx
  have h2:=one_cell (hop y (by simp[ho,Op.operands])) hy
  obtain⟨v,hr,hv⟩:=hc X.P G ρ w t
  refine⟨v, ?_,hv⟩
  simp only[execOp,ho,Sem.run_bind,show a.eval x= .string (bs n) from h1,show a.eval y= .string (bs m) from h2,Ze,Result.andThen_ok,hr,Sem.run_pure]
 ·rename_i hni hns
  exact af1 ho hni hns h
theorem af4 {op:UnOp} {t:TypeId} {x:Operand} (ho:o.op= .unOp op t x) (h:dY X o S M k=some r):∃ s,k s=some r/\kG X.P o S M s:=by
 unfold dY at h
 rw[ho] at h
 simp only at h
 split at h
 ·rename_i b hx
  refine⟨_,h,fun C G ρ w a hM hop=> ?_⟩
  have h1:=one_cell (hop x (by simp[ho,Op.operands])) hx
  exact⟨.bool !b,by simp only[execOp,ho,show a.eval x= .bool b from h1,Op.unary];rfl,rfl⟩
 ·rename_i ik n hx
  refine⟨_,h,fun C G ρ w a hM hop=> ?_⟩
  have h1:=one_cell (hop x (by simp[ho,Op.operands])) hx
  exact⟨_,by simp only[execOp,ho,show a.eval x= .int ik n from h1,Op.unary,Op.intArith];rfl,rfl⟩
 ·cases h
theorem acS {t u:TypeId} {x:Operand} (ho:o.op= .convert t u x) (h:dY X o S M k=some r):∃ s,k s=some r/\kG X.P o S M s:=by
 unfold dY at h
 rw[ho] at h
 simp only at h
 split at h
 ·rename_i d ik ik' n hd hu hx
  refine⟨_,h,fun C G ρ w a hM hop=> ?_⟩
  have h1:=one_cell (hop x (by simp[ho,Op.operands])) hx
  refine⟨.int ik (ik.wrap n), ?_,rfl⟩
  simp only[execOp,ho,show a.eval x= .int ik' n from h1,convert,Sem.run_bind,run_underlying hd,run_underlying hu,Result.andThen_ok,Conv.intToInt,Sem.run_pure]
 ·rename_i d s hd hu hx
  refine⟨_,h,fun C G ρ w a hM hop=> ?_⟩
  have h1:=one_cell (hop x (by simp[ho,Op.operands])) hx
  refine⟨.string (bs s), ?_,rfl⟩
  simp only[execOp,ho,show a.eval x= .string (bs s) from h1,convert,Sem.run_bind,run_underlying hd,run_underlying hu,Result.andThen_ok,Sem.run_pure]
 ·rename_i d ik n hd hu hx
  obtain⟨hc,h⟩:=lg h
  simp only[ag1,ajS] at hc
  refine⟨_,h,fun C G ρ w a hM hop=> ?_⟩
  have h1:=one_cell (hop x (by simp[ho,Op.operands])) hx
  have he:Utf8.encode n=bs [UInt8.ofNat n.toNat]:=by
   have hv:Utf8.valid n=true:=by
    unfold Utf8.valid
    grind
   unfold Utf8.encode
   rw[hv]
   simp only[aj0]
   rw[ajZ (show n.toNat<128 by omega)]
   rfl
  refine⟨.string (bs [UInt8.ofNat n.toNat]), ?_,rfl⟩
  simp only[execOp,ho,show a.eval x= .int ik n from h1,convert,Sem.run_bind,run_underlying hd,run_underlying hu,Result.andThen_ok,Conv.intToString,Sem.run_pure,he]
 ·cases h
theorem acU {x:Operand} (ho:o.op= .move x\/o.op= .assign x) (h:dY X o S M k=some r):∃ s,k s=some r/\kG X.P o S M s:=by
 unfold dY at h
 rcases ho with ho | ho<;>rw[ho] at h<;>simp only at h
 all_goals exact⟨_,h,fun C G ρ w a hM hop=>⟨a.eval x,by simp only[execOp,ho,Sem.run_pure],hop x (by simp[ho,Op.operands])⟩⟩
theorem af3 {c x y:Operand} (ho:o.op= .pick c x y) (h:dY X o S M k=some r):∃ s,k s=some r/\kG X.P o S M s:=by
 unfold dY at h
 rw[ho] at h
 simp only at h
 split at h
 ·rename_i t hc
  cases t with
  | true=>
   refine⟨_,h,fun C G ρ w a hM hop=>⟨a.eval x, ?_,hop x (by simp[ho,Op.operands])⟩⟩
   have h1:=one_cell (hop c (by simp[ho,Op.operands])) hc
   simp only[execOp,ho,show a.eval c= .bool true from h1,asBool,Sem.run_bind,Sem.run_pure,Result.andThen_ok,aj0]
  | false=>
   refine⟨_,h,fun C G ρ w a hM hop=>⟨a.eval y, ?_,hop y (by simp[ho,Op.operands])⟩⟩
   have h1:=one_cell (hop c (by simp[ho,Op.operands])) hc
   simp[execOp,ho,show a.eval c= .bool false from h1,asBool]
 ·cases h
theorem abh {x:Operand} (ho:o.op= .nilCheck x) (h:dY X o S M k=some r):∃ s,k s=some r/\kG X.P o S M s:=by
 unfold dY at h
 rw[ho] at h
 simp only at h
 split at h
 ·rename_i i j hx
  refine⟨_,h,fun C G ρ w a hM hop=> ?_⟩
  have h1:=one_cell (hop x (by simp[ho,Op.operands])) hx
  exact⟨_,by simp only[execOp,ho,show a.eval x=_ from h1];rfl,rfl⟩
 ·rename_i t y j hx
  refine⟨_,h,fun C G ρ w a hM hop=> ?_⟩
  have h1:=one_cell (hop x (by simp[ho,Op.operands])) hx
  obtain⟨b,off,c,T,fz,e,rest⟩:=h1
  exact⟨_,by simp only[execOp,ho,e];rfl,b,off,c,T,fz,rfl,rest⟩
 ·rename_i i sz j l hx
  refine⟨_,h,fun C G ρ w a hM hop=> ?_⟩
  have h1:=one_cell (hop x (by simp[ho,Op.operands])) hx
  obtain⟨b,len,cap,e1,e2⟩:=h1
  exact⟨_,by simp only[execOp,ho,e2];rfl,b,len,cap,e1,rfl⟩
 ·rename_i g t y hx
  refine⟨_,h,fun C G ρ w a hM hop=> ?_⟩
  have h1:=one_cell (hop x (by simp[ho,Op.operands])) hx
  obtain⟨caps,e,hc⟩:=h1
  exact⟨_,by simp only[execOp,ho,e];rfl,caps,rfl,hc⟩
 ·rename_i g ks hx
  refine⟨_,h,fun C G ρ w a hM hop=> ?_⟩
  have h1:=one_cell (hop x (by simp[ho,Op.operands])) hx
  exact⟨_,by simp only[execOp,ho,show a.eval x=_ from h1];rfl,rfl⟩
 ·rename_i oh j hx
  obtain⟨i,hi,h⟩:=bind_some h
  subst hi
  refine⟨_,h,fun C G ρ w a hM hop=> ?_⟩
  have h1:=one_cell (hop x (by simp[ho,Op.operands])) hx
  obtain⟨b,hb,e⟩:=h1
  exact⟨_,by simp only[execOp,ho,e];rfl,b,hb,rfl⟩
 ·cases h
theorem Zx {t:TypeId} {x:Operand} {f:Nat} (ho:o.op= .fieldAddr t x f) (h:dY X o S M k=some r):∃ s,k s=some r/\kG X.P o S M s:=by
 unfold dY at h
 rw[ho] at h
 simp only at h
 split at h
 ·rename_i fs c ht hx
  split at h
  ·rename_i fd hf
   split at h
   ·rename_i hok
    simp only[ag1,ahb] at hok
    obtain⟨d,i,hd,hi⟩:=mC hok.1
    split at h
    ·rename_i c' hc
     refine⟨_,h,fun C G ρ w a hM hop=> ?_⟩
     have h1:=one_cell (hop x (by simp[ho,Op.operands])) hx
     obtain⟨b,off,e,hc'⟩:=Vy hc h1
     have hadd:(⟨b,off,none⟩:Addr).add fd.offset=⟨b,off+fd.offset,none⟩:=by unfold Addr.add;simp
     have hz:cB X.P fd.type≠0:=fun e0=>by simp_all
     refine⟨_, ?_,hc'⟩
     simp only[execOp,ho,e,Instr.fieldAt,Sem.run_bind,run_underlying ht,Result.andThen_ok,hf,Instr.sureAddr,Sem.run_pure,fieldPlace,run_sizeOf hi,hz,ajX,hadd]
    ·cases h
   ·cases h
  ·cases h
 ·cases h
theorem af2 {t:TypeId} {x:Operand} (ho:o.op= .load t x) (h:dY X o S M k=some r):∃ s,k s=some r/\kG X.P o S M s:=by
 unfold dY at h
 rw[ho] at h
 simp only at h
 split at h
 ·rename_i bk off hx
  split at h
  ·rename_i l hl
   obtain⟨s,hs,hld⟩:=Fa h
   refine⟨s,hs,fun C G ρ w a hM hop=> ?_⟩
   have h1:=one_cell (hop x (by simp[ho,Op.operands])) hx
   obtain⟨_,vs,T,hw,hv⟩:=hM.boxes bk l hl
   obtain⟨v,hr,hsv⟩:=hld G ρ w (ρ.bx bk) 0 vs hv (fun j v hj=>by
    have hadd:(⟨ρ.bx bk,0,none⟩:Addr).add j=⟨ρ.bx bk,j,none⟩:=by unfold Addr.add;grind
    rw[hadd,cell_of_row w _ j _ T (0,0) hw];grind)
   refine⟨v, ?_,hsv⟩
   simp only[ajx] at hr
   simp only[execOp,ho,show a.eval x=_ from h1,Instr.loadAt,Instr.sureAddr,Sem.run_bind,Sem.run_pure,Result.andThen_ok,hr]
  ·cases h
 ·rename_i ty y off hx
  obtain⟨s,hs,hld⟩:=Fa h
  refine⟨s,hs,fun C G ρ w a hM hop=> ?_⟩
  have h1:=one_cell (hop x (by simp[ho,Op.operands])) hx
  obtain⟨b,base,c,T,fz,e,hb,hsz,hl⟩:=h1
  obtain⟨v,hr,hsv⟩:=hld G ρ w b base _ (jy ρ hl) (XE (hM.agr b _ hb) _)
  refine⟨v, ?_,hsv⟩
  simp only[execOp,ho,e,Instr.loadAt,Instr.sureAddr,Sem.run_bind,Sem.run_pure,Result.andThen_ok,hr]
 ·rename_i j sz i off hx
  split at h
  ·rename_i q hq
   obtain⟨y,hy,h⟩:=bind_some h
   split at h
   ·rename_i hcond
    simp only[ag1,ahb] at hcond
    obtain⟨s,hs,hld⟩:=Fa h
    refine⟨s,hs,fun C G ρ w a hM hop=> ?_⟩
    have h1:=one_cell (hop x (by simp[ho,Op.operands])) hx
    obtain⟨b,len,cap,e1,e2⟩:=h1
    have hrow:=hM.rows j q hq
    unfold dI at hrow
    rw[ajY (by grind)] at hrow
    obtain⟨xs,⟨hlen,hn | ⟨g,cap',cur,hv,_,hg,hnc,hcm,hcs,htake⟩⟩,hl,hown⟩:=hrow
    ·grind
    ·rw[e1] at hv
     cases hv
     have hyr:=hl.get (fun x cs hr=>aN.len hr) hy
     have hsz:=ai8 hcond.2
     obtain⟨v,hr,hsv⟩:=hld G ρ w b (i*sz) _ (jy ρ hyr) (fun n u hu=>by
      rw[aii] at hu
      split at hu
      ·rw[ah7, <- htake,aii] at hu
       split at hu
       ·have hadd:(⟨b,i*sz,none⟩:Addr).add n=⟨b,i*sz+n,none⟩:=by unfold Addr.add;simp
        rw[hadd,cell_of_row w _ _ _ _ _ hg,hsz];grind
       grind
      grind)
     refine⟨v, ?_,hsv⟩
     simp only[execOp,ho,e2,Instr.loadAt,Instr.sureAddr,Sem.run_bind,Sem.run_pure,Result.andThen_ok,hr]
   ·cases h
  ·cases h
 ·rename_i i off hx
  split at h
  ·rename_i fz ty l hl
   obtain⟨y,hy,h⟩:=bind_some h
   obtain⟨s,hs,hld⟩:=Fa h
   refine⟨s,hs,fun C G ρ w a hM hop=> ?_⟩
   have h1:=one_cell (hop x (by simp[ho,Op.operands])) hx
   obtain⟨b,hb,e⟩:=h1
   obtain⟨b',vs,T,hb',_,_,hw,hrep⟩:=(hM.objs bQ _ hl).2.2.2 i y hy
   rw[hb] at hb'
   cases hb'
   obtain⟨v,hr,hsv⟩:=hld G ρ w b 0 vs (jy ρ hrep) (fun j v hj=>by
    have hadd:(⟨b,0,none⟩:Addr).add j=⟨b,j,none⟩:=by unfold Addr.add;grind
    rw[hadd,cell_of_row w _ j _ T (0,0) hw];grind)
   refine⟨v, ?_,hsv⟩
   simp only[ajx] at hr
   simp only[execOp,ho,e,Instr.loadAt,Instr.sureAddr,Sem.run_bind,Sem.run_pure,Result.andThen_ok,hr]
  ·cases h
 ·cases h
theorem Tg {ik:IntKind}:∀ {cs:List CV} {l:List Int} {i:Nat} {m:Int},On ik cs=some l->l[i]? =some m->cs[i]? =some (.int ik m)
 | [],l,i,m,h,hg=>by simp only[On,Option.some.injEq] at h;grind
 | c::cs,l,i,m,h,hg=>by
  cases c<;>simp only[On] at h<;>try cases h
  split at h
  ·rename_i k n hk
   subst hk
   split at h
   ·rename_i l' hl'
    cases h
    cases i with
    | zero=>simp at hg;subst hg;rfl
    | succ i=>simp at hg ⊢;exact Tg hl' hg
   ·cases h
  ·cases h
theorem Zy {t:TypeId} {x ix:Operand} (ho:o.op= .indexAddr t x ix) (h:dY X o S M k=some r):∃ s,k s=some r/\kG X.P o S M s:=by
 unfold dY at h
 rw[ho] at h
 simp only at h
 split at h
 ·rename_i e ty l ik i ht hx hix
  split at h
  ·rename_i hok
   simp only[ag1] at hok
   obtain⟨y,hy,h⟩:=bind_some h
   obtain⟨h0,h1,hget⟩:=Rz hy
   refine⟨_,h,fun C G ρ w a hM hop=> ?_⟩
   have hv1:=one_cell (hop x (by simp[ho,Op.operands])) hx
   have hv2:=one_cell (hop ix (by simp[ho,Op.operands])) hix
   obtain⟨b,off,c,T,fz,cap,ev,hb,hs,hrep⟩:=iH.at hv1 hget
   have hsz:=ai8 hok.2
   refine⟨_, ?_,b,off+i.toNat*ty.size,c,T,fz,rfl,hb,hs,hrep⟩
   simp only[execOp,ho,ev,show a.eval ix= .int ik i from hv2,Sem.run_bind,run_indexAt_slice ht hok.1 h0 h1,Result.andThen_ok,Sem.run_pure,hsz,ai5]
  ·cases h
 ·rename_i e j ik i ht hx hix
  split at h
  ·rename_i q hq
   split at h
   ·rename_i hok
    simp only[ag1] at hok
    have hsz:=ai8 hok.2
    split at h
    ·rename_i hfz
     obtain⟨y,hy,h⟩:=bind_some h
     obtain⟨h0,h1,hget⟩:=Rz hy
     refine⟨_,h,fun C G ρ w a hM hop=> ?_⟩
     have hv1:=one_cell (hop x (by simp[ho,Op.operands])) hx
     have hv2:=one_cell (hop ix (by simp[ho,Op.operands])) hix
     have hrow:=hM.frozen j q hq hfz
     obtain⟨b,off,c,T,fz,cap,ev,hb,hs,hrep⟩:=iH.at hrow hget
     refine⟨_, ?_,b,off+i.toNat*q.t.size,c,T,fz,rfl,hb,hs,hrep⟩
     simp only[execOp,ho,show a.eval x=ρ.rw j from hv1.1,ev,show a.eval ix= .int ik i from hv2,Sem.run_bind,run_indexAt_slice ht hok.1 h0 h1,Result.andThen_ok,Sem.run_pure,hsz,ai5]
    ·rename_i hfz
     obtain⟨hc,h⟩:=lg h
     simp only[ag1,ajS] at hc
     refine⟨_,h,fun C G ρ w a hM hop=> ?_⟩
     have hv1:=one_cell (hop x (by simp[ho,Op.operands])) hx
     have hv2:=one_cell (hop ix (by simp[ho,Op.operands])) hix
     have hrow:=hM.rows j q hq
     unfold dI at hrow
     rw[ajY hfz] at hrow
     obtain⟨xs,⟨hlen,hn | ⟨g,cap',cur,hv,_,hg,_⟩⟩,hl,hown⟩:=hrow
     ·omega
     ·refine⟨_, ?_,g,q.l.length,cap',hv,rfl⟩
      simp only[execOp,ho,show a.eval x=ρ.rw j from hv1.1,hv,show a.eval ix= .int ik i from hv2,Sem.run_bind,run_indexAt_slice ht hok.1 hc.1 hc.2,Result.andThen_ok,Sem.run_pure,hsz,ajx,ai5]
   ·cases h
  ·cases h
 ·rename_i n e c ik i ht hx hix
  split at h
  ·rename_i hok
   obtain⟨m,rfl,hlt,h⟩:=TJ h
   rw[ajx] at hlt
   split at h
   ·rename_i c' hc
    refine⟨_,h,fun C G ρ w a hM hop=> ?_⟩
    have h1:=one_cell (hop x (by simp[ho,Op.operands])) hx
    have hv2:=one_cell (hop ix (by simp[ho,Op.operands])) hix
    obtain⟨b,off,e1,hc'⟩:=Vy hc h1
    obtain⟨d,j,hd,hj⟩:=mC hok
    have hadd:(⟨b,off,none⟩:Addr).add (m*cB X.P e)=⟨b,off+m*cB X.P e,none⟩:=by unfold Addr.add;simp
    refine⟨_, ?_,hc'⟩
    have h0:(0:Int)<=(m:Int)/\(m:Int)<(n:Int):=⟨aht m,Int.ofNat_lt.2 hlt⟩
    simp only[execOp,ho,e1,show a.eval ix= .int ik (m:Int) from hv2,Instr.indexAt,asIntOf,Instr.sureAddr,Sem.run_bind,Sem.run_pure,run_underlying ht,Result.andThen_ok,ajZ h0,run_sizeOf hj,show ((m:Int)).toNat=m from rfl,hadd]
   ·cases h
  ·cases h
 ·cases h
theorem afl {t:TypeId} {x ix:Operand} (ho:o.op= .index t x ix) (h:dY X o S M k=some r):∃ s,k s=some r/\kG X.P o S M s:=by
 unfold dY at h
 rw[ho] at h
 simp only at h
 split at h
 ·rename_i s ik i ht hx hix
  obtain⟨b,hb,h⟩:=bind_some h
  refine⟨_,h,fun C G ρ w a hM hop=> ?_⟩
  have hv1:=one_cell (hop x (by simp[ho,Op.operands])) hx
  have hv2:=one_cell (hop ix (by simp[ho,Op.operands])) hix
  unfold BV at hb
  split at hb
  ·rename_i h0
   refine⟨.int .u8 b.toNat, ?_,rfl⟩
   have hb':(bs s)[i.toNat]? =some b:=by
    obtain⟨hlt,he⟩:=aia.1 hb
    rw[getElem?_pos (bs s) i.toNat (by rw[JX];exact hlt)]
    simp only[bs,Option.some.injEq]
    rw[<- he];rfl
   simp only[execOp,ho,show a.eval x= .string (bs s) from hv1,show a.eval ix= .int ik i from hv2,Instr.index,asIntOf,Sem.run_bind,Sem.run_pure,Result.andThen_ok,run_underlying ht,h0,aj0,hb']
  grind
 ·rename_i n e cs ik i ht hx hix
  split at h
  ·rename_i ek he
   split at h
   ·rename_i l hl
    split at h
    ·rename_i hc
     simp only[ag1,ahb] at hc
     obtain⟨⟨⟨c1,c2⟩,c3⟩,c4⟩:=hc
     obtain⟨d,j,hd,hj⟩:=mC c1
     have hsz:=ai8 c2
     have hln:=ai8 c4
     obtain⟨m,hm,h⟩:=bind_some h
     obtain⟨h0,h1,hget⟩:=Rz hm
     refine⟨_,h,fun C G ρ w a hM hop=> ?_⟩
     have hv:=hop x (by simp[ho,Op.operands])
     rw[hx] at hv
     obtain⟨vs,ev,hall⟩:=hv
     have hv2:=one_cell (hop ix (by simp[ho,Op.operands])) hix
     have hcell:=Tg hl hget
     obtain⟨v,hv3,hv4⟩:=hall.get hcell
     refine⟨v, ?_,hv4⟩
     have hb:0<=i/\i<(n:Int):=⟨h0,by omega⟩
     simp only[execOp,ho,ev,show a.eval ix= .int ik i from hv2,Instr.index,asIntOf,Sem.run_bind,Sem.run_pure,Result.andThen_ok,run_underlying ht,ajZ hb,run_sizeOf hj,hsz,Nat.mul_one,part,vK hd,c3,ag6,ajX]
     simp[hv3]
    ·cases h
   ·cases h
  ·cases h
 ·cases h
theorem acT {x:Operand} {i:Nat} (ho:o.op= .extract x i) (h:dY X o S M k=some r):∃ s,k s=some r/\kG X.P o S M s:=by
 unfold dY at h
 rw[ho] at h
 simp only at h
 split at h
 ·rename_i l hx
  split at h
  ·rename_i p hp
   refine⟨_,h,fun C G ρ w a hM hop=> ?_⟩
   have hv1:=hop x (by simp[ho,Op.operands])
   rw[hx] at hv1
   obtain⟨vs,e,hl⟩:=hv1
   obtain⟨v,hv,hsv⟩:=hl.get hp
   refine⟨v, ?_,hsv⟩
   simp[execOp,ho,e,Instr.extract,hv]
  ·cases h
 ·cases h
end
end Go.Dn
namespace Go.Dn
variable {P:Program} {G:Gh} {w:World}
theorem abH (a b:List UInt8):(bs a==bs b)=(a==b):=by
 have h:(bs a==bs b)=((bs a).data==(bs b).data):=rfl
 rw[h]
 simp[bs]
theorem E8 {t:TypeId} {k:Ty} (h:jQ P t k=true) (hn:∀ s,k≠ .st s):cn P t k=true:=by
 cases k with
 | st s=>grind
 | _=>exact h
theorem JG {t:TypeId} {k:Ty} (h:cn P t k=true) (d:Nat) (a b:k.den):∃ c1 c2,unpack k a=[c1]/\unpack k b=[c2]/\AG P (d+1) t (.v false [c1]) (.v false [c2])=some (k.beq a b)/\vD k a= .v false [c1]/\vD k b= .v false [c2]:=by
 cases k with
 | int kk=>
  simp only[cn] at h
  split at h
  ·rename_i hu
   exact⟨_,_,rfl,rfl,by simp[AG,hu,Ty.beq,Hy],rfl,rfl⟩
  ·cases h
 | bool=>
  simp only[cn] at h
  split at h
  ·rename_i hu
   exact⟨_,_,rfl,rfl,by simp[AG,hu,Ty.beq,aaG],rfl,rfl⟩
  ·cases h
 | str=>
  simp only[cn] at h
  split at h
  ·rename_i hu
   exact⟨_,_,rfl,rfl,by simp[AG,hu,Ty.beq,RT],rfl,rfl⟩
  ·cases h
 | _=>simp[cn] at h
theorem Ba {t:TypeId} {k:Ty} (h:cn P t k=true):okT P t=true/\xh P t=false/\k.size=1:=by
 cases k with
 | int kk=>
  simp only[cn] at h
  split at h
  ·rename_i hu;exact⟨by simp[okT,hu],by simp[xh,hu],rfl⟩
  ·cases h
 | bool=>
  simp only[cn] at h
  split at h
  ·rename_i hu;exact⟨by simp[okT,hu],by simp[xh,hu],rfl⟩
  ·cases h
 | str=>
  simp only[cn] at h
  split at h
  ·rename_i hu;exact⟨by simp[okT,hu],by simp[xh,hu],rfl⟩
  ·cases h
 | _=>simp[cn] at h
theorem LQ {T:TypeId} (hok:okT P T=true) (hag:xh P T=false) (hsz:cB P T=1) {l:List CV} {n:Nat} {c:CV} {r:List CV} (h:l.drop n=c::r):qQ P T l n some=some (.v false [c]):=by
 have:(l.drop n).take 1=[c]:=by rw[h];rfl
 simp[qQ,hok,Pf,hsz,this,hag]
theorem VK {l:List CV} {n:Nat} {c:CV} {r:List CV} (h:l.drop n=c::r):l.drop (n+1)=r:=by
 have:l.drop (n+1)=(l.drop n).drop 1:=by rw[ahQ]
 grind
theorem VM {d:Nat} {xs ys:List CV}:∀ {fs:List Field} {n:Nat} {t:Ty} {a b:t.den},cQ P fs n t=true->xs.drop n=unpack t a->ys.drop n=unpack t b->N4 P (AG P (d+1)) xs ys fs=some (t.beq a b)
 | [],n,t,a,b,h,_,_=>by simp[cQ] at h
 | [f],n,t,a,b,h,hx,hy=>by
  simp only[cQ,ag1,ajS] at h
  obtain⟨⟨⟨h1,h2⟩,h3⟩,h4⟩:=h
  have e2:=ai8 h2
  have e3:=ai8 h3
  obtain⟨k1,k2,k3⟩:=Ba h4
  obtain⟨c1,c2,u1,u2,he,_,_⟩:=JG h4 d a b
  simp only[N4,ajY h1,e2]
  rw[LQ k1 k2 e3 (hx.trans u1),LQ k1 k2 e3 (hy.trans u2)]
  grind
 | f::g::r,n,t,a,b,h,hx,hy=>by
  cases t with
  | pair s t=>
   simp only[cQ,ag1,ajS] at h
   obtain⟨⟨⟨⟨h1,h2⟩,h3⟩,h4⟩,h5⟩:=h
   have e2:=ai8 h2
   have e3:=ai8 h3
   obtain⟨k1,k2,k3⟩:=Ba h4
   obtain⟨c1,c2,u1,u2,he,_,_⟩:=JG h4 d a.1 b.1
   simp only[unpack,u1,u2,List.singleton_append] at hx hy
   have ih:=VM (d:=d) h5 (VK hx) (VK hy)
   rw[N4,ajY h1,e2]
   rw[LQ k1 k2 e3 hx,LQ k1 k2 e3 hy]
   simp only[he,ih,Ty.beq]
  | _=>simp[cQ] at h
theorem adK {t:TypeId} {k:Ty} (h:jQ P t k=true) (a b:k.den):AG P 9 t (vD k a) (vD k b)=some (k.beq a b):=by
 cases k with
 | st s=>
  simp only[jQ] at h
  split at h
  ·rename_i fs hu
   simp only[ag1,ahb] at h
   simp only[vD,AG,hu,h.1,ag6,ajX]
   exact VM (t:=s) (a:=a) (b:=b) (d:=7) (n:=0) h.2 (by simp) (by simp)
  ·cases h
 | _=>
  obtain⟨c1,c2,u1,u2,he,e1,e2⟩:=JG (P:=P) (t:=t) (E8 h (by simp)) 8 a b
  grind
theorem VX {t:TypeId} {k:Ty} (h:jQ P t k=true) {a b:k.den} {va vb:Value} (ha:cF G k a va) (hb:cF G k b vb) (w:World):(Op.equal t va vb).run P w= .ok (k.beq a b) w:=by
 let ρ:Env:=⟨fun _=>0,fun _=> .nilFunc,fun _=>none,fun _=> .nilFunc,fun _ _=>0⟩
 exact UH (adK h a b) Op.maxDepth (by decide) G ρ w va vb (KQ ρ ha) (KQ ρ hb)
theorem ack {t:TypeId} {k:Ty} (h:jQ P t k=true) {a b:k.den} (e:k.beq a b=true):a=b:=by
 have sc:∀ {t:TypeId} {k:Ty},cn P t k=true->∀ {a b:k.den},k.beq a b=true->a=b:=by
  intro t k h a b e
  cases k with
  | int kk=>exact eq_of_beq (α:=Int) (a:=a) (b:=b) e
  | bool=>exact eq_of_beq (α:=Bool) (a:=a) (b:=b) e
  | str=>exact eq_of_beq (α:=List UInt8) (a:=a) (b:=b) e
  | _=>simp[cn] at h
 have fc:∀ (fs:List Field) (n:Nat) (t:Ty) (a b:t.den),cQ P fs n t=true->t.beq a b=true->a=b:=by
  intro fs
  induction fs with
  | nil=>intro n t a b h;simp[cQ] at h
  | cons f r ih=>
   intro n t a b h e
   cases r with
   | nil=>
    simp only[cQ,ag1] at h
    exact sc h.2 e
   | cons g r=>
    cases t with
    | pair s t=>
     simp only[cQ,ag1] at h
     simp only[Ty.beq,ag1] at e
     exact Prod.ext (sc h.1.2 (a:=a.1) (b:=b.1) e.1) (ih (n+1) t a.2 b.2 h.2 e.2)
    | _=>simp[cQ] at h
 cases k with
 | st s=>
  simp only[jQ] at h
  split at h
  ·rename_i fs hu
   simp only[ag1] at h
   exact fc fs.toList 0 s a b h.2 e
  ·cases h
 | _=>exact sc (t:=t) (a:=a) (b:=b) (E8 h (by intro s e;cases e)) e
theorem Zz {t:TypeId} {k:Ty} (h:jQ P t k=true) {a:k.den} {va vb:Value} (ha:cF G k a va) (hb:cF G k a vb):va=vb:=by
 have sc:∀ {t:TypeId} {k:Ty},cn P t k=true->∀ {a:k.den} {u v:List Value},aN G k a u->aN G k a v->u=v:=by
  intro t k h a u v hu hv
  cases k with
  | int kk=>exact hu.trans hv.symm
  | bool=>exact hu.trans hv.symm
  | str=>exact hu.trans hv.symm
  | _=>simp[cn] at h
 have fc:∀ (fs:List Field) (n:Nat) (t:Ty) (a:t.den) (u v:List Value),cQ P fs n t=true->aN G t a u->aN G t a v->u=v:=by
  intro fs
  induction fs with
  | nil=>intro n t a u v h;simp[cQ] at h
  | cons f r ih=>
   intro n t a u v h hu hv
   cases r with
   | nil=>
    simp only[cQ,ag1] at h
    grind
   | cons g r=>
    cases t with
    | pair s t=>
     simp only[cQ,ag1] at h
     obtain⟨c1,r1,e1,p1,q1⟩:=hu
     obtain⟨c2,r2,e2,p2,q2⟩:=hv
     grind
    | _=>simp[cQ] at h
 cases k with
 | st s=>
  simp only[jQ] at h
  split at h
  ·rename_i fs hu
   simp only[ag1] at h
   obtain⟨us,e1,h1⟩:=ha
   obtain⟨vs,e2,h2⟩:=hb
   grind
  ·cases h
 | _=>
  have:=sc (t:=t) (a:=a) (E8 h (by simp)) ha hb
  grind
theorem sameBits_self {t:TypeId} {k:Ty} (h:jQ P t k=true) {a:k.den} {v:Value} (hv:cF G k a v):Instr.sameBits 10000 v v=true:=by
 have sc:∀ {t:TypeId} {k:Ty},cn P t k=true->∀ {a:k.den} {cs:List Value},aN G k a cs->∀ n u,u∈cs->Instr.sameBits n u u=true:=by
  intro t k h a cs hc n u hu
  cases k with
  | int kk=>
   have e:cs=[_]:=hc
   rw[e] at hu
   rcases aiJ.1 hu with rfl
   exact (fun x:Int=>by cases n<;>simp[Instr.sameBits]:∀ x:Int,Instr.sameBits n (.int kk x) (.int kk x)=true) a
  | bool=>
   have e:cs=[_]:=hc
   rw[e] at hu
   rcases aiJ.1 hu with rfl
   exact (fun x:Bool=>by cases n<;>simp[Instr.sameBits]:∀ x:Bool,Instr.sameBits n (.bool x) (.bool x)=true) a
  | str=>
   have e:cs=[_]:=hc
   rw[e] at hu
   rcases aiJ.1 hu with rfl
   exact (fun x:List UInt8=>by cases n<;>simp[Instr.sameBits,abH]:∀ x:List UInt8,Instr.sameBits n (.string (bs x)) (.string (bs x))=true) a
  | _=>simp[cn] at h
 have fc:∀ (fs:List Field) (n:Nat) (t:Ty) (a:t.den) (cs:List Value),cQ P fs n t=true->aN G t a cs->∀ m u,u∈cs->Instr.sameBits m u u=true:=by
  intro fs
  induction fs with
  | nil=>intro n t a cs h;simp[cQ] at h
  | cons f r ih=>
   intro n t a cs h hc m u hu
   cases r with
   | nil=>
    simp only[cQ,ag1] at h
    grind
   | cons g r=>
    cases t with
    | pair s t=>
     simp only[cQ,ag1] at h
     obtain⟨c1,r1,e1,p1,q1⟩:=hc
     grind
    | _=>simp[cQ] at h
 cases k with
 | st s=>
  simp only[jQ] at h
  split at h
  ·rename_i fs hu
   simp only[ag1] at h
   obtain⟨us,e1,h1⟩:=hv
   rw[e1]
   have key:=fc fs.toList 0 s a us h.2 h1
   have:∀ (l:List Value),(∀ u,u∈l->Instr.sameBits 9999 u u=true)->((l.zip l).all fun p=>Instr.sameBits 9999 p.1 p.2)=true:=by
    intro l hl
    induction l with
    | nil=>rfl
    | cons x l ih=>simp_all
   show Instr.sameBits (9999+1) _ _=true
   simp only[Instr.sameBits,beq_self_eq_true,ahh]
   grind
  ·cases h
 | _=>exact sc (t:=t) (a:=a) (E8 h (by simp)) hv 10000 v (by simp)
inductive Gd {k v:Ty} (a:k.den) (l:List (k.den×v.den)) (es:List MapEntry):Option (Nat×Value)->Prop
 | no (h:∀ p,p∈l->k.beq a p.1=false):Gd a l es none
 | yes (i:Nat) (p:k.den×v.den) (e:MapEntry) (hp:l[i]? =some p) (he:es[i]? =some e) (hb:k.beq a p.1=true) (hn:∀ j q,j<i->l[j]? =some q->k.beq a q.1=false):Gd a l es (some (i,e.val))
theorem My {t:TypeId} {k v:Ty} (h:jQ P t k=true) {a:k.den} {va:Value} (ha:cF G k a va):∀ {l:List (k.den×v.den)} {es:List MapEntry} (n:Nat),aR (AA G k v) l es-> ∃ r,(Instr.findAsking t va es n).run P w= .ok (r.map fun p:Nat×Value=>(n+p.1,p.2)) w/\Gd a l es r
 | [],es,n,he=>by cases he;exact⟨none,rfl,.no (by simp)⟩
 | p::l,_,n,⟨e,es,ee,hp,hl⟩=>by
  subst ee
  obtain⟨r,hr,hf⟩:=My h ha (n+1) hl
  cases hb:k.beq a p.1 with
  | true=>
   refine⟨some (0,e.val), ?_,.yes 0 p e rfl rfl hb (fun j q hj=>by omega)⟩
   simp[Instr.findAsking,VX h ha hp.1 w,hb]
  | false=>
   refine⟨r.map fun q=>(q.1+1,q.2), ?_, ?_⟩
   ·simp only[Instr.findAsking,Sem.run_bind,VX h ha hp.1 w,hb,Result.andThen_ok,ag6,ajX,hr,ajF]
    congr 1
    cases r<;>simp;omega
   ·cases hf with
    | no hn=>
     refine .no fun q hq=> ?_
     grind
    | yes i q e' h1 h2 h3 h4=>
     refine .yes (i+1) q e' (by grind) (by grind) h3 (fun j q' hj hq=> ?_)
     grind
theorem S8 {t:TypeId} {k v:Ty} (h:cn P t k=true) {dsc:TypeDesc} (hd:P.underlying t=some dsc) {a:k.den} {va:Value} (ha:cF G k a va):∀ {l:List (k.den×v.den)} {es:List MapEntry} (n:Nat),aR (AA G k v) l es-> ∃ r,Instr.findNow dsc va es n=some (r.map fun p:Nat×Value=>(n+p.1,p.2))/\Gd a l es r
 | [],es,n,he=>by cases he;exact⟨none,rfl,.no (by simp)⟩
 | p::l,_,n,⟨e,es,ee,hp,hl⟩=>by
  subst ee
  obtain⟨r,hr,hf⟩:=S8 h hd ha (n+1) hl
  have hs:Instr.sameNow dsc va e.key=some (k.beq a p.1):=by
   obtain⟨p1,p2⟩:=p
   have hp1:=hp.1
   dsimp only at hp1 ⊢
   cases k with
   | int kk=>
    have e1:va= .int kk a:=by simpa [cF,aN] using ha
    have e2:e.key= .int kk p1:=by simpa [cF,aN] using hp1
    simp only[cn,hd] at h
    cases dsc<;>simp at h
    rw[e1,e2];exact (fun x y:Int=>by simp[Instr.sameNow,Hy]:∀ x y:Int,Instr.sameNow (.int _) (.int kk x) (.int kk y)=some (Hy x y)) a p1
   | bool=>
    have e1:va= .bool a:=by simpa [cF,aN] using ha
    have e2:e.key= .bool p1:=by simpa [cF,aN] using hp1
    simp only[cn,hd] at h
    cases dsc<;>simp at h
    rw[e1,e2];rfl
   | str=>
    have e1:va= .string (bs a):=by simpa [cF,aN] using ha
    have e2:e.key= .string (bs p1):=by simpa [cF,aN] using hp1
    simp only[cn,hd] at h
    cases dsc<;>simp at h
    rw[e1,e2]
    exact congrArg some (abH a p1)
   | _=>simp[cn] at h
  cases hb:k.beq a p.1 with
  | true=>
   refine⟨some (0,e.val), ?_,.yes 0 p e rfl rfl hb (fun j q hj=>by omega)⟩
   simp[Instr.findNow,hs,hb]
  | false=>
   refine⟨r.map fun q=>(q.1+1,q.2), ?_, ?_⟩
   ·simp only[Instr.findNow,hs,hb,hr,ajF]
    congr 1
    cases r<;>simp;omega
   ·cases hf with
    | no hn=>
     refine .no fun q hq=> ?_
     grind
    | yes i q e' h1 h2 h3 h4=>
     refine .yes (i+1) q e' (by grind) (by grind) h3 (fun j q' hj hq=> ?_)
     grind
theorem S6 {t:TypeId} {k v:Ty} (h:jQ P t k=true) {a:k.den} {va:Value} (ha:cF G k a va) {l:List (k.den×v.den)} {es:List MapEntry} (he:aR (AA G k v) l es): ∃ r,(Instr.findKey t va es).run P w= .ok r w/\Gd a l es r:=by
 by_cases hst:∃ s,k= .st s
 ·obtain⟨s,rfl⟩:=hst
  have h0:=h
  simp only[jQ] at h
  split at h
  ·rename_i fs hu
   obtain⟨us,eu,_⟩:=ha
   have ha':cF G (.st s) a va:=⟨us,eu,by omega⟩
   obtain⟨r,hr,hf⟩:=My (w:=w) h0 ha' 0 he
   have hid:(r.map fun p:Nat×Value=>(0+p.1,p.2))=r:=by simp
   rw[hid] at hr
   cases es with
   | nil=>
    refine⟨none,by simp[Instr.findKey,run_underlying hu,Instr.findNow], ?_⟩
    have:l=[]:=by
     cases l with
     | nil=>rfl
     | cons p l=>obtain⟨y,s',e,_⟩:=he;cases e
    subst this
    exact .no (by simp)
   | cons e es=>
    refine⟨r, ?_,hf⟩
    have hn:Instr.findNow (.struct fs) va (e::es) 0=none:=by rfl
    simp only[Instr.findKey,Sem.run_bind,run_underlying hu,Result.andThen_ok,hn,hr]
  ·cases h
 ·have hs:cn P t k=true:=by
   cases k with
   | st s=>grind
   | _=>exact h
  obtain⟨d,i,hd,_⟩:=mC (Ba hs).1
  obtain⟨r,hr,hf⟩:=S8 hs hd ha 0 he
  have hid:(r.map fun p:Nat×Value=>(0+p.1,p.2))=r:=by simp
  rw[hid] at hr
  exact⟨r,by simp[Instr.findKey,run_underlying hd,hr],hf⟩
theorem Gd.get {k v:Ty} {a:k.den} {l:List (k.den×v.den)} {es:List MapEntry} {r:Option (Nat×Value)} (h:Gd a l es r):match r with
 | none=>dN l a=none
 | some (i,u)=>∃ p e,l[i]? =some p/\es[i]? =some e/\u=e.val/\dN l a=some p.2:=by
 cases h with
 | no hn=>
  simp only[dN]
  grind
 | yes i p e h1 h2 h3 h4=>
  refine⟨p,e,h1,h2,rfl, ?_⟩
  have:l.find? (fun p=>k.beq a p.1)=some p:=by
   rw[List.find?_eq_some_iff_getElem]
   grind
  simp[dN,this]
theorem Gd.set {k v:Ty} {a:k.den} (y:v.den) {l:List (k.den×v.den)} {es:List MapEntry} {r:Option (Nat×Value)} (h:Gd a l es r):match r with
 | none=>jG l a y=l++[(a,y)]
 | some (i,_)=>jG l a y=l.set i (a,y):=by
 cases h with
 | no hn=>
  simp only
  clear es
  induction l with
  | nil=>rfl
  | cons p l ih=>
   simp only[jG,hn p (by simp),ajN,ahN]
   grind
 | yes i p e h1 h2 h3 h4=>
  simp only
  clear h2
  induction l generalizing i with
  | nil=>grind
  | cons q l ih=>
   cases i with
   | zero=>
    simp only[ah6,Option.some.injEq] at h1
    subst h1
    simp[jG,h3]
   | succ i=>
    have hq:=h4 0 q (by omega) rfl
    simp only[jG,hq,ajN,aiR]
    grind
theorem It {b:Bool} {t:TypeId} {k:Ty} (h:cn P t k=true) {u:Value} (n:Nat):(Instr.checkKey b (n+1) t u).run P w= .ok () w:=by
 cases k with
 | int kk=>
  simp only[cn] at h
  split at h
  ·rename_i hu;simp[Instr.checkKey,run_underlying hu]
  ·cases h
 | bool=>
  simp only[cn] at h
  split at h
  ·rename_i hu;simp[Instr.checkKey,run_underlying hu]
  ·cases h
 | str=>
  simp only[cn] at h
  split at h
  ·rename_i hu;simp[Instr.checkKey,run_underlying hu]
  ·cases h
 | _=>simp[cn] at h
def Sp (b:Bool) (n:Nat) (us:List Value) (f:Field) (_:PUnit):Sem (ForInStep PUnit):=
 if f.name≠ "_" then do
  let x <- part f.type us.toArray f.offset
  Instr.checkKey b (n+1) f.type x
  pure (ForInStep.yield PUnit.unit)
 else pure (ForInStep.yield PUnit.unit)
theorem abO {b:Bool} {n m:Nat} {us pre c1 rest:List Value} {f:Field} {t1:Ty} {x1:t1.den} (q1:f.name≠ "_") (q2:f.offset=m) (q4:cn P f.type t1=true) (q5:aN G t1 x1 c1) (hpre:pre.length=m) (q6:us=pre++(c1++rest)): (Sp b n us f PUnit.unit).run P w= .ok (.yield PUnit.unit) w:=by
 obtain⟨k1,k2,k3⟩:=Ba q4
 obtain⟨d,i,hd,_⟩:=mC k1
 have hl1:c1.length=1:=by rw[q5.len,k3]
 obtain⟨u,rfl⟩:∃ u,c1=[u]:=by
  match c1,hl1 with
  | [u],_=>simp
 have hget:us[m]? =some u:=by grind
 have hp:(part f.type us.toArray f.offset).run P w= .ok u w:=by
  simp[part,vK hd,k2,q2,hget]
 simp only[Sp,ajZ q1,Sem.run_bind,hp,Result.andThen_ok,It q4 n,Sem.run_pure]
theorem abN {b:Bool} {n:Nat} {us:List Value}:∀ (l:List Field) (m:Nat) (t:Ty) (x:t.den) (pre c:List Value),cQ P l m t=true->us=pre++c->pre.length=m->aN G t x c-> (forIn l PUnit.unit (Sp b n us)).run P w= .ok PUnit.unit w
 | [],m,t,x,pre,c,h,_,_,_=>by rfl
 | [f],m,t,x,pre,c,h,hus,hpre,hc=>by
  simp only[cQ,ag1,ajS] at h
  have:=abO (P:=P) (w:=w) (b:=b) (n:=n) (rest:=[]) h.1.1.1 (ai8 h.1.1.2) h.2 hc hpre (by simpa using hus)
  rw[List.forIn_cons,Sem.run_bind,this]
  rfl
 | f::g::r,m,t,x,pre,c,h,hus,hpre,hc=>by
  cases t with
  | pair s t=>
   simp only[cQ,ag1,ajS] at h
   obtain⟨c1,r1,e1,p1,q1⟩:=hc
   obtain⟨⟨⟨⟨f1,f2⟩,f3⟩,f4⟩,f5⟩:=h
   have o1:=abO (P:=P) (w:=w) (b:=b) (n:=n) (us:=us) (rest:=r1) f1 (ai8 f2) f4 p1 hpre (by rw[hus,e1])
   have hl1:c1.length=1:=by rw[p1.len,(Ba f4).2.2]
   have o2:=abN (b:=b) (n:=n) (us:=us) (g::r) (m+1) t x.2 (pre++c1) r1 f5 (by grind) (by grind) q1
   rw[List.forIn_cons,Sem.run_bind,o1]
   exact o2
  | _=>simp[cQ] at h
theorem XF {t:TypeId} {k:Ty} (h:jQ P t k=true) {a:k.den} {v:Value} (hv:cF G k a v) (b:Bool) (n:Nat):(Instr.checkKey b (n+1+1) t v).run P w= .ok () w:=by
 cases k with
 | st s=>
  simp only[jQ] at h
  split at h
  ·rename_i fs hu
   simp only[ag1] at h
   obtain⟨us,e1,h1⟩:=hv
   subst e1
   have:=abN (P:=P) (w:=w) (b:=b) (n:=n) (us:=us) fs.toList 0 s a [] us h.2 rfl rfl h1
   rw[Array.forIn_toList] at this
   rw[Instr.checkKey]
   simp only[Sem.run_bind,run_underlying hu,Result.andThen_ok]
   have e2:∀ (X:Sem PUnit),X=forIn fs PUnit.unit (Sp b n us)->(X.run P w).andThen (fun _ w'=>Sem.run P (pure ()) w')= .ok () w:=by
    simp_all
   exact e2 _ rfl
  ·cases h
 | _=>exact It (E8 h (by simp)) (n+1)
theorem EG {t:TypeId} {k:Ty} (h:jQ P t k=true) {a:k.den} {v:Value} (hv:cF G k a v) (b:Bool):(Instr.checkKey b 10000 t v).run P w= .ok () w:=
 XF h hv b 9998
end Go.Dn
