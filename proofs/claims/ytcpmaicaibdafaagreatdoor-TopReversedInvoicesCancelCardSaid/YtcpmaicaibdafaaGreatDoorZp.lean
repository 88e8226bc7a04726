/-
  Plain facts: loops, digits, whole numbers. No condition.
-/
import Derived.Test.YtcpmaicaibdafaaGreatDoorZm
set_option linter.all false
namespace Go.Md
open Go.Dn
def I7 {α σ β:Type} (g:σ→Nat→α→(σ→Option β)→Option β) (fin:σ→Option β):List α→Nat→σ→Option β
 | [],_,s=>fin s
 | y::r,i,s=>g s i y fun s'=>I7 g fin r (i+1) s'
theorem Vl {X α σ β:Type} {f:X→(X→Option β)→Option β} (mk:σ→Nat→X) (l:List α) (g:σ→Nat→α→(σ→Option β)→Option β) (fin:σ→Option β)
 (hstep:∀ s i y again,l[i]? =some y→f (mk s i) again=g s i y fun s'=>again (mk s' (i+1))) (hend:∀ s again,f (mk s l.length) again=fin s):
 ∀ (r:List α) (i:Nat) (s:σ) (n:Nat),l.drop i=r→i≤l.length→r.length<n→iter n (mk s i) f=I7 g fin r i s
 | _,_,_,0,_,_,hn=>absurd hn (ai2 _)
 | [],i,s,n+1,hd,hi,_=>by
  have:i=l.length:=by
   have:=congrArg List.length hd
   simp at this;omega
  subst this
  exact hend s _
 | y::r,i,s,n+1,hd,hi,hn=>by
  have hy:l[i]? =some y:=by
   have:=congrArg (·[0]?) hd
   simpa [ahE] using this
  have hr:l.drop (i+1)=r:=by
   have:=congrArg List.tail hd
   simpa [aix] using this
  have hi':i<l.length:=(ahH.1 hy).1
  show f (mk s i) _=_
  rw[hstep s i y _ hy]
  show g s i y _=g s i y _
  congr 1
  funext s'
  exact Vl mk l g fin hstep hend r (i+1) s' n hr hi' (by simp at hn;omega)
theorem Ri {X α σ β:Type} {f:X→(X→Option β)→Option β} (mk:σ→Nat→X) (l:List α) (g:σ→Nat→α→(σ→Option β)→Option β) (fin:σ→Option β)
 (hstep:∀ s i y again,l[i]? =some y→f (mk s i) again=g s i y fun s'=>again (mk s' (i+1))) (hend:∀ s again,f (mk s l.length) again=fin s) (s:σ) (n:Nat) (hn:l.length<n):iter n (mk s 0) f=I7 g fin l 0 s:=
 Vl mk l g fin hstep hend l 0 s n rfl (ai8 _) hn
theorem bX {X β:Type} {f:X→(X→Option β)→Option β} (Inv:Nat→X→Prop) (N:Nat) (Q:Option β→Prop)
 (step:∀ i x again,i<N→Inv i x→(∀ y,Inv (i+1) y→Q (again y))→Q (f x again)) (fin:∀ x again,Inv N x→Q (f x again)):∀ n i x,Inv i x→i≤N→N - i<n→Q (iter n x f)
 | 0,_,_,_,_,hn=>absurd hn (ai2 _)
 | n+1,i,x,hx,hi,hn=>by
  show Q (f x _)
  by_cases h:i=N
  ·subst h;exact fin x _ hx
  ·exact step i x _ (by omega) hx fun y hy=>bX Inv N Q step fin n (i+1) y hy (by omega) (by omega)
theorem N4 {X β:Type} {f:X→(X→Option β)→Option β} (Inv:X→Prop) (μ:X→Nat) (Q:X→Option β→Prop)
 (step:∀ x again,Inv x→(∀ y,Inv y→μ y<μ x→Q y (again y))→Q x (f x again)):∀ n x,Inv x→μ x<n→Q x (iter n x f)
 | 0,_,_,hn=>absurd hn (ai2 _)
 | n+1,x,hx,hn=>step x _ hx fun y hy h=>N4 Inv μ Q step n y hy (by omega)
theorem Vu:maxLen=9223372036854775807:=rfl
theorem aW {β:Type} {b:Bool} (h:b=true) (x:Option β):chk b x=x:=by rw[h];rfl
theorem oS {n k:Nat} (h:n*k≤140737488355328) (h2:n≤9223372036854775807):(decide (n*k≤140737488355328)&&decide (n≤maxLen))=true:=by
 simp only[agC,ajs];rw[Vu];omega
theorem aP {α:Type} {p:Prop} [Decidable p] (h:p) (x y:α):(bif decide p then x else y)=x:=by rw[ajr h];rfl
theorem aO {α:Type} {p:Prop} [Decidable p] (h:¬p) (x y:α):(bif decide p then x else y)=y:=by rw[ajq h];rfl
theorem mU {β γ:Type} (r:β) (f:γ→Option β):aT (some (Sum.inl r)) f=some r:=rfl
theorem aS {β γ:Type} (v:γ) (f:γ→Option β):aT (β:=β) (some (Sum.inr v)) f=f v:=rfl
theorem bu {α:Type} {l:List α} {i:Nat} (h:i<l.length):l[i]? =some (l[i]'h):=ahF h
theorem YI {k:IntKind} {n:Int} (h1:k.min≤n) (h2:n≤k.max):k.wrap n=n:=by
 cases k<;>simp[IntKind.wrap,IntKind.min,IntKind.max,IntKind.bits,IntKind.signed] at* <;>(try split)<;>omega
theorem aC {n:Int} (h1: -9223372036854775808≤n) (h2:n≤9223372036854775807):w64 n=n:=YI h1 h2
theorem fh {n:Int} (h1:0≤n) (h2:n≤18446744073709551615):cw n=n:=YI h1 h2
theorem Eb {n:Int} (h1:0≤n) (h2:n≤4294967295):oL n=n:=YI h1 h2
theorem HK (n:Int):cw n=n % 18446744073709551616:=by simp[cw,IntKind.wrap,IntKind.bits,IntKind.signed]
theorem Ec (n:Int):oL n=n % 4294967296:=by simp[oL,IntKind.wrap,IntKind.bits,IntKind.signed]
theorem bQ {α:Type} (l:List α) (i:Nat):idx l (i:Int)=l[i]? :=by simp[idx]
end Go.Md
namespace Go.Md
open Go.Dn
def val (B:Int):List Int→Int
 | []=>0
 | d::r=>d+B*val B r
def Dig (B:Int) (l:List Int):Prop:=∀ d,d∈l→0≤d∧d<B
theorem Dig.nil {B:Int}:Dig B []:=fun _ h=>by cases h
theorem Dig.cons {B d:Int} {l:List Int} (h:0≤d∧d<B) (hl:Dig B l):Dig B (d::l):=fun x hx=>by
 rcases ah7.1 hx with rfl | hx
 ·exact h
 ·exact hl x hx
theorem Dig.head {B d:Int} {l:List Int} (h:Dig B (d::l)):0≤d∧d<B:=h d (by simp)
theorem Dig.tail {B d:Int} {l:List Int} (h:Dig B (d::l)):Dig B l:=fun x hx=>h x (by simp[hx])
theorem Dig.append {B:Int} {l m:List Int} (h:Dig B l) (k:Dig B m):Dig B (l++m):=fun x hx=>by
 rcases ah6.1 hx with hx | hx
 ·exact h x hx
 ·exact k x hx
theorem Dig.snoc {B d:Int} {l:List Int} (h:Dig B l) (hd:0≤d∧d<B):Dig B (l++[d]):=h.append (Dig.cons hd Dig.nil)
theorem Dig.take {B:Int} {l:List Int} (h:Dig B l) (n:Nat):Dig B (l.take n):=fun x hx=>h x (aif hx)
theorem Dig.drop {B:Int} {l:List Int} (h:Dig B l) (n:Nat):Dig B (l.drop n):=fun x hx=>h x (List.mem_of_mem_drop hx)
theorem Dig.get {B d:Int} {l:List Int} {i:Nat} (h:Dig B l) (hi:l[i]? =some d):0≤d∧d<B:=h d (aie hi)
theorem Dig.left {B:Int} {l m:List Int} (h:Dig B (l++m)):Dig B l:=fun x hx=>h x (List.mem_append_left _ hx)
theorem Dig.right {B:Int} {l m:List Int} (h:Dig B (l++m)):Dig B m:=fun x hx=>h x (List.mem_append_right _ hx)
theorem LX {B:Int} (hB:0<B):∀ {l:List Int},Dig B l→0≤val B l
 | [],_=>agV _
 | d::r,h=>by
  have h1:=h.head;have h2:=LX hB h.tail
  have:0≤B*val B r:=agZ (by omega) h2
  simp only[val];omega
theorem adl {B:Int} (hB:0<B):∀ {l:List Int},Dig B l→val B l<B ^ l.length
 | [],_=>by simp[val]
 | d::r,h=>by
  have h1:=h.head;have h2:=adl hB h.tail
  have h3:B*(val B r+1)≤B*B ^ r.length:=agY h2 (by omega)
  rw[agW,Int.mul_one] at h3
  simp only[val,ahT]
  rw[ag8,Int.mul_comm (B ^ r.length) B]
  omega
theorem LW {B:Int}:∀ (l m:List Int),val B (l++m)=val B l+B ^ l.length*val B m
 | [],m=>by simp[val]
 | d::r,m=>by
  simp only[ahk,val,LW r m,ahT,ag8]
  rw[agW,Int.add_assoc]
  congr 2
  rw[Int.mul_comm (B ^ r.length) B,agX]
theorem aeb {B:Int} (l:List Int) (d:Int):val B (l++[d])=val B l+B ^ l.length*d:=by
 rw[LW];simp[val]
theorem Yc {B:Int} (hB:0<B):∀ n:Nat,0<B ^ n
 | 0=>by simp
 | n+1=>by rw[ag8];exact Int.mul_pos (Yc hB n) hB
def dgF (B:Nat):Nat→Nat→List Int
 | 0,_=>[]
 | f+1,n=>if n=0 then [] else ((n % B:Nat):Int)::dgF B f (n / B)
def dg (B n:Nat):List Int:=dgF B n n
theorem ab2 {B:Nat} (hB:2≤B):∀ (f g n:Nat),n≤f→n≤g→dgF B f n=dgF B g n
 | 0,0,_,_,_=>rfl
 | 0,g+1,n,h,_=>by have:n=0:=by omega
                   subst this;simp[dgF]
 | f+1,0,n,_,h=>by have:n=0:=by omega
                   subst this;simp[dgF]
 | f+1,g+1,n,hf,hg=>by
  by_cases hn:n=0
  ·subst hn;simp[dgF]
  ·have:n / B<n:=aiI (by omega) (by omega)
   simp only[dgF,hn,ajx]
   rw[ab2 hB f g (n / B) (by omega) (by omega)]
theorem Gd (B:Nat):dg B 0=[]:=rfl
theorem EB {B:Nat} (hB:2≤B) {n:Nat} (hn:0<n):dg B n=((n % B:Nat):Int)::dg B (n / B):=by
 have:n / B<n:=aiI hn (by omega)
 obtain⟨m,rfl⟩:∃ m,n=m+1:=⟨n - 1,by omega⟩
 unfold dg
 rw[dgF,ajy (by omega),ab2 hB m ((m+1) / B) _ (by omega) (aiN _)]
theorem afx {B:Nat} (hB:2≤B):∀ n,Dig B (dg B n):=by
 intro n
 induction n using Nat.strongRecOn with
 | _ n ih=>
  by_cases hn:n=0
  ·subst hn;exact Dig.nil
  ·rw[EB hB (by omega)]
   exact Dig.cons ⟨by omega,by have:=aiY n (show 0<B by omega);omega⟩ (ih _ (aiI (by omega) (by omega)))
theorem afU {B:Nat} (hB:2≤B):∀ n,val B (dg B n)=n:=by
 intro n
 induction n using Nat.strongRecOn with
 | _ n ih=>
  by_cases hn:n=0
  ·subst hn;rfl
  ·rw[EB hB (by omega),val,ih _ (aiI (by omega) (by omega))]
   have:=Nat.mod_add_div n B
   omega
theorem NI {B:Nat} (hB:2≤B) {n:Nat} (hn:0<n):dg B n≠[]:=by rw[EB hB hn];simp
theorem ab3 {B:Nat} (hB:2≤B) {n:Nat}:dg B n=[]↔n=0:=by
 constructor
 ·intro h
  rcases aiK n with h0 | h0
  ·exact h0
  ·exact absurd h (NI hB h0)
 ·rintro rfl;rfl
theorem K9 {B:Nat} (hB:2≤B) {d n:Nat} (hd:d<B) (h:0<d+B*n):dg B (d+B*n)=(d:Int)::dg B n:=by
 rw[EB hB h]
 have h1:(d+B*n) % B=d:=by rw[Nat.add_mul_mod_self_left,aiX hd]
 have h2:(d+B*n) / B=n:=by rw[Nat.add_mul_div_left _ _ (by omega),aiH hd];omega
 rw[h1,h2]
def trim:List Int→List Int
 | []=>[]
 | d::r=>match trim r with
  | []=>if d=0 then [] else [d]
  | t=>d::t
theorem aap {B:Nat} (hB:2≤B):∀ {l:List Int},Dig B l→trim l=dg B (val B l).toNat
 | [],_=>rfl
 | d::r,h=>by
  have hr:=aap hB h.tail
  have h1:=h.head
  have hB0:(0:Int)<B:=by omega
  have h2:=LX hB0 h.tail
  obtain⟨k,rfl⟩:∃ k:Nat,d=k:=⟨d.toNat,by omega⟩
  obtain⟨n,hn⟩:∃ n:Nat,val B r=n:=⟨(val B r).toNat,by omega⟩
  have hv:(val B ((k:Int)::r)).toNat=k+B*n:=by
   simp only[val,hn]
   rw[show ((B:Int)*(n:Int))=((B*n:Nat):Int) by simp]
   omega
  rw[hv]
  rw[hn] at hr
  simp only[ahc] at hr
  unfold trim
  rw[hr]
  rcases aiK n with h0 | h0
  ·subst h0
   simp only[Gd,Nat.mul_zero,aiG]
   by_cases hk:k=0
   ·subst hk;simp[Gd]
   ·have:=K9 hB (d:=k) (n:=0) (by omega) (by omega)
    simp only[Nat.mul_zero,aiG,Gd] at this
    rw[this];simp[hk]
  ·have hpos:0<k+B*n:=by have:=Nat.mul_pos (show 0<B by omega) h0;omega
   rw[K9 hB (by omega) hpos]
   cases hd:dg B n with
   | nil=>exact absurd hd (NI hB h0)
   | cons a t=>rfl
theorem KD:∀ l:List Int,trim (l++[0])=trim l
 | []=>rfl
 | d::r=>by simp only[ahk,trim,KD r]
theorem OH {d:Int} (hd:d≠0):∀ l:List Int,trim (l++[d])=l++[d]
 | []=>by simp[trim,hd]
 | e::r=>by
  simp only[ahk,trim,OH hd r]
  cases h:r++[d] with
  | nil=>simp at h
  | cons a t=>rfl
theorem Xq {B:Nat} (hB:2≤B):∀ (k n:Nat),n<B ^ k→(dg B n).length≤k
 | 0,n,h=>by have:n=0:=by simpa using h
             subst this;simp[Gd]
 | k+1,n,h=>by
  by_cases hn:n=0
  ·subst hn;simp[Gd]
  ·rw[EB hB (by omega),ahT]
   have:=Xq hB k (n / B) (by rw[ai6] at h;exact Nat.div_lt_of_lt_mul (by rw[aiZ];exact h))
   omega
theorem ab4 {B:Nat} (hB:2≤B) {m n:Nat} (h:(dg B m).length<(dg B n).length):m<n:=by
 rcases aiT m n with h1 | h1
 ·exact h1
 ·exfalso
  have h2:∀ a b:Nat,b≤a→(dg B b).length≤(dg B a).length:=by
   intro a
   induction a using Nat.strongRecOn with
   | _ a ih=>
    intro b hb
    by_cases h0:b=0
    ·subst h0;simp[Gd]
    ·rw[EB hB (by omega),EB hB (show 0<a by omega),ahT,ahT]
     have:=ih (a / B) (aiI (by omega) (by omega)) (b / B) (Nat.div_le_div_right hb)
     omega
  have:=h2 m n h1
  omega
end Go.Md
namespace Go.Md
open Go.Dn
def v32 (l:List Int):Int:=val 4294967296 l
theorem D6:v32 []=0:=rfl
theorem HH (d:Int) (l:List Int):v32 (d::l)=d+4294967296*v32 l:=rfl
theorem LU (l m:List Int):v32 (l++m)=v32 l+4294967296 ^ l.length*v32 m:=LW l m
theorem LV (l:List Int) (d:Int):v32 (l++[d])=v32 l+4294967296 ^ l.length*d:=aeb l d
abbrev Dg (l:List Int):Prop:=Dig 4294967296 l
def bH (n:Nat):List Int:=dg 4294967296 n
theorem NH:bH 0=[]:=rfl
theorem P8 {n:Nat}:bH n=[]↔n=0:=ab3 (B:=4294967296) (by omega)
theorem P9 {n:Nat} (h:0<n):bH n≠[]:=NI (B:=4294967296) (by omega) h
theorem qx {m n:Nat} (h:(bH m).length<(bH n).length):m<n:=ab4 (B:=4294967296) (by omega) h
theorem fI (n:Nat):Dg (bH n):=afx (B:=4294967296) (by omega) n
theorem fK (n:Nat):v32 (bH n)=n:=afU (B:=4294967296) (by omega) n
theorem Yz {l:List Int} (h:Dg l):trim l=bH (v32 l).toNat:=aap (B:=4294967296) (by omega) h
theorem Df {l:List Int} (h:Dg l):0≤v32 l:=LX (by omega) h
theorem KE {l:List Int} (h:Dg l):v32 l<4294967296 ^ l.length:=adl (by omega) h
theorem vF {k n:Nat} (h:n<4294967296 ^ k):(bH n).length≤k:=Xq (B:=4294967296) (by omega) k n h
theorem BZ (l:List Int) (hl:l.length<1000000):sj l=some (trim l,()):=by
 have key:∀ n (x:ry),x.1.length<1000000→x.1.length<n→iter n x BY=some (Sum.inr (trim x.1,())):=by
  refine N4 (fun x:ry=>x.1.length<1000000) (fun x=>x.1.length) (fun x r=>r=some (Sum.inr (trim x.1,()))) ?_
  rintro⟨x,u⟩ again hx ih
  simp only at hx ih ⊢
  unfold BY
  simp only
  by_cases h0:x.length=0
  ·have:x=[]:=ahs h0
   subst this;simp[trim]
  ·have e1:w64 ((x.length:Int) - 1)=((x.length - 1:Nat):Int):=by rw[aC (by omega) (by omega)];omega
   have hsp:x=x.take (x.length - 1)++[x[x.length - 1]'(by omega)]:=by
    have:=aiA (x.length - 1) x
    rw[aho (by omega),List.drop_of_length_le (by omega)] at this
    exact this.symm
   rw[aP (by omega),e1,bQ,bu (by omega)]
   simp only[ahc,ahq,ajb]
   by_cases hz:x[x.length - 1]'(by omega)=0
   ·rw[hz] at hsp ⊢
    rw[aW (by simp only[agC,ajs];omega)]
    simp only[beq_self_eq_true,ajo]
    rw[ih (List.take (x.length - 1) x,()) (by simp only[ahZ];omega) (by simp only[ahZ];omega)]
    conv=>rhs;rw[hsp,KD]
   ·have:(x[x.length - 1]'(by omega)==0)=false:=by simp[hz]
    rw[this]
    simp only[ajn]
    conv=>rhs;rw[hsp,OH hz]
    rw[← hsp]
 unfold sj
 rw[key _ _ (by simpa using hl) (by simp)]
 rfl
def W (z:Int):aa:=(decide (z<0),bH z.natAbs)
theorem kZ (b:Bool) (l:List Int) (hd:Dg l) (hl:l.length<1000000):jZ b l=some (W (if b then -v32 l else v32 l),()):=by
 unfold jZ
 rw[BZ l hl,Yz hd]
 have h0:=Df hd
 simp only[ajb]
 cases b with
 | false=>simp only[ajn,W];rw[show (decide ((if false=true then -v32 l else v32 l)<0))=false by simp;omega];congr 4;simp;omega
 | true=>
  simp only[ajo,W]
  congr 3
  ·by_cases hv:v32 l=0
   ·simp[hv,NH]
   ·have hpos:0<v32 l:=by omega
    have:bH (v32 l).toNat≠[]:=P9 (by omega)
    have hlen:0<(bH (v32 l).toNat).length:=by
     cases h:bH (v32 l).toNat with
     | nil=>exact absurd h this
     | cons a t=>simp
    simp;omega
  ·congr 1;simp;omega
theorem di (n:Int) (h1: -9223372036854775808≤n) (h2:n≤9223372036854775807):bJ n=some (W n,()):=by
 unfold bJ
 have key:∀ u:Int,0≤u→u≤9223372036854775808→jZ (decide (n<0)) [oL u,oL (Int.fdiv u (2 ^ 32))]=some (W (if decide (n<0) then -u else u),()):=by
  intro u hu0 hu1
  have e:Int.fdiv u (2 ^ 32)=u / 4294967296:=by rw[agU _ (by omega)];rfl
  rw[e,Ec,Ec]
  have hd:Dg [u % 4294967296,u / 4294967296 % 4294967296]:=Dig.cons (by omega) (Dig.cons (by omega) Dig.nil)
  rw[kZ _ _ hd (by simp)]
  have hv:v32 [u % 4294967296,u / 4294967296 % 4294967296]=u:=by simp only[HH,D6];omega
  rw[hv]
 by_cases hn:n<0
 ·have e1:cw (0 - cw n)= -n:=by rw[HK,HK];omega
  rw[show decide (n<0)=true by simpa using hn] at key ⊢
  simp only[ajo,aT]
  rw[e1]
  rw[show decide (n<0)=true by simpa using hn]
  rw[key (-n) (by omega) (by omega)]
  simp
 ·have e1:cw n=n:=fh (by omega) (by omega)
  rw[show decide (n<0)=false by simpa using hn] at key ⊢
  simp only[ajn,aT]
  rw[e1]
  rw[show decide (n<0)=false by simpa using hn]
  rw[key n (by omega) (by omega)]
  simp
theorem iu (z:Int):aG (W z)=some (z.sign,()):=by
 unfold aG W
 by_cases h:z<0
 ·simp[h,ag9 h]
 ·by_cases h0:z=0
  ·subst h0;simp[NH]
  ·have hp:0<z:=by omega
   have:bH z.natAbs≠[]:=P9 (by omega)
   have hlen:((bH z.natAbs).length:Int)≠0:=by
    intro h;exact this (ahs (by omega))
   have hb:(((bH z.natAbs).length:Int)==0)=false:=by simpa using hlen
   simp only[h,ajt,ajn,hb,aha hp]
theorem aec {z:Int} {k:Nat} (h:z.natAbs<4294967296 ^ k):(W z).2.length≤k:=vF h
theorem zi (z:Int) (h:z.natAbs<4294967296 ^ 99):aI (W z)=some (W (-z),()):=by
 unfold aI
 have hl:=aec h
 rw[kZ _ (W z).2 (fI _) (by omega)]
 simp only[ajb]
 congr 3
 simp only[W,fK]
 by_cases hz:z<0
 ·simp[hz];omega
 ·simp[hz];omega
theorem WE {α:Type} {l:List α} {i:Nat} {y:α} (h:l[i]? =some y):l.take (i+1)=l.take i++[y]:=by
 rw[aiz,h];rfl
theorem kY {l:List Int} {i:Nat} {y:Int} (h:l[i]? =some y):v32 (l.take (i+1))=v32 (l.take i)+4294967296 ^ i*y:=by
 have hi:=(ahH.1 h).1
 rw[WE h,LV,ahZ,aiW (by omega)]
theorem Mk {l:List Int} {i:Nat} (h:l.length≤i):v32 (l.take (i+1))=v32 (l.take i):=by
 rw[aiC h,aiC (by omega)]
theorem Xw {u:Int}:Int.fdiv u (2 ^ 32)=u / 4294967296:=by rw[agU _ (by omega)];rfl
theorem UY (a b:List Int) (ha:Dg a) (hb:Dg b) (hla:a.length<100000) (hlb:b.length≤a.length) (n:Nat) (hn:a.length<n):
 ∃ out c,iter (X:=zn) (β:=zm) n (b,[],0,a,(a.length:Int),0,()) zl=some (Sum.inr (out,c,()))∧Dg out∧0≤c∧c≤1∧out.length=a.length∧v32 out+4294967296 ^ a.length*c=v32 a+v32 b:=by
 refine bX (Inv:=fun i x=>∃ out c,x=(b,out,c,a,(a.length:Int),(i:Int),())∧Dg out∧0≤c∧c≤1∧out.length=i∧v32 out+4294967296 ^ i*c=v32 (a.take i)+v32 (b.take i)) a.length
  (fun r=>∃ out c,r=some (Sum.inr (out,c,()))∧Dg out∧0≤c∧c≤1∧out.length=a.length∧v32 out+4294967296 ^ a.length*c=v32 a+v32 b) ?_ ?_ n 0 _ ⟨[],0,rfl,Dig.nil,by omega,by omega,rfl,by simp[D6]⟩ (by omega) (by omega)
 ·rintro i _ again hi ⟨out,c,rfl,hd,hc0,hc1,hlen,hv⟩ ih
  unfold zl
  simp only
  have hy:a[i]? =some a[i]:=bu hi
  have hyd:=ha.get hy
  generalize a[i]=y at hy hyd
  rw[aP (by omega),bQ,hy,ajb]
  have step:∀ z:Int,0≤z→z<4294967296→v32 (b.take (i+1))=v32 (b.take i)+4294967296 ^ i*z→
   ∃ out' c',again (b,out++[oL (cw (cw (c+cw y)+cw z))],Int.fdiv (cw (cw (c+cw y)+cw z)) (2 ^ 32),a,(a.length:Int),w64 ((i:Int)+1),())=some (Sum.inr (out',c',()))∧Dg out'∧0≤c'∧c'≤1∧out'.length=a.length∧v32 out'+4294967296 ^ a.length*c'=v32 a+v32 b:=by
   intro z hz0 hz1 hbz
   have e1:cw (cw (c+cw y)+cw z)=c+y+z:=by
    rw[fh (n:=y) (by omega) (by omega),fh (n:=z) (by omega) (by omega),fh (n:=c+y) (by omega) (by omega),fh (by omega) (by omega)]
   rw[e1,Ec,Xw,aC (by omega) (by omega)]
   refine ih _ ⟨_,_,rfl,hd.snoc (by omega),by omega,by omega,by simp[hlen], ?_⟩
   rw[LV,hlen,kY hy,hbz,ag8]
   have hm:=Int.mul_ediv_add_emod (c+y+z) 4294967296
   have:(4294967296:Int) ^ i*((c+y+z) % 4294967296)+4294967296 ^ i*4294967296*((c+y+z) / 4294967296)=4294967296 ^ i*(c+y+z):=by
    rw[agX, ← agW];congr 1;omega
   rw[agW,agW] at this
   omega
  by_cases hib:i<b.length
  ·have hz:b[i]? =some b[i]:=bu hib
   rw[aP (by omega),bQ,hz,ajb]
   simp only[aS]
   rw[aW (oS (by omega) (by omega))]
   exact step b[i] (hb.get hz).1 (hb.get hz).2 (kY hz)
  ·rw[aO (by omega)]
   simp only[aS]
   rw[aW (oS (by omega) (by omega))]
   have:=step 0 (by omega) (by omega) (by rw[Mk (by omega)];omega)
   have e0:cw (cw (c+cw y)+cw 0)=cw (c+cw y):=by
    rw[fh (n:=y) (by omega) (by omega),fh (n:=(0:Int)) (by omega) (by omega),fh (n:=c+y) (by omega) (by omega),fh (by omega) (by omega)];omega
   rw[e0] at this
   exact this
 ·rintro _ again ⟨out,c,rfl,hd,hc0,hc1,hlen,hv⟩
  unfold zl
  simp only
  rw[aO (by omega)]
  rw[aiC (aiN _),aiC hlb] at hv
  exact⟨out,c,rfl,hd,hc0,hc1,hlen,hv⟩
theorem OK (a b:List Int) (ha:Dg a) (hb:Dg b) (hla:a.length<100000) (hlb:b.length<100000):
 ∃ s,E2 a b=some (s,())∧Dg s∧v32 s=v32 a+v32 b∧s.length=max a.length b.length+1:=by
 have core:∀ (a b:List Int),Dg a→Dg b→a.length<100000→b.length≤a.length→∃ s,(chk (decide (0≤(0:Int))&&decide ((0:Int)≤(w64 (((List.length a:Int))+1)))&&decide ((4:Int)*(w64 (((List.length a:Int))+1))≤281474976710656)&&decide ((w64 (((List.length a:Int))+1))≤9223372036854775807)) <|
 aT (β:=((List Int)×Unit)) (γ:=((List Int)×Int×Unit)) (
  iter (X:=zn) (β:=zm) (List.length b+(List.length ([]:List Int)+(Int.natAbs (0:Int)+(List.length a+(Int.natAbs ((List.length a:Int))+(Int.natAbs (0:Int)+2)))))) (b,[],0,a,(List.length a:Int),0,()) (zl)) fun v7=>
 chk (decide (((v7.1.length)+1)*4≤140737488355328)&&decide ((v7.1.length)+1≤maxLen)) <|
 some (v7.1++[(oL v7.2.1)],()))=some (s,())∧Dg s∧v32 s=v32 a+v32 b∧s.length=a.length+1:=by
  intro a b ha hb hla hlb
  obtain⟨out,c,h1,h2,h3,h4,h5,h6⟩:=UY a b ha hb hla hlb _ (show a.length<List.length b+(List.length ([]:List Int)+(Int.natAbs (0:Int)+(List.length a+(Int.natAbs ((List.length a:Int))+(Int.natAbs (0:Int)+2))))) by omega)
  rw[h1,aS,aC (by omega) (by omega),aW (by simp only[agC,ajs];omega)]
  simp only
  rw[aW (oS (by omega) (by omega))]
  refine⟨_,rfl,h2.snoc ?_, ?_,by simp[h5]⟩
  ·rw[Eb (by omega) (by omega)];omega
  ·rw[Eb (by omega) (by omega),LV,h5];exact h6
 unfold E2
 by_cases h:a.length<b.length
 ·rw[aP (by omega),aS]
  obtain⟨s,h1,h2,h3,h4⟩:=core b a hb ha hlb (by omega)
  exact⟨s,h1,h2,by omega,by omega⟩
 ·rw[aO (by omega),aS]
  obtain⟨s,h1,h2,h3,h4⟩:=core a b ha hb hla (by omega)
  exact⟨s,h1,h2,by omega,by omega⟩
theorem TM (a b:List Int) (ha:Dg a) (hb:Dg b) (hla:a.length<100000) (hlb:b.length≤a.length) (n:Nat) (hn:a.length<n):
 ∃ out c,iter (X:=Bh) (β:=Bg) n (b,[],0,a,(a.length:Int),0,()) Bf=some (Sum.inr (out,()))∧Dg out∧0≤c∧c≤1∧out.length=a.length∧v32 out=v32 a - v32 b+4294967296 ^ a.length*c:=by
 refine bX (Inv:=fun i x=>∃ out c,x=(b,out,c,a,(a.length:Int),(i:Int),())∧Dg out∧0≤c∧c≤1∧out.length=i∧v32 out=v32 (a.take i) - v32 (b.take i)+4294967296 ^ i*c) a.length
  (fun r=>∃ out c,r=some (Sum.inr (out,()))∧Dg out∧0≤c∧c≤1∧out.length=a.length∧v32 out=v32 a - v32 b+4294967296 ^ a.length*c) ?_ ?_ n 0 _ ⟨[],0,rfl,Dig.nil,by omega,by omega,rfl,by simp[D6]⟩ (by omega) (by omega)
 ·rintro i _ again hi ⟨out,c,rfl,hd,hc0,hc1,hlen,hv⟩ ih
  unfold Bf
  simp only
  have hy:a[i]? =some a[i]:=bu hi
  have hyd:=ha.get hy
  generalize a[i]=y at hy hyd
  rw[aP (by omega),bQ,hy,ajb]
  have step:∀ z:Int,0≤z→z<4294967296→v32 (b.take (i+1))=v32 (b.take i)+4294967296 ^ i*z→∀ t:Int,t=(y - c - z) % 18446744073709551616→
   ∃ out' c',again (b,out++[oL t],cw (((BitVec.ofInt (IntKind.bits .u64) (Int.fdiv t (2 ^ 32)) &&& BitVec.ofInt (IntKind.bits .u64) 1).toNat:Int)),a,(a.length:Int),w64 ((i:Int)+1),())=some (Sum.inr (out',()))∧Dg out'∧0≤c'∧c'≤1∧out'.length=a.length∧v32 out'=v32 a - v32 b+4294967296 ^ a.length*c':=by
   intro z hz0 hz1 hbz t ht
   have e2:cw (((BitVec.ofInt (IntKind.bits .u64) (Int.fdiv t (2 ^ 32)) &&& BitVec.ofInt (IntKind.bits .u64) 1).toNat:Int))=(if y - c - z<0 then 1 else 0):=by
    rw[Xw]
    have h1:t / 4294967296=(if y - c - z<0 then 4294967295 else 0):=by split<;>omega
    rw[h1]
    split<;>rfl
   rw[e2,Ec,aC (by omega) (by omega)]
   refine ih _ ⟨_,_,rfl,hd.snoc (by omega),by split<;>omega,by split<;>omega,by simp[hlen], ?_⟩
   rw[LV,hlen,kY hy,hbz,ag8,hv]
   have e3:t % 4294967296=y - c - z+4294967296*(if y - c - z<0 then 1 else 0):=by split<;>omega
   rw[e3]
   generalize (if y - c - z<0 then (1:Int) else 0)=q
   generalize (4294967296:Int) ^ i=p
   rw[agW,Int.mul_sub,Int.mul_sub,agX]
   omega
  by_cases hib:i<b.length
  ·have hz:b[i]? =some b[i]:=bu hib
   rw[aP (by omega),bQ,hz,ajb]
   simp only[aS]
   rw[aW (oS (by omega) (by omega))]
   have hz':=hb.get hz
   refine step b[i] hz'.1 hz'.2 (kY hz) _ ?_
   rw[fh (n:=y) (by omega) (by omega),fh (n:=b[i]) (by omega) (by omega),HK,HK]
   omega
  ·rw[aO (by omega)]
   simp only[aS]
   rw[aW (oS (by omega) (by omega))]
   refine step 0 (by omega) (by omega) (by rw[Mk (by omega)];omega) _ ?_
   rw[fh (n:=y) (by omega) (by omega),HK]
   omega
 ·rintro _ again ⟨out,c,rfl,hd,hc0,hc1,hlen,hv⟩
  unfold Bf
  simp only
  rw[aO (by omega)]
  rw[aiC (aiN _),aiC hlb] at hv
  exact⟨out,c,rfl,hd,hc0,hc1,hlen,hv⟩
theorem Fq (a b:List Int) (ha:Dg a) (hb:Dg b) (hla:a.length<100000) (hlb:b.length≤a.length) (hle:v32 b≤v32 a):zV a b=some (bH (v32 a - v32 b).toNat,()):=by
 unfold zV
 obtain⟨out,c,h1,h2,h3,h4,h5,h6⟩:=TM a b ha hb hla hlb _ (show a.length<List.length b+(List.length ([]:List Int)+(Int.natAbs (0:Int)+(List.length a+(Int.natAbs ((List.length a:Int))+(Int.natAbs (0:Int)+2))))) by omega)
 rw[h1,aS,aW (by simp only[agC,ajs];omega)]
 simp only
 rw[BZ _ (by omega),Yz h2,ajb]
 have h7:=KE h2
 rw[h5] at h7
 have h8:c=0:=by
  rcases (show c=0∨c=1 by omega) with h | h
  ·exact h
  ·subst h;rw[Int.mul_one] at h6;omega
 subst h8
 rw[h6,Int.mul_zero,Int.add_zero]
theorem OJ (a b:List Int) (ha:Dg a) (hb:Dg b) (hab:a.length=b.length) (hla:a.length<100000):∀ (n k:Nat),k≤a.length→k<n→
 iter (X:=wB) (β:=wA) n (a,b,(k:Int) - 1,()) ru=if v32 (a.take k)<v32 (b.take k) then some (Sum.inl ((-1),())) else if v32 (b.take k)<v32 (a.take k) then some (Sum.inl (1,())) else some (Sum.inr ()):=by
 intro n
 induction n with
 | zero=>intro k _ h;omega
 | succ n ih=>
  intro k hk hn
  rw[bY]
  generalize hag:(fun y=>iter n y ru)=again
  unfold ru
  simp only
  cases k with
  | zero=>simp[D6]
  | succ k=>
   rw[aP (by omega),show ((k+1:Nat):Int) - 1=(k:Int) by omega,bQ,bQ]
   have hx:a[k]? =some a[k]:=bu (by omega)
   have hy:b[k]? =some b[k]:=bu (by omega)
   rw[hx,hy]
   simp only[ajb]
   rw[kY hx,kY hy]
   have h1:=KE (ha.take k)
   have h2:=KE (hb.take k)
   have h3:=Df (ha.take k)
   have h4:=Df (hb.take k)
   rw[ahZ,aiW (by omega)] at h1 h2
   generalize a[k]=x
   generalize b[k]=y
   by_cases hxy:x=y
   ·subst hxy
    simp only[ajm,ajn]
    rw[aC (by omega) (by omega), ← hag]
    show iter n (a,b,(k:Int) - 1,()) ru=_
    rw[ih k (by omega) (by omega)]
    congr 1
    ·simp
    ·congr 1;simp
   ·have hne:(x != y)=true:=by simp[hxy]
    rw[hne]
    simp only[ajo]
    by_cases hlt:x<y
    ·rw[aP hlt,ajz]
     have:(4294967296:Int) ^ k*(x+1)≤4294967296 ^ k*y:=agY (by omega) (by omega)
     rw[agW,Int.mul_one] at this
     omega
    ·rw[aO hlt]
     have:(4294967296:Int) ^ k*(y+1)≤4294967296 ^ k*x:=agY (by omega) (by omega)
     rw[agW,Int.mul_one] at this
     rw[ajy (by omega),ajz (by omega)]
theorem HJ (m n:Nat) (hm:(bH m).length<100000) (hn:(bH n).length<100000):∃ c,wT (bH m) (bH n)=some (c,())∧(c<0↔m<n)∧(0<c↔n<m):=by
 unfold wT
 by_cases h:(bH m).length=(bH n).length
 ·have hb:(((bH m).length:Int) != ((bH n).length:Int))=false:=by simp[h]
  rw[hb]
  simp only[ajn]
  by_cases h0:(bH m).length=0
  ·have hm0:m=0:=P8.1 (ahs h0)
   have hn0:n=0:=P8.1 (ahs (by omega))
   subst hm0;subst hn0
   exact⟨0,rfl,by simp,by simp⟩
  ·have e1:w64 (((bH m).length:Int) - 1)=(((bH m).length:Nat):Int) - 1:=aC (by omega) (by omega)
   rw[e1,OJ _ _ (fI m) (fI n) h hm _ _ (aiN _) (by omega),aiC (aiN _),aiC (by omega),fK,fK]
   by_cases h1:m<n
   ·rw[ajz (by omega),mU];exact⟨-1,rfl,by omega,by omega⟩
   ·by_cases h2:n<m
    ·rw[ajy (by omega),ajz (by omega),mU];exact⟨1,rfl,by omega,by omega⟩
    ·rw[ajy (by omega),ajy (by omega),aS];exact⟨0,rfl,by omega,by omega⟩
 ·have hb:(((bH m).length:Int) != ((bH n).length:Int))=true:=by simp;omega
  rw[hb]
  simp only[ajo]
  rw[aC (by omega) (by omega)]
  refine⟨_,rfl, ?_, ?_⟩
  ·constructor
   ·intro h1;exact qx (by omega)
   ·intro h1
    rcases Nat.lt_or_gt_of_ne h with h2 | h2
    ·omega
    ·have:=qx (m:=n) (n:=m) h2;omega
  ·constructor
   ·intro h1;exact qx (by omega)
   ·intro h1
    rcases Nat.lt_or_gt_of_ne h with h2 | h2
    ·have:=qx (m:=m) (n:=n) h2;omega
    ·omega
end Go.Md
namespace Go.Md
open Go.Dn
theorem WJ (w:Nat) {a b:Nat} (ha:a<2 ^ w) (hb:b<2 ^ w):((BitVec.ofInt w (a:Int) ||| BitVec.ofInt w (b:Int)).toNat:Int)=((a ||| b:Nat):Int):=by
 rw[agA,agA,BitVec.toNat_or,agB,agB,aiX ha,aiX hb]
theorem bv_and (w:Nat) {a b:Nat} (ha:a<2 ^ w) (hb:b<2 ^ w):((BitVec.ofInt w (a:Int) &&& BitVec.ofInt w (b:Int)).toNat:Int)=((a &&& b:Nat):Int):=by
 rw[agA,agA,BitVec.toNat_and,agB,agB,aiX ha,aiX hb]
theorem X4 {a k b:Nat} (hb:b<2 ^ k):(2 ^ k*a) ||| b=2 ^ k*a+b:=(Nat.two_pow_add_eq_or_of_lt hb a).symm
theorem UX {l:List Int} (h:Dg l) {i:Nat} {y:Int} (hi:l[i]? =some y):y=v32 l / 4294967296 ^ i % 4294967296:=by
 have hlt:=(ahH.1 hi).1
 have e:l=l.take i++(y::l.drop (i+1)):=by
  have:=aiA i l
  rw[aho hlt,(ahH.1 hi).2] at this
  exact this.symm
 have hd:=h.get hi
 have h1:=KE (h.take i)
 have h2:=Df (h.take i)
 rw[ahZ,aiW (by omega)] at h1
 have hv:v32 l=v32 (l.take i)+4294967296 ^ i*(y+4294967296*v32 (l.drop (i+1))):=by
  conv=>lhs;rw[e]
  rw[LU,ahZ,aiW (by omega),HH]
 rw[hv,Int.add_mul_ediv_left _ _ (by omega),Int.ediv_eq_zero_of_lt h2 h1,Int.zero_add,Int.add_mul_emod_self_left,Int.emod_eq_of_lt hd.1 hd.2]
theorem Pg {l:List Int} {i:Nat} {y z:Int} (hi:l[i]? =some y):v32 (l.set i z)=v32 l+4294967296 ^ i*(z - y):=by
 have hlt:=(ahH.1 hi).1
 have e:l=l.take i++(y::l.drop (i+1)):=by
  have:=aiA i l
  rw[aho hlt,(ahH.1 hi).2] at this
  exact this.symm
 have e2:l.set i z=l.take i++(z::l.drop (i+1)):=by rw[List.set_eq_take_append_cons_drop,ajz hlt]
 rw[e2]
 conv=>rhs;rw[e]
 rw[LU,LU,HH,HH,ahZ,aiW (by omega)]
 have:(4294967296:Int) ^ i*(z+4294967296*v32 (l.drop (i+1)))=4294967296 ^ i*(y+4294967296*v32 (l.drop (i+1)))+4294967296 ^ i*(z - y):=by rw[← agW];congr 1;omega
 omega
theorem Dig.set {B:Int} {l:List Int} (h:Dig B l) {i:Nat} {z:Int} (hz:0≤z∧z<B):Dig B (l.set i z):=fun x hx=>by
 rcases aih hx with hx | rfl
 ·exact h x hx
 ·exact hz
theorem ZI (y:Nat) (j:Nat) (hy:y<4294967296):oL (((BitVec.ofInt (IntKind.bits .u32) (Int.fdiv (y:Int) (2 ^ (min j (IntKind.bits .u32)))) &&& BitVec.ofInt (IntKind.bits .u32) 1).toNat:Int))=((y / 2 ^ (min j 32) % 2:Nat):Int):=by
 have e1:Int.fdiv (y:Int) (2 ^ (min j (IntKind.bits .u32)))=((y / 2 ^ (min j 32):Nat):Int):=by
  have:((2:Int) ^ (min j 32))=((2 ^ (min j 32):Nat):Int):=by simp
  rw[show IntKind.bits .u32=32 from rfl,this,agU _ (ag5 _)]
  simp
 rw[e1]
 have hlt:y / 2 ^ (min j 32)<2 ^ 32:=aiR (Nat.div_le_self _ _) hy
 have:=bv_and (IntKind.bits .u32) (a:=y / 2 ^ (min j 32)) (b:=1) hlt (by decide)
 rw[show ((1:Nat):Int)=1 from rfl] at this
 rw[this,Nat.and_one_is_mod]
 exact Eb (by omega) (by omega)
theorem WH (a b:Nat) (hb:0<b) (na:Bool) (nb:Bool) (ha:(bH a).length<1000) (hlb:(bH b).length<1000) (g1:Bool) (g2:List Int) (g3:Bool) (g4:List Int):∀ (n k:Nat) (q:List Int),k≤32*(bH a).length→k<n→Dg q→q.length=(bH a).length→v32 q=((a / 2 ^ k / b*2 ^ k:Nat):Int)→
 ∃ q',iter (X:=x6) (β:=x5) n (bH (a / 2 ^ k % b),(k:Int) - 1,na,bH a,nb,bH b,g1,g2,g3,g4,q,()) x4=some (Sum.inr (bH (a % b),g1,g2,g3,g4,q',()))∧Dg q'∧q'.length=(bH a).length∧v32 q'=((a / b:Nat):Int):=by
 intro n
 induction n with
 | zero=>intro k q _ h;omega
 | succ n ih=>
  intro k q hk hn hq hql hqv
  rw[bY]
  generalize hag:(fun y=>iter n y x4)=again
  unfold x4
  simp only
  cases k with
  | zero=>
   rw[aO (by omega)]
   refine⟨q, ?_,hq,hql,by simpa using hqv⟩
   simp
  | succ k=>
   rw[aP (by omega),show ((k+1:Nat):Int) - 1=(k:Int) by omega]
   have hR:a / 2 ^ (k+1) % b<b:=aiY _ hb
   have hRl:(bH (a / 2 ^ (k+1) % b)).length≤(bH b).length:=by
    rcases aiT (bH b).length (bH (a / 2 ^ (k+1) % b)).length with h | h
    ·have:=qx h;omega
    ·exact h
   obtain⟨s,hs1,hs2,hs3,hs4⟩:=OK _ _ (fI (a / 2 ^ (k+1) % b)) (fI (a / 2 ^ (k+1) % b)) (by omega) (by omega)
   rw[hs1]
   simp only[ajb]
   have hs0:s[0]? =some s[0]:=bu (by omega)
   have hs0d:=hs2.get hs0
   have hs0v:=UX hs2 hs0
   rw[fK] at hs3
   generalize s[0]'(by omega)=y3 at hs0 hs0d hs0v
   rw[aW (by simp only[agC,ajs];omega),hs0]
   simp only[ajb]
   have hk32:k / 32<(bH a).length:=by omega
   have e5:w64 (Int.tdiv (k:Int) 32)=((k / 32:Nat):Int):=by
    rw[ahb (by omega),aC (by omega) (by omega)];omega
   have e6:Int.tmod (k:Int) 32=((k % 32:Nat):Int):=by rw[Int.tmod_eq_emod_of_nonneg (by omega)];omega
   have hy4:(bH a)[k / 32]? =some ((bH a)[k / 32]):=bu hk32
   have hy4d:=(fI a).get hy4
   have hy4v:=UX (fI a) hy4
   rw[fK] at hy4v
   generalize (bH a)[k / 32]=y4 at hy4 hy4d hy4v
   obtain⟨m4,rfl⟩:∃ m:Nat,y4=m:=⟨y4.toNat,by omega⟩
   rw[e5,e6,bQ,hy4]
   simp only[ajb]
   rw[aW (by simp only[ajs];omega)]
   simp only[ahc]
   rw[ZI m4 (k % 32) (by omega)]
   have hbit:m4 / 2 ^ (min (k % 32) 32) % 2=a / 2 ^ k % 2:=by
    have h1:m4=a / 4294967296 ^ (k / 32) % 4294967296:=by
     have h2:((a:Int) / 4294967296 ^ (k / 32) % 4294967296)=((a / 4294967296 ^ (k / 32) % 4294967296:Nat):Int):=by simp
     rw[h2] at hy4v;omega
    have h3:(4294967296:Nat) ^ (k / 32)=2 ^ (32*(k / 32)):=by rw[Nat.pow_mul]
    rw[h1,aiW (by omega),h3]
    have h4:(4294967296:Nat)=2 ^ (k % 32)*2 ^ (32 - k % 32):=by rw[← ai4];rw[show k % 32+(32 - k % 32)=32 by omega]
    rw[show a / 2 ^ (32*(k / 32)) % 4294967296=a / 2 ^ (32*(k / 32)) % (2 ^ (k % 32)*2 ^ (32 - k % 32)) by rw[← h4],Nat.mod_mul_right_div_self,Nat.div_div_eq_div_mul, ← ai4,show 32*(k / 32)+k % 32=k by omega]
    have h5:(2:Nat) ∣ 2 ^ (32 - k % 32):=by
     rw[show 32 - k % 32=(31 - k % 32)+1 by omega,ai6];exact Nat.dvd_mul_left _ _
    exact Nat.mod_mod_of_dvd _ h5
   rw[hbit,aW (by simp only[agC,ajs];omega)]
   obtain⟨m3,rfl⟩:∃ m:Nat,y3=m:=⟨y3.toNat,by omega⟩
   have hev:m3 % 2=0:=by
    have h1:v32 s / 4294967296 ^ 0 % 4294967296=v32 s % 4294967296:=by simp
    rw[h1,hs3] at hs0v
    omega
   have hor:oL (((BitVec.ofInt (IntKind.bits .u32) (m3:Int) ||| BitVec.ofInt (IntKind.bits .u32) ((a / 2 ^ k % 2:Nat):Int)).toNat:Int))=((m3+a / 2 ^ k % 2:Nat):Int):=by
    rw[WJ (IntKind.bits .u32) (by show m3<2 ^ 32;omega) (by show a / 2 ^ k % 2<2 ^ 32;omega)]
    have h1:m3=2 ^ 1*(m3 / 2):=by omega
    have h2:m3 ||| (a / 2 ^ k % 2)=m3+a / 2 ^ k % 2:=by
     conv=>lhs;rw[h1]
     rw[X4 (by omega)];omega
    rw[h2];exact Eb (by omega) (by omega)
   rw[hor]
   rw[BZ _ (by simp only[ahY];omega),Yz (hs2.set (by omega)),Pg hs0,hs3]
   simp only[ajb]
   have hr2:(((a / 2 ^ (k+1) % b:Nat):Int)+((a / 2 ^ (k+1) % b:Nat):Int)+4294967296 ^ 0*(((m3+a / 2 ^ k % 2:Nat):Int) - (m3:Int))).toNat=2*(a / 2 ^ (k+1) % b)+a / 2 ^ k % 2:=by
    rw[Int.pow_zero];omega
   rw[hr2]
   have htop:a / 2 ^ k=2*(a / 2 ^ (k+1))+a / 2 ^ k % 2:=by
    rw[ai6, ← Nat.div_div_eq_div_mul];omega
   generalize hT:a / 2 ^ (k+1)=T at*
   generalize hbt:a / 2 ^ k % 2=bt at*
   have hbt2:bt<2:=by omega
   have hr3l:(bH (2*(T % b)+bt)).length≤(bH b).length+1:=by
    rcases aiT ((bH b).length+1) (bH (2*(T % b)+bt)).length with h | h
    ·exfalso
     have h1:bH (4294967296*b)=0::bH b:=by
      have:=K9 (B:=4294967296) (by omega) (d:=0) (n:=b) (by omega) (by omega)
      simpa [bH] using this
     have h2:(bH (4294967296*b)).length<(bH (2*(T % b)+bt)).length:=by rw[h1];simpa using h
     have:=qx h2
     omega
    ·exact h
   obtain⟨c,hc1,hc2,hc3⟩:=HJ (2*(T % b)+bt) b (by omega) (by omega)
   rw[hc1]
   simp only[ajb]
   have hdm:=Nat.div_add_mod T b
   by_cases hge:b≤2*(T % b)+bt
   ·rw[aP (by omega)]
    have hlen2:(bH b).length≤(bH (2*(T % b)+bt)).length:=by
     rcases aiT (bH (2*(T % b)+bt)).length (bH b).length with h | h
     ·have:=qx h;omega
     ·exact h
    rw[Fq _ _ (fI _) (fI _) (by omega) hlen2 (by rw[fK,fK];omega),fK,fK]
    simp only[ajb]
    rw[aW (by simp only[agC,ajs];omega)]
    have hy9:q[k / 32]? =some (q[k / 32]'(by omega)):=bu (by omega)
    have hy9d:=hq.get hy9
    have hy9v:=UX hq hy9
    rw[hqv] at hy9v
    generalize q[k / 32]'(by omega)=y9 at hy9 hy9d hy9v
    obtain⟨m9,rfl⟩:∃ m:Nat,y9=m:=⟨y9.toNat,by omega⟩
    rw[hy9]
    simp only[ajb]
    rw[aW (by simp only[ajs];omega),aW (by simp only[agC,ajs];omega)]
    have h9:m9=T / b*2 ^ (k+1) / 4294967296 ^ (k / 32) % 4294967296:=by
     have h2:(((T / b*2 ^ (k+1):Nat):Int) / 4294967296 ^ (k / 32) % 4294967296)=((T / b*2 ^ (k+1) / 4294967296 ^ (k / 32) % 4294967296:Nat):Int):=by simp
     rw[h2] at hy9v;omega
    have h3:(4294967296:Nat) ^ (k / 32)=2 ^ (32*(k / 32)):=by rw[Nat.pow_mul]
    have h9d:2 ^ (k % 32+1) ∣ m9:=by
     rw[h9,h3]
     have e1:T / b*2 ^ (k+1) / 2 ^ (32*(k / 32))=T / b*2 ^ (k % 32+1):=by
      rw[show k+1=(k % 32+1)+32*(k / 32) by omega,ai4, ← Nat.mul_assoc,Nat.mul_div_cancel _ (Nat.pow_pos (by omega))]
     rw[e1]
     have h4:(4294967296:Nat)=2 ^ (k % 32+1)*2 ^ (31 - k % 32):=by rw[← ai4];rw[show k % 32+1+(31 - k % 32)=32 by omega]
     exact (Nat.dvd_mod_iff (by rw[h4];exact Nat.dvd_mul_right _ _)).2 (Nat.dvd_mul_left _ _)
    have hsh:oL (1*2 ^ (min (k % 32) (IntKind.bits .u32)))=((2 ^ (k % 32):Nat):Int):=by
     rw[show IntKind.bits .u32=32 from rfl,aiW (by omega),Int.one_mul,show ((2:Int) ^ (k % 32))=((2 ^ (k % 32):Nat):Int) by simp]
     have:2 ^ (k % 32)≤2 ^ 31:=ai5 (by omega) (by omega)
     exact Eb (by omega) (by omega)
    have hp31:2 ^ (k % 32)≤2 ^ 31:=ai5 (by omega) (by omega)
    obtain⟨e9,he9⟩:=h9d
    have hor2:oL (((BitVec.ofInt (IntKind.bits .u32) (m9:Int) ||| BitVec.ofInt (IntKind.bits .u32) ((2 ^ (k % 32):Nat):Int)).toNat:Int))=((m9+2 ^ (k % 32):Nat):Int):=by
     rw[WJ (IntKind.bits .u32) (by show m9<2 ^ 32;omega) (by show 2 ^ (k % 32)<2 ^ 32;omega)]
     have h2:m9 ||| 2 ^ (k % 32)=m9+2 ^ (k % 32):=by rw[he9,X4 (Nat.pow_lt_pow_right (by omega) (by omega))]
     rw[h2]
     refine Eb (by omega) ?_
     have h5:2 ^ (k % 32+1)*e9+2 ^ (k % 32)≤4294967295:=by
      have h4:(4294967296:Nat)=2 ^ (k % 32+1)*2 ^ (31 - k % 32):=by rw[← ai4];rw[show k % 32+1+(31 - k % 32)=32 by omega]
      have h6:e9<2 ^ (31 - k % 32):=by
       rcases aiT e9 (2 ^ (31 - k % 32)) with h | h
       ·exact h
       ·have:=Nat.mul_le_mul_left (2 ^ (k % 32+1)) h;omega
      have h7:=Nat.mul_le_mul_left (2 ^ (k % 32+1)) (show e9+1≤2 ^ (31 - k % 32) by omega)
      rw[Nat.mul_add,Nat.mul_one, ← h4] at h7
      have h8:2 ^ (k % 32+1)=2*2 ^ (k % 32):=by rw[ai6,aiZ]
      omega
     omega
    have hz9:m9+2 ^ (k % 32)<4294967296:=by
     have:=Ec (((BitVec.ofInt (IntKind.bits .u32) (m9:Int) ||| BitVec.ofInt (IntKind.bits .u32) ((2 ^ (k % 32):Nat):Int)).toNat:Int))
     rw[hor2] at this;omega
    rw[hsh,hor2,aC (by omega) (by omega), ← hag]
    have hTk:a / 2 ^ k / b=2*(T / b)+1∧a / 2 ^ k % b=2*(T % b)+bt - b:=by
     have h1:a / 2 ^ k=b*(2*(T / b)+1)+(2*(T % b)+bt - b):=by
      rw[htop,Nat.mul_add,Nat.mul_one,show b*(2*(T / b))=2*(b*(T / b)) by rw[Nat.mul_left_comm]];omega
     have h2:2*(T % b)+bt - b<b:=by have:=aiY T hb;omega
     rw[h1]
     exact⟨by rw[Nat.mul_add_div hb,aiH h2,aiG],by rw[Nat.mul_add_mod,aiX h2]⟩
    have hih:=ih k (q.set (k / 32) ((m9+2 ^ (k % 32):Nat):Int)) (by omega) (by omega) (hq.set ⟨ag5 _,Int.ofNat_lt.2 hz9⟩) (by rw[ahY];exact hql) (by
     rw[Pg hy9,hqv,hTk.1]
     have e1:(((m9+2 ^ (k % 32):Nat):Int) - (m9:Int))=((2 ^ (k % 32):Nat):Int):=by omega
     have e2:((4294967296:Int) ^ (k / 32))=((2 ^ (32*(k / 32)):Nat):Int):=by rw[← h3];simp
     rw[e1,e2, ← ag4, ← ai4,show 32*(k / 32)+k % 32=k by omega, ← Int.natCast_add]
     congr 1
     rw[ai6,aiF,ai3,aiZ (2 ^ k) 2, ← Nat.mul_assoc,aiZ (T / b) 2])
    rw[hTk.2] at hih
    have e7:(((2*(T % b)+bt:Nat):Int) - (b:Int)).toNat=2*(T % b)+bt - b:=by omega
    rw[e7]
    exact hih
   ·rw[aO (by omega),aC (by omega) (by omega), ← hag]
    have hTk:a / 2 ^ k / b=2*(T / b)∧a / 2 ^ k % b=2*(T % b)+bt:=by
     have h1:a / 2 ^ k=b*(2*(T / b))+(2*(T % b)+bt):=by
      rw[htop,show b*(2*(T / b))=2*(b*(T / b)) by rw[Nat.mul_left_comm]];omega
     have h2:2*(T % b)+bt<b:=by omega
     rw[h1]
     exact⟨by rw[Nat.mul_add_div hb,aiH h2,aiG],by rw[Nat.mul_add_mod,aiX h2]⟩
    have hih:=ih k q (by omega) (by omega) hq hql (by
     rw[hqv,hTk.1]
     congr 1
     rw[ai6,aiZ (2 ^ k) 2, ← Nat.mul_assoc,aiZ (T / b) 2])
    rw[hTk.2] at hih
    exact hih
theorem Mj (n:Nat):v32 (List.replicate n 0)=0:=by
 induction n with
 | zero=>rfl
 | succ n ih=>rw[aiq,HH,ih];rfl
theorem af4 (k:Nat):(4294967296:Nat) ^ k=2 ^ (32*k):=by rw[Nat.pow_mul]
theorem Dh (x y:Int) (hx:x.natAbs<4294967296 ^ 99) (hy:y.natAbs<4294967296 ^ 99) (h0:y≠0):rq (W x) (W y)=some (W ((x.natAbs / y.natAbs:Nat):Int),W ((x.natAbs % y.natAbs:Nat):Int),()):=by
 have hlx:=vF hx
 have hly:=vF hy
 unfold rq W
 dsimp only
 rw[aW (by simp only[agC,ajs];omega)]
 have e1:w64 (w64 (((bH x.natAbs).length:Int)*32) - 1)=((32*(bH x.natAbs).length:Nat):Int) - 1:=by
  rw[aC (n:=((bH x.natAbs).length:Int)*32) (by omega) (by omega),aC (by omega) (by omega)];omega
 rw[e1]
 have hlt:x.natAbs<2 ^ (32*(bH x.natAbs).length):=by
  have:=KE (fI x.natAbs)
  rw[fK] at this
  have h2:((4294967296:Int) ^ (bH x.natAbs).length)=((4294967296 ^ (bH x.natAbs).length:Nat):Int):=by simp
  rw[h2,af4] at this
  omega
 have hz:x.natAbs / 2 ^ (32*(bH x.natAbs).length)=0:=aiH hlt
 obtain⟨q,h1,h2,h3,h4⟩:=WH x.natAbs y.natAbs (by omega) (decide (x<0)) (decide (y<0)) (by omega) (by omega) false [] false [] (List.length ([]:List Int)+(Int.natAbs (((32*(bH x.natAbs).length:Nat):Int) - 1)+(List.length (bH x.natAbs)+(List.length (bH y.natAbs)+(List.length ([]:List Int)+(List.length ([]:List Int)+(List.length ((List.replicate (Int.toNat ((List.length (bH x.natAbs):Int))) 0):List Int)+2)))))))
  (32*(bH x.natAbs).length) (List.replicate (Int.toNat ((List.length (bH x.natAbs):Int))) 0) (aiN _) (by omega) (fun d hd=>by rw[List.mem_replicate] at hd;omega) (by simp) (by rw[Mj,hz];simp)
 rw[hz,Nat.zero_mod,NH] at h1
 rw[h1,aS]
 simp only
 rw[kZ _ _ h2 (by omega),kZ _ _ (fI _) (by
  have:=vF (k:=99) (n:=x.natAbs % y.natAbs) (aiR (Nat.mod_le _ _) hx);omega),h4,fK]
 rfl
theorem wq (z:Int) (most:Int) (h0:0≤most) (h1:most≤9223372036854775807):pJ (W z) most=some (if z.natAbs≤most then (z,true,()) else (0,false,())):=by
 unfold pJ W
 dsimp only
 by_cases hl:(bH z.natAbs).length>2
 ·rw[aP (by omega)]
  have:¬ (z.natAbs:Int)≤most:=by
   intro h
   have:=vF (k:=2) (n:=z.natAbs) (by omega)
   omega
  rw[ajy this]
 ·rw[aO (by omega)]
  have hdig:=fI z.natAbs
  have hval:=fK z.natAbs
  have hlen:(bH z.natAbs).length≤2:=by omega
  generalize hd:bH z.natAbs=d at*
  have loop:∃ n0,iter (X:=wz) (β:=wu) (Int.natAbs most+(Int.natAbs (0:Int)+(List.length d+(Int.natAbs ((List.length d:Int))+(Int.natAbs (0:Int)+(List.length d+2)))))) (most,0,d,(List.length d:Int),0,decide (z<0),d,()) wo=some (Sum.inr (most,n0,decide (z<0),d,()))∧n0=(z.natAbs:Int):=by
   refine bX (Inv:=fun i x=>∃ u:Int,x=(most,u,d,(d.length:Int),(i:Int),decide (z<0),d,())∧u=v32 (d.take i)) d.length (fun r=>∃ n0,r=some (Sum.inr (most,n0,decide (z<0),d,()))∧n0=(z.natAbs:Int)) ?_ ?_ _ 0 _ ⟨0,rfl,by simp[D6]⟩ (by omega) (by omega)
   ·rintro i _ again hi ⟨u,rfl,hu⟩ ih
    unfold wo
    simp only
    have hy:d[i]? =some d[i]:=bu hi
    have hyd:=hdig.get hy
    have hts:=kY hy
    have hlt:=KE (hdig.take i)
    have hnn:=Df (hdig.take i)
    rw[ahZ,aiW (by omega)] at hlt
    generalize d[i]=y at hy hyd hts
    rw[aP (by omega),bQ,hy,ajb,aC (n:=32*(i:Int)) (by omega) (by omega),aW (by simp only[ajs];omega),aC (n:=(i:Int)+1) (by omega) (by omega)]
    refine ih _ ⟨_,rfl, ?_⟩
    rw[hts]
    obtain⟨m,rfl⟩:∃ m:Nat,y=m:=⟨y.toNat,by omega⟩
    obtain⟨k,hk⟩:∃ k:Nat,v32 (d.take i)=k:=⟨(v32 (d.take i)).toNat,by omega⟩
    rw[hk] at hlt hu ⊢
    subst hu
    have hi2:i=0∨i=1:=by omega
    rcases hi2 with rfl | rfl
    ·simp only[Int.pow_zero] at hlt ⊢
     have:k=0:=by omega
     subst this
     have e:cw (cw (m:Int)*2 ^ (min (Int.toNat (32*((0:Nat):Int))) (IntKind.bits .u64)))=(m:Int):=by
      rw[fh (n:=(m:Int)) (by omega) (by omega)]
      simp
      exact fh (by omega) (by omega)
     rw[e,WJ (IntKind.bits .u64) (by decide) (by show m<2 ^ 64;omega),Nat.zero_or,fh (by omega) (by omega)]
     omega
    ·simp only[Int.pow_one] at hlt ⊢
     have e:cw (cw (m:Int)*2 ^ (min (Int.toNat (32*((1:Nat):Int))) (IntKind.bits .u64)))=((2 ^ 32*m:Nat):Int):=by
      rw[fh (n:=(m:Int)) (by omega) (by omega),show min (Int.toNat (32*((1:Nat):Int))) (IntKind.bits .u64)=32 from rfl]
      rw[fh (by omega) (by omega)]
      omega
     rw[e,WJ (IntKind.bits .u64) (by show k<2 ^ 64;omega) (by show 2 ^ 32*m<2 ^ 64;omega),Nat.or_comm,X4 (by omega),fh (by omega) (by omega)]
     omega
   ·rintro _ again ⟨u,rfl,hu⟩
    unfold wo
    simp only
    rw[aO (by omega)]
    rw[aiC (aiN _),hval] at hu
    exact⟨u,rfl,hu⟩
  obtain⟨n0,h2,h3⟩:=loop
  rw[h2,aS]
  subst h3
  simp only
  rw[fh (n:=most) (by omega) (by omega)]
  by_cases hm:(z.natAbs:Int)≤most
  ·rw[aO (by omega),ajz hm]
   by_cases hneg:z<0
   ·rw[ajr hneg]
    simp only[ajo]
    rw[aC (n:=(z.natAbs:Int)) (by omega) (by omega),aC (by omega) (by omega)]
    congr 2;omega
   ·rw[ajq hneg]
    simp only[ajn]
    rw[aC (by omega) (by omega)]
    congr 2;omega
  ·rw[aP (by omega),ajy hm]
end Go.Md
namespace Go.Md
open Go.Dn
def v6 (l:List Int):Int:=val 1000000 l
def dg6 (n:Nat):List Int:=dg 1000000 n
theorem aeI {k n:Nat} (h:n<1000000 ^ k):(dg6 n).length≤k:=Xq (B:=1000000) (by omega) k n h
def N (z:Int):JI:=(decide (z<0),dg6 z.natAbs)
end Go.Md
namespace Go.Md
open Go.Dn
def Big (D:Int) (l:List Int):Prop:=∀ d,d∈l→0≤d∧d≤D
theorem Big.get {D d:Int} {l:List Int} {i:Nat} (h:Big D l) (hi:l[i]? =some d):0≤d∧d≤D:=h d (aie hi)
theorem Big.set {D E:Int} {l:List Int} (h:Big D l) (hDE:D≤E) {i:Nat} {z:Int} (hz:0≤z∧z≤E):Big E (l.set i z):=fun x hx=>by
 rcases aih hx with hx | rfl
 ·have:=h x hx;omega
 ·exact hz
theorem Big.mono {D E:Int} {l:List Int} (h:Big D l) (hDE:D≤E):Big E l:=fun x hx=>by have:=h x hx;omega
end Go.Md
