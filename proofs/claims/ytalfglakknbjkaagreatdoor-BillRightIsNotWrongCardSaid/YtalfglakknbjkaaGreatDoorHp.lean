/-
  Plain facts: loops, digits, whole numbers. No condition.
-/
import Derived.Test.YtalfglakknbjkaaGreatDoorHm
set_option linter.all false
namespace Go.Md
open Go.Dn
theorem bS {X β:Type} {f:X→(X→Option β)→Option β} (Inv:Nat→X→Prop) (N:Nat) (Q:Option β→Prop)
 (step:∀ i x again,i<N→Inv i x→(∀ y,Inv (i+1) y→Q (again y))→Q (f x again)) (fin:∀ x again,Inv N x→Q (f x again)):∀ n i x,Inv i x→i≤N→N - i<n→Q (iter n x f)
 | 0,_,_,_,_,hn=>absurd hn (XQ _)
 | n+1,i,x,hx,hi,hn=>by
  show Q (f x _)
  by_cases h:i=N
  ·subst h;exact fin x _ hx
  ·exact step i x _ (by omega) hx fun y hy=>bS Inv N Q step fin n (i+1) y hy (by omega) (by omega)
theorem I9 {X β:Type} {f:X→(X→Option β)→Option β} (Inv:X→Prop) (μ:X→Nat) (Q:X→Option β→Prop)
 (step:∀ x again,Inv x→(∀ y,Inv y→μ y<μ x→Q y (again y))→Q x (f x again)):∀ n x,Inv x→μ x<n→Q x (iter n x f)
 | 0,_,_,hn=>absurd hn (XQ _)
 | n+1,x,hx,hn=>step x _ hx fun y hy h=>I9 Inv μ Q step n y hy (by omega)
theorem NX:maxLen=9223372036854775807:=rfl
theorem aT {β:Type} {b:Bool} (h:b=true) (x:Option β):chk b x=x:=by rw [h];rfl
theorem lY {n k:Nat} (h:n*k≤140737488355328) (h2:n≤9223372036854775807):(decide (n*k≤140737488355328)&&decide (n≤maxLen))=true:=by
 simp only [VZ,decide_eq_true_eq];rw [NX];omega
theorem aM {α:Type} {p:Prop} [Decidable p] (h:p) (x y:α):(bif decide p then x else y)=x:=by rw [X9 h];rfl
theorem aN {α:Type} {p:Prop} [Decidable p] (h:¬p) (x y:α):(bif decide p then x else y)=y:=by rw [X8 h];rfl
theorem mR {β γ:Type} (r:β) (f:γ→Option β):aP (some (Sum.inl r)) f=some r:=rfl
theorem aL {β γ:Type} (v:γ) (f:γ→Option β):aP (β:=β) (some (Sum.inr v)) f=f v:=rfl
theorem aR {α:Type} {l:List α} {i:Nat} (h:i<l.length):l[i]? =some (l[i]'h):=List.getElem?_eq_getElem h
theorem Pz {k:IntKind} {n:Int} (h1:k.min≤n) (h2:n≤k.max):k.wrap n=n:=by
 cases k<;>simp [IntKind.wrap,IntKind.min,IntKind.max,IntKind.bits,IntKind.signed] at* <;>(try split)<;>omega
theorem aJ {n:Int} (h1: -9223372036854775808≤n) (h2:n≤9223372036854775807):w64 n=n:=Pz h1 h2
theorem dK {n:Int} (h1:0≤n) (h2:n≤18446744073709551615):bP n=n:=Pz h1 h2
theorem A3 {n:Int} (h1:0≤n) (h2:n≤4294967295):mN n=n:=Pz h1 h2
theorem Dv (n:Int):bP n=n % 18446744073709551616:=by simp [bP,IntKind.wrap,IntKind.bits,IntKind.signed]
theorem AM (n:Int):mN n=n % 4294967296:=by simp [mN,IntKind.wrap,IntKind.bits,IntKind.signed]
theorem bM {α:Type} (l:List α) (i:Nat):idx l (i:Int)=l[i]? :=by simp [idx]
end Go.Md
namespace Go.Md
open Go.Dn
def val (B:Int):List Int→Int
 | []=>0
 | d::r=>d+B*val B r
def Dig (B:Int) (l:List Int):Prop:=∀ d,d∈l→0≤d∧d<B
theorem Dig.nil {B:Int}:Dig B []:=fun _ h=>by cases h
theorem Dig.cons {B d:Int} {l:List Int} (h:0≤d∧d<B) (hl:Dig B l):Dig B (d::l):=fun x hx=>by
 rcases W9.1 hx with rfl | hx
 ·exact h
 ·exact hl x hx
theorem Dig.head {B d:Int} {l:List Int} (h:Dig B (d::l)):0≤d∧d<B:=h d (by simp)
theorem Dig.tail {B d:Int} {l:List Int} (h:Dig B (d::l)):Dig B l:=fun x hx=>h x (by simp [hx])
theorem Dig.append {B:Int} {l m:List Int} (h:Dig B l) (k:Dig B m):Dig B (l++m):=fun x hx=>by
 rcases W8.1 hx with hx | hx
 ·exact h x hx
 ·exact k x hx
theorem Dig.snoc {B d:Int} {l:List Int} (h:Dig B l) (hd:0≤d∧d<B):Dig B (l++[d]):=h.append (Dig.cons hd Dig.nil)
theorem Dig.take {B:Int} {l:List Int} (h:Dig B l) (n:Nat):Dig B (l.take n):=fun x hx=>h x (Xg hx)
theorem Dig.drop {B:Int} {l:List Int} (h:Dig B l) (n:Nat):Dig B (l.drop n):=fun x hx=>h x (List.mem_of_mem_drop hx)
theorem Dig.get {B d:Int} {l:List Int} {i:Nat} (h:Dig B l) (hi:l[i]? =some d):0≤d∧d<B:=h d (List.mem_of_getElem? hi)
theorem Dig.left {B:Int} {l m:List Int} (h:Dig B (l++m)):Dig B l:=fun x hx=>h x (List.mem_append_left _ hx)
theorem Dig.right {B:Int} {l m:List Int} (h:Dig B (l++m)):Dig B m:=fun x hx=>h x (List.mem_append_right _ hx)
theorem HN {B:Int} (hB:0<B):∀ {l:List Int},Dig B l→0≤val B l
 | [],_=>Int.le_refl _
 | d::r,h=>by
  have h1:=h.head;have h2:=HN hB h.tail
  have:0≤B*val B r:=Wj (by omega) h2
  simp only [val];omega
theorem SM {B:Int} (hB:0<B):∀ {l:List Int},Dig B l→val B l<B ^ l.length
 | [],_=>by simp [val]
 | d::r,h=>by
  have h1:=h.head;have h2:=SM hB h.tail
  have h3:B*(val B r+1)≤B*B ^ r.length:=Wi h2 (by omega)
  rw [Wh,Int.mul_one] at h3
  simp only [val,WW]
  rw [Wm,Int.mul_comm (B ^ r.length) B]
  omega
theorem HP {B:Int}:∀ (l m:List Int),val B (l++m)=val B l+B ^ l.length*val B m
 | [],m=>by simp [val]
 | d::r,m=>by
  simp only [Wv,val,HP r m,WW,Wm]
  rw [Wh,Int.add_assoc]
  congr 2
  rw [Int.mul_comm (B ^ r.length) B,Int.mul_assoc]
theorem T8 {B:Int} (l:List Int) (d:Int):val B (l++[d])=val B l+B ^ l.length*d:=by
 rw [HP];simp [val]
theorem Pp {B:Int} (hB:0<B):∀ n:Nat,0<B ^ n
 | 0=>by simp
 | n+1=>by rw [Wm];exact Int.mul_pos (Pp hB n) hB
def dgF (B:Nat):Nat→Nat→List Int
 | 0,_=>[]
 | f+1,n=>if n=0 then [] else ((n % B:Nat):Int)::dgF B f (n / B)
def dg (B n:Nat):List Int:=dgF B n n
theorem S4 {B:Nat} (hB:2≤B):∀ (f g n:Nat),n≤f→n≤g→dgF B f n=dgF B g n
 | 0,0,_,_,_=>rfl
 | 0,g+1,n,h,_=>by have:n=0:=by omega
                   subst this;simp [dgF]
 | f+1,0,n,_,h=>by have:n=0:=by omega
                   subst this;simp [dgF]
 | f+1,g+1,n,hf,hg=>by
  by_cases hn:n=0
  ·subst hn;simp [dgF]
  ·have:n / B<n:=XA (by omega) (by omega)
   simp only [dgF,hn,Yd]
   rw [S4 hB f g (n / B) (by omega) (by omega)]
theorem Dk (B:Nat):dg B 0=[]:=rfl
theorem BE {B:Nat} (hB:2≤B) {n:Nat} (hn:0<n):dg B n=((n % B:Nat):Int)::dg B (n / B):=by
 have:n / B<n:=XA hn (by omega)
 obtain ⟨m,rfl⟩:∃ m,n=m+1:=⟨n - 1,by omega⟩
 unfold dg
 rw [dgF,if_neg (by omega),S4 hB m ((m+1) / B) _ (by omega) (XE _)]
theorem Vu {B:Nat} (hB:2≤B):∀ n,Dig B (dg B n):=by
 intro n
 induction n using Nat.strongRecOn with
 | _ n ih=>
  by_cases hn:n=0
  ·subst hn;exact Dig.nil
  ·rw [BE hB (by omega)]
   exact Dig.cons ⟨by omega,by have:=XN n (show 0<B by omega);omega⟩ (ih _ (XA (by omega) (by omega)))
theorem Vr {B:Nat} (hB:2≤B):∀ n,val B (dg B n)=n:=by
 intro n
 induction n using Nat.strongRecOn with
 | _ n ih=>
  by_cases hn:n=0
  ·subst hn;rfl
  ·rw [BE hB (by omega),val,ih _ (XA (by omega) (by omega))]
   have:=Nat.mod_add_div n B
   omega
theorem Jz {B:Nat} (hB:2≤B) {n:Nat} (hn:0<n):dg B n≠[]:=by rw [BE hB hn];simp
theorem SS {B:Nat} (hB:2≤B) {n:Nat}:dg B n=[]↔n=0:=by
 constructor
 ·intro h
  rcases XC n with h0 | h0
  ·exact h0
  ·exact absurd h (Jz hB h0)
 ·rintro rfl;rfl
theorem GV {B:Nat} (hB:2≤B) {d n:Nat} (hd:d<B) (h:0<d+B*n):dg B (d+B*n)=(d:Int)::dg B n:=by
 rw [BE hB h]
 have h1:(d+B*n) % B=d:=by rw [Nat.add_mul_mod_self_left,XM hd]
 have h2:(d+B*n) / B=n:=by rw [Nat.add_mul_div_left _ _ (by omega),Nat.div_eq_of_lt hd];omega
 rw [h1,h2]
def trim:List Int→List Int
 | []=>[]
 | d::r=>match trim r with
  | []=>if d=0 then [] else [d]
  | t=>d::t
theorem RS {B:Nat} (hB:2≤B):∀ {l:List Int},Dig B l→trim l=dg B (val B l).toNat
 | [],_=>rfl
 | d::r,h=>by
  have hr:=RS hB h.tail
  have h1:=h.head
  have hB0:(0:Int)<B:=by omega
  have h2:=HN hB0 h.tail
  obtain ⟨k,rfl⟩:∃ k:Nat,d=k:=⟨d.toNat,by omega⟩
  obtain ⟨n,hn⟩:∃ n:Nat,val B r=n:=⟨(val B r).toNat,by omega⟩
  have hv:(val B ((k:Int)::r)).toNat=k+B*n:=by
   simp only [val,hn]
   rw [show ((B:Int)*(n:Int))=((B*n:Nat):Int) by simp]
   omega
  rw [hv]
  rw [hn] at hr
  simp only [Wo] at hr
  unfold trim
  rw [hr]
  rcases XC n with h0 | h0
  ·subst h0
   simp only [Dk,Nat.mul_zero,Xz]
   by_cases hk:k=0
   ·subst hk;simp [Dk]
   ·have:=GV hB (d:=k) (n:=0) (by omega) (by omega)
    simp only [Nat.mul_zero,Xz,Dk] at this
    rw [this];simp [hk]
  ·have hpos:0<k+B*n:=by have:=Nat.mul_pos (show 0<B by omega) h0;omega
   rw [GV hB (by omega) hpos]
   cases hd:dg B n with
   | nil=>exact absurd hd (Jz hB h0)
   | cons a t=>rfl
theorem GM:∀ l:List Int,trim (l++[0])=trim l
 | []=>rfl
 | d::r=>by simp only [Wv,trim,GM r]
theorem IP {d:Int} (hd:d≠0):∀ l:List Int,trim (l++[d])=l++[d]
 | []=>by simp [trim,hd]
 | e::r=>by
  simp only [Wv,trim,IP hd r]
  cases h:r++[d] with
  | nil=>simp at h
  | cons a t=>rfl
theorem Qs {B:Nat} (hB:2≤B):∀ (k n:Nat),n<B ^ k→(dg B n).length≤k
 | 0,n,h=>by have:n=0:=by simpa using h
             subst this;simp [Dk]
 | k+1,n,h=>by
  by_cases hn:n=0
  ·subst hn;simp [Dk]
  ·rw [BE hB (by omega),WW]
   have:=Qs hB k (n / B) (by rw [XU] at h;exact Nat.div_lt_of_lt_mul (by rw [XO];exact h))
   omega
theorem TD {B:Nat} (hB:2≤B) {m n:Nat} (h:(dg B m).length<(dg B n).length):m<n:=by
 rcases XI m n with h1 | h1
 ·exact h1
 ·exfalso
  have h2:∀ a b:Nat,b≤a→(dg B b).length≤(dg B a).length:=by
   intro a
   induction a using Nat.strongRecOn with
   | _ a ih=>
    intro b hb
    by_cases h0:b=0
    ·subst h0;simp [Dk]
    ·rw [BE hB (by omega),BE hB (show 0<a by omega),WW,WW]
     have:=ih (a / B) (XA (by omega) (by omega)) (b / B) (Nat.div_le_div_right hb)
     omega
  have:=h2 m n h1
  omega
end Go.Md
namespace Go.Md
open Go.Dn
def v32 (l:List Int):Int:=val 4294967296 l
theorem A2:v32 []=0:=rfl
theorem Dm (d:Int) (l:List Int):v32 (d::l)=d+4294967296*v32 l:=rfl
theorem Hi (l m:List Int):v32 (l++m)=v32 l+4294967296 ^ l.length*v32 m:=HP l m
theorem HF (l:List Int) (d:Int):v32 (l++[d])=v32 l+4294967296 ^ l.length*d:=T8 l d
abbrev Dg (l:List Int):Prop:=Dig 4294967296 l
def bz (n:Nat):List Int:=dg 4294967296 n
theorem Jl:bz 0=[]:=rfl
theorem K2 {n:Nat}:bz n=[]↔n=0:=SS (B:=4294967296) (by omega)
theorem K9 {n:Nat} (h:0<n):bz n≠[]:=Jz (B:=4294967296) (by omega) h
theorem og {m n:Nat} (h:(bz m).length<(bz n).length):m<n:=TD (B:=4294967296) (by omega) h
theorem ef (n:Nat):Dg (bz n):=Vu (B:=4294967296) (by omega) n
theorem dZ (n:Nat):v32 (bz n)=n:=Vr (B:=4294967296) (by omega) n
theorem PY {l:List Int} (h:Dg l):trim l=bz (v32 l).toNat:=RS (B:=4294967296) (by omega) h
theorem zm {l:List Int} (h:Dg l):0≤v32 l:=HN (by omega) h
theorem GD {l:List Int} (h:Dg l):v32 l<4294967296 ^ l.length:=SM (by omega) h
theorem sd {k n:Nat} (h:n<4294967296 ^ k):(bz n).length≤k:=Qs (B:=4294967296) (by omega) k n h
theorem yt (l:List Int) (hl:l.length<1000000):pI l=some (trim l,()):=by
 have key:∀ n (x:ov),x.1.length<1000000→x.1.length<n→iter n x yw=some (Sum.inr (trim x.1,())):=by
  refine I9 (fun x:ov=>x.1.length<1000000) (fun x=>x.1.length) (fun x r=>r=some (Sum.inr (trim x.1,()))) ?_
  rintro ⟨x,u⟩ again hx ih
  simp only at hx ih ⊢
  unfold yw
  simp only
  by_cases h0:x.length=0
  ·have:x=[]:=WC h0
   subst this;simp [trim]
  ·have e1:w64 ((x.length:Int) - 1)=((x.length - 1:Nat):Int):=by rw [aJ (by omega) (by omega)];omega
   have hsp:x=x.take (x.length - 1)++[x[x.length - 1]'(by omega)]:=by
    have:=Xt (x.length - 1) x
    rw [Wz (by omega),List.drop_of_length_le (by omega)] at this
    exact this.symm
   rw [aM (by omega),e1,bM,aR (by omega)]
   simp only [Wo,WB,Option.bind_some]
   by_cases hz:x[x.length - 1]'(by omega)=0
   ·rw [hz] at hsp ⊢
    rw [aT (by simp only [VZ,decide_eq_true_eq];omega)]
    simp only [beq_self_eq_true,cond_true]
    rw [ih (List.take (x.length - 1) x,()) (by simp only [W3];omega) (by simp only [W3];omega)]
    conv=>rhs;rw [hsp,GM]
   ·have:(x[x.length - 1]'(by omega)==0)=false:=by simp [hz]
    rw [this]
    simp only [cond_false]
    conv=>rhs;rw [hsp,IP hz]
    rw [← hsp]
 unfold pI
 rw [key _ _ (by simpa using hl) (by simp)]
 rfl
def W (z:Int):aa:=(decide (z<0),bz z.natAbs)
theorem jQ (b:Bool) (l:List Int) (hd:Dg l) (hl:l.length<1000000):iT b l=some (W (if b then -v32 l else v32 l),()):=by
 unfold iT
 rw [yt l hl,PY hd]
 have h0:=zm hd
 simp only [Option.bind_some]
 cases b with
 | false=>simp only [cond_false,W];rw [show (decide ((if false=true then -v32 l else v32 l)<0))=false by simp;omega];congr 4;simp;omega
 | true=>
  simp only [cond_true,W]
  congr 3
  ·by_cases hv:v32 l=0
   ·simp [hv,Jl]
   ·have hpos:0<v32 l:=by omega
    have:bz (v32 l).toNat≠[]:=K9 (by omega)
    have hlen:0<(bz (v32 l).toNat).length:=by
     cases h:bz (v32 l).toNat with
     | nil=>exact absurd h this
     | cons a t=>simp
    simp;omega
  ·congr 1;simp;omega
theorem fN (n:Int) (h1: -9223372036854775808≤n) (h2:n≤9223372036854775807):bC n=some (W n,()):=by
 unfold bC
 have key:∀ u:Int,0≤u→u≤9223372036854775808→iT (decide (n<0)) [mN u,mN (Int.fdiv u (2 ^ 32))]=some (W (if decide (n<0) then -u else u),()):=by
  intro u hu0 hu1
  have e:Int.fdiv u (2 ^ 32)=u / 4294967296:=by rw [Wg _ (by omega)];rfl
  rw [e,AM,AM]
  have hd:Dg [u % 4294967296,u / 4294967296 % 4294967296]:=Dig.cons (by omega) (Dig.cons (by omega) Dig.nil)
  rw [jQ _ _ hd (by simp)]
  have hv:v32 [u % 4294967296,u / 4294967296 % 4294967296]=u:=by simp only [Dm,A2];omega
  rw [hv]
 by_cases hn:n<0
 ·have e1:bP (0 - bP n)= -n:=by rw [Dv,Dv];omega
  rw [show decide (n<0)=true by simpa using hn] at key ⊢
  simp only [cond_true,aP]
  rw [e1]
  rw [show decide (n<0)=true by simpa using hn]
  rw [key (-n) (by omega) (by omega)]
  simp
 ·have e1:bP n=n:=dK (by omega) (by omega)
  rw [show decide (n<0)=false by simpa using hn] at key ⊢
  simp only [cond_false,aP]
  rw [e1]
  rw [show decide (n<0)=false by simpa using hn]
  rw [key n (by omega) (by omega)]
  simp
theorem qE (z:Int):aB (W z)=some (z.sign,()):=by
 unfold aB W
 by_cases h:z<0
 ·simp [h,Int.sign_eq_neg_one_of_neg h]
 ·by_cases h0:z=0
  ·subst h0;simp [Jl]
  ·have hp:0<z:=by omega
   have:bz z.natAbs≠[]:=K9 (by omega)
   have hlen:((bz z.natAbs).length:Int)≠0:=by
    intro h;exact this (WC (by omega))
   have hb:(((bz z.natAbs).length:Int)==0)=false:=by simpa using hlen
   simp only [h,decide_false,cond_false,hb,Int.sign_eq_one_of_pos hp]
theorem Uy {z:Int} {k:Nat} (h:z.natAbs<4294967296 ^ k):(W z).2.length≤k:=sd h
theorem BR (z:Int) (h:z.natAbs<4294967296 ^ 99):aA (W z)=some (W (-z),()):=by
 unfold aA
 have hl:=Uy h
 rw [jQ _ (W z).2 (ef _) (by omega)]
 simp only [Option.bind_some]
 congr 3
 simp only [W,dZ]
 by_cases hz:z<0
 ·simp [hz];omega
 ·simp [hz];omega
theorem OI {α:Type} {l:List α} {i:Nat} {y:α} (h:l[i]? =some y):l.take (i+1)=l.take i++[y]:=by
 rw [Xs,h];rfl
theorem jR {l:List Int} {i:Nat} {y:Int} (h:l[i]? =some y):v32 (l.take (i+1))=v32 (l.take i)+4294967296 ^ i*y:=by
 have hi:=(List.getElem?_eq_some_iff.1 h).1
 rw [OI h,HF,W3,XL (by omega)]
theorem Ik {l:List Int} {i:Nat} (h:l.length≤i):v32 (l.take (i+1))=v32 (l.take i):=by
 rw [Xv h,Xv (by omega)]
theorem Pe {u:Int}:Int.fdiv u (2 ^ 32)=u / 4294967296:=by rw [Wg _ (by omega)];rfl
theorem NP (a b:List Int) (ha:Dg a) (hb:Dg b) (hla:a.length<100000) (hlb:b.length≤a.length) (n:Nat) (hn:a.length<n):
 ∃ out c,iter (X:=u6) (β:=ve) n (b,[],0,a,(a.length:Int),0,()) uL=some (Sum.inr (out,c,()))∧Dg out∧0≤c∧c≤1∧out.length=a.length∧v32 out+4294967296 ^ a.length*c=v32 a+v32 b:=by
 refine bS (Inv:=fun i x=>∃ out c,x=(b,out,c,a,(a.length:Int),(i:Int),())∧Dg out∧0≤c∧c≤1∧out.length=i∧v32 out+4294967296 ^ i*c=v32 (a.take i)+v32 (b.take i)) a.length
  (fun r=>∃ out c,r=some (Sum.inr (out,c,()))∧Dg out∧0≤c∧c≤1∧out.length=a.length∧v32 out+4294967296 ^ a.length*c=v32 a+v32 b) ?_ ?_ n 0 _ ⟨[],0,rfl,Dig.nil,by omega,by omega,rfl,by simp [A2]⟩ (by omega) (by omega)
 ·rintro i _ again hi ⟨out,c,rfl,hd,hc0,hc1,hlen,hv⟩ ih
  unfold uL
  simp only
  have hy:a[i]? =some a[i]:=aR hi
  have hyd:=ha.get hy
  generalize a[i]=y at hy hyd
  rw [aM (by omega),bM,hy,Option.bind_some]
  have step:∀ z:Int,0≤z→z<4294967296→v32 (b.take (i+1))=v32 (b.take i)+4294967296 ^ i*z→
   ∃ out' c',again (b,out++[mN (bP (bP (c+bP y)+bP z))],Int.fdiv (bP (bP (c+bP y)+bP z)) (2 ^ 32),a,(a.length:Int),w64 ((i:Int)+1),())=some (Sum.inr (out',c',()))∧Dg out'∧0≤c'∧c'≤1∧out'.length=a.length∧v32 out'+4294967296 ^ a.length*c'=v32 a+v32 b:=by
   intro z hz0 hz1 hbz
   have e1:bP (bP (c+bP y)+bP z)=c+y+z:=by
    rw [dK (n:=y) (by omega) (by omega),dK (n:=z) (by omega) (by omega),dK (n:=c+y) (by omega) (by omega),dK (by omega) (by omega)]
   rw [e1,AM,Pe,aJ (by omega) (by omega)]
   refine ih _ ⟨_,_,rfl,hd.snoc (by omega),by omega,by omega,by simp [hlen], ?_⟩
   rw [HF,hlen,jR hy,hbz,Wm]
   have hm:=Int.mul_ediv_add_emod (c+y+z) 4294967296
   have:(4294967296:Int) ^ i*((c+y+z) % 4294967296)+4294967296 ^ i*4294967296*((c+y+z) / 4294967296)=4294967296 ^ i*(c+y+z):=by
    rw [Int.mul_assoc, ← Wh];congr 1;omega
   rw [Wh,Wh] at this
   omega
  by_cases hib:i<b.length
  ·have hz:b[i]? =some b[i]:=aR hib
   rw [aM (by omega),bM,hz,Option.bind_some]
   simp only [aL]
   rw [aT (lY (by omega) (by omega))]
   exact step b[i] (hb.get hz).1 (hb.get hz).2 (jR hz)
  ·rw [aN (by omega)]
   simp only [aL]
   rw [aT (lY (by omega) (by omega))]
   have:=step 0 (by omega) (by omega) (by rw [Ik (by omega)];omega)
   have e0:bP (bP (c+bP y)+bP 0)=bP (c+bP y):=by
    rw [dK (n:=y) (by omega) (by omega),dK (n:=(0:Int)) (by omega) (by omega),dK (n:=c+y) (by omega) (by omega),dK (by omega) (by omega)];omega
   rw [e0] at this
   exact this
 ·rintro _ again ⟨out,c,rfl,hd,hc0,hc1,hlen,hv⟩
  unfold uL
  simp only
  rw [aN (by omega)]
  rw [Xv (XE _),Xv hlb] at hv
  exact ⟨out,c,rfl,hd,hc0,hc1,hlen,hv⟩
theorem Ju (a b:List Int) (ha:Dg a) (hb:Dg b) (hla:a.length<100000) (hlb:b.length<100000):
 ∃ s,Bv a b=some (s,())∧Dg s∧v32 s=v32 a+v32 b∧s.length=max a.length b.length+1:=by
 have core:∀ (a b:List Int),Dg a→Dg b→a.length<100000→b.length≤a.length→∃ s,(chk (decide (0≤(0:Int))&&decide ((0:Int)≤(w64 (((List.length a:Int))+1)))&&decide ((4:Int)*(w64 (((List.length a:Int))+1))≤281474976710656)&&decide ((w64 (((List.length a:Int))+1))≤9223372036854775807)) <|
 aP (β:=((List Int)×Unit)) (γ:=((List Int)×Int×Unit)) (
  iter (X:=u6) (β:=ve) (List.length b+(List.length ([]:List Int)+(Int.natAbs (0:Int)+(List.length a+(Int.natAbs ((List.length a:Int))+(Int.natAbs (0:Int)+2)))))) (b,[],0,a,(List.length a:Int),0,()) (uL)) fun v7=>
 chk (decide (((v7.1.length)+1)*4≤140737488355328)&&decide ((v7.1.length)+1≤maxLen)) <|
 some (v7.1++[(mN v7.2.1)],()))=some (s,())∧Dg s∧v32 s=v32 a+v32 b∧s.length=a.length+1:=by
  intro a b ha hb hla hlb
  obtain ⟨out,c,h1,h2,h3,h4,h5,h6⟩:=NP a b ha hb hla hlb _ (show a.length<List.length b+(List.length ([]:List Int)+(Int.natAbs (0:Int)+(List.length a+(Int.natAbs ((List.length a:Int))+(Int.natAbs (0:Int)+2))))) by omega)
  rw [h1,aL,aJ (by omega) (by omega),aT (by simp only [VZ,decide_eq_true_eq];omega)]
  simp only
  rw [aT (lY (by omega) (by omega))]
  refine ⟨_,rfl,h2.snoc ?_, ?_,by simp [h5]⟩
  ·rw [A3 (by omega) (by omega)];omega
  ·rw [A3 (by omega) (by omega),HF,h5];exact h6
 unfold Bv
 by_cases h:a.length<b.length
 ·rw [aM (by omega),aL]
  obtain ⟨s,h1,h2,h3,h4⟩:=core b a hb ha hlb (by omega)
  exact ⟨s,h1,h2,by omega,by omega⟩
 ·rw [aN (by omega),aL]
  obtain ⟨s,h1,h2,h3,h4⟩:=core a b ha hb hla (by omega)
  exact ⟨s,h1,h2,by omega,by omega⟩
theorem Mt (a b:List Int) (ha:Dg a) (hb:Dg b) (hla:a.length<100000) (hlb:b.length≤a.length) (n:Nat) (hn:a.length<n):
 ∃ out c,iter (X:=xZ) (β:=xX) n (b,[],0,a,(a.length:Int),0,()) xV=some (Sum.inr (out,()))∧Dg out∧0≤c∧c≤1∧out.length=a.length∧v32 out=v32 a - v32 b+4294967296 ^ a.length*c:=by
 refine bS (Inv:=fun i x=>∃ out c,x=(b,out,c,a,(a.length:Int),(i:Int),())∧Dg out∧0≤c∧c≤1∧out.length=i∧v32 out=v32 (a.take i) - v32 (b.take i)+4294967296 ^ i*c) a.length
  (fun r=>∃ out c,r=some (Sum.inr (out,()))∧Dg out∧0≤c∧c≤1∧out.length=a.length∧v32 out=v32 a - v32 b+4294967296 ^ a.length*c) ?_ ?_ n 0 _ ⟨[],0,rfl,Dig.nil,by omega,by omega,rfl,by simp [A2]⟩ (by omega) (by omega)
 ·rintro i _ again hi ⟨out,c,rfl,hd,hc0,hc1,hlen,hv⟩ ih
  unfold xV
  simp only
  have hy:a[i]? =some a[i]:=aR hi
  have hyd:=ha.get hy
  generalize a[i]=y at hy hyd
  rw [aM (by omega),bM,hy,Option.bind_some]
  have step:∀ z:Int,0≤z→z<4294967296→v32 (b.take (i+1))=v32 (b.take i)+4294967296 ^ i*z→∀ t:Int,t=(y - c - z) % 18446744073709551616→
   ∃ out' c',again (b,out++[mN t],bP (((BitVec.ofInt (IntKind.bits .u64) (Int.fdiv t (2 ^ 32)) &&& BitVec.ofInt (IntKind.bits .u64) 1).toNat:Int)),a,(a.length:Int),w64 ((i:Int)+1),())=some (Sum.inr (out',()))∧Dg out'∧0≤c'∧c'≤1∧out'.length=a.length∧v32 out'=v32 a - v32 b+4294967296 ^ a.length*c':=by
   intro z hz0 hz1 hbz t ht
   have e2:bP (((BitVec.ofInt (IntKind.bits .u64) (Int.fdiv t (2 ^ 32)) &&& BitVec.ofInt (IntKind.bits .u64) 1).toNat:Int))=(if y - c - z<0 then 1 else 0):=by
    rw [Pe]
    have h1:t / 4294967296=(if y - c - z<0 then 4294967295 else 0):=by split<;>omega
    rw [h1]
    split<;>rfl
   rw [e2,AM,aJ (by omega) (by omega)]
   refine ih _ ⟨_,_,rfl,hd.snoc (by omega),by split<;>omega,by split<;>omega,by simp [hlen], ?_⟩
   rw [HF,hlen,jR hy,hbz,Wm,hv]
   have e3:t % 4294967296=y - c - z+4294967296*(if y - c - z<0 then 1 else 0):=by split<;>omega
   rw [e3]
   generalize (if y - c - z<0 then (1:Int) else 0)=q
   generalize (4294967296:Int) ^ i=p
   rw [Wh,Int.mul_sub,Int.mul_sub,Int.mul_assoc]
   omega
  by_cases hib:i<b.length
  ·have hz:b[i]? =some b[i]:=aR hib
   rw [aM (by omega),bM,hz,Option.bind_some]
   simp only [aL]
   rw [aT (lY (by omega) (by omega))]
   have hz':=hb.get hz
   refine step b[i] hz'.1 hz'.2 (jR hz) _ ?_
   rw [dK (n:=y) (by omega) (by omega),dK (n:=b[i]) (by omega) (by omega),Dv,Dv]
   omega
  ·rw [aN (by omega)]
   simp only [aL]
   rw [aT (lY (by omega) (by omega))]
   refine step 0 (by omega) (by omega) (by rw [Ik (by omega)];omega) _ ?_
   rw [dK (n:=y) (by omega) (by omega),Dv]
   omega
 ·rintro _ again ⟨out,c,rfl,hd,hc0,hc1,hlen,hv⟩
  unfold xV
  simp only
  rw [aN (by omega)]
  rw [Xv (XE _),Xv hlb] at hv
  exact ⟨out,c,rfl,hd,hc0,hc1,hlen,hv⟩
theorem CC (a b:List Int) (ha:Dg a) (hb:Dg b) (hla:a.length<100000) (hlb:b.length≤a.length) (hle:v32 b≤v32 a):vF a b=some (bz (v32 a - v32 b).toNat,()):=by
 unfold vF
 obtain ⟨out,c,h1,h2,h3,h4,h5,h6⟩:=Mt a b ha hb hla hlb _ (show a.length<List.length b+(List.length ([]:List Int)+(Int.natAbs (0:Int)+(List.length a+(Int.natAbs ((List.length a:Int))+(Int.natAbs (0:Int)+2))))) by omega)
 rw [h1,aL,aT (by simp only [VZ,decide_eq_true_eq];omega)]
 simp only
 rw [yt _ (by omega),PY h2,Option.bind_some]
 have h7:=GD h2
 rw [h5] at h7
 have h8:c=0:=by
  rcases (show c=0∨c=1 by omega) with h | h
  ·exact h
  ·subst h;rw [Int.mul_one] at h6;omega
 subst h8
 rw [h6,Int.mul_zero,Int.add_zero]
theorem Jf (a b:List Int) (ha:Dg a) (hb:Dg b) (hab:a.length=b.length) (hla:a.length<100000):∀ (n k:Nat),k≤a.length→k<n→
 iter (X:=sK) (β:=sj) n (a,b,(k:Int) - 1,()) oO=if v32 (a.take k)<v32 (b.take k) then some (Sum.inl ((-1),())) else if v32 (b.take k)<v32 (a.take k) then some (Sum.inl (1,())) else some (Sum.inr ()):=by
 intro n
 induction n with
 | zero=>intro k _ h;omega
 | succ n ih=>
  intro k hk hn
  rw [iK]
  generalize hag:(fun y=>iter n y oO)=again
  unfold oO
  simp only
  cases k with
  | zero=>simp [A2]
  | succ k=>
   rw [aM (by omega),show ((k+1:Nat):Int) - 1=(k:Int) by omega,bM,bM]
   have hx:a[k]? =some a[k]:=aR (by omega)
   have hy:b[k]? =some b[k]:=aR (by omega)
   rw [hx,hy]
   simp only [Option.bind_some]
   rw [jR hx,jR hy]
   have h1:=GD (ha.take k)
   have h2:=GD (hb.take k)
   have h3:=zm (ha.take k)
   have h4:=zm (hb.take k)
   rw [W3,XL (by omega)] at h1 h2
   generalize a[k]=x
   generalize b[k]=y
   by_cases hxy:x=y
   ·subst hxy
    simp only [X6,cond_false]
    rw [aJ (by omega) (by omega), ← hag]
    show iter n (a,b,(k:Int) - 1,()) oO=_
    rw [ih k (by omega) (by omega)]
    congr 1
    ·simp
    ·congr 1;simp
   ·have hne:(x != y)=true:=by simp [hxy]
    rw [hne]
    simp only [cond_true]
    by_cases hlt:x<y
    ·rw [aM hlt,if_pos]
     have:(4294967296:Int) ^ k*(x+1)≤4294967296 ^ k*y:=Wi (by omega) (by omega)
     rw [Wh,Int.mul_one] at this
     omega
    ·rw [aN hlt]
     have:(4294967296:Int) ^ k*(y+1)≤4294967296 ^ k*x:=Wi (by omega) (by omega)
     rw [Wh,Int.mul_one] at this
     rw [if_neg (by omega),if_pos (by omega)]
theorem Dy (m n:Nat) (hm:(bz m).length<100000) (hn:(bz n).length<100000):∃ c,tu (bz m) (bz n)=some (c,())∧(c<0↔m<n)∧(0<c↔n<m):=by
 unfold tu
 by_cases h:(bz m).length=(bz n).length
 ·have hb:(((bz m).length:Int) != ((bz n).length:Int))=false:=by simp [h]
  rw [hb]
  simp only [cond_false]
  by_cases h0:(bz m).length=0
  ·have hm0:m=0:=K2.1 (WC h0)
   have hn0:n=0:=K2.1 (WC (by omega))
   subst hm0;subst hn0
   exact ⟨0,rfl,by simp,by simp⟩
  ·have e1:w64 (((bz m).length:Int) - 1)=(((bz m).length:Nat):Int) - 1:=aJ (by omega) (by omega)
   rw [e1,Jf _ _ (ef m) (ef n) h hm _ _ (XE _) (by omega),Xv (XE _),Xv (by omega),dZ,dZ]
   by_cases h1:m<n
   ·rw [if_pos (by omega),mR];exact ⟨-1,rfl,by omega,by omega⟩
   ·by_cases h2:n<m
    ·rw [if_neg (by omega),if_pos (by omega),mR];exact ⟨1,rfl,by omega,by omega⟩
    ·rw [if_neg (by omega),if_neg (by omega),aL];exact ⟨0,rfl,by omega,by omega⟩
 ·have hb:(((bz m).length:Int) != ((bz n).length:Int))=true:=by simp;omega
  rw [hb]
  simp only [cond_true]
  rw [aJ (by omega) (by omega)]
  refine ⟨_,rfl, ?_, ?_⟩
  ·constructor
   ·intro h1;exact og (by omega)
   ·intro h1
    rcases Nat.lt_or_gt_of_ne h with h2 | h2
    ·omega
    ·have:=og (m:=n) (n:=m) h2;omega
  ·constructor
   ·intro h1;exact og (by omega)
   ·intro h1
    rcases Nat.lt_or_gt_of_ne h with h2 | h2
    ·have:=og (m:=m) (n:=n) h2;omega
    ·omega
end Go.Md
namespace Go.Md
open Go.Dn
theorem Pb (w:Nat) {a b:Nat} (ha:a<2 ^ w) (hb:b<2 ^ w):((BitVec.ofInt w (a:Int) ||| BitVec.ofInt w (b:Int)).toNat:Int)=((a ||| b:Nat):Int):=by
 rw [VX,VX,BitVec.toNat_or,VY,VY,XM ha,XM hb]
theorem bv_and (w:Nat) {a b:Nat} (ha:a<2 ^ w) (hb:b<2 ^ w):((BitVec.ofInt w (a:Int) &&& BitVec.ofInt w (b:Int)).toNat:Int)=((a &&& b:Nat):Int):=by
 rw [VX,VX,BitVec.toNat_and,VY,VY,XM ha,XM hb]
theorem Qz {a k b:Nat} (hb:b<2 ^ k):(2 ^ k*a) ||| b=2 ^ k*a+b:=(Nat.two_pow_add_eq_or_of_lt hb a).symm
theorem Ny {l:List Int} (h:Dg l) {i:Nat} {y:Int} (hi:l[i]? =some y):y=v32 l / 4294967296 ^ i % 4294967296:=by
 have hlt:=(List.getElem?_eq_some_iff.1 hi).1
 have e:l=l.take i++(y::l.drop (i+1)):=by
  have:=Xt i l
  rw [Wz hlt,(List.getElem?_eq_some_iff.1 hi).2] at this
  exact this.symm
 have hd:=h.get hi
 have h1:=GD (h.take i)
 have h2:=zm (h.take i)
 rw [W3,XL (by omega)] at h1
 have hv:v32 l=v32 (l.take i)+4294967296 ^ i*(y+4294967296*v32 (l.drop (i+1))):=by
  conv=>lhs;rw [e]
  rw [Hi,W3,XL (by omega),Dm]
 rw [hv,Int.add_mul_ediv_left _ _ (by omega),Int.ediv_eq_zero_of_lt h2 h1,Int.zero_add,Int.add_mul_emod_self_left,Int.emod_eq_of_lt hd.1 hd.2]
theorem Kn {l:List Int} {i:Nat} {y z:Int} (hi:l[i]? =some y):v32 (l.set i z)=v32 l+4294967296 ^ i*(z - y):=by
 have hlt:=(List.getElem?_eq_some_iff.1 hi).1
 have e:l=l.take i++(y::l.drop (i+1)):=by
  have:=Xt i l
  rw [Wz hlt,(List.getElem?_eq_some_iff.1 hi).2] at this
  exact this.symm
 have e2:l.set i z=l.take i++(z::l.drop (i+1)):=by rw [List.set_eq_take_append_cons_drop,if_pos hlt]
 rw [e2]
 conv=>rhs;rw [e]
 rw [Hi,Hi,Dm,Dm,W3,XL (by omega)]
 have:(4294967296:Int) ^ i*(z+4294967296*v32 (l.drop (i+1)))=4294967296 ^ i*(y+4294967296*v32 (l.drop (i+1)))+4294967296 ^ i*(z - y):=by rw [← Wh];congr 1;omega
 omega
theorem Dig.set {B:Int} {l:List Int} (h:Dig B l) {i:Nat} {z:Int} (hz:0≤z∧z<B):Dig B (l.set i z):=fun x hx=>by
 rcases Xh hx with hx | rfl
 ·exact h x hx
 ·exact hz
theorem Ro (y:Nat) (j:Nat) (hy:y<4294967296):mN (((BitVec.ofInt (IntKind.bits .u32) (Int.fdiv (y:Int) (2 ^ (min j (IntKind.bits .u32)))) &&& BitVec.ofInt (IntKind.bits .u32) 1).toNat:Int))=((y / 2 ^ (min j 32) % 2:Nat):Int):=by
 have e1:Int.fdiv (y:Int) (2 ^ (min j (IntKind.bits .u32)))=((y / 2 ^ (min j 32):Nat):Int):=by
  have:((2:Int) ^ (min j 32))=((2 ^ (min j 32):Nat):Int):=by simp
  rw [show IntKind.bits .u32=32 from rfl,this,Wg _ (Int.natCast_nonneg _)]
  simp
 rw [e1]
 have hlt:y / 2 ^ (min j 32)<2 ^ 32:=XG (Nat.div_le_self _ _) hy
 have:=bv_and (IntKind.bits .u32) (a:=y / 2 ^ (min j 32)) (b:=1) hlt (by decide)
 rw [show ((1:Nat):Int)=1 from rfl] at this
 rw [this,Nat.and_one_is_mod]
 exact A3 (by omega) (by omega)
theorem OW (a b:Nat) (hb:0<b) (na:Bool) (nb:Bool) (ha:(bz a).length<1000) (hlb:(bz b).length<1000) (g1:Bool) (g2:List Int) (g3:Bool) (g4:List Int):∀ (n k:Nat) (q:List Int),k≤32*(bz a).length→k<n→Dg q→q.length=(bz a).length→v32 q=((a / 2 ^ k / b*2 ^ k:Nat):Int)→
 ∃ q',iter (X:=uk) (β:=uf) n (bz (a / 2 ^ k % b),(k:Int) - 1,na,bz a,nb,bz b,g1,g2,g3,g4,q,()) uj=some (Sum.inr (bz (a % b),g1,g2,g3,g4,q',()))∧Dg q'∧q'.length=(bz a).length∧v32 q'=((a / b:Nat):Int):=by
 intro n
 induction n with
 | zero=>intro k q _ h;omega
 | succ n ih=>
  intro k q hk hn hq hql hqv
  rw [iK]
  generalize hag:(fun y=>iter n y uj)=again
  unfold uj
  simp only
  cases k with
  | zero=>
   rw [aN (by omega)]
   refine ⟨q, ?_,hq,hql,by simpa using hqv⟩
   simp
  | succ k=>
   rw [aM (by omega),show ((k+1:Nat):Int) - 1=(k:Int) by omega]
   have hR:a / 2 ^ (k+1) % b<b:=XN _ hb
   have hRl:(bz (a / 2 ^ (k+1) % b)).length≤(bz b).length:=by
    rcases XI (bz b).length (bz (a / 2 ^ (k+1) % b)).length with h | h
    ·have:=og h;omega
    ·exact h
   obtain ⟨s,hs1,hs2,hs3,hs4⟩:=Ju _ _ (ef (a / 2 ^ (k+1) % b)) (ef (a / 2 ^ (k+1) % b)) (by omega) (by omega)
   rw [hs1]
   simp only [Option.bind_some]
   have hs0:s[0]? =some s[0]:=aR (by omega)
   have hs0d:=hs2.get hs0
   have hs0v:=Ny hs2 hs0
   rw [dZ] at hs3
   generalize s[0]'(by omega)=y3 at hs0 hs0d hs0v
   rw [aT (by simp only [VZ,decide_eq_true_eq];omega),hs0]
   simp only [Option.bind_some]
   have hk32:k / 32<(bz a).length:=by omega
   have e5:w64 (Int.tdiv (k:Int) 32)=((k / 32:Nat):Int):=by
    rw [Int.tdiv_eq_ediv_of_nonneg (by omega),aJ (by omega) (by omega)];omega
   have e6:Int.tmod (k:Int) 32=((k % 32:Nat):Int):=by rw [Int.tmod_eq_emod_of_nonneg (by omega)];omega
   have hy4:(bz a)[k / 32]? =some ((bz a)[k / 32]):=aR hk32
   have hy4d:=(ef a).get hy4
   have hy4v:=Ny (ef a) hy4
   rw [dZ] at hy4v
   generalize (bz a)[k / 32]=y4 at hy4 hy4d hy4v
   obtain ⟨m4,rfl⟩:∃ m:Nat,y4=m:=⟨y4.toNat,by omega⟩
   rw [e5,e6,bM,hy4]
   simp only [Option.bind_some]
   rw [aT (by simp only [decide_eq_true_eq];omega)]
   simp only [Wo]
   rw [Ro m4 (k % 32) (by omega)]
   have hbit:m4 / 2 ^ (min (k % 32) 32) % 2=a / 2 ^ k % 2:=by
    have h1:m4=a / 4294967296 ^ (k / 32) % 4294967296:=by
     have h2:((a:Int) / 4294967296 ^ (k / 32) % 4294967296)=((a / 4294967296 ^ (k / 32) % 4294967296:Nat):Int):=by simp
     rw [h2] at hy4v;omega
    have h3:(4294967296:Nat) ^ (k / 32)=2 ^ (32*(k / 32)):=by rw [Nat.pow_mul]
    rw [h1,XL (by omega),h3]
    have h4:(4294967296:Nat)=2 ^ (k % 32)*2 ^ (32 - k % 32):=by rw [← XS];rw [show k % 32+(32 - k % 32)=32 by omega]
    rw [show a / 2 ^ (32*(k / 32)) % 4294967296=a / 2 ^ (32*(k / 32)) % (2 ^ (k % 32)*2 ^ (32 - k % 32)) by rw [← h4],Nat.mod_mul_right_div_self,Nat.div_div_eq_div_mul, ← XS,show 32*(k / 32)+k % 32=k by omega]
    have h5:(2:Nat) ∣ 2 ^ (32 - k % 32):=by
     rw [show 32 - k % 32=(31 - k % 32)+1 by omega,XU];exact Nat.dvd_mul_left _ _
    exact Nat.mod_mod_of_dvd _ h5
   rw [hbit,aT (by simp only [VZ,decide_eq_true_eq];omega)]
   obtain ⟨m3,rfl⟩:∃ m:Nat,y3=m:=⟨y3.toNat,by omega⟩
   have hev:m3 % 2=0:=by
    have h1:v32 s / 4294967296 ^ 0 % 4294967296=v32 s % 4294967296:=by simp
    rw [h1,hs3] at hs0v
    omega
   have hor:mN (((BitVec.ofInt (IntKind.bits .u32) (m3:Int) ||| BitVec.ofInt (IntKind.bits .u32) ((a / 2 ^ k % 2:Nat):Int)).toNat:Int))=((m3+a / 2 ^ k % 2:Nat):Int):=by
    rw [Pb (IntKind.bits .u32) (by show m3<2 ^ 32;omega) (by show a / 2 ^ k % 2<2 ^ 32;omega)]
    have h1:m3=2 ^ 1*(m3 / 2):=by omega
    have h2:m3 ||| (a / 2 ^ k % 2)=m3+a / 2 ^ k % 2:=by
     conv=>lhs;rw [h1]
     rw [Qz (by omega)];omega
    rw [h2];exact A3 (by omega) (by omega)
   rw [hor]
   rw [yt _ (by simp only [W2];omega),PY (hs2.set (by omega)),Kn hs0,hs3]
   simp only [Option.bind_some]
   have hr2:(((a / 2 ^ (k+1) % b:Nat):Int)+((a / 2 ^ (k+1) % b:Nat):Int)+4294967296 ^ 0*(((m3+a / 2 ^ k % 2:Nat):Int) - (m3:Int))).toNat=2*(a / 2 ^ (k+1) % b)+a / 2 ^ k % 2:=by
    rw [Int.pow_zero];omega
   rw [hr2]
   have htop:a / 2 ^ k=2*(a / 2 ^ (k+1))+a / 2 ^ k % 2:=by
    rw [XU, ← Nat.div_div_eq_div_mul];omega
   generalize hT:a / 2 ^ (k+1)=T at*
   generalize hbt:a / 2 ^ k % 2=bt at*
   have hbt2:bt<2:=by omega
   have hr3l:(bz (2*(T % b)+bt)).length≤(bz b).length+1:=by
    rcases XI ((bz b).length+1) (bz (2*(T % b)+bt)).length with h | h
    ·exfalso
     have h1:bz (4294967296*b)=0::bz b:=by
      have:=GV (B:=4294967296) (by omega) (d:=0) (n:=b) (by omega) (by omega)
      simpa [bz] using this
     have h2:(bz (4294967296*b)).length<(bz (2*(T % b)+bt)).length:=by rw [h1];simpa using h
     have:=og h2
     omega
    ·exact h
   obtain ⟨c,hc1,hc2,hc3⟩:=Dy (2*(T % b)+bt) b (by omega) (by omega)
   rw [hc1]
   simp only [Option.bind_some]
   have hdm:=Nat.div_add_mod T b
   by_cases hge:b≤2*(T % b)+bt
   ·rw [aM (by omega)]
    have hlen2:(bz b).length≤(bz (2*(T % b)+bt)).length:=by
     rcases XI (bz (2*(T % b)+bt)).length (bz b).length with h | h
     ·have:=og h;omega
     ·exact h
    rw [CC _ _ (ef _) (ef _) (by omega) hlen2 (by rw [dZ,dZ];omega),dZ,dZ]
    simp only [Option.bind_some]
    rw [aT (by simp only [VZ,decide_eq_true_eq];omega)]
    have hy9:q[k / 32]? =some (q[k / 32]'(by omega)):=aR (by omega)
    have hy9d:=hq.get hy9
    have hy9v:=Ny hq hy9
    rw [hqv] at hy9v
    generalize q[k / 32]'(by omega)=y9 at hy9 hy9d hy9v
    obtain ⟨m9,rfl⟩:∃ m:Nat,y9=m:=⟨y9.toNat,by omega⟩
    rw [hy9]
    simp only [Option.bind_some]
    rw [aT (by simp only [decide_eq_true_eq];omega),aT (by simp only [VZ,decide_eq_true_eq];omega)]
    have h9:m9=T / b*2 ^ (k+1) / 4294967296 ^ (k / 32) % 4294967296:=by
     have h2:(((T / b*2 ^ (k+1):Nat):Int) / 4294967296 ^ (k / 32) % 4294967296)=((T / b*2 ^ (k+1) / 4294967296 ^ (k / 32) % 4294967296:Nat):Int):=by simp
     rw [h2] at hy9v;omega
    have h3:(4294967296:Nat) ^ (k / 32)=2 ^ (32*(k / 32)):=by rw [Nat.pow_mul]
    have h9d:2 ^ (k % 32+1) ∣ m9:=by
     rw [h9,h3]
     have e1:T / b*2 ^ (k+1) / 2 ^ (32*(k / 32))=T / b*2 ^ (k % 32+1):=by
      rw [show k+1=(k % 32+1)+32*(k / 32) by omega,XS, ← Nat.mul_assoc,Nat.mul_div_cancel _ (Nat.pow_pos (by omega))]
     rw [e1]
     have h4:(4294967296:Nat)=2 ^ (k % 32+1)*2 ^ (31 - k % 32):=by rw [← XS];rw [show k % 32+1+(31 - k % 32)=32 by omega]
     exact (Nat.dvd_mod_iff (by rw [h4];exact Nat.dvd_mul_right _ _)).2 (Nat.dvd_mul_left _ _)
    have hsh:mN (1*2 ^ (min (k % 32) (IntKind.bits .u32)))=((2 ^ (k % 32):Nat):Int):=by
     rw [show IntKind.bits .u32=32 from rfl,XL (by omega),Int.one_mul,show ((2:Int) ^ (k % 32))=((2 ^ (k % 32):Nat):Int) by simp]
     have:2 ^ (k % 32)≤2 ^ 31:=XT (by omega) (by omega)
     exact A3 (by omega) (by omega)
    have hp31:2 ^ (k % 32)≤2 ^ 31:=XT (by omega) (by omega)
    obtain ⟨e9,he9⟩:=h9d
    have hor2:mN (((BitVec.ofInt (IntKind.bits .u32) (m9:Int) ||| BitVec.ofInt (IntKind.bits .u32) ((2 ^ (k % 32):Nat):Int)).toNat:Int))=((m9+2 ^ (k % 32):Nat):Int):=by
     rw [Pb (IntKind.bits .u32) (by show m9<2 ^ 32;omega) (by show 2 ^ (k % 32)<2 ^ 32;omega)]
     have h2:m9 ||| 2 ^ (k % 32)=m9+2 ^ (k % 32):=by rw [he9,Qz (Nat.pow_lt_pow_right (by omega) (by omega))]
     rw [h2]
     refine A3 (by omega) ?_
     have h5:2 ^ (k % 32+1)*e9+2 ^ (k % 32)≤4294967295:=by
      have h4:(4294967296:Nat)=2 ^ (k % 32+1)*2 ^ (31 - k % 32):=by rw [← XS];rw [show k % 32+1+(31 - k % 32)=32 by omega]
      have h6:e9<2 ^ (31 - k % 32):=by
       rcases XI e9 (2 ^ (31 - k % 32)) with h | h
       ·exact h
       ·have:=Nat.mul_le_mul_left (2 ^ (k % 32+1)) h;omega
      have h7:=Nat.mul_le_mul_left (2 ^ (k % 32+1)) (show e9+1≤2 ^ (31 - k % 32) by omega)
      rw [Nat.mul_add,Nat.mul_one, ← h4] at h7
      have h8:2 ^ (k % 32+1)=2*2 ^ (k % 32):=by rw [XU,XO]
      omega
     omega
    have hz9:m9+2 ^ (k % 32)<4294967296:=by
     have:=AM (((BitVec.ofInt (IntKind.bits .u32) (m9:Int) ||| BitVec.ofInt (IntKind.bits .u32) ((2 ^ (k % 32):Nat):Int)).toNat:Int))
     rw [hor2] at this;omega
    rw [hsh,hor2,aJ (by omega) (by omega), ← hag]
    have hTk:a / 2 ^ k / b=2*(T / b)+1∧a / 2 ^ k % b=2*(T % b)+bt - b:=by
     have h1:a / 2 ^ k=b*(2*(T / b)+1)+(2*(T % b)+bt - b):=by
      rw [htop,Nat.mul_add,Nat.mul_one,show b*(2*(T / b))=2*(b*(T / b)) by rw [Nat.mul_left_comm]];omega
     have h2:2*(T % b)+bt - b<b:=by have:=XN T hb;omega
     rw [h1]
     exact ⟨by rw [Nat.mul_add_div hb,Nat.div_eq_of_lt h2,Xz],by rw [Nat.mul_add_mod,XM h2]⟩
    have hih:=ih k (q.set (k / 32) ((m9+2 ^ (k % 32):Nat):Int)) (by omega) (by omega) (hq.set ⟨Int.natCast_nonneg _,Int.ofNat_lt.2 hz9⟩) (by rw [W2];exact hql) (by
     rw [Kn hy9,hqv,hTk.1]
     have e1:(((m9+2 ^ (k % 32):Nat):Int) - (m9:Int))=((2 ^ (k % 32):Nat):Int):=by omega
     have e2:((4294967296:Int) ^ (k / 32))=((2 ^ (32*(k / 32)):Nat):Int):=by rw [← h3];simp
     rw [e1,e2, ← Wl, ← XS,show 32*(k / 32)+k % 32=k by omega, ← Int.natCast_add]
     congr 1
     rw [XU,Xy,XR,XO (2 ^ k) 2, ← Nat.mul_assoc,XO (T / b) 2])
    rw [hTk.2] at hih
    have e7:(((2*(T % b)+bt:Nat):Int) - (b:Int)).toNat=2*(T % b)+bt - b:=by omega
    rw [e7]
    exact hih
   ·rw [aN (by omega),aJ (by omega) (by omega), ← hag]
    have hTk:a / 2 ^ k / b=2*(T / b)∧a / 2 ^ k % b=2*(T % b)+bt:=by
     have h1:a / 2 ^ k=b*(2*(T / b))+(2*(T % b)+bt):=by
      rw [htop,show b*(2*(T / b))=2*(b*(T / b)) by rw [Nat.mul_left_comm]];omega
     have h2:2*(T % b)+bt<b:=by omega
     rw [h1]
     exact ⟨by rw [Nat.mul_add_div hb,Nat.div_eq_of_lt h2,Xz],by rw [Nat.mul_add_mod,XM h2]⟩
    have hih:=ih k q (by omega) (by omega) hq hql (by
     rw [hqv,hTk.1]
     congr 1
     rw [XU,XO (2 ^ k) 2, ← Nat.mul_assoc,XO (T / b) 2])
    rw [hTk.2] at hih
    exact hih
theorem Ie (n:Nat):v32 (List.replicate n 0)=0:=by
 induction n with
 | zero=>rfl
 | succ n ih=>rw [Xo,Dm,ih];rfl
theorem VF (k:Nat):(4294967296:Nat) ^ k=2 ^ (32*k):=by rw [Nat.pow_mul]
theorem EH (x y:Int) (hx:x.natAbs<4294967296 ^ 99) (hy:y.natAbs<4294967296 ^ 99) (h0:y≠0):rq (W x) (W y)=some (W ((x.natAbs / y.natAbs:Nat):Int),W ((x.natAbs % y.natAbs:Nat):Int),()):=by
 have hlx:=sd hx
 have hly:=sd hy
 unfold rq W
 dsimp only
 rw [aT (by simp only [VZ,decide_eq_true_eq];omega)]
 have e1:w64 (w64 (((bz x.natAbs).length:Int)*32) - 1)=((32*(bz x.natAbs).length:Nat):Int) - 1:=by
  rw [aJ (n:=((bz x.natAbs).length:Int)*32) (by omega) (by omega),aJ (by omega) (by omega)];omega
 rw [e1]
 have hlt:x.natAbs<2 ^ (32*(bz x.natAbs).length):=by
  have:=GD (ef x.natAbs)
  rw [dZ] at this
  have h2:((4294967296:Int) ^ (bz x.natAbs).length)=((4294967296 ^ (bz x.natAbs).length:Nat):Int):=by simp
  rw [h2,VF] at this
  omega
 have hz:x.natAbs / 2 ^ (32*(bz x.natAbs).length)=0:=Nat.div_eq_of_lt hlt
 obtain ⟨q,h1,h2,h3,h4⟩:=OW x.natAbs y.natAbs (by omega) (decide (x<0)) (decide (y<0)) (by omega) (by omega) false [] false [] (List.length ([]:List Int)+(Int.natAbs (((32*(bz x.natAbs).length:Nat):Int) - 1)+(List.length (bz x.natAbs)+(List.length (bz y.natAbs)+(List.length ([]:List Int)+(List.length ([]:List Int)+(List.length ((List.replicate (Int.toNat ((List.length (bz x.natAbs):Int))) 0):List Int)+2)))))))
  (32*(bz x.natAbs).length) (List.replicate (Int.toNat ((List.length (bz x.natAbs):Int))) 0) (XE _) (by omega) (fun d hd=>by rw [List.mem_replicate] at hd;omega) (by simp) (by rw [Ie,hz];simp)
 rw [hz,Nat.zero_mod,Jl] at h1
 rw [h1,aL]
 simp only
 rw [jQ _ _ h2 (by omega),jQ _ _ (ef _) (by
  have:=sd (k:=99) (n:=x.natAbs % y.natAbs) (XG (Nat.mod_le _ _) hx);omega),h4,dZ]
 rfl
theorem sC (z:Int) (most:Int) (h0:0≤most) (h1:most≤9223372036854775807):nF (W z) most=some (if z.natAbs≤most then (z,true,()) else (0,false,())):=by
 unfold nF W
 dsimp only
 by_cases hl:(bz z.natAbs).length>2
 ·rw [aM (by omega)]
  have:¬ (z.natAbs:Int)≤most:=by
   intro h
   have:=sd (k:=2) (n:=z.natAbs) (by omega)
   omega
  rw [if_neg this]
 ·rw [aN (by omega)]
  have hdig:=ef z.natAbs
  have hval:=dZ z.natAbs
  have hlen:(bz z.natAbs).length≤2:=by omega
  generalize hd:bz z.natAbs=d at*
  have loop:∃ n0,iter (X:=se) (β:=sN) (Int.natAbs most+(Int.natAbs (0:Int)+(List.length d+(Int.natAbs ((List.length d:Int))+(Int.natAbs (0:Int)+(List.length d+2)))))) (most,0,d,(List.length d:Int),0,decide (z<0),d,()) sH=some (Sum.inr (most,n0,decide (z<0),d,()))∧n0=(z.natAbs:Int):=by
   refine bS (Inv:=fun i x=>∃ u:Int,x=(most,u,d,(d.length:Int),(i:Int),decide (z<0),d,())∧u=v32 (d.take i)) d.length (fun r=>∃ n0,r=some (Sum.inr (most,n0,decide (z<0),d,()))∧n0=(z.natAbs:Int)) ?_ ?_ _ 0 _ ⟨0,rfl,by simp [A2]⟩ (by omega) (by omega)
   ·rintro i _ again hi ⟨u,rfl,hu⟩ ih
    unfold sH
    simp only
    have hy:d[i]? =some d[i]:=aR hi
    have hyd:=hdig.get hy
    have hts:=jR hy
    have hlt:=GD (hdig.take i)
    have hnn:=zm (hdig.take i)
    rw [W3,XL (by omega)] at hlt
    generalize d[i]=y at hy hyd hts
    rw [aM (by omega),bM,hy,Option.bind_some,aJ (n:=32*(i:Int)) (by omega) (by omega),aT (by simp only [decide_eq_true_eq];omega),aJ (n:=(i:Int)+1) (by omega) (by omega)]
    refine ih _ ⟨_,rfl, ?_⟩
    rw [hts]
    obtain ⟨m,rfl⟩:∃ m:Nat,y=m:=⟨y.toNat,by omega⟩
    obtain ⟨k,hk⟩:∃ k:Nat,v32 (d.take i)=k:=⟨(v32 (d.take i)).toNat,by omega⟩
    rw [hk] at hlt hu ⊢
    subst hu
    have hi2:i=0∨i=1:=by omega
    rcases hi2 with rfl | rfl
    ·simp only [Int.pow_zero] at hlt ⊢
     have:k=0:=by omega
     subst this
     have e:bP (bP (m:Int)*2 ^ (min (Int.toNat (32*((0:Nat):Int))) (IntKind.bits .u64)))=(m:Int):=by
      rw [dK (n:=(m:Int)) (by omega) (by omega)]
      simp
      exact dK (by omega) (by omega)
     rw [e,Pb (IntKind.bits .u64) (by decide) (by show m<2 ^ 64;omega),Nat.zero_or,dK (by omega) (by omega)]
     omega
    ·simp only [Int.pow_one] at hlt ⊢
     have e:bP (bP (m:Int)*2 ^ (min (Int.toNat (32*((1:Nat):Int))) (IntKind.bits .u64)))=((2 ^ 32*m:Nat):Int):=by
      rw [dK (n:=(m:Int)) (by omega) (by omega),show min (Int.toNat (32*((1:Nat):Int))) (IntKind.bits .u64)=32 from rfl]
      rw [dK (by omega) (by omega)]
      omega
     rw [e,Pb (IntKind.bits .u64) (by show k<2 ^ 64;omega) (by show 2 ^ 32*m<2 ^ 64;omega),Nat.or_comm,Qz (by omega),dK (by omega) (by omega)]
     omega
   ·rintro _ again ⟨u,rfl,hu⟩
    unfold sH
    simp only
    rw [aN (by omega)]
    rw [Xv (XE _),hval] at hu
    exact ⟨u,rfl,hu⟩
  obtain ⟨n0,h2,h3⟩:=loop
  rw [h2,aL]
  subst h3
  simp only
  rw [dK (n:=most) (by omega) (by omega)]
  by_cases hm:(z.natAbs:Int)≤most
  ·rw [aN (by omega),if_pos hm]
   by_cases hneg:z<0
   ·rw [X9 hneg]
    simp only [cond_true]
    rw [aJ (n:=(z.natAbs:Int)) (by omega) (by omega),aJ (by omega) (by omega)]
    congr 2;omega
   ·rw [X8 hneg]
    simp only [cond_false]
    rw [aJ (by omega) (by omega)]
    congr 2;omega
  ·rw [aM (by omega),if_neg hm]
end Go.Md
namespace Go.Md
open Go.Dn
def v6 (l:List Int):Int:=val 1000000 l
def dg6 (n:Nat):List Int:=dg 1000000 n
theorem UU {k n:Nat} (h:n<1000000 ^ k):(dg6 n).length≤k:=Qs (B:=1000000) (by omega) k n h
def N (z:Int):FX:=(decide (z<0),dg6 z.natAbs)
end Go.Md
namespace Go.Md
open Go.Dn
def Big (D:Int) (l:List Int):Prop:=∀ d,d∈l→0≤d∧d≤D
theorem Big.get {D d:Int} {l:List Int} {i:Nat} (h:Big D l) (hi:l[i]? =some d):0≤d∧d≤D:=h d (List.mem_of_getElem? hi)
theorem Big.set {D E:Int} {l:List Int} (h:Big D l) (hDE:D≤E) {i:Nat} {z:Int} (hz:0≤z∧z≤E):Big E (l.set i z):=fun x hx=>by
 rcases Xh hx with hx | rfl
 ·have:=h x hx;omega
 ·exact hz
theorem Big.mono {D E:Int} {l:List Int} (h:Big D l) (hDE:D≤E):Big E l:=fun x hx=>by have:=h x hx;omega
end Go.Md
