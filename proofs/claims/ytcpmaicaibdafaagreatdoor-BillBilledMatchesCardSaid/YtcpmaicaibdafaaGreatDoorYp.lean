/-
  Plain facts: loops, digits, whole numbers. No condition.
-/
import Derived.Test.YtcpmaicaibdafaaGreatDoorYm
set_option linter.all false
namespace Go.Md
open Go.Dn
def DC {α σ β:Type} (g:σ→Nat→α→(σ→Option β)→Option β) (fin:σ→Option β):List α→Nat→σ→Option β
 | [],_,s=>fin s
 | y::r,i,s=>g s i y fun s'=>DC g fin r (i+1) s'
theorem OM {X α σ β:Type} {f:X→(X→Option β)→Option β} (mk:σ→Nat→X) (l:List α) (g:σ→Nat→α→(σ→Option β)→Option β) (fin:σ→Option β)
 (hstep:∀ s i y again,l[i]? =some y→f (mk s i) again=g s i y fun s'=>again (mk s' (i+1))) (hend:∀ s again,f (mk s l.length) again=fin s):
 ∀ (r:List α) (i:Nat) (s:σ) (n:Nat),l.drop i=r→i≤l.length→r.length<n→iter n (mk s i) f=DC g fin r i s
 | _,_,_,0,_,_,hn=>absurd hn (ZR _)
 | [],i,s,n+1,hd,hi,_=>by
  have:i=l.length:=by
   have:=congrArg List.length hd
   simp at this;omega
  subst this
  exact hend s _
 | y::r,i,s,n+1,hd,hi,hn=>by
  have hy:l[i]? =some y:=by
   have:=congrArg (·[0]?) hd
   simpa [YI] using this
  have hr:l.drop (i+1)=r:=by
   have:=congrArg List.tail hd
   simpa [Zp] using this
  have hi':i<l.length:=(YL.1 hy).1
  show f (mk s i) _=_
  rw[hstep s i y _ hy]
  show g s i y _=g s i y _
  congr 1
  funext s'
  exact OM mk l g fin hstep hend r (i+1) s' n hr hi' (by simp at hn;omega)
theorem Lb {X α σ β:Type} {f:X→(X→Option β)→Option β} (mk:σ→Nat→X) (l:List α) (g:σ→Nat→α→(σ→Option β)→Option β) (fin:σ→Option β)
 (hstep:∀ s i y again,l[i]? =some y→f (mk s i) again=g s i y fun s'=>again (mk s' (i+1))) (hend:∀ s again,f (mk s l.length) again=fin s) (s:σ) (n:Nat) (hn:l.length<n):iter n (mk s 0) f=DC g fin l 0 s:=
 OM mk l g fin hstep hend l 0 s n rfl (ZX _) hn
theorem jE {X β:Type} {f:X→(X→Option β)→Option β} (Inv:Nat→X→Prop) (N:Nat) (Q:Option β→Prop)
 (step:∀ i x again,i<N→Inv i x→(∀ y,Inv (i+1) y→Q (again y))→Q (f x again)) (fin:∀ x again,Inv N x→Q (f x again)):∀ n i x,Inv i x→i≤N→N - i<n→Q (iter n x f)
 | 0,_,_,_,_,hn=>absurd hn (ZR _)
 | n+1,i,x,hx,hi,hn=>by
  show Q (f x _)
  by_cases h:i=N
  ·subst h;exact fin x _ hx
  ·exact step i x _ (by omega) hx fun y hy=>jE Inv N Q step fin n (i+1) y hy (by omega) (by omega)
theorem Il {X β:Type} {f:X→(X→Option β)→Option β} (Inv:X→Prop) (μ:X→Nat) (Q:X→Option β→Prop)
 (step:∀ x again,Inv x→(∀ y,Inv y→μ y<μ x→Q y (again y))→Q x (f x again)):∀ n x,Inv x→μ x<n→Q x (iter n x f)
 | 0,_,_,hn=>absurd hn (ZR _)
 | n+1,x,hx,hn=>step x _ hx fun y hy h=>Il Inv μ Q step n y hy (by omega)
theorem Uv:maxLen=9223372036854775807:=rfl
theorem dN {β:Type} {b:Bool} (h:b=true) (x:Option β):chk b x=x:=by rw[h];rfl
theorem Ej {n k:Nat} (h:n*k≤140737488355328) (h2:n≤9223372036854775807):(decide (n*k≤140737488355328)&&decide (n≤maxLen))=true:=by
 simp only[XN,aag];rw[Uv];omega
theorem bh {α:Type} {p:Prop} [Decidable p] (h:p) (x y:α):(bif decide p then x else y)=x:=by rw[aaf h];rfl
theorem bw {α:Type} {p:Prop} [Decidable p] (h:¬p) (x y:α):(bif decide p then x else y)=y:=by rw[aae h];rfl
theorem z7 {β γ:Type} (r:β) (f:γ→Option β):aK (some (Sum.inl r)) f=some r:=rfl
theorem cR {β γ:Type} (v:γ) (f:γ→Option β):aK (β:=β) (some (Sum.inr v)) f=f v:=rfl
theorem cu {α:Type} {l:List α} {i:Nat} (h:i<l.length):l[i]? =some (l[i]'h):=YJ h
theorem Rn {k:IntKind} {n:Int} (h1:k.min≤n) (h2:n≤k.max):k.wrap n=n:=by
 cases k<;>simp[IntKind.wrap,IntKind.min,IntKind.max,IntKind.bits,IntKind.signed] at* <;>(try split)<;>omega
theorem aV {n:Int} (h1: -9223372036854775808≤n) (h2:n≤9223372036854775807):w64 n=n:=Rn h1 h2
theorem dB {n:Int} (h1:0≤n) (h2:n≤18446744073709551615):bO n=n:=Rn h1 h2
theorem zz {n:Int} (h1:0≤n) (h2:n≤4294967295):lW n=n:=Rn h1 h2
theorem CC (n:Int):bO n=n % 18446744073709551616:=by simp[bO,IntKind.wrap,IntKind.bits,IntKind.signed]
theorem zA (n:Int):lW n=n % 4294967296:=by simp[lW,IntKind.wrap,IntKind.bits,IntKind.signed]
theorem cK {α:Type} (l:List α) (i:Nat):idx l (i:Int)=l[i]? :=by simp[idx]
end Go.Md
namespace Go.Md
open Go.Dn
def val (B:Int):List Int→Int
 | []=>0
 | d::r=>d+B*val B r
def Dig (B:Int) (l:List Int):Prop:=∀ d,d∈l→0≤d∧d<B
theorem Dig.nil {B:Int}:Dig B []:=fun _ h=>by cases h
theorem Dig.cons {B d:Int} {l:List Int} (h:0≤d∧d<B) (hl:Dig B l):Dig B (d::l):=fun x hx=>by
 rcases Y7.1 hx with rfl | hx
 ·exact h
 ·exact hl x hx
theorem Dig.head {B d:Int} {l:List Int} (h:Dig B (d::l)):0≤d∧d<B:=h d (by simp)
theorem Dig.tail {B d:Int} {l:List Int} (h:Dig B (d::l)):Dig B l:=fun x hx=>h x (by simp[hx])
theorem Dig.append {B:Int} {l m:List Int} (h:Dig B l) (k:Dig B m):Dig B (l++m):=fun x hx=>by
 rcases Y6.1 hx with hx | hx
 ·exact h x hx
 ·exact k x hx
theorem Dig.snoc {B d:Int} {l:List Int} (h:Dig B l) (hd:0≤d∧d<B):Dig B (l++[d]):=h.append (Dig.cons hd Dig.nil)
theorem Dig.take {B:Int} {l:List Int} (h:Dig B l) (n:Nat):Dig B (l.take n):=fun x hx=>h x (List.mem_of_mem_take hx)
theorem Dig.drop {B:Int} {l:List Int} (h:Dig B l) (n:Nat):Dig B (l.drop n):=fun x hx=>h x (List.mem_of_mem_drop hx)
theorem Dig.get {B d:Int} {l:List Int} {i:Nat} (h:Dig B l) (hi:l[i]? =some d):0≤d∧d<B:=h d (Zd hi)
theorem Dig.left {B:Int} {l m:List Int} (h:Dig B (l++m)):Dig B l:=fun x hx=>h x (List.mem_append_left _ hx)
theorem Dig.right {B:Int} {l m:List Int} (h:Dig B (l++m)):Dig B m:=fun x hx=>h x (List.mem_append_right _ hx)
theorem Gi {B:Int} (hB:0<B):∀ {l:List Int},Dig B l→0≤val B l
 | [],_=>Int.le_refl _
 | d::r,h=>by
  have h1:=h.head;have h2:=Gi hB h.tail
  have:0≤B*val B r:=Ya (by omega) h2
  simp only[val];omega
theorem U2 {B:Int} (hB:0<B):∀ {l:List Int},Dig B l→val B l<B ^ l.length
 | [],_=>by simp[val]
 | d::r,h=>by
  have h1:=h.head;have h2:=U2 hB h.tail
  have h3:B*(val B r+1)≤B*B ^ r.length:=X9 h2 (by omega)
  rw[X7,Int.mul_one] at h3
  simp only[val,YW]
  rw[Ye,Int.mul_comm (B ^ r.length) B]
  omega
theorem Gg {B:Int}:∀ (l m:List Int),val B (l++m)=val B l+B ^ l.length*val B m
 | [],m=>by simp[val]
 | d::r,m=>by
  simp only[Yp,val,Gg r m,YW,Ye]
  rw[X7,Int.add_assoc]
  congr 2
  rw[Int.mul_comm (B ^ r.length) B,X8]
theorem VA {B:Int} (l:List Int) (d:Int):val B (l++[d])=val B l+B ^ l.length*d:=by
 rw[Gg];simp[val]
theorem Rb {B:Int} (hB:0<B):∀ n:Nat,0<B ^ n
 | 0=>by simp
 | n+1=>by rw[Ye];exact Int.mul_pos (Rb hB n) hB
def dgF (B:Nat):Nat→Nat→List Int
 | 0,_=>[]
 | f+1,n=>if n=0 then [] else ((n % B:Nat):Int)::dgF B f (n / B)
def dg (B n:Nat):List Int:=dgF B n n
theorem T6 {B:Nat} (hB:2≤B):∀ (f g n:Nat),n≤f→n≤g→dgF B f n=dgF B g n
 | 0,0,_,_,_=>rfl
 | 0,g+1,n,h,_=>by have:n=0:=by omega
                   subst this;simp[dgF]
 | f+1,0,n,_,h=>by have:n=0:=by omega
                   subst this;simp[dgF]
 | f+1,g+1,n,hf,hg=>by
  by_cases hn:n=0
  ·subst hn;simp[dgF]
  ·have:n / B<n:=Zz (by omega) (by omega)
   simp only[dgF,hn,aal]
   rw[T6 hB f g (n / B) (by omega) (by omega)]
theorem Bn (B:Nat):dg B 0=[]:=rfl
theorem BR {B:Nat} (hB:2≤B) {n:Nat} (hn:0<n):dg B n=((n % B:Nat):Int)::dg B (n / B):=by
 have:n / B<n:=Zz hn (by omega)
 obtain⟨m,rfl⟩:∃ m,n=m+1:=⟨n - 1,by omega⟩
 unfold dg
 rw[dgF,aam (by omega),T6 hB m ((m+1) / B) _ (by omega) (ZE _)]
theorem WH {B:Nat} (hB:2≤B):∀ n,Dig B (dg B n):=by
 intro n
 induction n using Nat.strongRecOn with
 | _ n ih=>
  by_cases hn:n=0
  ·subst hn;exact Dig.nil
  ·rw[BR hB (by omega)]
   exact Dig.cons ⟨by omega,by have:=Nat.mod_lt n (show 0<B by omega);omega⟩ (ih _ (Zz (by omega) (by omega)))
theorem W6 {B:Nat} (hB:2≤B):∀ n,val B (dg B n)=n:=by
 intro n
 induction n using Nat.strongRecOn with
 | _ n ih=>
  by_cases hn:n=0
  ·subst hn;rfl
  ·rw[BR hB (by omega),val,ih _ (Zz (by omega) (by omega))]
   have:=Nat.mod_add_div n B
   omega
theorem HU {B:Nat} (hB:2≤B) {n:Nat} (hn:0<n):dg B n≠[]:=by rw[BR hB hn];simp
theorem T7 {B:Nat} (hB:2≤B) {n:Nat}:dg B n=[]↔n=0:=by
 constructor
 ·intro h
  rcases ZB n with h0 | h0
  ·exact h0
  ·exact absurd h (HU hB h0)
 ·rintro rfl;rfl
theorem Fu {B:Nat} (hB:2≤B) {d n:Nat} (hd:d<B) (h:0<d+B*n):dg B (d+B*n)=(d:Int)::dg B n:=by
 rw[BR hB h]
 have h1:(d+B*n) % B=d:=by rw[Nat.add_mul_mod_self_left,ZO hd]
 have h2:(d+B*n) / B=n:=by rw[Nat.add_mul_div_left _ _ (by omega),Zy hd];omega
 rw[h1,h2]
def trim:List Int→List Int
 | []=>[]
 | d::r=>match trim r with
  | []=>if d=0 then [] else [d]
  | t=>d::t
theorem SF {B:Nat} (hB:2≤B):∀ {l:List Int},Dig B l→trim l=dg B (val B l).toNat
 | [],_=>rfl
 | d::r,h=>by
  have hr:=SF hB h.tail
  have h1:=h.head
  have hB0:(0:Int)<B:=by omega
  have h2:=Gi hB0 h.tail
  obtain⟨k,rfl⟩:∃ k:Nat,d=k:=⟨d.toNat,by omega⟩
  obtain⟨n,hn⟩:∃ n:Nat,val B r=n:=⟨(val B r).toNat,by omega⟩
  have hv:(val B ((k:Int)::r)).toNat=k+B*n:=by
   simp only[val,hn]
   rw[show ((B:Int)*(n:Int))=((B*n:Nat):Int) by simp]
   omega
  rw[hv]
  rw[hn] at hr
  simp only[Yi] at hr
  unfold trim
  rw[hr]
  rcases ZB n with h0 | h0
  ·subst h0
   simp only[Bn,Nat.mul_zero,Zx]
   by_cases hk:k=0
   ·subst hk;simp[Bn]
   ·have:=Fu hB (d:=k) (n:=0) (by omega) (by omega)
    simp only[Nat.mul_zero,Zx,Bn] at this
    rw[this];simp[hk]
  ·have hpos:0<k+B*n:=by have:=Nat.mul_pos (show 0<B by omega) h0;omega
   rw[Fu hB (by omega) hpos]
   cases hd:dg B n with
   | nil=>exact absurd hd (HU hB h0)
   | cons a t=>rfl
theorem E4:∀ l:List Int,trim (l++[0])=trim l
 | []=>rfl
 | d::r=>by simp only[Yp,trim,E4 r]
theorem I2 {d:Int} (hd:d≠0):∀ l:List Int,trim (l++[d])=l++[d]
 | []=>by simp[trim,hd]
 | e::r=>by
  simp only[Yp,trim,I2 hd r]
  cases h:r++[d] with
  | nil=>simp at h
  | cons a t=>rfl
theorem Qz {B:Nat} (hB:2≤B):∀ (k n:Nat),n<B ^ k→(dg B n).length≤k
 | 0,n,h=>by have:n=0:=by simpa using h
             subst this;simp[Bn]
 | k+1,n,h=>by
  by_cases hn:n=0
  ·subst hn;simp[Bn]
  ·rw[BR hB (by omega),YW]
   have:=Qz hB k (n / B) (by rw[ZV] at h;exact Nat.div_lt_of_lt_mul (by rw[ZP];exact h))
   omega
theorem T8 {B:Nat} (hB:2≤B) {m n:Nat} (h:(dg B m).length<(dg B n).length):m<n:=by
 rcases ZK m n with h1 | h1
 ·exact h1
 ·exfalso
  have h2:∀ a b:Nat,b≤a→(dg B b).length≤(dg B a).length:=by
   intro a
   induction a using Nat.strongRecOn with
   | _ a ih=>
    intro b hb
    by_cases h0:b=0
    ·subst h0;simp[Bn]
    ·rw[BR hB (by omega),BR hB (show 0<a by omega),YW,YW]
     have:=ih (a / B) (Zz (by omega) (by omega)) (b / B) (Nat.div_le_div_right hb)
     omega
  have:=h2 m n h1
  omega
end Go.Md
namespace Go.Md
open Go.Dn
def v32 (l:List Int):Int:=val 4294967296 l
theorem zq:v32 []=0:=rfl
theorem Cz (d:Int) (l:List Int):v32 (d::l)=d+4294967296*v32 l:=rfl
theorem Ge (l m:List Int):v32 (l++m)=v32 l+4294967296 ^ l.length*v32 m:=Gg l m
theorem Gf (l:List Int) (d:Int):v32 (l++[d])=v32 l+4294967296 ^ l.length*d:=VA l d
abbrev Dg (l:List Int):Prop:=Dig 4294967296 l
def bn (n:Nat):List Int:=dg 4294967296 n
theorem HT:bn 0=[]:=rfl
theorem Kf {n:Nat}:bn n=[]↔n=0:=T7 (B:=4294967296) (by omega)
theorem Kg {n:Nat} (h:0<n):bn n≠[]:=HU (B:=4294967296) (by omega) h
theorem mL {m n:Nat} (h:(bn m).length<(bn n).length):m<n:=T8 (B:=4294967296) (by omega) h
theorem dM (n:Nat):Dg (bn n):=WH (B:=4294967296) (by omega) n
theorem dK (n:Nat):v32 (bn n)=n:=W6 (B:=4294967296) (by omega) n
theorem Rl {l:List Int} (h:Dg l):trim l=bn (v32 l).toNat:=SF (B:=4294967296) (by omega) h
theorem yz {l:List Int} (h:Dg l):0≤v32 l:=Gi (by omega) h
theorem E5 {l:List Int} (h:Dg l):v32 l<4294967296 ^ l.length:=U2 (by omega) h
theorem qV {k n:Nat} (h:n<4294967296 ^ k):(bn n).length≤k:=Qz (B:=4294967296) (by omega) k n h
theorem xw (l:List Int) (hl:l.length<1000000):nU l=some (trim l,()):=by
 have key:∀ n (x:nw),x.1.length<1000000→x.1.length<n→iter n x xu=some (Sum.inr (trim x.1,())):=by
  refine Il (fun x:nw=>x.1.length<1000000) (fun x=>x.1.length) (fun x r=>r=some (Sum.inr (trim x.1,()))) ?_
  rintro⟨x,u⟩ again hx ih
  simp only at hx ih ⊢
  unfold xu
  simp only
  by_cases h0:x.length=0
  ·have:x=[]:=Yx h0
   subst this;simp[trim]
  ·have e1:w64 ((x.length:Int) - 1)=((x.length - 1:Nat):Int):=by rw[aV (by omega) (by omega)];omega
   have hsp:x=x.take (x.length - 1)++[x[x.length - 1]'(by omega)]:=by
    have:=Zr (x.length - 1) x
    rw[Yt (by omega),List.drop_of_length_le (by omega)] at this
    exact this.symm
   rw[bh (by omega),e1,cK,cu (by omega)]
   simp only[Yi,Yv,ZZ]
   by_cases hz:x[x.length - 1]'(by omega)=0
   ·rw[hz] at hsp ⊢
    rw[dN (by simp only[XN,aag];omega)]
    simp only[beq_self_eq_true,aac]
    rw[ih (List.take (x.length - 1) x,()) (by simp only[Y1];omega) (by simp only[Y1];omega)]
    conv=>rhs;rw[hsp,E4]
   ·have:(x[x.length - 1]'(by omega)==0)=false:=by simp[hz]
    rw[this]
    simp only[aab]
    conv=>rhs;rw[hsp,I2 hz]
    rw[← hsp]
 unfold nU
 rw[key _ _ (by simpa using hl) (by simp)]
 rfl
def W (z:Int):aF:=(decide (z<0),bn z.natAbs)
theorem jF (b:Bool) (l:List Int) (hd:Dg l) (hl:l.length<1000000):iG b l=some (W (if b then -v32 l else v32 l),()):=by
 unfold iG
 rw[xw l hl,Rl hd]
 have h0:=yz hd
 simp only[ZZ]
 cases b with
 | false=>simp only[aab,W];rw[show (decide ((if false=true then -v32 l else v32 l)<0))=false by simp;omega];congr 4;simp;omega
 | true=>
  simp only[aac,W]
  congr 3
  ·by_cases hv:v32 l=0
   ·simp[hv,HT]
   ·have hpos:0<v32 l:=by omega
    have:bn (v32 l).toNat≠[]:=Kg (by omega)
    have hlen:0<(bn (v32 l).toNat).length:=by
     cases h:bn (v32 l).toNat with
     | nil=>exact absurd h this
     | cons a t=>simp
    simp;omega
  ·congr 1;simp;omega
theorem mM (n:Int) (h1: -9223372036854775808≤n) (h2:n≤9223372036854775807):kE n=some (W n,()):=by
 unfold kE
 have key:∀ u:Int,0≤u→u≤9223372036854775808→iG (decide (n<0)) [lW u,lW (Int.fdiv u (2 ^ 32))]=some (W (if decide (n<0) then -u else u),()):=by
  intro u hu0 hu1
  have e:Int.fdiv u (2 ^ 32)=u / 4294967296:=by rw[X6 _ (by omega)];rfl
  rw[e,zA,zA]
  have hd:Dg [u % 4294967296,u / 4294967296 % 4294967296]:=Dig.cons (by omega) (Dig.cons (by omega) Dig.nil)
  rw[jF _ _ hd (by simp)]
  have hv:v32 [u % 4294967296,u / 4294967296 % 4294967296]=u:=by simp only[Cz,zq];omega
  rw[hv]
 by_cases hn:n<0
 ·have e1:bO (0 - bO n)= -n:=by rw[CC,CC];omega
  rw[show decide (n<0)=true by simpa using hn] at key ⊢
  simp only[aac,aK]
  rw[e1]
  rw[show decide (n<0)=true by simpa using hn]
  rw[key (-n) (by omega) (by omega)]
  simp
 ·have e1:bO n=n:=dB (by omega) (by omega)
  rw[show decide (n<0)=false by simpa using hn] at key ⊢
  simp only[aab,aK]
  rw[e1]
  rw[show decide (n<0)=false by simpa using hn]
  rw[key n (by omega) (by omega)]
  simp
theorem jB (z:Int):fG (W z)=some (z.sign,()):=by
 unfold fG W
 by_cases h:z<0
 ·simp[h,Yf h]
 ·by_cases h0:z=0
  ·subst h0;simp[HT]
  ·have hp:0<z:=by omega
   have:bn z.natAbs≠[]:=Kg (by omega)
   have hlen:((bn z.natAbs).length:Int)≠0:=by
    intro h;exact this (Yx (by omega))
   have hb:(((bn z.natAbs).length:Int)==0)=false:=by simpa using hlen
   simp only[h,aah,aab,hb,Yg hp]
theorem Xa {z:Int} {k:Nat} (h:z.natAbs<4294967296 ^ k):(W z).2.length≤k:=qV h
theorem Ar (z:Int) (h:z.natAbs<4294967296 ^ 99):oN (W z)=some (W (-z),()):=by
 unfold oN
 have hl:=Xa h
 rw[jF _ (W z).2 (dM _) (by omega)]
 simp only[ZZ]
 congr 3
 simp only[W,dK]
 by_cases hz:z<0
 ·simp[hz];omega
 ·simp[hz];omega
theorem PV {α:Type} {l:List α} {i:Nat} {y:α} (h:l[i]? =some y):l.take (i+1)=l.take i++[y]:=by
 rw[Zq,h];rfl
theorem iF {l:List Int} {i:Nat} {y:Int} (h:l[i]? =some y):v32 (l.take (i+1))=v32 (l.take i)+4294967296 ^ i*y:=by
 have hi:=(YL.1 h).1
 rw[PV h,Gf,Y1,ZN (by omega)]
theorem Gy {l:List Int} {i:Nat} (h:l.length≤i):v32 (l.take (i+1))=v32 (l.take i):=by
 rw[Zt h,Zt (by omega)]
theorem QC {u:Int}:Int.fdiv u (2 ^ 32)=u / 4294967296:=by rw[X6 _ (by omega)];rfl
theorem Ov (a b:List Int) (ha:Dg a) (hb:Dg b) (hla:a.length<100000) (hlb:b.length≤a.length) (n:Nat) (hn:a.length<n):
 ∃ out c,iter (X:=uK) (β:=uJ) n (b,[],0,a,(a.length:Int),0,()) uI=some (Sum.inr (out,c,()))∧Dg out∧0≤c∧c≤1∧out.length=a.length∧v32 out+4294967296 ^ a.length*c=v32 a+v32 b:=by
 refine jE (Inv:=fun i x=>∃ out c,x=(b,out,c,a,(a.length:Int),(i:Int),())∧Dg out∧0≤c∧c≤1∧out.length=i∧v32 out+4294967296 ^ i*c=v32 (a.take i)+v32 (b.take i)) a.length
  (fun r=>∃ out c,r=some (Sum.inr (out,c,()))∧Dg out∧0≤c∧c≤1∧out.length=a.length∧v32 out+4294967296 ^ a.length*c=v32 a+v32 b) ?_ ?_ n 0 _ ⟨[],0,rfl,Dig.nil,by omega,by omega,rfl,by simp[zq]⟩ (by omega) (by omega)
 ·rintro i _ again hi ⟨out,c,rfl,hd,hc0,hc1,hlen,hv⟩ ih
  unfold uI
  simp only
  have hy:a[i]? =some a[i]:=cu hi
  have hyd:=ha.get hy
  generalize a[i]=y at hy hyd
  rw[bh (by omega),cK,hy,ZZ]
  have step:∀ z:Int,0≤z→z<4294967296→v32 (b.take (i+1))=v32 (b.take i)+4294967296 ^ i*z→
   ∃ out' c',again (b,out++[lW (bO (bO (c+bO y)+bO z))],Int.fdiv (bO (bO (c+bO y)+bO z)) (2 ^ 32),a,(a.length:Int),w64 ((i:Int)+1),())=some (Sum.inr (out',c',()))∧Dg out'∧0≤c'∧c'≤1∧out'.length=a.length∧v32 out'+4294967296 ^ a.length*c'=v32 a+v32 b:=by
   intro z hz0 hz1 hbz
   have e1:bO (bO (c+bO y)+bO z)=c+y+z:=by
    rw[dB (n:=y) (by omega) (by omega),dB (n:=z) (by omega) (by omega),dB (n:=c+y) (by omega) (by omega),dB (by omega) (by omega)]
   rw[e1,zA,QC,aV (by omega) (by omega)]
   refine ih _ ⟨_,_,rfl,hd.snoc (by omega),by omega,by omega,by simp[hlen], ?_⟩
   rw[Gf,hlen,iF hy,hbz,Ye]
   have hm:=Int.mul_ediv_add_emod (c+y+z) 4294967296
   have:(4294967296:Int) ^ i*((c+y+z) % 4294967296)+4294967296 ^ i*4294967296*((c+y+z) / 4294967296)=4294967296 ^ i*(c+y+z):=by
    rw[X8, ← X7];congr 1;omega
   rw[X7,X7] at this
   omega
  by_cases hib:i<b.length
  ·have hz:b[i]? =some b[i]:=cu hib
   rw[bh (by omega),cK,hz,ZZ]
   simp only[cR]
   rw[dN (Ej (by omega) (by omega))]
   exact step b[i] (hb.get hz).1 (hb.get hz).2 (iF hz)
  ·rw[bw (by omega)]
   simp only[cR]
   rw[dN (Ej (by omega) (by omega))]
   have:=step 0 (by omega) (by omega) (by rw[Gy (by omega)];omega)
   have e0:bO (bO (c+bO y)+bO 0)=bO (c+bO y):=by
    rw[dB (n:=y) (by omega) (by omega),dB (n:=(0:Int)) (by omega) (by omega),dB (n:=c+y) (by omega) (by omega),dB (by omega) (by omega)];omega
   rw[e0] at this
   exact this
 ·rintro _ again ⟨out,c,rfl,hd,hc0,hc1,hlen,hv⟩
  unfold uI
  simp only
  rw[bw (by omega)]
  rw[Zt (ZE _),Zt hlb] at hv
  exact⟨out,c,rfl,hd,hc0,hc1,hlen,hv⟩
theorem I4 (a b:List Int) (ha:Dg a) (hb:Dg b) (hla:a.length<100000) (hlb:b.length<100000):
 ∃ s,As a b=some (s,())∧Dg s∧v32 s=v32 a+v32 b∧s.length=max a.length b.length+1:=by
 have core:∀ (a b:List Int),Dg a→Dg b→a.length<100000→b.length≤a.length→∃ s,(chk (decide (0≤(0:Int))&&decide ((0:Int)≤(w64 (((List.length a:Int))+1)))&&decide ((4:Int)*(w64 (((List.length a:Int))+1))≤281474976710656)&&decide ((w64 (((List.length a:Int))+1))≤9223372036854775807)) <|
 aK (β:=((List Int)×Unit)) (γ:=((List Int)×Int×Unit)) (
  iter (X:=uK) (β:=uJ) (List.length b+(List.length ([]:List Int)+(Int.natAbs (0:Int)+(List.length a+(Int.natAbs ((List.length a:Int))+(Int.natAbs (0:Int)+2)))))) (b,[],0,a,(List.length a:Int),0,()) (uI)) fun v7=>
 chk (decide (((v7.1.length)+1)*4≤140737488355328)&&decide ((v7.1.length)+1≤maxLen)) <|
 some (v7.1++[(lW v7.2.1)],()))=some (s,())∧Dg s∧v32 s=v32 a+v32 b∧s.length=a.length+1:=by
  intro a b ha hb hla hlb
  obtain⟨out,c,h1,h2,h3,h4,h5,h6⟩:=Ov a b ha hb hla hlb _ (show a.length<List.length b+(List.length ([]:List Int)+(Int.natAbs (0:Int)+(List.length a+(Int.natAbs ((List.length a:Int))+(Int.natAbs (0:Int)+2))))) by omega)
  rw[h1,cR,aV (by omega) (by omega),dN (by simp only[XN,aag];omega)]
  simp only
  rw[dN (Ej (by omega) (by omega))]
  refine⟨_,rfl,h2.snoc ?_, ?_,by simp[h5]⟩
  ·rw[zz (by omega) (by omega)];omega
  ·rw[zz (by omega) (by omega),Gf,h5];exact h6
 unfold As
 by_cases h:a.length<b.length
 ·rw[bh (by omega),cR]
  obtain⟨s,h1,h2,h3,h4⟩:=core b a hb ha hlb (by omega)
  exact⟨s,h1,h2,by omega,by omega⟩
 ·rw[bw (by omega),cR]
  obtain⟨s,h1,h2,h3,h4⟩:=core a b ha hb hla (by omega)
  exact⟨s,h1,h2,by omega,by omega⟩
theorem Nj (a b:List Int) (ha:Dg a) (hb:Dg b) (hla:a.length<100000) (hlb:b.length≤a.length) (n:Nat) (hn:a.length<n):
 ∃ out c,iter (X:=wU) (β:=wT) n (b,[],0,a,(a.length:Int),0,()) wS=some (Sum.inr (out,()))∧Dg out∧0≤c∧c≤1∧out.length=a.length∧v32 out=v32 a - v32 b+4294967296 ^ a.length*c:=by
 refine jE (Inv:=fun i x=>∃ out c,x=(b,out,c,a,(a.length:Int),(i:Int),())∧Dg out∧0≤c∧c≤1∧out.length=i∧v32 out=v32 (a.take i) - v32 (b.take i)+4294967296 ^ i*c) a.length
  (fun r=>∃ out c,r=some (Sum.inr (out,()))∧Dg out∧0≤c∧c≤1∧out.length=a.length∧v32 out=v32 a - v32 b+4294967296 ^ a.length*c) ?_ ?_ n 0 _ ⟨[],0,rfl,Dig.nil,by omega,by omega,rfl,by simp[zq]⟩ (by omega) (by omega)
 ·rintro i _ again hi ⟨out,c,rfl,hd,hc0,hc1,hlen,hv⟩ ih
  unfold wS
  simp only
  have hy:a[i]? =some a[i]:=cu hi
  have hyd:=ha.get hy
  generalize a[i]=y at hy hyd
  rw[bh (by omega),cK,hy,ZZ]
  have step:∀ z:Int,0≤z→z<4294967296→v32 (b.take (i+1))=v32 (b.take i)+4294967296 ^ i*z→∀ t:Int,t=(y - c - z) % 18446744073709551616→
   ∃ out' c',again (b,out++[lW t],bO (((BitVec.ofInt (IntKind.bits .u64) (Int.fdiv t (2 ^ 32)) &&& BitVec.ofInt (IntKind.bits .u64) 1).toNat:Int)),a,(a.length:Int),w64 ((i:Int)+1),())=some (Sum.inr (out',()))∧Dg out'∧0≤c'∧c'≤1∧out'.length=a.length∧v32 out'=v32 a - v32 b+4294967296 ^ a.length*c':=by
   intro z hz0 hz1 hbz t ht
   have e2:bO (((BitVec.ofInt (IntKind.bits .u64) (Int.fdiv t (2 ^ 32)) &&& BitVec.ofInt (IntKind.bits .u64) 1).toNat:Int))=(if y - c - z<0 then 1 else 0):=by
    rw[QC]
    have h1:t / 4294967296=(if y - c - z<0 then 4294967295 else 0):=by split<;>omega
    rw[h1]
    split<;>rfl
   rw[e2,zA,aV (by omega) (by omega)]
   refine ih _ ⟨_,_,rfl,hd.snoc (by omega),by split<;>omega,by split<;>omega,by simp[hlen], ?_⟩
   rw[Gf,hlen,iF hy,hbz,Ye,hv]
   have e3:t % 4294967296=y - c - z+4294967296*(if y - c - z<0 then 1 else 0):=by split<;>omega
   rw[e3]
   generalize (if y - c - z<0 then (1:Int) else 0)=q
   generalize (4294967296:Int) ^ i=p
   rw[X7,Int.mul_sub,Int.mul_sub,X8]
   omega
  by_cases hib:i<b.length
  ·have hz:b[i]? =some b[i]:=cu hib
   rw[bh (by omega),cK,hz,ZZ]
   simp only[cR]
   rw[dN (Ej (by omega) (by omega))]
   have hz':=hb.get hz
   refine step b[i] hz'.1 hz'.2 (iF hz) _ ?_
   rw[dB (n:=y) (by omega) (by omega),dB (n:=b[i]) (by omega) (by omega),CC,CC]
   omega
  ·rw[bw (by omega)]
   simp only[cR]
   rw[dN (Ej (by omega) (by omega))]
   refine step 0 (by omega) (by omega) (by rw[Gy (by omega)];omega) _ ?_
   rw[dB (n:=y) (by omega) (by omega),CC]
   omega
 ·rintro _ again ⟨out,c,rfl,hd,hc0,hc1,hlen,hv⟩
  unfold wS
  simp only
  rw[bw (by omega)]
  rw[Zt (ZE _),Zt hlb] at hv
  exact⟨out,c,rfl,hd,hc0,hc1,hlen,hv⟩
theorem AR (a b:List Int) (ha:Dg a) (hb:Dg b) (hla:a.length<100000) (hlb:b.length≤a.length) (hle:v32 b≤v32 a):vi a b=some (bn (v32 a - v32 b).toNat,()):=by
 unfold vi
 obtain⟨out,c,h1,h2,h3,h4,h5,h6⟩:=Nj a b ha hb hla hlb _ (show a.length<List.length b+(List.length ([]:List Int)+(Int.natAbs (0:Int)+(List.length a+(Int.natAbs ((List.length a:Int))+(Int.natAbs (0:Int)+2))))) by omega)
 rw[h1,cR,dN (by simp only[XN,aag];omega)]
 simp only
 rw[xw _ (by omega),Rl h2,ZZ]
 have h7:=E5 h2
 rw[h5] at h7
 have h8:c=0:=by
  rcases (show c=0∨c=1 by omega) with h | h
  ·exact h
  ·subst h;rw[Int.mul_one] at h6;omega
 subst h8
 rw[h6,Int.mul_zero,Int.add_zero]
theorem I3 (a b:List Int) (ha:Dg a) (hb:Dg b) (hab:a.length=b.length) (hla:a.length<100000):∀ (n k:Nat),k≤a.length→k<n→
 iter (X:=rL) (β:=rK) n (a,b,(k:Int) - 1,()) nv=if v32 (a.take k)<v32 (b.take k) then some (Sum.inl ((-1),())) else if v32 (b.take k)<v32 (a.take k) then some (Sum.inl (1,())) else some (Sum.inr ()):=by
 intro n
 induction n with
 | zero=>intro k _ h;omega
 | succ n ih=>
  intro k hk hn
  rw[cQ]
  generalize hag:(fun y=>iter n y nv)=again
  unfold nv
  simp only
  cases k with
  | zero=>simp[zq]
  | succ k=>
   rw[bh (by omega),show ((k+1:Nat):Int) - 1=(k:Int) by omega,cK,cK]
   have hx:a[k]? =some a[k]:=cu (by omega)
   have hy:b[k]? =some b[k]:=cu (by omega)
   rw[hx,hy]
   simp only[ZZ]
   rw[iF hx,iF hy]
   have h1:=E5 (ha.take k)
   have h2:=E5 (hb.take k)
   have h3:=yz (ha.take k)
   have h4:=yz (hb.take k)
   rw[Y1,ZN (by omega)] at h1 h2
   generalize a[k]=x
   generalize b[k]=y
   by_cases hxy:x=y
   ·subst hxy
    simp only[aaa,aab]
    rw[aV (by omega) (by omega), ← hag]
    show iter n (a,b,(k:Int) - 1,()) nv=_
    rw[ih k (by omega) (by omega)]
    congr 1
    ·simp
    ·congr 1;simp
   ·have hne:(x != y)=true:=by simp[hxy]
    rw[hne]
    simp only[aac]
    by_cases hlt:x<y
    ·rw[bh hlt,aan]
     have:(4294967296:Int) ^ k*(x+1)≤4294967296 ^ k*y:=X9 (by omega) (by omega)
     rw[X7,Int.mul_one] at this
     omega
    ·rw[bw hlt]
     have:(4294967296:Int) ^ k*(y+1)≤4294967296 ^ k*x:=X9 (by omega) (by omega)
     rw[X7,Int.mul_one] at this
     rw[aam (by omega),aan (by omega)]
theorem CB (m n:Nat) (hm:(bn m).length<100000) (hn:(bn n).length<100000):∃ c,se (bn m) (bn n)=some (c,())∧(c<0↔m<n)∧(0<c↔n<m):=by
 unfold se
 by_cases h:(bn m).length=(bn n).length
 ·have hb:(((bn m).length:Int) != ((bn n).length:Int))=false:=by simp[h]
  rw[hb]
  simp only[aab]
  by_cases h0:(bn m).length=0
  ·have hm0:m=0:=Kf.1 (Yx h0)
   have hn0:n=0:=Kf.1 (Yx (by omega))
   subst hm0;subst hn0
   exact⟨0,rfl,by simp,by simp⟩
  ·have e1:w64 (((bn m).length:Int) - 1)=(((bn m).length:Nat):Int) - 1:=aV (by omega) (by omega)
   rw[e1,I3 _ _ (dM m) (dM n) h hm _ _ (ZE _) (by omega),Zt (ZE _),Zt (by omega),dK,dK]
   by_cases h1:m<n
   ·rw[aan (by omega),z7];exact⟨-1,rfl,by omega,by omega⟩
   ·by_cases h2:n<m
    ·rw[aam (by omega),aan (by omega),z7];exact⟨1,rfl,by omega,by omega⟩
    ·rw[aam (by omega),aam (by omega),cR];exact⟨0,rfl,by omega,by omega⟩
 ·have hb:(((bn m).length:Int) != ((bn n).length:Int))=true:=by simp;omega
  rw[hb]
  simp only[aac]
  rw[aV (by omega) (by omega)]
  refine⟨_,rfl, ?_, ?_⟩
  ·constructor
   ·intro h1;exact mL (by omega)
   ·intro h1
    rcases Nat.lt_or_gt_of_ne h with h2 | h2
    ·omega
    ·have:=mL (m:=n) (n:=m) h2;omega
  ·constructor
   ·intro h1;exact mL (by omega)
   ·intro h1
    rcases Nat.lt_or_gt_of_ne h with h2 | h2
    ·have:=mL (m:=m) (n:=n) h2;omega
    ·omega
end Go.Md
namespace Go.Md
open Go.Dn
theorem PZ (w:Nat) {a b:Nat} (ha:a<2 ^ w) (hb:b<2 ^ w):((BitVec.ofInt w (a:Int) ||| BitVec.ofInt w (b:Int)).toNat:Int)=((a ||| b:Nat):Int):=by
 rw[XL,XL,BitVec.toNat_or,XM,XM,ZO ha,ZO hb]
theorem bv_and (w:Nat) {a b:Nat} (ha:a<2 ^ w) (hb:b<2 ^ w):((BitVec.ofInt w (a:Int) &&& BitVec.ofInt w (b:Int)).toNat:Int)=((a &&& b:Nat):Int):=by
 rw[XL,XL,BitVec.toNat_and,XM,XM,ZO ha,ZO hb]
theorem Q5 {a k b:Nat} (hb:b<2 ^ k):(2 ^ k*a) ||| b=2 ^ k*a+b:=(Nat.two_pow_add_eq_or_of_lt hb a).symm
theorem Ot {l:List Int} (h:Dg l) {i:Nat} {y:Int} (hi:l[i]? =some y):y=v32 l / 4294967296 ^ i % 4294967296:=by
 have hlt:=(YL.1 hi).1
 have e:l=l.take i++(y::l.drop (i+1)):=by
  have:=Zr i l
  rw[Yt hlt,(YL.1 hi).2] at this
  exact this.symm
 have hd:=h.get hi
 have h1:=E5 (h.take i)
 have h2:=yz (h.take i)
 rw[Y1,ZN (by omega)] at h1
 have hv:v32 l=v32 (l.take i)+4294967296 ^ i*(y+4294967296*v32 (l.drop (i+1))):=by
  conv=>lhs;rw[e]
  rw[Ge,Y1,ZN (by omega),Cz]
 rw[hv,Int.add_mul_ediv_left _ _ (by omega),Int.ediv_eq_zero_of_lt h2 h1,Int.zero_add,Int.add_mul_emod_self_left,Int.emod_eq_of_lt hd.1 hd.2]
theorem Jv {l:List Int} {i:Nat} {y z:Int} (hi:l[i]? =some y):v32 (l.set i z)=v32 l+4294967296 ^ i*(z - y):=by
 have hlt:=(YL.1 hi).1
 have e:l=l.take i++(y::l.drop (i+1)):=by
  have:=Zr i l
  rw[Yt hlt,(YL.1 hi).2] at this
  exact this.symm
 have e2:l.set i z=l.take i++(z::l.drop (i+1)):=by rw[List.set_eq_take_append_cons_drop,aan hlt]
 rw[e2]
 conv=>rhs;rw[e]
 rw[Ge,Ge,Cz,Cz,Y1,ZN (by omega)]
 have:(4294967296:Int) ^ i*(z+4294967296*v32 (l.drop (i+1)))=4294967296 ^ i*(y+4294967296*v32 (l.drop (i+1)))+4294967296 ^ i*(z - y):=by rw[← X7];congr 1;omega
 omega
theorem Dig.set {B:Int} {l:List Int} (h:Dig B l) {i:Nat} {z:Int} (hz:0≤z∧z<B):Dig B (l.set i z):=fun x hx=>by
 rcases Ze hx with hx | rfl
 ·exact h x hx
 ·exact hz
theorem VO (y:Nat) (j:Nat) (hy:y<4294967296):lW (((BitVec.ofInt (IntKind.bits .u32) (Int.fdiv (y:Int) (2 ^ (min j (IntKind.bits .u32)))) &&& BitVec.ofInt (IntKind.bits .u32) 1).toNat:Int))=((y / 2 ^ (min j 32) % 2:Nat):Int):=by
 have e1:Int.fdiv (y:Int) (2 ^ (min j (IntKind.bits .u32)))=((y / 2 ^ (min j 32):Nat):Int):=by
  have:((2:Int) ^ (min j 32))=((2 ^ (min j 32):Nat):Int):=by simp
  rw[show IntKind.bits .u32=32 from rfl,this,X6 _ (Yd _)]
  simp
 rw[e1]
 have hlt:y / 2 ^ (min j 32)<2 ^ 32:=ZI (Nat.div_le_self _ _) hy
 have:=bv_and (IntKind.bits .u32) (a:=y / 2 ^ (min j 32)) (b:=1) hlt (by decide)
 rw[show ((1:Nat):Int)=1 from rfl] at this
 rw[this,Nat.and_one_is_mod]
 exact zz (by omega) (by omega)
theorem PX (a b:Nat) (hb:0<b) (na:Bool) (nb:Bool) (ha:(bn a).length<1000) (hlb:(bn b).length<1000) (g1:Bool) (g2:List Int) (g3:Bool) (g4:List Int):∀ (n k:Nat) (q:List Int),k≤32*(bn a).length→k<n→Dg q→q.length=(bn a).length→v32 q=((a / 2 ^ k / b*2 ^ k:Nat):Int)→
 ∃ q',iter (X:=td) (β:=tc) n (bn (a / 2 ^ k % b),(k:Int) - 1,na,bn a,nb,bn b,g1,g2,g3,g4,q,()) s9=some (Sum.inr (bn (a % b),g1,g2,g3,g4,q',()))∧Dg q'∧q'.length=(bn a).length∧v32 q'=((a / b:Nat):Int):=by
 intro n
 induction n with
 | zero=>intro k q _ h;omega
 | succ n ih=>
  intro k q hk hn hq hql hqv
  rw[cQ]
  generalize hag:(fun y=>iter n y s9)=again
  unfold s9
  simp only
  cases k with
  | zero=>
   rw[bw (by omega)]
   refine⟨q, ?_,hq,hql,by simpa using hqv⟩
   simp
  | succ k=>
   rw[bh (by omega),show ((k+1:Nat):Int) - 1=(k:Int) by omega]
   have hR:a / 2 ^ (k+1) % b<b:=Nat.mod_lt _ hb
   have hRl:(bn (a / 2 ^ (k+1) % b)).length≤(bn b).length:=by
    rcases ZK (bn b).length (bn (a / 2 ^ (k+1) % b)).length with h | h
    ·have:=mL h;omega
    ·exact h
   obtain⟨s,hs1,hs2,hs3,hs4⟩:=I4 _ _ (dM (a / 2 ^ (k+1) % b)) (dM (a / 2 ^ (k+1) % b)) (by omega) (by omega)
   rw[hs1]
   simp only[ZZ]
   have hs0:s[0]? =some s[0]:=cu (by omega)
   have hs0d:=hs2.get hs0
   have hs0v:=Ot hs2 hs0
   rw[dK] at hs3
   generalize s[0]'(by omega)=y3 at hs0 hs0d hs0v
   rw[dN (by simp only[XN,aag];omega),hs0]
   simp only[ZZ]
   have hk32:k / 32<(bn a).length:=by omega
   have e5:w64 (Int.tdiv (k:Int) 32)=((k / 32:Nat):Int):=by
    rw[Yh (by omega),aV (by omega) (by omega)];omega
   have e6:Int.tmod (k:Int) 32=((k % 32:Nat):Int):=by rw[Int.tmod_eq_emod_of_nonneg (by omega)];omega
   have hy4:(bn a)[k / 32]? =some ((bn a)[k / 32]):=cu hk32
   have hy4d:=(dM a).get hy4
   have hy4v:=Ot (dM a) hy4
   rw[dK] at hy4v
   generalize (bn a)[k / 32]=y4 at hy4 hy4d hy4v
   obtain⟨m4,rfl⟩:∃ m:Nat,y4=m:=⟨y4.toNat,by omega⟩
   rw[e5,e6,cK,hy4]
   simp only[ZZ]
   rw[dN (by simp only[aag];omega)]
   simp only[Yi]
   rw[VO m4 (k % 32) (by omega)]
   have hbit:m4 / 2 ^ (min (k % 32) 32) % 2=a / 2 ^ k % 2:=by
    have h1:m4=a / 4294967296 ^ (k / 32) % 4294967296:=by
     have h2:((a:Int) / 4294967296 ^ (k / 32) % 4294967296)=((a / 4294967296 ^ (k / 32) % 4294967296:Nat):Int):=by simp
     rw[h2] at hy4v;omega
    have h3:(4294967296:Nat) ^ (k / 32)=2 ^ (32*(k / 32)):=by rw[Nat.pow_mul]
    rw[h1,ZN (by omega),h3]
    have h4:(4294967296:Nat)=2 ^ (k % 32)*2 ^ (32 - k % 32):=by rw[← ZT];rw[show k % 32+(32 - k % 32)=32 by omega]
    rw[show a / 2 ^ (32*(k / 32)) % 4294967296=a / 2 ^ (32*(k / 32)) % (2 ^ (k % 32)*2 ^ (32 - k % 32)) by rw[← h4],Nat.mod_mul_right_div_self,Nat.div_div_eq_div_mul, ← ZT,show 32*(k / 32)+k % 32=k by omega]
    have h5:(2:Nat) ∣ 2 ^ (32 - k % 32):=by
     rw[show 32 - k % 32=(31 - k % 32)+1 by omega,ZV];exact Nat.dvd_mul_left _ _
    exact Nat.mod_mod_of_dvd _ h5
   rw[hbit,dN (by simp only[XN,aag];omega)]
   obtain⟨m3,rfl⟩:∃ m:Nat,y3=m:=⟨y3.toNat,by omega⟩
   have hev:m3 % 2=0:=by
    have h1:v32 s / 4294967296 ^ 0 % 4294967296=v32 s % 4294967296:=by simp
    rw[h1,hs3] at hs0v
    omega
   have hor:lW (((BitVec.ofInt (IntKind.bits .u32) (m3:Int) ||| BitVec.ofInt (IntKind.bits .u32) ((a / 2 ^ k % 2:Nat):Int)).toNat:Int))=((m3+a / 2 ^ k % 2:Nat):Int):=by
    rw[PZ (IntKind.bits .u32) (by show m3<2 ^ 32;omega) (by show a / 2 ^ k % 2<2 ^ 32;omega)]
    have h1:m3=2 ^ 1*(m3 / 2):=by omega
    have h2:m3 ||| (a / 2 ^ k % 2)=m3+a / 2 ^ k % 2:=by
     conv=>lhs;rw[h1]
     rw[Q5 (by omega)];omega
    rw[h2];exact zz (by omega) (by omega)
   rw[hor]
   rw[xw _ (by simp only[YZ];omega),Rl (hs2.set (by omega)),Jv hs0,hs3]
   simp only[ZZ]
   have hr2:(((a / 2 ^ (k+1) % b:Nat):Int)+((a / 2 ^ (k+1) % b:Nat):Int)+4294967296 ^ 0*(((m3+a / 2 ^ k % 2:Nat):Int) - (m3:Int))).toNat=2*(a / 2 ^ (k+1) % b)+a / 2 ^ k % 2:=by
    rw[Int.pow_zero];omega
   rw[hr2]
   have htop:a / 2 ^ k=2*(a / 2 ^ (k+1))+a / 2 ^ k % 2:=by
    rw[ZV, ← Nat.div_div_eq_div_mul];omega
   generalize hT:a / 2 ^ (k+1)=T at*
   generalize hbt:a / 2 ^ k % 2=bt at*
   have hbt2:bt<2:=by omega
   have hr3l:(bn (2*(T % b)+bt)).length≤(bn b).length+1:=by
    rcases ZK ((bn b).length+1) (bn (2*(T % b)+bt)).length with h | h
    ·exfalso
     have h1:bn (4294967296*b)=0::bn b:=by
      have:=Fu (B:=4294967296) (by omega) (d:=0) (n:=b) (by omega) (by omega)
      simpa [bn] using this
     have h2:(bn (4294967296*b)).length<(bn (2*(T % b)+bt)).length:=by rw[h1];simpa using h
     have:=mL h2
     omega
    ·exact h
   obtain⟨c,hc1,hc2,hc3⟩:=CB (2*(T % b)+bt) b (by omega) (by omega)
   rw[hc1]
   simp only[ZZ]
   have hdm:=Nat.div_add_mod T b
   by_cases hge:b≤2*(T % b)+bt
   ·rw[bh (by omega)]
    have hlen2:(bn b).length≤(bn (2*(T % b)+bt)).length:=by
     rcases ZK (bn (2*(T % b)+bt)).length (bn b).length with h | h
     ·have:=mL h;omega
     ·exact h
    rw[AR _ _ (dM _) (dM _) (by omega) hlen2 (by rw[dK,dK];omega),dK,dK]
    simp only[ZZ]
    rw[dN (by simp only[XN,aag];omega)]
    have hy9:q[k / 32]? =some (q[k / 32]'(by omega)):=cu (by omega)
    have hy9d:=hq.get hy9
    have hy9v:=Ot hq hy9
    rw[hqv] at hy9v
    generalize q[k / 32]'(by omega)=y9 at hy9 hy9d hy9v
    obtain⟨m9,rfl⟩:∃ m:Nat,y9=m:=⟨y9.toNat,by omega⟩
    rw[hy9]
    simp only[ZZ]
    rw[dN (by simp only[aag];omega),dN (by simp only[XN,aag];omega)]
    have h9:m9=T / b*2 ^ (k+1) / 4294967296 ^ (k / 32) % 4294967296:=by
     have h2:(((T / b*2 ^ (k+1):Nat):Int) / 4294967296 ^ (k / 32) % 4294967296)=((T / b*2 ^ (k+1) / 4294967296 ^ (k / 32) % 4294967296:Nat):Int):=by simp
     rw[h2] at hy9v;omega
    have h3:(4294967296:Nat) ^ (k / 32)=2 ^ (32*(k / 32)):=by rw[Nat.pow_mul]
    have h9d:2 ^ (k % 32+1) ∣ m9:=by
     rw[h9,h3]
     have e1:T / b*2 ^ (k+1) / 2 ^ (32*(k / 32))=T / b*2 ^ (k % 32+1):=by
      rw[show k+1=(k % 32+1)+32*(k / 32) by omega,ZT, ← Nat.mul_assoc,Nat.mul_div_cancel _ (Nat.pow_pos (by omega))]
     rw[e1]
     have h4:(4294967296:Nat)=2 ^ (k % 32+1)*2 ^ (31 - k % 32):=by rw[← ZT];rw[show k % 32+1+(31 - k % 32)=32 by omega]
     exact (Nat.dvd_mod_iff (by rw[h4];exact Nat.dvd_mul_right _ _)).2 (Nat.dvd_mul_left _ _)
    have hsh:lW (1*2 ^ (min (k % 32) (IntKind.bits .u32)))=((2 ^ (k % 32):Nat):Int):=by
     rw[show IntKind.bits .u32=32 from rfl,ZN (by omega),Int.one_mul,show ((2:Int) ^ (k % 32))=((2 ^ (k % 32):Nat):Int) by simp]
     have:2 ^ (k % 32)≤2 ^ 31:=ZU (by omega) (by omega)
     exact zz (by omega) (by omega)
    have hp31:2 ^ (k % 32)≤2 ^ 31:=ZU (by omega) (by omega)
    obtain⟨e9,he9⟩:=h9d
    have hor2:lW (((BitVec.ofInt (IntKind.bits .u32) (m9:Int) ||| BitVec.ofInt (IntKind.bits .u32) ((2 ^ (k % 32):Nat):Int)).toNat:Int))=((m9+2 ^ (k % 32):Nat):Int):=by
     rw[PZ (IntKind.bits .u32) (by show m9<2 ^ 32;omega) (by show 2 ^ (k % 32)<2 ^ 32;omega)]
     have h2:m9 ||| 2 ^ (k % 32)=m9+2 ^ (k % 32):=by rw[he9,Q5 (Nat.pow_lt_pow_right (by omega) (by omega))]
     rw[h2]
     refine zz (by omega) ?_
     have h5:2 ^ (k % 32+1)*e9+2 ^ (k % 32)≤4294967295:=by
      have h4:(4294967296:Nat)=2 ^ (k % 32+1)*2 ^ (31 - k % 32):=by rw[← ZT];rw[show k % 32+1+(31 - k % 32)=32 by omega]
      have h6:e9<2 ^ (31 - k % 32):=by
       rcases ZK e9 (2 ^ (31 - k % 32)) with h | h
       ·exact h
       ·have:=Nat.mul_le_mul_left (2 ^ (k % 32+1)) h;omega
      have h7:=Nat.mul_le_mul_left (2 ^ (k % 32+1)) (show e9+1≤2 ^ (31 - k % 32) by omega)
      rw[Nat.mul_add,Nat.mul_one, ← h4] at h7
      have h8:2 ^ (k % 32+1)=2*2 ^ (k % 32):=by rw[ZV,ZP]
      omega
     omega
    have hz9:m9+2 ^ (k % 32)<4294967296:=by
     have:=zA (((BitVec.ofInt (IntKind.bits .u32) (m9:Int) ||| BitVec.ofInt (IntKind.bits .u32) ((2 ^ (k % 32):Nat):Int)).toNat:Int))
     rw[hor2] at this;omega
    rw[hsh,hor2,aV (by omega) (by omega), ← hag]
    have hTk:a / 2 ^ k / b=2*(T / b)+1∧a / 2 ^ k % b=2*(T % b)+bt - b:=by
     have h1:a / 2 ^ k=b*(2*(T / b)+1)+(2*(T % b)+bt - b):=by
      rw[htop,Nat.mul_add,Nat.mul_one,show b*(2*(T / b))=2*(b*(T / b)) by rw[Nat.mul_left_comm]];omega
     have h2:2*(T % b)+bt - b<b:=by have:=Nat.mod_lt T hb;omega
     rw[h1]
     exact⟨by rw[Nat.mul_add_div hb,Zy h2,Zx],by rw[Nat.mul_add_mod,ZO h2]⟩
    have hih:=ih k (q.set (k / 32) ((m9+2 ^ (k % 32):Nat):Int)) (by omega) (by omega) (hq.set ⟨Yd _,Int.ofNat_lt.2 hz9⟩) (by rw[YZ];exact hql) (by
     rw[Jv hy9,hqv,hTk.1]
     have e1:(((m9+2 ^ (k % 32):Nat):Int) - (m9:Int))=((2 ^ (k % 32):Nat):Int):=by omega
     have e2:((4294967296:Int) ^ (k / 32))=((2 ^ (32*(k / 32)):Nat):Int):=by rw[← h3];simp
     rw[e1,e2, ← Int.natCast_mul, ← ZT,show 32*(k / 32)+k % 32=k by omega, ← Int.natCast_add]
     congr 1
     rw[ZV,Zw,ZS,ZP (2 ^ k) 2, ← Nat.mul_assoc,ZP (T / b) 2])
    rw[hTk.2] at hih
    have e7:(((2*(T % b)+bt:Nat):Int) - (b:Int)).toNat=2*(T % b)+bt - b:=by omega
    rw[e7]
    exact hih
   ·rw[bw (by omega),aV (by omega) (by omega), ← hag]
    have hTk:a / 2 ^ k / b=2*(T / b)∧a / 2 ^ k % b=2*(T % b)+bt:=by
     have h1:a / 2 ^ k=b*(2*(T / b))+(2*(T % b)+bt):=by
      rw[htop,show b*(2*(T / b))=2*(b*(T / b)) by rw[Nat.mul_left_comm]];omega
     have h2:2*(T % b)+bt<b:=by omega
     rw[h1]
     exact⟨by rw[Nat.mul_add_div hb,Zy h2,Zx],by rw[Nat.mul_add_mod,ZO h2]⟩
    have hih:=ih k q (by omega) (by omega) hq hql (by
     rw[hqv,hTk.1]
     congr 1
     rw[ZV,ZP (2 ^ k) 2, ← Nat.mul_assoc,ZP (T / b) 2])
    rw[hTk.2] at hih
    exact hih
theorem Gx (n:Nat):v32 (List.replicate n 0)=0:=by
 induction n with
 | zero=>rfl
 | succ n ih=>rw[Zm,Cz,ih];rfl
theorem Xj (k:Nat):(4294967296:Nat) ^ k=2 ^ (32*k):=by rw[Nat.pow_mul]
theorem Ni (x y:Int) (hx:x.natAbs<4294967296 ^ 99) (hy:y.natAbs<4294967296 ^ 99) (h0:y≠0):uF (W x) (W y)=some (W ((x.natAbs / y.natAbs:Nat):Int),W ((x.natAbs % y.natAbs:Nat):Int),()):=by
 have hlx:=qV hx
 have hly:=qV hy
 unfold uF W
 dsimp only
 rw[dN (by simp only[XN,aag];omega)]
 have e1:w64 (w64 (((bn x.natAbs).length:Int)*32) - 1)=((32*(bn x.natAbs).length:Nat):Int) - 1:=by
  rw[aV (n:=((bn x.natAbs).length:Int)*32) (by omega) (by omega),aV (by omega) (by omega)];omega
 rw[e1]
 have hlt:x.natAbs<2 ^ (32*(bn x.natAbs).length):=by
  have:=E5 (dM x.natAbs)
  rw[dK] at this
  have h2:((4294967296:Int) ^ (bn x.natAbs).length)=((4294967296 ^ (bn x.natAbs).length:Nat):Int):=by simp
  rw[h2,Xj] at this
  omega
 have hz:x.natAbs / 2 ^ (32*(bn x.natAbs).length)=0:=Zy hlt
 obtain⟨q,h1,h2,h3,h4⟩:=PX x.natAbs y.natAbs (by omega) (decide (x<0)) (decide (y<0)) (by omega) (by omega) false [] false [] (List.length ([]:List Int)+(Int.natAbs (((32*(bn x.natAbs).length:Nat):Int) - 1)+(List.length (bn x.natAbs)+(List.length (bn y.natAbs)+(List.length ([]:List Int)+(List.length ([]:List Int)+(List.length ((List.replicate (Int.toNat ((List.length (bn x.natAbs):Int))) 0):List Int)+2)))))))
  (32*(bn x.natAbs).length) (List.replicate (Int.toNat ((List.length (bn x.natAbs):Int))) 0) (ZE _) (by omega) (fun d hd=>by rw[List.mem_replicate] at hd;omega) (by simp) (by rw[Gx,hz];simp)
 rw[hz,Nat.zero_mod,HT] at h1
 rw[h1,cR]
 simp only
 rw[jF _ _ h2 (by omega),jF _ _ (dM _) (by
  have:=qV (k:=99) (n:=x.natAbs % y.natAbs) (ZI (Nat.mod_le _ _) hx);omega),h4,dK]
 rfl
theorem LA (z:Int) (most:Int) (h0:0≤most) (h1:most≤9223372036854775807):wR (W z) most=some (if z.natAbs≤most then (z,true,()) else (0,false,())):=by
 unfold wR W
 dsimp only
 by_cases hl:(bn z.natAbs).length>2
 ·rw[bh (by omega)]
  have:¬ (z.natAbs:Int)≤most:=by
   intro h
   have:=qV (k:=2) (n:=z.natAbs) (by omega)
   omega
  rw[aam this]
 ·rw[bw (by omega)]
  have hdig:=dM z.natAbs
  have hval:=dK z.natAbs
  have hlen:(bn z.natAbs).length≤2:=by omega
  generalize hd:bn z.natAbs=d at*
  have loop:∃ n0,iter (X:=rJ) (β:=rI) (Int.natAbs most+(Int.natAbs (0:Int)+(List.length d+(Int.natAbs ((List.length d:Int))+(Int.natAbs (0:Int)+(List.length d+2)))))) (most,0,d,(List.length d:Int),0,decide (z<0),d,()) rH=some (Sum.inr (most,n0,decide (z<0),d,()))∧n0=(z.natAbs:Int):=by
   refine jE (Inv:=fun i x=>∃ u:Int,x=(most,u,d,(d.length:Int),(i:Int),decide (z<0),d,())∧u=v32 (d.take i)) d.length (fun r=>∃ n0,r=some (Sum.inr (most,n0,decide (z<0),d,()))∧n0=(z.natAbs:Int)) ?_ ?_ _ 0 _ ⟨0,rfl,by simp[zq]⟩ (by omega) (by omega)
   ·rintro i _ again hi ⟨u,rfl,hu⟩ ih
    unfold rH
    simp only
    have hy:d[i]? =some d[i]:=cu hi
    have hyd:=hdig.get hy
    have hts:=iF hy
    have hlt:=E5 (hdig.take i)
    have hnn:=yz (hdig.take i)
    rw[Y1,ZN (by omega)] at hlt
    generalize d[i]=y at hy hyd hts
    rw[bh (by omega),cK,hy,ZZ,aV (n:=32*(i:Int)) (by omega) (by omega),dN (by simp only[aag];omega),aV (n:=(i:Int)+1) (by omega) (by omega)]
    refine ih _ ⟨_,rfl, ?_⟩
    rw[hts]
    obtain⟨m,rfl⟩:∃ m:Nat,y=m:=⟨y.toNat,by omega⟩
    obtain⟨k,hk⟩:∃ k:Nat,v32 (d.take i)=k:=⟨(v32 (d.take i)).toNat,by omega⟩
    rw[hk] at hlt hu ⊢
    subst hu
    have hi2:i=0∨i=1:=by omega
    rcases hi2 with rfl | rfl
    ·simp only[Int.pow_zero] at hlt ⊢
     have:k=0:=by omega
     subst this
     have e:bO (bO (m:Int)*2 ^ (min (Int.toNat (32*((0:Nat):Int))) (IntKind.bits .u64)))=(m:Int):=by
      rw[dB (n:=(m:Int)) (by omega) (by omega)]
      simp
      exact dB (by omega) (by omega)
     rw[e,PZ (IntKind.bits .u64) (by decide) (by show m<2 ^ 64;omega),Nat.zero_or,dB (by omega) (by omega)]
     omega
    ·simp only[Int.pow_one] at hlt ⊢
     have e:bO (bO (m:Int)*2 ^ (min (Int.toNat (32*((1:Nat):Int))) (IntKind.bits .u64)))=((2 ^ 32*m:Nat):Int):=by
      rw[dB (n:=(m:Int)) (by omega) (by omega),show min (Int.toNat (32*((1:Nat):Int))) (IntKind.bits .u64)=32 from rfl]
      rw[dB (by omega) (by omega)]
      omega
     rw[e,PZ (IntKind.bits .u64) (by show k<2 ^ 64;omega) (by show 2 ^ 32*m<2 ^ 64;omega),Nat.or_comm,Q5 (by omega),dB (by omega) (by omega)]
     omega
   ·rintro _ again ⟨u,rfl,hu⟩
    unfold rH
    simp only
    rw[bw (by omega)]
    rw[Zt (ZE _),hval] at hu
    exact⟨u,rfl,hu⟩
  obtain⟨n0,h2,h3⟩:=loop
  rw[h2,cR]
  subst h3
  simp only
  rw[dB (n:=most) (by omega) (by omega)]
  by_cases hm:(z.natAbs:Int)≤most
  ·rw[bw (by omega),aan hm]
   by_cases hneg:z<0
   ·rw[aaf hneg]
    simp only[aac]
    rw[aV (n:=(z.natAbs:Int)) (by omega) (by omega),aV (by omega) (by omega)]
    congr 2;omega
   ·rw[aae hneg]
    simp only[aab]
    rw[aV (by omega) (by omega)]
    congr 2;omega
  ·rw[bh (by omega),aam hm]
end Go.Md
namespace Go.Md
open Go.Dn
def v6 (l:List Int):Int:=val 1000000 l
def dg6 (n:Nat):List Int:=dg 1000000 n
theorem VZ {k n:Nat} (h:n<1000000 ^ k):(dg6 n).length≤k:=Qz (B:=1000000) (by omega) k n h
def N (z:Int):D8:=(decide (z<0),dg6 z.natAbs)
end Go.Md
namespace Go.Md
open Go.Dn
def Big (D:Int) (l:List Int):Prop:=∀ d,d∈l→0≤d∧d≤D
theorem Big.get {D d:Int} {l:List Int} {i:Nat} (h:Big D l) (hi:l[i]? =some d):0≤d∧d≤D:=h d (Zd hi)
theorem Big.set {D E:Int} {l:List Int} (h:Big D l) (hDE:D≤E) {i:Nat} {z:Int} (hz:0≤z∧z≤E):Big E (l.set i z):=fun x hx=>by
 rcases Ze hx with hx | rfl
 ·have:=h x hx;omega
 ·exact hz
theorem Big.mono {D E:Int} {l:List Int} (h:Big D l) (hDE:D≤E):Big E l:=fun x hx=>by have:=h x hx;omega
end Go.Md
