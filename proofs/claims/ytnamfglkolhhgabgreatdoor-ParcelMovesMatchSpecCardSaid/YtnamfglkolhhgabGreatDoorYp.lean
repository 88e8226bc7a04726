/-
  Plain facts: loops, digits, whole numbers. No condition.
-/
import Derived.Test.YtnamfglkolhhgabGreatDoorYm
set_option linter.all false
namespace Go.Md
open Go.Dn
theorem bI {X β:Type} {f:X→(X→Option β)→Option β} (Inv:Nat→X→Prop) (N:Nat) (Q:Option β→Prop)
 (step:∀ i x again,i<N→Inv i x→(∀ y,Inv (i+1) y→Q (again y))→Q (f x again)) (fin:∀ x again,Inv N x→Q (f x again)):∀ n i x,Inv i x→i≤N→N - i<n→Q (iter n x f)
 | 0,_,_,_,_,hn=>absurd hn (abh _)
 | n+1,i,x,hx,hi,hn=>by
  show Q (f x _)
  by_cases h:i=N
  ·subst h;exact fin x _ hx
  ·exact step i x _ (by omega) hx fun y hy=>bI Inv N Q step fin n (i+1) y hy (by omega) (by omega)
theorem qs {X β:Type} {f:X→(X→Option β)→Option β} (Inv:X→Prop) (μ:X→Nat) (Q:X→Option β→Prop)
 (step:∀ x again,Inv x→(∀ y,Inv y→μ y<μ x→Q y (again y))→Q x (f x again)):∀ n x,Inv x→μ x<n→Q x (iter n x f)
 | 0,_,_,hn=>absurd hn (abh _)
 | n+1,x,hx,hn=>step x _ hx fun y hy h=>qs Inv μ Q step n y hy (by omega)
theorem VJ:maxLen=9223372036854775807:=rfl
theorem aQ {β:Type} {b:Bool} (h:b=true) (x:Option β):chk b x=x:=by rw[h];rfl
theorem kC {n k:Nat} (h:n*k≤140737488355328) (h2:n≤9223372036854775807):(decide (n*k≤140737488355328)&&decide (n≤maxLen))=true:=by
 simp only[Zd,abG];rw[VJ];omega
theorem aB {α:Type} {p:Prop} [Decidable p] (h:p) (x y:α):(bif decide p then x else y)=x:=by rw[abF h];rfl
theorem aF {α:Type} {p:Prop} [Decidable p] (h:¬p) (x y:α):(bif decide p then x else y)=y:=by rw[abD h];rfl
theorem gu {β γ:Type} (r:β) (f:γ→Option β):aR (some (Sum.inl r)) f=some r:=rfl
theorem aM {β γ:Type} (v:γ) (f:γ→Option β):aR (β:=β) (some (Sum.inr v)) f=f v:=rfl
theorem aJ {α:Type} {l:List α} {i:Nat} (h:i<l.length):l[i]? =some (l[i]'h):=Z4 h
theorem RE {k:IntKind} {n:Int} (h1:k.min≤n) (h2:n≤k.max):k.wrap n=n:=by
 cases k<;>simp[IntKind.wrap,IntKind.min,IntKind.max,IntKind.bits,IntKind.signed] at* <;>(try split)<;>omega
theorem aC {n:Int} (h1: -9223372036854775808≤n) (h2:n≤9223372036854775807):w64 n=n:=RE h1 h2
theorem cH {n:Int} (h1:0≤n) (h2:n≤18446744073709551615):bH n=n:=RE h1 h2
theorem Ng {n:Int} (h1:0≤n) (h2:n≤4294967295):qS n=n:=RE h1 h2
theorem A0 (n:Int):bH n=n % 18446744073709551616:=by simp[bH,IntKind.wrap,IntKind.bits,IntKind.signed]
theorem AZ (n:Int):qS n=n % 4294967296:=by simp[qS,IntKind.wrap,IntKind.bits,IntKind.signed]
theorem bq {α:Type} (l:List α) (i:Nat):idx l (i:Int)=l[i]? :=by simp[idx]
end Go.Md
namespace Go.Md
open Go.Dn
def val (B:Int):List Int→Int
 | []=>0
 | d::r=>d+B*val B r
def Dig (B:Int) (l:List Int):Prop:=∀ d,d∈l→0≤d∧d<B
theorem Dig.nil {B:Int}:Dig B []:=fun _ h=>by cases h
theorem Dig.cons {B d:Int} {l:List Int} (h:0≤d∧d<B) (hl:Dig B l):Dig B (d::l):=fun x hx=>by
 rcases aaw.1 hx with rfl | hx
 ·exact h
 ·exact hl x hx
theorem Dig.head {B d:Int} {l:List Int} (h:Dig B (d::l)):0≤d∧d<B:=h d (by simp)
theorem Dig.tail {B d:Int} {l:List Int} (h:Dig B (d::l)):Dig B l:=fun x hx=>h x (by simp[hx])
theorem Dig.append {B:Int} {l m:List Int} (h:Dig B l) (k:Dig B m):Dig B (l++m):=fun x hx=>by
 rcases aau.1 hx with hx | hx
 ·exact h x hx
 ·exact k x hx
theorem Dig.snoc {B d:Int} {l:List Int} (h:Dig B l) (hd:0≤d∧d<B):Dig B (l++[d]):=h.append (Dig.cons hd Dig.nil)
theorem Dig.take {B:Int} {l:List Int} (h:Dig B l) (n:Nat):Dig B (l.take n):=fun x hx=>h x (List.mem_of_mem_take hx)
theorem Dig.drop {B:Int} {l:List Int} (h:Dig B l) (n:Nat):Dig B (l.drop n):=fun x hx=>h x (aaD hx)
theorem Dig.get {B d:Int} {l:List Int} {i:Nat} (h:Dig B l) (hi:l[i]? =some d):0≤d∧d<B:=h d (aaC hi)
theorem Dig.left {B:Int} {l m:List Int} (h:Dig B (l++m)):Dig B l:=fun x hx=>h x (aav _ hx)
theorem Dig.right {B:Int} {l m:List Int} (h:Dig B (l++m)):Dig B m:=fun x hx=>h x (List.mem_append_right _ hx)
theorem zx {B:Int} (hB:0<B):∀ {l:List Int},Dig B l→0≤val B l
 | [],_=>Zt _
 | d::r,h=>by
  have h1:=h.head;have h2:=zx hB h.tail
  have:0≤B*val B r:=Zx (by omega) h2
  simp only[val];omega
theorem RB {B:Int} (hB:0<B):∀ {l:List Int},Dig B l→val B l<B ^ l.length
 | [],_=>by simp[val]
 | d::r,h=>by
  have h1:=h.head;have h2:=RB hB h.tail
  have h3:B*(val B r+1)≤B*B ^ r.length:=Zw h2 (by omega)
  rw[Zu,Zy] at h3
  simp only[val,aaj]
  rw[ZA,Int.mul_comm (B ^ r.length) B]
  omega
theorem zw {B:Int}:∀ (l m:List Int),val B (l++m)=val B l+B ^ l.length*val B m
 | [],m=>by simp[val]
 | d::r,m=>by
  simp only[ZL,val,zw r m,aaj,ZA]
  rw[Zu,Int.add_assoc]
  congr 2
  rw[Int.mul_comm (B ^ r.length) B,Zv]
theorem RC {B:Int} (l:List Int) (d:Int):val B (l++[d])=val B l+B ^ l.length*d:=by
 rw[zw];simp[val]
theorem D8 {B:Int} (hB:0<B):∀ n:Nat,0<B ^ n
 | 0=>by simp
 | n+1=>by rw[ZA];exact Int.mul_pos (D8 hB n) hB
def dgF (B:Nat):Nat→Nat→List Int
 | 0,_=>[]
 | f+1,n=>if n=0 then [] else ((n % B:Nat):Int)::dgF B f (n / B)
def dg (B n:Nat):List Int:=dgF B n n
theorem Vg {B:Nat} (hB:2≤B):∀ (f g n:Nat),n≤f→n≤g→dgF B f n=dgF B g n
 | 0,0,_,_,_=>rfl
 | 0,g+1,n,h,_=>by have:n=0:=by omega
                   subst this;simp[dgF]
 | f+1,0,n,_,h=>by have:n=0:=by omega
                   subst this;simp[dgF]
 | f+1,g+1,n,hf,hg=>by
  by_cases hn:n=0
  ·subst hn;simp[dgF]
  ·have:n / B<n:=aa2 (by omega) (by omega)
   simp only[dgF,hn,abM]
   rw[Vg hB f g (n / B) (by omega) (by omega)]
theorem zz (B:Nat):dg B 0=[]:=rfl
theorem xF {B:Nat} (hB:2≤B) {n:Nat} (hn:0<n):dg B n=((n % B:Nat):Int)::dg B (n / B):=by
 have:n / B<n:=aa2 hn (by omega)
 obtain⟨m,rfl⟩:∃ m,n=m+1:=⟨n - 1,by omega⟩
 unfold dg
 rw[dgF,abN (by omega),Vg hB m ((m+1) / B) _ (by omega) (aa7 _)]
theorem Vh {B:Nat} (hB:2≤B):∀ n,Dig B (dg B n):=by
 intro n
 induction n using Nat.strongRecOn with
 | _ n ih=>
  by_cases hn:n=0
  ·subst hn;exact Dig.nil
  ·rw[xF hB (by omega)]
   exact Dig.cons ⟨by omega,by have:=Nat.mod_lt n (show 0<B by omega);omega⟩ (ih _ (aa2 (by omega) (by omega)))
theorem Wg {B:Nat} (hB:2≤B):∀ n,val B (dg B n)=n:=by
 intro n
 induction n using Nat.strongRecOn with
 | _ n ih=>
  by_cases hn:n=0
  ·subst hn;rfl
  ·rw[xF hB (by omega),val,ih _ (aa2 (by omega) (by omega))]
   have:=Nat.mod_add_div n B
   omega
theorem Bk {B:Nat} (hB:2≤B) {n:Nat} (hn:0<n):dg B n≠[]:=by rw[xF hB hn];simp
theorem Nr {B:Nat} (hB:2≤B) {n:Nat}:dg B n=[]↔n=0:=by
 constructor
 ·intro h
  rcases aa4 n with h0 | h0
  ·exact h0
  ·exact absurd h (Bk hB h0)
 ·rintro rfl;rfl
theorem Kn {B:Nat} (hB:2≤B) {d n:Nat} (hd:d<B) (h:0<d+B*n):dg B (d+B*n)=(d:Int)::dg B n:=by
 rw[xF hB h]
 have h1:(d+B*n) % B=d:=by rw[Nat.add_mul_mod_self_left,Nat.mod_eq_of_lt hd]
 have h2:(d+B*n) / B=n:=by rw[Nat.add_mul_div_left _ _ (by omega),Nat.div_eq_of_lt hd];omega
 rw[h1,h2]
def trim:List Int→List Int
 | []=>[]
 | d::r=>match trim r with
  | []=>if d=0 then [] else [d]
  | t=>d::t
theorem M7 {B:Nat} (hB:2≤B):∀ {l:List Int},Dig B l→trim l=dg B (val B l).toNat
 | [],_=>rfl
 | d::r,h=>by
  have hr:=M7 hB h.tail
  have h1:=h.head
  have hB0:(0:Int)<B:=by omega
  have h2:=zx hB0 h.tail
  obtain⟨k,rfl⟩:∃ k:Nat,d=k:=⟨d.toNat,by omega⟩
  obtain⟨n,hn⟩:∃ n:Nat,val B r=n:=⟨(val B r).toNat,by omega⟩
  have hv:(val B ((k:Int)::r)).toNat=k+B*n:=by
   simp only[val,hn]
   rw[show ((B:Int)*(n:Int))=((B*n:Nat):Int) by simp]
   omega
  rw[hv]
  rw[hn] at hr
  simp only[ZD] at hr
  unfold trim
  rw[hr]
  rcases aa4 n with h0 | h0
  ·subst h0
   simp only[zz,Nat.mul_zero,aa1]
   by_cases hk:k=0
   ·subst hk;simp[zz]
   ·have:=Kn hB (d:=k) (n:=0) (by omega) (by omega)
    simp only[Nat.mul_zero,aa1,zz] at this
    rw[this];simp[hk]
  ·have hpos:0<k+B*n:=by have:=Nat.mul_pos (show 0<B by omega) h0;omega
   rw[Kn hB (by omega) hpos]
   cases hd:dg B n with
   | nil=>exact absurd hd (Bk hB h0)
   | cons a t=>rfl
theorem wH:∀ l:List Int,trim (l++[0])=trim l
 | []=>rfl
 | d::r=>by simp only[ZL,trim,wH r]
theorem AV {d:Int} (hd:d≠0):∀ l:List Int,trim (l++[d])=l++[d]
 | []=>by simp[trim,hd]
 | e::r=>by
  simp only[ZL,trim,AV hd r]
  cases h:r++[d] with
  | nil=>simp at h
  | cons a t=>rfl
theorem Qq {B:Nat} (hB:2≤B):∀ (k n:Nat),n<B ^ k→(dg B n).length≤k
 | 0,n,h=>by have:n=0:=by simpa using h
             subst this;simp[zz]
 | k+1,n,h=>by
  by_cases hn:n=0
  ·subst hn;simp[zz]
  ·rw[xF hB (by omega),aaj]
   have:=Qq hB k (n / B) (by rw[Nat.pow_succ] at h;exact Nat.div_lt_of_lt_mul (by rw[Nat.mul_comm];exact h))
   omega
theorem Ns {B:Nat} (hB:2≤B) {m n:Nat} (h:(dg B m).length<(dg B n).length):m<n:=by
 rcases aba m n with h1 | h1
 ·exact h1
 ·exfalso
  have h2:∀ a b:Nat,b≤a→(dg B b).length≤(dg B a).length:=by
   intro a
   induction a using Nat.strongRecOn with
   | _ a ih=>
    intro b hb
    by_cases h0:b=0
    ·subst h0;simp[zz]
    ·rw[xF hB (by omega),xF hB (show 0<a by omega),aaj,aaj]
     have:=ih (a / B) (aa2 (by omega) (by omega)) (b / B) (Nat.div_le_div_right hb)
     omega
  have:=h2 m n h1
  omega
end Go.Md
namespace Go.Md
open Go.Dn
def v32 (l:List Int):Int:=val 4294967296 l
theorem wI:v32 []=0:=rfl
theorem Ev (d:Int) (l:List Int):v32 (d::l)=d+4294967296*v32 l:=rfl
theorem Lp (l m:List Int):v32 (l++m)=v32 l+4294967296 ^ l.length*v32 m:=zw l m
theorem Ew (l:List Int) (d:Int):v32 (l++[d])=v32 l+4294967296 ^ l.length*d:=RC l d
abbrev Dg (l:List Int):Prop:=Dig 4294967296 l
def cg (n:Nat):List Int:=dg 4294967296 n
theorem Vf:cg 0=[]:=rfl
theorem Ik {n:Nat}:cg n=[]↔n=0:=Nr (B:=4294967296) (by omega)
theorem R7 {n:Nat} (h:0<n):cg n≠[]:=Bk (B:=4294967296) (by omega) h
theorem rR {m n:Nat} (h:(cg m).length<(cg n).length):m<n:=Ns (B:=4294967296) (by omega) h
theorem iD (n:Nat):Dg (cg n):=Vh (B:=4294967296) (by omega) n
theorem fL (n:Nat):v32 (cg n)=n:=Wg (B:=4294967296) (by omega) n
theorem Wd {l:List Int} (h:Dg l):trim l=cg (v32 l).toNat:=M7 (B:=4294967296) (by omega) h
theorem zu {l:List Int} (h:Dg l):0≤v32 l:=zx (by omega) h
theorem Lr {l:List Int} (h:Dg l):v32 l<4294967296 ^ l.length:=RB (by omega) h
theorem zX {k n:Nat} (h:n<4294967296 ^ k):(cg n).length≤k:=Qq (B:=4294967296) (by omega) k n h
theorem AY (l:List Int) (hl:l.length<1000000):oZ l=some (trim l,()):=by
 have key:∀ n (x:kM),x.1.length<1000000→x.1.length<n→iter n x tV=some (Sum.inr (trim x.1,())):=by
  refine qs (fun x:kM=>x.1.length<1000000) (fun x=>x.1.length) (fun x r=>r=some (Sum.inr (trim x.1,()))) ?_
  rintro⟨x,u⟩ again hx ih
  simp only at hx ih ⊢
  unfold tV
  simp only
  by_cases h0:x.length=0
  ·have:x=[]:=ZU h0
   subst this;simp[trim]
  ·have e1:w64 ((x.length:Int) - 1)=((x.length - 1:Nat):Int):=by rw[aC (by omega) (by omega)];omega
   have hsp:x=x.take (x.length - 1)++[x[x.length - 1]'(by omega)]:=by
    have:=aaU (x.length - 1) x
    rw[ZP (by omega),ZR (by omega)] at this
    exact this.symm
   rw[aB (by omega),e1,bq,aJ (by omega)]
   simp only[ZD,ZS,abo]
   by_cases hz:x[x.length - 1]'(by omega)=0
   ·rw[hz] at hsp ⊢
    rw[aQ (by simp only[Zd,abG];omega)]
    simp only[aby,abB]
    rw[ih (List.take (x.length - 1) x,()) (by simp only[aaq];omega) (by simp only[aaq];omega)]
    conv=>rhs;rw[hsp,wH]
   ·have:(x[x.length - 1]'(by omega)==0)=false:=by simp[hz]
    rw[this]
    simp only[abA]
    conv=>rhs;rw[hsp,AV hz]
    rw[← hsp]
 unfold oZ
 rw[key _ _ (by simpa using hl) (by simp)]
 rfl
def W (z:Int):bY:=(decide (z<0),cg z.natAbs)
theorem oW (b:Bool) (l:List Int) (hd:Dg l) (hl:l.length<1000000):kj b l=some (W (if b then -v32 l else v32 l),()):=by
 unfold kj
 rw[AY l hl,Wd hd]
 have h0:=zu hd
 simp only[abo]
 cases b with
 | false=>simp only[abA,W];rw[show (decide ((if false=true then -v32 l else v32 l)<0))=false by simp;omega];congr 4;simp;omega
 | true=>
  simp only[abB,W]
  congr 3
  ·by_cases hv:v32 l=0
   ·simp[hv,Vf]
   ·have hpos:0<v32 l:=by omega
    have:cg (v32 l).toNat≠[]:=R7 (by omega)
    have hlen:0<(cg (v32 l).toNat).length:=by
     cases h:cg (v32 l).toNat with
     | nil=>exact absurd h this
     | cons a t=>simp
    simp;omega
  ·congr 1;simp;omega
theorem Cm (n:Int) (h1: -9223372036854775808≤n) (h2:n≤9223372036854775807):wJ n=some (W n,()):=by
 unfold wJ
 have key:∀ u:Int,0≤u→u≤9223372036854775808→kj (decide (n<0)) [qS u,qS (Int.fdiv u (2 ^ 32))]=some (W (if decide (n<0) then -u else u),()):=by
  intro u hu0 hu1
  have e:Int.fdiv u (2 ^ 32)=u / 4294967296:=by rw[Zs _ (by omega)];rfl
  rw[e,AZ,AZ]
  have hd:Dg [u % 4294967296,u / 4294967296 % 4294967296]:=Dig.cons (by omega) (Dig.cons (by omega) Dig.nil)
  rw[oW _ _ hd (by simp)]
  have hv:v32 [u % 4294967296,u / 4294967296 % 4294967296]=u:=by simp only[Ev,wI];omega
  rw[hv]
 by_cases hn:n<0
 ·have e1:bH (0 - bH n)= -n:=by rw[A0,A0];omega
  rw[show decide (n<0)=true by simpa using hn] at key ⊢
  simp only[abB,aR]
  rw[e1]
  rw[show decide (n<0)=true by simpa using hn]
  rw[key (-n) (by omega) (by omega)]
  simp
 ·have e1:bH n=n:=cH (by omega) (by omega)
  rw[show decide (n<0)=false by simpa using hn] at key ⊢
  simp only[abA,aR]
  rw[e1]
  rw[show decide (n<0)=false by simpa using hn]
  rw[key n (by omega) (by omega)]
  simp
theorem jE {α:Type} {l:List α} {i:Nat} {y:α} (h:l[i]? =some y):l.take (i+1)=l.take i++[y]:=by
 rw[aaT,h];rfl
theorem fS {l:List Int} {i:Nat} {y:Int} (h:l[i]? =some y):v32 (l.take (i+1))=v32 (l.take i)+4294967296 ^ i*y:=by
 have hi:=(Z6.1 h).1
 rw[jE h,Ew,aaq,abf (by omega)]
theorem ET {l:List Int} {i:Nat} (h:l.length≤i):v32 (l.take (i+1))=v32 (l.take i):=by
 rw[aaX h,aaX (by omega)]
theorem Qu {u:Int}:Int.fdiv u (2 ^ 32)=u / 4294967296:=by rw[Zs _ (by omega)];rfl
theorem Nb (a b:List Int) (ha:Dg a) (hb:Dg b) (hla:a.length<100000) (hlb:b.length≤a.length) (n:Nat) (hn:a.length<n):
 ∃ out c,iter (X:=qR) (β:=qQ) n (b,[],0,a,(a.length:Int),0,()) qP=some (Sum.inr (out,c,()))∧Dg out∧0≤c∧c≤1∧out.length=a.length∧v32 out+4294967296 ^ a.length*c=v32 a+v32 b:=by
 refine bI (Inv:=fun i x=>∃ out c,x=(b,out,c,a,(a.length:Int),(i:Int),())∧Dg out∧0≤c∧c≤1∧out.length=i∧v32 out+4294967296 ^ i*c=v32 (a.take i)+v32 (b.take i)) a.length
  (fun r=>∃ out c,r=some (Sum.inr (out,c,()))∧Dg out∧0≤c∧c≤1∧out.length=a.length∧v32 out+4294967296 ^ a.length*c=v32 a+v32 b) ?_ ?_ n 0 _ ⟨[],0,rfl,Dig.nil,by omega,by omega,rfl,by simp[wI]⟩ (by omega) (by omega)
 ·rintro i _ again hi ⟨out,c,rfl,hd,hc0,hc1,hlen,hv⟩ ih
  unfold qP
  simp only
  have hy:a[i]? =some a[i]:=aJ hi
  have hyd:=ha.get hy
  generalize a[i]=y at hy hyd
  rw[aB (by omega),bq,hy,abo]
  have step:∀ z:Int,0≤z→z<4294967296→v32 (b.take (i+1))=v32 (b.take i)+4294967296 ^ i*z→
   ∃ out' c',again (b,out++[qS (bH (bH (c+bH y)+bH z))],Int.fdiv (bH (bH (c+bH y)+bH z)) (2 ^ 32),a,(a.length:Int),w64 ((i:Int)+1),())=some (Sum.inr (out',c',()))∧Dg out'∧0≤c'∧c'≤1∧out'.length=a.length∧v32 out'+4294967296 ^ a.length*c'=v32 a+v32 b:=by
   intro z hz0 hz1 hbz
   have e1:bH (bH (c+bH y)+bH z)=c+y+z:=by
    rw[cH (n:=y) (by omega) (by omega),cH (n:=z) (by omega) (by omega),cH (n:=c+y) (by omega) (by omega),cH (by omega) (by omega)]
   rw[e1,AZ,Qu,aC (by omega) (by omega)]
   refine ih _ ⟨_,_,rfl,hd.snoc (by omega),by omega,by omega,by simp[hlen], ?_⟩
   rw[Ew,hlen,fS hy,hbz,ZA]
   have hm:=Int.mul_ediv_add_emod (c+y+z) 4294967296
   have:(4294967296:Int) ^ i*((c+y+z) % 4294967296)+4294967296 ^ i*4294967296*((c+y+z) / 4294967296)=4294967296 ^ i*(c+y+z):=by
    rw[Zv, ← Zu];congr 1;omega
   rw[Zu,Zu] at this
   omega
  by_cases hib:i<b.length
  ·have hz:b[i]? =some b[i]:=aJ hib
   rw[aB (by omega),bq,hz,abo]
   simp only[aM]
   rw[aQ (kC (by omega) (by omega))]
   exact step b[i] (hb.get hz).1 (hb.get hz).2 (fS hz)
  ·rw[aF (by omega)]
   simp only[aM]
   rw[aQ (kC (by omega) (by omega))]
   have:=step 0 (by omega) (by omega) (by rw[ET (by omega)];omega)
   have e0:bH (bH (c+bH y)+bH 0)=bH (c+bH y):=by
    rw[cH (n:=y) (by omega) (by omega),cH (n:=(0:Int)) (by omega) (by omega),cH (n:=c+y) (by omega) (by omega),cH (by omega) (by omega)];omega
   rw[e0] at this
   exact this
 ·rintro _ again ⟨out,c,rfl,hd,hc0,hc1,hlen,hv⟩
  unfold qP
  simp only
  rw[aF (by omega)]
  rw[aaX (aa7 _),aaX hlb] at hv
  exact⟨out,c,rfl,hd,hc0,hc1,hlen,hv⟩
theorem RD (a b:List Int) (ha:Dg a) (hb:Dg b) (hla:a.length<100000) (hlb:b.length<100000):
 ∃ s,G7 a b=some (s,())∧Dg s∧v32 s=v32 a+v32 b∧s.length=max a.length b.length+1:=by
 have core:∀ (a b:List Int),Dg a→Dg b→a.length<100000→b.length≤a.length→∃ s,(chk (decide (0≤(0:Int))&&decide ((0:Int)≤(w64 (((List.length a:Int))+1)))&&decide ((4:Int)*(w64 (((List.length a:Int))+1))≤281474976710656)&&decide ((w64 (((List.length a:Int))+1))≤9223372036854775807)) <|
 aR (β:=((List Int)×Unit)) (γ:=((List Int)×Int×Unit)) (
  iter (X:=qR) (β:=qQ) (List.length b+(List.length ([]:List Int)+(Int.natAbs (0:Int)+(List.length a+(Int.natAbs ((List.length a:Int))+(Int.natAbs (0:Int)+2)))))) (b,[],0,a,(List.length a:Int),0,()) (qP)) fun v7=>
 chk (decide (((v7.1.length)+1)*4≤140737488355328)&&decide ((v7.1.length)+1≤maxLen)) <|
 some (v7.1++[(qS v7.2.1)],()))=some (s,())∧Dg s∧v32 s=v32 a+v32 b∧s.length=a.length+1:=by
  intro a b ha hb hla hlb
  obtain⟨out,c,h1,h2,h3,h4,h5,h6⟩:=Nb a b ha hb hla hlb _ (show a.length<List.length b+(List.length ([]:List Int)+(Int.natAbs (0:Int)+(List.length a+(Int.natAbs ((List.length a:Int))+(Int.natAbs (0:Int)+2))))) by omega)
  rw[h1,aM,aC (by omega) (by omega),aQ (by simp only[Zd,abG];omega)]
  simp only
  rw[aQ (kC (by omega) (by omega))]
  refine⟨_,rfl,h2.snoc ?_, ?_,by simp[h5]⟩
  ·rw[Ng (by omega) (by omega)];omega
  ·rw[Ng (by omega) (by omega),Ew,h5];exact h6
 unfold G7
 by_cases h:a.length<b.length
 ·rw[aB (by omega),aM]
  obtain⟨s,h1,h2,h3,h4⟩:=core b a hb ha hlb (by omega)
  exact⟨s,h1,h2,by omega,by omega⟩
 ·rw[aF (by omega),aM]
  obtain⟨s,h1,h2,h3,h4⟩:=core a b ha hb hla (by omega)
  exact⟨s,h1,h2,by omega,by omega⟩
theorem Ls (a b:List Int) (ha:Dg a) (hb:Dg b) (hla:a.length<100000) (hlb:b.length≤a.length) (n:Nat) (hn:a.length<n):
 ∃ out c,iter (X:=th) (β:=tg) n (b,[],0,a,(a.length:Int),0,()) td=some (Sum.inr (out,()))∧Dg out∧0≤c∧c≤1∧out.length=a.length∧v32 out=v32 a - v32 b+4294967296 ^ a.length*c:=by
 refine bI (Inv:=fun i x=>∃ out c,x=(b,out,c,a,(a.length:Int),(i:Int),())∧Dg out∧0≤c∧c≤1∧out.length=i∧v32 out=v32 (a.take i) - v32 (b.take i)+4294967296 ^ i*c) a.length
  (fun r=>∃ out c,r=some (Sum.inr (out,()))∧Dg out∧0≤c∧c≤1∧out.length=a.length∧v32 out=v32 a - v32 b+4294967296 ^ a.length*c) ?_ ?_ n 0 _ ⟨[],0,rfl,Dig.nil,by omega,by omega,rfl,by simp[wI]⟩ (by omega) (by omega)
 ·rintro i _ again hi ⟨out,c,rfl,hd,hc0,hc1,hlen,hv⟩ ih
  unfold td
  simp only
  have hy:a[i]? =some a[i]:=aJ hi
  have hyd:=ha.get hy
  generalize a[i]=y at hy hyd
  rw[aB (by omega),bq,hy,abo]
  have step:∀ z:Int,0≤z→z<4294967296→v32 (b.take (i+1))=v32 (b.take i)+4294967296 ^ i*z→∀ t:Int,t=(y - c - z) % 18446744073709551616→
   ∃ out' c',again (b,out++[qS t],bH (((BitVec.ofInt (IntKind.bits .u64) (Int.fdiv t (2 ^ 32)) &&& BitVec.ofInt (IntKind.bits .u64) 1).toNat:Int)),a,(a.length:Int),w64 ((i:Int)+1),())=some (Sum.inr (out',()))∧Dg out'∧0≤c'∧c'≤1∧out'.length=a.length∧v32 out'=v32 a - v32 b+4294967296 ^ a.length*c':=by
   intro z hz0 hz1 hbz t ht
   have e2:bH (((BitVec.ofInt (IntKind.bits .u64) (Int.fdiv t (2 ^ 32)) &&& BitVec.ofInt (IntKind.bits .u64) 1).toNat:Int))=(if y - c - z<0 then 1 else 0):=by
    rw[Qu]
    have h1:t / 4294967296=(if y - c - z<0 then 4294967295 else 0):=by split<;>omega
    rw[h1]
    split<;>rfl
   rw[e2,AZ,aC (by omega) (by omega)]
   refine ih _ ⟨_,_,rfl,hd.snoc (by omega),by split<;>omega,by split<;>omega,by simp[hlen], ?_⟩
   rw[Ew,hlen,fS hy,hbz,ZA,hv]
   have e3:t % 4294967296=y - c - z+4294967296*(if y - c - z<0 then 1 else 0):=by split<;>omega
   rw[e3]
   generalize (if y - c - z<0 then (1:Int) else 0)=q
   generalize (4294967296:Int) ^ i=p
   rw[Zu,Int.mul_sub,Int.mul_sub,Zv]
   omega
  by_cases hib:i<b.length
  ·have hz:b[i]? =some b[i]:=aJ hib
   rw[aB (by omega),bq,hz,abo]
   simp only[aM]
   rw[aQ (kC (by omega) (by omega))]
   have hz':=hb.get hz
   refine step b[i] hz'.1 hz'.2 (fS hz) _ ?_
   rw[cH (n:=y) (by omega) (by omega),cH (n:=b[i]) (by omega) (by omega),A0,A0]
   omega
  ·rw[aF (by omega)]
   simp only[aM]
   rw[aQ (kC (by omega) (by omega))]
   refine step 0 (by omega) (by omega) (by rw[ET (by omega)];omega) _ ?_
   rw[cH (n:=y) (by omega) (by omega),A0]
   omega
 ·rintro _ again ⟨out,c,rfl,hd,hc0,hc1,hlen,hv⟩
  unfold td
  simp only
  rw[aF (by omega)]
  rw[aaX (aa7 _),aaX hlb] at hv
  exact⟨out,c,rfl,hd,hc0,hc1,hlen,hv⟩
theorem EU (a b:List Int) (ha:Dg a) (hb:Dg b) (hla:a.length<100000) (hlb:b.length≤a.length) (hle:v32 b≤v32 a):vn a b=some (cg (v32 a - v32 b).toNat,()):=by
 unfold vn
 obtain⟨out,c,h1,h2,h3,h4,h5,h6⟩:=Ls a b ha hb hla hlb _ (show a.length<List.length b+(List.length ([]:List Int)+(Int.natAbs (0:Int)+(List.length a+(Int.natAbs ((List.length a:Int))+(Int.natAbs (0:Int)+2))))) by omega)
 rw[h1,aM,aQ (by simp only[Zd,abG];omega)]
 simp only
 rw[AY _ (by omega),Wd h2,abo]
 have h7:=Lr h2
 rw[h5] at h7
 have h8:c=0:=by
  rcases (show c=0∨c=1 by omega) with h | h
  ·exact h
  ·subst h;rw[Zy] at h6;omega
 subst h8
 rw[h6,Int.mul_zero,Int.add_zero]
theorem G6 (a b:List Int) (ha:Dg a) (hb:Dg b) (hab:a.length=b.length) (hla:a.length<100000):∀ (n k:Nat),k≤a.length→k<n→
 iter (X:=oF) (β:=oE) n (a,b,(k:Int) - 1,()) kL=if v32 (a.take k)<v32 (b.take k) then some (Sum.inl ((-1),())) else if v32 (b.take k)<v32 (a.take k) then some (Sum.inl (1,())) else some (Sum.inr ()):=by
 intro n
 induction n with
 | zero=>intro k _ h;omega
 | succ n ih=>
  intro k hk hn
  rw[br]
  generalize hag:(fun y=>iter n y kL)=again
  unfold kL
  simp only
  cases k with
  | zero=>simp[wI]
  | succ k=>
   rw[aB (by omega),show ((k+1:Nat):Int) - 1=(k:Int) by omega,bq,bq]
   have hx:a[k]? =some a[k]:=aJ (by omega)
   have hy:b[k]? =some b[k]:=aJ (by omega)
   rw[hx,hy]
   simp only[abo]
   rw[fS hx,fS hy]
   have h1:=Lr (ha.take k)
   have h2:=Lr (hb.take k)
   have h3:=zu (ha.take k)
   have h4:=zu (hb.take k)
   rw[aaq,abf (by omega)] at h1 h2
   generalize a[k]=x
   generalize b[k]=y
   by_cases hxy:x=y
   ·subst hxy
    simp only[abz,abA]
    rw[aC (by omega) (by omega), ← hag]
    show iter n (a,b,(k:Int) - 1,()) kL=_
    rw[ih k (by omega) (by omega)]
    congr 1
    ·simp
    ·congr 1;simp
   ·have hne:(x != y)=true:=by simp[hxy]
    rw[hne]
    simp only[abB]
    by_cases hlt:x<y
    ·rw[aB hlt,abO]
     have:(4294967296:Int) ^ k*(x+1)≤4294967296 ^ k*y:=Zw (by omega) (by omega)
     rw[Zu,Zy] at this
     omega
    ·rw[aF hlt]
     have:(4294967296:Int) ^ k*(y+1)≤4294967296 ^ k*x:=Zw (by omega) (by omega)
     rw[Zu,Zy] at this
     rw[abN (by omega),abO (by omega)]
theorem JD (m n:Nat) (hm:(cg m).length<100000) (hn:(cg n).length<100000):∃ c,tc (cg m) (cg n)=some (c,())∧(c<0↔m<n)∧(0<c↔n<m):=by
 unfold tc
 by_cases h:(cg m).length=(cg n).length
 ·have hb:(((cg m).length:Int) != ((cg n).length:Int))=false:=by simp[h]
  rw[hb]
  simp only[abA]
  by_cases h0:(cg m).length=0
  ·have hm0:m=0:=Ik.1 (ZU h0)
   have hn0:n=0:=Ik.1 (ZU (by omega))
   subst hm0;subst hn0
   exact⟨0,rfl,by simp,by simp⟩
  ·have e1:w64 (((cg m).length:Int) - 1)=(((cg m).length:Nat):Int) - 1:=aC (by omega) (by omega)
   rw[e1,G6 _ _ (iD m) (iD n) h hm _ _ (aa7 _) (by omega),aaX (aa7 _),aaX (by omega),fL,fL]
   by_cases h1:m<n
   ·rw[abO (by omega),gu];exact⟨-1,rfl,by omega,by omega⟩
   ·by_cases h2:n<m
    ·rw[abN (by omega),abO (by omega),gu];exact⟨1,rfl,by omega,by omega⟩
    ·rw[abN (by omega),abN (by omega),aM];exact⟨0,rfl,by omega,by omega⟩
 ·have hb:(((cg m).length:Int) != ((cg n).length:Int))=true:=by simp;omega
  rw[hb]
  simp only[abB]
  rw[aC (by omega) (by omega)]
  refine⟨_,rfl, ?_, ?_⟩
  ·constructor
   ·intro h1;exact rR (by omega)
   ·intro h1
    rcases abb h with h2 | h2
    ·omega
    ·have:=rR (m:=n) (n:=m) h2;omega
  ·constructor
   ·intro h1;exact rR (by omega)
   ·intro h1
    rcases abb h with h2 | h2
    ·have:=rR (m:=m) (n:=n) h2;omega
    ·omega
end Go.Md
namespace Go.Md
open Go.Dn
theorem W9 (w:Nat) {a b:Nat} (ha:a<2 ^ w) (hb:b<2 ^ w):((BitVec.ofInt w (a:Int) ||| BitVec.ofInt w (b:Int)).toNat:Int)=((a ||| b:Nat):Int):=by
 rw[BitVec.ofInt_natCast,BitVec.ofInt_natCast,BitVec.toNat_or,BitVec.toNat_ofNat,BitVec.toNat_ofNat,Nat.mod_eq_of_lt ha,Nat.mod_eq_of_lt hb]
theorem Yg {a k b:Nat} (hb:b<2 ^ k):(2 ^ k*a) ||| b=2 ^ k*a+b:=(Nat.two_pow_add_eq_or_of_lt hb a).symm
theorem TJ {l:List Int} {i:Nat} {y z:Int} (hi:l[i]? =some y):v32 (l.set i z)=v32 l+4294967296 ^ i*(z - y):=by
 have hlt:=(Z6.1 hi).1
 have e:l=l.take i++(y::l.drop (i+1)):=by
  have:=aaU i l
  rw[ZP hlt,(Z6.1 hi).2] at this
  exact this.symm
 have e2:l.set i z=l.take i++(z::l.drop (i+1)):=by rw[List.set_eq_take_append_cons_drop,abO hlt]
 rw[e2]
 conv=>rhs;rw[e]
 rw[Lp,Lp,Ev,Ev,aaq,abf (by omega)]
 have:(4294967296:Int) ^ i*(z+4294967296*v32 (l.drop (i+1)))=4294967296 ^ i*(y+4294967296*v32 (l.drop (i+1)))+4294967296 ^ i*(z - y):=by rw[← Zu];congr 1;omega
 omega
theorem Dig.set {B:Int} {l:List Int} (h:Dig B l) {i:Nat} {z:Int} (hz:0≤z∧z<B):Dig B (l.set i z):=fun x hx=>by
 rcases aaE hx with hx | rfl
 ·exact h x hx
 ·exact hz
theorem Pg (n:Nat):v32 (List.replicate n 0)=0:=by
 induction n with
 | zero=>rfl
 | succ n ih=>rw[aaO,Ev,ih];rfl
theorem JC (z:Int) (most:Int) (h0:0≤most) (h1:most≤9223372036854775807):s9 (W z) most=some (if z.natAbs≤most then (z,true,()) else (0,false,())):=by
 unfold s9 W
 dsimp only
 by_cases hl:(cg z.natAbs).length>2
 ·rw[aB (by omega)]
  have:¬ (z.natAbs:Int)≤most:=by
   intro h
   have:=zX (k:=2) (n:=z.natAbs) (by omega)
   omega
  rw[abN this]
 ·rw[aF (by omega)]
  have hdig:=iD z.natAbs
  have hval:=fL z.natAbs
  have hlen:(cg z.natAbs).length≤2:=by omega
  generalize hd:cg z.natAbs=d at*
  have loop:∃ n0,iter (X:=oD) (β:=oC) (Int.natAbs most+(Int.natAbs (0:Int)+(List.length d+(Int.natAbs ((List.length d:Int))+(Int.natAbs (0:Int)+(List.length d+2)))))) (most,0,d,(List.length d:Int),0,decide (z<0),d,()) oB=some (Sum.inr (most,n0,decide (z<0),d,()))∧n0=(z.natAbs:Int):=by
   refine bI (Inv:=fun i x=>∃ u:Int,x=(most,u,d,(d.length:Int),(i:Int),decide (z<0),d,())∧u=v32 (d.take i)) d.length (fun r=>∃ n0,r=some (Sum.inr (most,n0,decide (z<0),d,()))∧n0=(z.natAbs:Int)) ?_ ?_ _ 0 _ ⟨0,rfl,by simp[wI]⟩ (by omega) (by omega)
   ·rintro i _ again hi ⟨u,rfl,hu⟩ ih
    unfold oB
    simp only
    have hy:d[i]? =some d[i]:=aJ hi
    have hyd:=hdig.get hy
    have hts:=fS hy
    have hlt:=Lr (hdig.take i)
    have hnn:=zu (hdig.take i)
    rw[aaq,abf (by omega)] at hlt
    generalize d[i]=y at hy hyd hts
    rw[aB (by omega),bq,hy,abo,aC (n:=32*(i:Int)) (by omega) (by omega),aQ (by simp only[abG];omega),aC (n:=(i:Int)+1) (by omega) (by omega)]
    refine ih _ ⟨_,rfl, ?_⟩
    rw[hts]
    obtain⟨m,rfl⟩:∃ m:Nat,y=m:=⟨y.toNat,by omega⟩
    obtain⟨k,hk⟩:∃ k:Nat,v32 (d.take i)=k:=⟨(v32 (d.take i)).toNat,by omega⟩
    rw[hk] at hlt hu ⊢
    subst hu
    have hi2:i=0∨i=1:=by omega
    rcases hi2 with rfl | rfl
    ·simp only[Int.pow_zero] at hlt ⊢
     have:k=0:=by omega
     subst this
     have e:bH (bH (m:Int)*2 ^ (min (Int.toNat (32*((0:Nat):Int))) (IntKind.bits .u64)))=(m:Int):=by
      rw[cH (n:=(m:Int)) (by omega) (by omega)]
      simp
      exact cH (by omega) (by omega)
     rw[e,W9 (IntKind.bits .u64) (by decide) (by show m<2 ^ 64;omega),Nat.zero_or,cH (by omega) (by omega)]
     omega
    ·simp only[Int.pow_one] at hlt ⊢
     have e:bH (bH (m:Int)*2 ^ (min (Int.toNat (32*((1:Nat):Int))) (IntKind.bits .u64)))=((2 ^ 32*m:Nat):Int):=by
      rw[cH (n:=(m:Int)) (by omega) (by omega),show min (Int.toNat (32*((1:Nat):Int))) (IntKind.bits .u64)=32 from rfl]
      rw[cH (by omega) (by omega)]
      omega
     rw[e,W9 (IntKind.bits .u64) (by show k<2 ^ 64;omega) (by show 2 ^ 32*m<2 ^ 64;omega),Nat.or_comm,Yg (by omega),cH (by omega) (by omega)]
     omega
   ·rintro _ again ⟨u,rfl,hu⟩
    unfold oB
    simp only
    rw[aF (by omega)]
    rw[aaX (aa7 _),hval] at hu
    exact⟨u,rfl,hu⟩
  obtain⟨n0,h2,h3⟩:=loop
  rw[h2,aM]
  subst h3
  simp only
  rw[cH (n:=most) (by omega) (by omega)]
  by_cases hm:(z.natAbs:Int)≤most
  ·rw[aF (by omega),abO hm]
   by_cases hneg:z<0
   ·rw[abF hneg]
    simp only[abB]
    rw[aC (n:=(z.natAbs:Int)) (by omega) (by omega),aC (by omega) (by omega)]
    congr 2;omega
   ·rw[abD hneg]
    simp only[abA]
    rw[aC (by omega) (by omega)]
    congr 2;omega
  ·rw[aB (by omega),abN hm]
end Go.Md
namespace Go.Md
open Go.Dn
def v6 (l:List Int):Int:=val 1000000 l
theorem Dh:v6 []=0:=rfl
theorem Df (d:Int) (l:List Int):v6 (d::l)=d+1000000*v6 l:=rfl
theorem G5 (l m:List Int):v6 (l++m)=v6 l+1000000 ^ l.length*v6 m:=zw l m
theorem M9 (l:List Int) (d:Int):v6 (l++[d])=v6 l+1000000 ^ l.length*d:=RC l d
abbrev Dg6 (l:List Int):Prop:=Dig 1000000 l
def dg6 (n:Nat):List Int:=dg 1000000 n
theorem zY:dg6 0=[]:=rfl
theorem Km {n:Nat}:dg6 n=[]↔n=0:=Nr (B:=1000000) (by omega)
theorem DB {n:Nat} (h:0<n):dg6 n≠[]:=Bk (B:=1000000) (by omega) h
theorem uD {m n:Nat} (h:(dg6 m).length<(dg6 n).length):m<n:=Ns (B:=1000000) (by omega) h
theorem mY (n:Nat):Dg6 (dg6 n):=Vh (B:=1000000) (by omega) n
theorem s8 (n:Nat):v6 (dg6 n)=n:=Wg (B:=1000000) (by omega) n
theorem YG {l:List Int} (h:Dg6 l):trim l=dg6 (v6 l).toNat:=M7 (B:=1000000) (by omega) h
theorem kz {l:List Int} (h:Dg6 l):0≤v6 l:=zx (by omega) h
theorem Ey {l:List Int} (h:Dg6 l):v6 l<1000000 ^ l.length:=RB (by omega) h
theorem S8 {k n:Nat} (h:n<1000000 ^ k):(dg6 n).length≤k:=Qq (B:=1000000) (by omega) k n h
theorem kK {l:List Int} {i:Nat} {y:Int} (h:l[i]? =some y):v6 (l.take (i+1))=v6 (l.take i)+1000000 ^ i*y:=by
 have hi:=(Z6.1 h).1
 rw[jE h,M9,aaq,abf (by omega)]
theorem RA {l:List Int} {i:Nat} (h:l.length≤i):v6 (l.take (i+1))=v6 (l.take i):=by
 rw[aaX h,aaX (by omega)]
theorem Rz {l:List Int} {i:Nat} {y z:Int} (hi:l[i]? =some y):v6 (l.set i z)=v6 l+1000000 ^ i*(z - y):=by
 have hlt:=(Z6.1 hi).1
 have e:l=l.take i++(y::l.drop (i+1)):=by
  have:=aaU i l
  rw[ZP hlt,(Z6.1 hi).2] at this
  exact this.symm
 have e2:l.set i z=l.take i++(z::l.drop (i+1)):=by rw[List.set_eq_take_append_cons_drop,abO hlt]
 rw[e2]
 conv=>rhs;rw[e]
 rw[G5,G5,Df,Df,aaq,abf (by omega)]
 have:(1000000:Int) ^ i*(z+1000000*v6 (l.drop (i+1)))=1000000 ^ i*(y+1000000*v6 (l.drop (i+1)))+1000000 ^ i*(z - y):=by rw[← Zu];congr 1;omega
 omega
theorem O8 (b:Bool) (l:List Int) (hd:Dg6 l) (hl:l.length<1000000):mc (b,l)=some ((b&&decide (0<v6 l),dg6 (v6 l).toNat),()):=by
 have key:∀ n (x:oU),x.2.1.length<1000000→x.2.1.length<n→iter n x yz=some (Sum.inr (x.1,trim x.2.1,x.2.2.1,x.2.2.2.1,())):=by
  refine qs (fun x:oU=>x.2.1.length<1000000) (fun x=>x.2.1.length) (fun x r=>r=some (Sum.inr (x.1,trim x.2.1,x.2.2.1,x.2.2.2.1,()))) ?_
  rintro⟨c,x,g,m,u⟩ again hx ih
  simp only at hx ih ⊢
  unfold yz
  simp only
  by_cases h0:x.length=0
  ·have:x=[]:=ZU h0
   subst this;simp[trim]
  ·have e1:w64 ((x.length:Int) - 1)=((x.length - 1:Nat):Int):=by rw[aC (by omega) (by omega)];omega
   have hsp:x=x.take (x.length - 1)++[x[x.length - 1]'(by omega)]:=by
    have:=aaU (x.length - 1) x
    rw[ZP (by omega),ZR (by omega)] at this
    exact this.symm
   rw[aB (by omega),e1,bq,aJ (by omega)]
   simp only[ZD,ZS,abo]
   by_cases hz:x[x.length - 1]'(by omega)=0
   ·rw[hz] at hsp ⊢
    rw[aQ (by simp only[Zd,abG];omega)]
    simp only[aby,abB]
    rw[ih (c,List.take (x.length - 1) x,g,m,()) (by simp only[aaq];omega) (by simp only[aaq];omega)]
    conv=>rhs;rw[hsp,wH]
   ·have:(x[x.length - 1]'(by omega)==0)=false:=by simp[hz]
    rw[this]
    simp only[abA]
    conv=>rhs;rw[hsp,AV hz]
    rw[← hsp]
 unfold mc
 rw[key _ _ (by simpa using hl) (by simp),aM]
 simp only
 rw[YG hd]
 have h0:=kz hd
 by_cases hv:v6 l=0
 ·simp[hv,zY]
 ·have h1:dg6 (v6 l).toNat≠[]:=DB (by omega)
  have h2:(((dg6 (v6 l).toNat).length:Int)==0)=false:=by
   have:(dg6 (v6 l).toNat).length≠0:=fun h=>h1 (ZU h)
   simp;omega
  rw[h2]
  have h3:decide (0<v6 l)=true:=by simp;omega
  simp[h3]
def N (z:Int):au:=(decide (z<0),dg6 z.natAbs)
theorem MZ (b:Bool) (l:List Int) (hd:Dg6 l) (hl:l.length<1000000):mc (b,l)=some (N (if b then -v6 l else v6 l),()):=by
 rw[O8 b l hd hl]
 have h0:=kz hd
 cases b with
 | false=>
  simp only[N];congr 3
  ·simp;omega
  ·simp only[Zh,abM];congr 1;omega
 | true=>
  simp only[N];congr 3
  ·simp
  ·simp only[abP];congr 1;omega
theorem W6 (x:Int):(Int.tdiv x 1000000).natAbs=x.natAbs / 1000000:=by rw[Int.natAbs_tdiv];rfl
theorem W7 (x:Int):(Int.tmod x 1000000).natAbs=x.natAbs % 1000000:=by rw[Int.natAbs_tmod];rfl
theorem Xr {n:Nat} (h:0<n):dg6 n=((n % 1000000:Nat):Int)::dg6 (n / 1000000):=xF (B:=1000000) (by omega) h
theorem zj (ng g:Bool) (gl:List Int):∀ (k fuel:Nat) (out:List Int) (x:Int),out.length+k<1000→x.natAbs<1000000 ^ k→k<fuel→ -9223372036854775808<x→x≤9223372036854775807→
 iter (X:=As) (β:=Ar) fuel (x,g,gl,ng,out,()) tJ=some (Sum.inr (g,gl,ng,out++dg6 x.natAbs,()))
 | k,0,_,_,_,_,h,_,_=>by omega
 | 0,fuel+1,out,x,_,hx,_,_,_=>by
  have:x=0:=by simp at hx;omega
  subst this
  rw[br]
  unfold tJ
  simp[zY]
 | k+1,fuel+1,out,x,ho,hx,hf,h1,h2=>by
  rw[br]
  generalize hag:(fun y=>iter fuel y tJ)=again
  unfold tJ
  dsimp only
  by_cases h0:x=0
  ·subst h0;simp[zY]
  ·have hb:(x != 0)=true:=by simp[h0]
   rw[hb,abB,aQ (kC (by omega) (by omega)), ← hag]
   have e0:=W6 x
   have e1:=W7 x
   have e2:(if (w64 (0 - (Int.tmod x 1000000)))>(Int.tmod x 1000000) then (w64 (0 - (Int.tmod x 1000000))) else (Int.tmod x 1000000))=((x.natAbs % 1000000:Nat):Int):=by
    rw[aC (by omega) (by omega)]
    split<;>omega
   rw[e2,aC (by omega) (by omega)]
   show iter fuel _ tJ=_
   rw[zj ng g gl k fuel _ _ (by simp;omega) (by rw[e0];rw[Nat.pow_succ] at hx;exact Nat.div_lt_of_lt_mul (by rw[Nat.mul_comm];exact hx)) (by omega) (by omega) (by omega),e0,ZJ,List.singleton_append, ← Xr (by omega)]
theorem Aq (n:Int) (h1: -9223372036854775808<n) (h2:n≤9223372036854775807):Ed n=some (N n,()):=by
 unfold Ed
 have key:iter (X:=As) (β:=Ar) (Int.natAbs n+(List.length ([]:List Int)+(List.length ([]:List Int)+2))) (n,false,[],decide (n<0),[],()) tJ=some (Sum.inr (false,[],decide (n<0),[]++dg6 n.natAbs,())):=by
  by_cases h0:n.natAbs<1
  ·exact zj _ _ _ 0 _ _ _ (by simp) (by simpa using h0) (by omega) h1 h2
  ·by_cases h3:n.natAbs<1000000
   ·exact zj _ _ _ 1 _ _ _ (by simp) (by simpa using h3) (by omega) h1 h2
   ·exact zj _ _ _ 4 _ _ _ (by simp) (by omega) (by omega) h1 h2
 rw[key,aM]
 rfl
theorem O7 (a b:List Int) (ha:Dg6 a) (hb:Dg6 b) (hab:a.length=b.length) (hla:a.length<100000):∀ (n k:Nat),k≤a.length→k<n→
 ∃ c:Int,iter (X:=xb) (β:=w9) n (a,b,(k:Int) - 1,()) rY=(if v6 (a.take k)=v6 (b.take k) then some (Sum.inr ()) else some (Sum.inl (c,())))∧(c<0↔v6 (a.take k)<v6 (b.take k))∧(0<c↔v6 (b.take k)<v6 (a.take k)):=by
 intro n
 induction n with
 | zero=>intro k _ h;omega
 | succ n ih=>
  intro k hk hn
  rw[br]
  generalize hag:(fun y=>iter n y rY)=again
  unfold rY
  dsimp only
  cases k with
  | zero=>exact⟨0,by simp[Dh],by simp,by simp⟩
  | succ k=>
   rw[aB (by omega),show ((k+1:Nat):Int) - 1=(k:Int) by omega,bq,bq]
   have hx:a[k]? =some a[k]:=aJ (by omega)
   have hy:b[k]? =some b[k]:=aJ (by omega)
   rw[hx,hy]
   simp only[abo]
   rw[kK hx,kK hy]
   have h1:=Ey (ha.take k)
   have h2:=Ey (hb.take k)
   have h3:=kz (ha.take k)
   have h4:=kz (hb.take k)
   have h5:=ha.get hx
   have h6:=hb.get hy
   rw[aaq,abf (by omega)] at h1 h2
   generalize a[k]=x at*
   generalize b[k]=y at*
   by_cases hxy:x=y
   ·subst hxy
    simp only[abz,abA]
    rw[aC (by omega) (by omega), ← hag]
    obtain⟨c,h7,h8,h9⟩:=ih k (by omega) (by omega)
    refine⟨c, ?_,by omega,by omega⟩
    show iter n (a,b,(k:Int) - 1,()) rY=_
    rw[h7]
    congr 1
    simp
   ·have hne:(x != y)=true:=by simp[hxy]
    rw[hne]
    simp only[abB]
    rw[aC (by omega) (by omega)]
    refine⟨x - y, ?_, ?_, ?_⟩
    ·rw[abN]
     intro h
     rcases Int.lt_or_gt_of_ne hxy with hlt | hlt
     ·have:(1000000:Int) ^ k*(x+1)≤1000000 ^ k*y:=Zw (by omega) (by omega)
      rw[Zu,Zy] at this
      omega
     ·have:(1000000:Int) ^ k*(y+1)≤1000000 ^ k*x:=Zw (by omega) (by omega)
      rw[Zu,Zy] at this
      omega
    ·rcases Int.lt_or_gt_of_ne hxy with hlt | hlt
     ·have:(1000000:Int) ^ k*(x+1)≤1000000 ^ k*y:=Zw (by omega) (by omega)
      rw[Zu,Zy] at this
      omega
     ·have:(1000000:Int) ^ k*(y+1)≤1000000 ^ k*x:=Zw (by omega) (by omega)
      rw[Zu,Zy] at this
      omega
    ·rcases Int.lt_or_gt_of_ne hxy with hlt | hlt
     ·have:(1000000:Int) ^ k*(x+1)≤1000000 ^ k*y:=Zw (by omega) (by omega)
      rw[Zu,Zy] at this
      omega
     ·have:(1000000:Int) ^ k*(y+1)≤1000000 ^ k*x:=Zw (by omega) (by omega)
      rw[Zu,Zy] at this
      omega
theorem Iz (m n:Nat) (hm:(dg6 m).length<100000) (hn:(dg6 n).length<100000):∃ c,wh (dg6 m) (dg6 n)=some (c,())∧(c<0↔m<n)∧(0<c↔n<m):=by
 unfold wh
 by_cases h:(dg6 m).length=(dg6 n).length
 ·have hb:(((dg6 m).length:Int) != ((dg6 n).length:Int))=false:=by simp[h]
  rw[hb]
  simp only[abA]
  by_cases h0:(dg6 m).length=0
  ·have hm0:m=0:=Km.1 (ZU h0)
   have hn0:n=0:=Km.1 (ZU (by omega))
   subst hm0;subst hn0
   exact⟨0,rfl,by simp,by simp⟩
  ·have e1:w64 (((dg6 m).length:Int) - 1)=(((dg6 m).length:Nat):Int) - 1:=aC (by omega) (by omega)
   obtain⟨c,h1,h2,h3⟩:=O7 _ _ (mY m) (mY n) h hm ((dg6 m).length+((dg6 n).length+(Int.natAbs ((((dg6 m).length:Nat):Int) - 1)+2))) _ (aa7 _) (by omega)
   rw[aaX (aa7 _),aaX (by omega),s8,s8] at h1 h2 h3
   rw[e1,h1]
   by_cases hmn:(m:Int)=n
   ·rw[abO hmn,aM];exact⟨0,rfl,by omega,by omega⟩
   ·rw[abN hmn,gu];exact⟨c,rfl,by omega,by omega⟩
 ·have hb:(((dg6 m).length:Int) != ((dg6 n).length:Int))=true:=by simp;omega
  rw[hb]
  simp only[abB]
  rw[aC (by omega) (by omega)]
  refine⟨_,rfl, ?_, ?_⟩
  ·constructor
   ·intro h1;exact uD (by omega)
   ·intro h1
    rcases abb h with h2 | h2
    ·omega
    ·have:=uD (m:=n) (n:=m) h2;omega
  ·constructor
   ·intro h1;exact uD (by omega)
   ·intro h1
    rcases abb h with h2 | h2
    ·have:=uD (m:=m) (n:=n) h2;omega
    ·omega
theorem Cb (l:List Int) (i:Nat):we l (i:Int)=some ((l[i]?).getD 0,()):=by
 unfold we
 by_cases h:i<l.length
 ·rw[aB (by omega),bq,aJ h];rfl
 ·rw[aF (by omega),Z5 (by omega)];rfl
theorem AW (l:List Int) (i:Nat):v6 (l.take (i+1))=v6 (l.take i)+1000000 ^ i*(l[i]?).getD 0:=by
 by_cases h:i<l.length
 ·rw[kK (aJ h),aJ h];rfl
 ·rw[RA (by omega),Z5 (by omega)];simp
theorem I8 {l:List Int} (h:Dg6 l) (i:Nat):0≤(l[i]?).getD 0∧(l[i]?).getD 0<1000000:=by
 cases hi:l[i]? with
 | none=>simp
 | some d=>exact h.get hi
theorem SL (a b:List Int) (ha:Dg6 a) (hb:Dg6 b) (na nb g:Bool) (gl:List Int) (ng:Bool) (M:Nat) (hM:M<100000) (hlen:a.length<M∧b.length<M) (n:Nat) (hn:M<n):
 ∃ out,iter (X:=wY) (β:=wX) n (0,(M:Int),0,na,a,nb,b,g,gl,ng,[],()) wW=some (Sum.inr (g,gl,ng,out,()))∧Dg6 out∧out.length=M∧v6 out=v6 a+v6 b:=by
 refine bI (Inv:=fun i x=>∃ (out:List Int) (c:Int),x=(c,(M:Int),(i:Int),na,a,nb,b,g,gl,ng,out,())∧Dg6 out∧0≤c∧c≤1∧out.length=i∧v6 out+1000000 ^ i*c=v6 (a.take i)+v6 (b.take i)) M
  (fun r=>∃ out,r=some (Sum.inr (g,gl,ng,out,()))∧Dg6 out∧out.length=M∧v6 out=v6 a+v6 b) ?_ ?_ n 0 _ ⟨[],0,rfl,Dig.nil,by omega,by omega,rfl,by simp[Dh]⟩ (by omega) (by omega)
 ·rintro i _ again hi ⟨out,c,rfl,hd,hc0,hc1,hl,hv⟩ ih
  unfold wW
  dsimp only
  rw[aB (by omega),Cb,Cb]
  have h1:=I8 ha i
  have h2:=I8 hb i
  have h3:=AW a i
  have h4:=AW b i
  generalize (a[i]?).getD 0=x at*
  generalize (b[i]?).getD 0=y at*
  simp only[abo]
  rw[aQ (kC (by omega) (by omega)),aC (n:=x+y) (by omega) (by omega),aC (n:=x+y+c) (by omega) (by omega),aC (n:=(i:Int)+1) (by omega) (by omega),ZC (by omega),ZB (by omega),aC (by omega) (by omega)]
  refine ih _ ⟨_,_,rfl,hd.snoc (by omega),by omega,by omega,by simp[hl], ?_⟩
  rw[M9,hl,h3,h4,ZA]
  have:(1000000:Int) ^ i*((x+y+c) % 1000000)+1000000 ^ i*1000000*((x+y+c) / 1000000)=1000000 ^ i*(x+y+c):=by
   rw[Zv, ← Zu];congr 1;omega
  rw[Zu,Zu] at this
  omega
 ·rintro _ again ⟨out,c,rfl,hd,hc0,hc1,hl,hv⟩
  unfold wW
  dsimp only
  rw[aF (by omega)]
  rw[aaX (by omega),aaX (by omega)] at hv
  refine⟨out,rfl,hd,hl, ?_⟩
  have h1:=Ey ha
  have h2:=Ey hb
  have h3:=kz hd
  have hp:∀ l:Nat,l<M→(1000000:Int) ^ l*1000000≤1000000 ^ M:=by
   intro l hlM
   rw[← ZA]
   have h:=abj (n:=1000000) (by omega) (show l+1≤M by omega)
   have:=Int.ofNat_le.2 h
   simpa using this
  have h4:=hp _ hlen.1
  have h5:=hp _ hlen.2
  have h6:=kz ha
  have h7:=kz hb
  rcases (show c=0∨c=1 by omega) with h | h
  ·subst h;omega
  ·subst h;rw[Zy] at hv;omega
theorem SM (a b:List Int) (ha:Dg6 a) (hb:Dg6 b) (na nb g:Bool) (gl:List Int) (ng:Bool) (hla:a.length<100000) (hlb:b.length≤a.length) (hle:v6 b≤v6 a) (n:Nat) (hn:a.length<n):
 ∃ out,iter (X:=u7) (β:=u6) n (0,(a.length:Int),0,na,a,nb,b,g,gl,ng,[],()) u5=some (Sum.inr (g,gl,ng,out,()))∧Dg6 out∧out.length=a.length∧v6 out=v6 a - v6 b:=by
 refine bI (Inv:=fun i x=>∃ (out:List Int) (c:Int),x=(c,(a.length:Int),(i:Int),na,a,nb,b,g,gl,ng,out,())∧Dg6 out∧0≤c∧c≤1∧out.length=i∧v6 out=v6 (a.take i) - v6 (b.take i)+1000000 ^ i*c) a.length
  (fun r=>∃ out,r=some (Sum.inr (g,gl,ng,out,()))∧Dg6 out∧out.length=a.length∧v6 out=v6 a - v6 b) ?_ ?_ n 0 _ ⟨[],0,rfl,Dig.nil,by omega,by omega,rfl,by simp[Dh]⟩ (by omega) (by omega)
 ·rintro i _ again hi ⟨out,c,rfl,hd,hc0,hc1,hl,hv⟩ ih
  unfold u5
  dsimp only
  have hy:a[i]? =some a[i]:=aJ hi
  rw[aB (by omega),Cb,bq,hy]
  have h1:=ha.get hy
  have h2:=I8 hb i
  have h3:=kK hy
  have h4:=AW b i
  generalize a[i]=x at*
  generalize (b[i]?).getD 0=y at*
  simp only[abo]
  rw[aC (n:=x - y) (by omega) (by omega),aC (n:=x - y - c) (by omega) (by omega)]
  have fin:∀ q:Int,(q=0∨q=1)→0≤x - y - c+1000000*q→x - y - c+1000000*q<1000000→∃ out',again (q,(a.length:Int),w64 ((i:Int)+1),na,a,nb,b,g,gl,ng,out++[x - y - c+1000000*q],())=some (Sum.inr (g,gl,ng,out',()))∧Dg6 out'∧out'.length=a.length∧v6 out'=v6 a - v6 b:=by
   intro q hq hq0 hq1
   rw[aC (by omega) (by omega)]
   refine ih _ ⟨_,q,rfl,hd.snoc (by omega),by omega,by omega,by simp[hl], ?_⟩
   rw[M9,hl,h3,h4,ZA,hv]
   generalize (1000000:Int) ^ i=p
   rw[Zu,Int.mul_sub,Int.mul_sub,Zv]
   omega
  by_cases hneg:x - y - c<0
  ·rw[aB hneg,aM]
   dsimp only
   rw[aQ (kC (by omega) (by omega)),aC (n:=x - y - c+1000000) (by omega) (by omega)]
   exact fin 1 (.inr rfl) (by omega) (by omega)
  ·rw[aF hneg,aM]
   dsimp only
   rw[aQ (kC (by omega) (by omega))]
   have:=fin 0 (.inl rfl) (by omega) (by omega)
   rw[show x - y - c+1000000*0=x - y - c by omega] at this
   exact this
 ·rintro _ again ⟨out,c,rfl,hd,hc0,hc1,hl,hv⟩
  unfold u5
  dsimp only
  rw[aF (by omega)]
  rw[aaX (aa7 _),aaX hlb] at hv
  refine⟨out,rfl,hd,hl, ?_⟩
  have h3:=Ey hd
  rw[hl] at h3
  rcases (show c=0∨c=1 by omega) with h | h
  ·subst h;omega
  ·subst h;rw[Zy] at hv;omega
theorem T6 {m n:Nat} (h:m≤n):(dg6 m).length≤(dg6 n).length:=by
 rcases aba (dg6 n).length (dg6 m).length with h1 | h1
 ·have:=uD h1;omega
 ·exact h1
theorem Ee (x y:Int) (hx:(dg6 x.natAbs).length<10000) (hy:(dg6 y.natAbs).length<10000):C6 (N x) (N y)=some (N (x+y),()):=by
 unfold C6 N
 dsimp only
 have main:∀ (a b:Nat) (na nb:Bool),(dg6 a).length<10000→(dg6 b).length<10000→b≤a→aR (β:=(au×Unit)) (γ:=(Bool×(List Int)×Bool×(List Int)×Unit)) (
  iter (X:=u7) (β:=u6) (Int.natAbs (0:Int)+(Int.natAbs ((List.length (dg6 a):Int))+(Int.natAbs (0:Int)+(List.length (dg6 a)+(List.length (dg6 b)+(List.length ([]:List Int)+(List.length ([]:List Int)+2))))))) (0,(List.length (dg6 a):Int),0,na,dg6 a,nb,dg6 b,false,[],na,[],()) (u5)) (fun v8=>
  Option.bind (mc (v8.2.2.1,v8.2.2.2.1)) fun r9=>
  some (r9.1,()))=some (N (if na then -((a:Int) - b) else (a:Int) - b),()):=by
  intro a b na nb h1 h2 h3
  obtain⟨out,h4,h5,h6,h7⟩:=SM (dg6 a) (dg6 b) (mY a) (mY b) na nb false [] na (by omega) (T6 h3) (by rw[s8,s8];omega) (Int.natAbs (0:Int)+(Int.natAbs ((List.length (dg6 a):Int))+(Int.natAbs (0:Int)+(List.length (dg6 a)+(List.length (dg6 b)+(List.length ([]:List Int)+(List.length ([]:List Int)+2))))))) (by omega)
  rw[h4,aM]
  dsimp only
  rw[MZ _ _ h5 (by omega),h7,s8,s8]
  rfl
 by_cases hs:decide (x<0)=decide (y<0)
 ·rw[show (!(decide (x<0)==decide (y<0)))=false by simp[hs]]
  dsimp only[cond_false]
  have e1:w64 ((if ((dg6 y.natAbs).length:Int)>((dg6 x.natAbs).length:Int) then ((dg6 y.natAbs).length:Int) else ((dg6 x.natAbs).length:Int))+1)=((max (dg6 x.natAbs).length (dg6 y.natAbs).length+1:Nat):Int):=by
   split<;>rw[aC (by omega) (by omega)]<;>omega
  rw[e1]
  obtain⟨out,h4,h5,h6,h7⟩:=SL (dg6 x.natAbs) (dg6 y.natAbs) (mY _) (mY _) (decide (x<0)) (decide (y<0)) false [] (decide (x<0)) (max (dg6 x.natAbs).length (dg6 y.natAbs).length+1) (by omega) ⟨by omega,by omega⟩ (Int.natAbs (0:Int)+(Int.natAbs ((max (dg6 x.natAbs).length (dg6 y.natAbs).length+1:Nat):Int)+(Int.natAbs (0:Int)+(List.length (dg6 x.natAbs)+(List.length (dg6 y.natAbs)+(List.length ([]:List Int)+(List.length ([]:List Int)+2))))))) (by omega)
  rw[h4,aM]
  dsimp only
  rw[MZ _ _ h5 (by omega),h7,s8,s8]
  rw[abo]
  show some (N _,())=some (N (x+y),())
  congr 3
  simp only[abC] at hs
  by_cases h:x<0
  ·simp only[h,abI,abP];omega
  ·simp only[h,abH,Zh,abM];omega
 ·rw[show (!(decide (x<0)==decide (y<0)))=true by simp[hs]]
  rw[abB]
  obtain⟨c,h1,h2,h3⟩:=Iz x.natAbs y.natAbs (by omega) (by omega)
  rw[h1,abo]
  dsimp only
  simp only[abC] at hs
  by_cases hc:c<0
  ·rw[aB hc,aM]
   have:=main y.natAbs x.natAbs (decide (y<0)) (decide (x<0)) hy hx (by omega)
   dsimp only
   rw[this]
   congr 3
   by_cases h:y<0
   ·simp only[h,abI,abP];omega
   ·simp only[h,abH,Zh,abM];omega
  ·rw[aF hc,aM]
   have:=main x.natAbs y.natAbs (decide (x<0)) (decide (y<0)) hx hy (by omega)
   dsimp only
   rw[this]
   congr 3
   by_cases h:x<0
   ·simp only[h,abI,abP];omega
   ·simp only[h,abH,Zh,abM];omega
theorem SK (x:Int):Ec (N x)=some (N (-x),()):=by
 unfold Ec N
 dsimp only
 by_cases h0:x=0
 ·subst h0;simp[zY]
 ·have h1:dg6 x.natAbs≠[]:=DB (by omega)
  have h2:0<(dg6 x.natAbs).length:=by
   rcases aa4 (dg6 x.natAbs).length with h | h
   ·exact absurd (ZU h) h1
   ·exact h
  rw[aB (by omega),Int.natAbs_neg]
  congr 3
  by_cases h:x<0
  ·simp[h];omega
  ·simp[h];omega
theorem Uy (x:Int):HA (N x)=some (x.sign,()):=by
 unfold HA N
 dsimp only
 by_cases h0:x=0
 ·subst h0;simp[zY]
 ·have h1:dg6 x.natAbs≠[]:=DB (by omega)
  have h2:(((dg6 x.natAbs).length:Int)==0)=false:=by
   have:(dg6 x.natAbs).length≠0:=fun h=>h1 (ZU h)
   simp;omega
  rw[h2,abA]
  by_cases h:x<0
  ·simp[h,Int.sign_eq_neg_one_of_neg h]
  ·simp[h,Int.sign_eq_one_of_pos (show 0<x by omega)]
theorem V3 (x y:Int) (hx:(dg6 x.natAbs).length<10000) (hy:(dg6 y.natAbs).length<10000):GI (N x) (N y)=some ((x - y).sign,()):=by
 unfold GI
 rw[SK,abo]
 dsimp only
 rw[Ee x (-y) hx (by rw[Int.natAbs_neg];exact hy),abo]
 dsimp only
 rw[Uy,abo]
 rw[show x+ -y=x - y by omega]
end Go.Md
namespace Go.Md
open Go.Dn
def Big (D:Int) (l:List Int):Prop:=∀ d,d∈l→0≤d∧d≤D
theorem Big.get {D d:Int} {l:List Int} {i:Nat} (h:Big D l) (hi:l[i]? =some d):0≤d∧d≤D:=h d (aaC hi)
theorem Big.set {D E:Int} {l:List Int} (h:Big D l) (hDE:D≤E) {i:Nat} {z:Int} (hz:0≤z∧z≤E):Big E (l.set i z):=fun x hx=>by
 rcases aaE hx with hx | rfl
 ·have:=h x hx;omega
 ·exact hz
theorem Big.mono {D E:Int} {l:List Int} (h:Big D l) (hDE:D≤E):Big E l:=fun x hx=>by have:=h x hx;omega
theorem Ry {l:List Int} {j:Nat} {y z t:Int} (hj:l[j]? =some y) (hj1:l[j+1]? =some z):v6 (((l.set j t).set (j+1) (z+t / 1000000)).set j (t % 1000000))=v6 l+1000000 ^ j*(t - y):=by
 have hl:=(Z6.1 hj).1
 have h1:(l.set j t)[j+1]? =some z:=by rw[aaa (by omega)];exact hj1
 have h2:((l.set j t).set (j+1) (z+t / 1000000))[j]? =some t:=by rw[aaa (by omega),aab hl]
 rw[Rz h2,Rz h1,Rz hj,ZA]
 have e:(1000000:Int) ^ j*1000000*(z+t / 1000000 - z)+1000000 ^ j*(t % 1000000 - t)=0:=by
  rw[Zv, ← Zu]
  have:1000000*(z+t / 1000000 - z)+(t % 1000000 - t)=0:=by omega
  rw[this,Int.mul_zero]
 omega
theorem UI {α:Type} (l:List α) (j:Nat) (t z u:α):((l.set j t).set (j+1) z).set j u=(l.set j u).set (j+1) z:=by
 rw[aaP _ _ (show j+1≠j by omega),aaQ]
theorem MW (i:Nat) (x:Int) (g1:List Int) (g2 g3:Int) (b:List Int) (nb gb:Bool) (gl:List Int) (ng:Bool) (out:List Int) (D:Int) (hx:0≤x∧x<1000000) (hb:Dg6 b) (hbl:b.length<10000) (hil:i<10000) (ho:i+b.length<out.length) (hol:out.length<100000) (hD:Big D out) (hD0:0≤D) (hD1:D+3000000*b.length≤1000000000000) (n:Nat) (hn:b.length<n):
 ∃ out',iter (X:=sV) (β:=sS) n ((i:Int),x,g1,g2,g3,b,(b.length:Int),0,nb,b,gb,gl,ng,out,()) sQ=some (Sum.inr (g1,g2,g3,nb,b,gb,gl,ng,out',()))∧out'.length=out.length∧Big (D+3000000*b.length) out'∧v6 out'=v6 out+1000000 ^ i*(x*v6 b):=by
 refine bI (Inv:=fun k s=>∃ o:List Int,s=((i:Int),x,g1,g2,g3,b,(b.length:Int),(k:Int),nb,b,gb,gl,ng,o,())∧o.length=out.length∧Big (D+3000000*k) o∧v6 o=v6 out+1000000 ^ i*(x*v6 (b.take k))) b.length
  (fun r=>∃ out',r=some (Sum.inr (g1,g2,g3,nb,b,gb,gl,ng,out',()))∧out'.length=out.length∧Big (D+3000000*b.length) out'∧v6 out'=v6 out+1000000 ^ i*(x*v6 b)) ?_ ?_ n 0 _ ⟨out,rfl,rfl,hD.mono (by omega),by simp[Dh]⟩ (by omega) (by omega)
 ·rintro k _ again hk ⟨o,rfl,hol',hB,hv⟩ ih
  unfold sQ
  dsimp only
  have hy:b[k]? =some b[k]:=aJ hk
  have hyd:=hb.get hy
  have hts:=kK hy
  generalize b[k]=y at hy hyd hts
  have e1:w64 ((i:Int)+(k:Int))=((i+k:Nat):Int):=by rw[aC (by omega) (by omega)];omega
  have e2:w64 (((i+k:Nat):Int)+1)=((i+k+1:Nat):Int):=by rw[aC (by omega) (by omega)];omega
  rw[aB (by omega),bq,hy,abo,e1,e2]
  simp only[ZD]
  have h3:o[i+k]? =some o[i+k]:=aJ (by omega)
  have h4:o[i+k+1]? =some o[i+k+1]:=aJ (by omega)
  have d3:=hB.get h3
  have d4:=hB.get h4
  generalize o[i+k]'(by omega)=y3 at h3 d3
  generalize o[i+k+1]'(by omega)=y4 at h4 d4
  have hxy:0≤x*y∧x*y≤1000000000000:=by
   constructor
   ·exact Zx hx.1 hyd.1
   ·have h1:x*y≤1000000*y:=Int.mul_le_mul_of_nonneg_right (by omega) hyd.1
    omega
  have e3:w64 (y3+w64 (x*y))=y3+x*y:=by rw[aC (n:=x*y) (by omega) (by omega),aC (by omega) (by omega)]
  generalize hxy':x*y=xy at*
  have h5:(o.set (i+k) (y3+xy))[i+k+1]? =some y4:=by rw[aaa (by omega)];exact h4
  have h6:(o.set (i+k) (y3+xy))[i+k]? =some (y3+xy):=aab (by omega)
  have e4:w64 (y4+w64 (Int.tdiv (y3+xy) 1000000))=y4+(y3+xy) / 1000000:=by
   rw[ZB (by omega),aC (n:=(y3+xy) / 1000000) (by omega) (by omega),aC (by omega) (by omega)]
  have h7:((o.set (i+k) (y3+xy)).set (i+k+1) (y4+(y3+xy) / 1000000))[i+k]? =some (y3+xy):=by rw[aaa (by omega)];exact h6
  simp only[h3,abo,e3]
  simp only[h5,h6,abo]
  simp only[e4,h7,abo,aao]
  rw[aQ (by simp only[Zd,abG];omega),aQ (by simp only[Zd,abG];omega),aQ (by simp only[Zd,abG];omega),aQ (by simp only[Zd,abG];omega),aQ (by simp only[Zd,abG];omega),aQ (by simp only[Zd,abG];omega),aQ (by simp only[Zd,abG];omega)]
  rw[aC (n:=(k:Int)+1) (by omega) (by omega),ZC (by omega)]
  refine ih _ ⟨_,rfl,by simp only[aao];exact hol', ?_, ?_⟩
  ·rw[UI]
   exact Big.set (D:=D+3000000*((k+1:Nat):Int)) (Big.set hB (by omega) (by omega)) (Zt _) (by omega)
  ·rw[Ry h3 h4,hv,hts]
   have e5:x*(v6 (b.take k)+1000000 ^ k*y)=x*v6 (b.take k)+1000000 ^ k*xy:=by rw[Zu, ← hxy',Int.mul_left_comm]
   rw[e5,Zu,Zz,show y3+xy - y3=xy by omega,Zv (1000000 ^ i) (1000000 ^ k) xy]
   omega
 ·rintro _ again ⟨o,rfl,hol',hB,hv⟩
  unfold sQ
  dsimp only
  rw[aF (by omega)]
  rw[aaX (aa7 _)] at hv
  exact⟨o,rfl,hol',hB,hv⟩
theorem MX (a b:List Int) (ha:Dg6 a) (hb:Dg6 b) (hal:a.length<100) (hbl:b.length<1000) (nb gb:Bool) (gl:List Int) (ng:Bool) (out:List Int) (ho:a.length+b.length<out.length) (hol:out.length<100000) (hz:Big 0 out) (hv0:v6 out=0) (n:Nat) (hn:a.length<n):
 ∃ out',iter (X:=sU) (β:=sR) n (a,(a.length:Int),0,nb,b,gb,gl,ng,out,()) sP=some (Sum.inr (gb,gl,ng,out',()))∧out'.length=out.length∧Big 1000000000000 out'∧v6 out'=v6 a*v6 b:=by
 refine bI (Inv:=fun i s=>∃ o:List Int,s=(a,(a.length:Int),(i:Int),nb,b,gb,gl,ng,o,())∧o.length=out.length∧Big (3000000*b.length*i) o∧v6 o=v6 (a.take i)*v6 b) a.length
  (fun r=>∃ out',r=some (Sum.inr (gb,gl,ng,out',()))∧out'.length=out.length∧Big 1000000000000 out'∧v6 out'=v6 a*v6 b) ?_ ?_ n 0 _ ⟨out,rfl,rfl,hz.mono (by omega),by simp[Dh,hv0]⟩ (by omega) (by omega)
 ·rintro i _ again hi ⟨o,rfl,hl,hB,hv⟩ ih
  unfold sP
  dsimp only
  have hy:a[i]? =some a[i]:=aJ hi
  have hyd:=ha.get hy
  have hts:=kK hy
  generalize a[i]=y at hy hyd hts
  rw[aB (by omega),bq,hy,abo]
  have hbnd:3000000*(b.length:Int)*(i:Int)≤3000000*(b.length:Int)*99:=Zw (by omega) (by omega)
  have hnn:0≤3000000*(b.length:Int)*(i:Int):=Zx (by omega) (by omega)
  obtain⟨o',h1,h2,h3,h4⟩:=MW i y a (a.length:Int) (i:Int) b nb gb gl ng o (3000000*(b.length:Int)*(i:Int)) hyd hb (by omega) (by omega) (by omega) (by omega) hB hnn (by omega) (Int.natAbs (i:Int)+(Int.natAbs y+(List.length a+(Int.natAbs (a.length:Int)+(Int.natAbs (i:Int)+(List.length b+(Int.natAbs ((List.length b:Int))+(Int.natAbs (0:Int)+(List.length b+(List.length gl+(List.length o+2))))))))))) (by omega)
  rw[h1,aM]
  dsimp only
  rw[aC (by omega) (by omega)]
  refine ih _ ⟨o',rfl,by omega, ?_, ?_⟩
  ·have e:3000000*(b.length:Int)*(i:Int)+3000000*(b.length:Int)=3000000*(b.length:Int)*((i+1:Nat):Int):=by
    rw[show ((i+1:Nat):Int)=(i:Int)+1 by omega,Zu,Zy]
   rw[← e];exact h3
  ·rw[h4,hv,hts,Int.add_mul,Zv]
 ·rintro _ again ⟨o,rfl,hl,hB,hv⟩
  unfold sP
  dsimp only
  rw[aF (by omega)]
  rw[aaX (aa7 _)] at hv
  have hbnd:3000000*(b.length:Int)*(a.length:Int)≤3000000*(b.length:Int)*99:=Zw (by omega) (by omega)
  exact⟨o,rfl,hl,hB.mono (by omega),hv⟩
theorem O6 (l:List Int) (nb g:Bool) (gl:List Int) (M:Nat) (hM:M+1=l.length) (hl:l.length<10000) (hB:Big 1000000000000 l) (n:Nat) (hn:M<n):
 ∃ l',iter (X:=rB) (β:=rA) n ((M:Int),0,g,gl,nb,l,()) rz=some (Sum.inr (g,gl,nb,l',()))∧l'.length=l.length∧Dg6 (l'.take M)∧(∀ d,l'[M]? =some d→0≤d)∧v6 l'=v6 l:=by
 refine bI (Inv:=fun i s=>∃ o:List Int,s=((M:Int),(i:Int),g,gl,nb,o,())∧o.length=l.length∧Big (1000000000000+2000000*i) o∧Dg6 (o.take i)∧v6 o=v6 l) M
  (fun r=>∃ l',r=some (Sum.inr (g,gl,nb,l',()))∧l'.length=l.length∧Dg6 (l'.take M)∧(∀ d,l'[M]? =some d→0≤d)∧v6 l'=v6 l) ?_ ?_ n 0 _ ⟨l,rfl,rfl,hB.mono (by omega),by simpa using Dig.nil,rfl⟩ (by omega) (by omega)
 ·rintro i _ again hi ⟨o,rfl,hol,hBo,hd,hv⟩ ih
  unfold rz
  dsimp only
  have e2:w64 ((i:Int)+1)=((i+1:Nat):Int):=by rw[aC (by omega) (by omega)];omega
  have h3:o[i]? =some o[i]:=aJ (by omega)
  have h4:o[i+1]? =some o[i+1]:=aJ (by omega)
  have d3:=hBo.get h3
  have d4:=hBo.get h4
  generalize o[i]'(by omega)=y3 at h3 d3
  generalize o[i+1]'(by omega)=y4 at h4 d4
  rw[aB (by omega),e2]
  simp only[ZD,h3,h4,abo,aao]
  have e4:w64 (y4+w64 (Int.tdiv y3 1000000))=y4+y3 / 1000000:=by
   rw[ZB (by omega),aC (n:=y3 / 1000000) (by omega) (by omega),aC (by omega) (by omega)]
  have h7:(o.set (i+1) (y4+y3 / 1000000))[i]? =some y3:=by rw[aaa (by omega)];exact h3
  simp only[e4,h7,abo]
  rw[aQ (by simp only[Zd,abG];omega),aQ (by simp only[Zd,abG];omega),aQ (by simp only[Zd,abG];omega),aQ (by simp only[Zd,abG];omega),aQ (by simp only[Zd,abG];omega),ZC (by omega)]
  have hself:o.set i y3=o:=by
   apply ZV
   intro j
   by_cases hj:i=j
   ·subst hj;rw[aab (by omega),h3]
   ·rw[aaa hj]
  refine ih _ ⟨_,rfl,by simp only[aao];exact hol, ?_, ?_, ?_⟩
  ·exact Big.set (D:=1000000000000+2000000*((i+1:Nat):Int)) (Big.set hBo (by omega) (by omega)) (Zt _) (by omega)
  ·have hg:((o.set (i+1) (y4+y3 / 1000000)).set i (y3 % 1000000))[i]? =some (y3 % 1000000):=aab (by rw[aao];omega)
   rw[jE hg]
   refine Dig.snoc ?_ (by omega)
   rw[List.take_set_of_le (by omega),List.take_set_of_le (by omega)]
   exact hd
  ·have:=Ry h3 h4 (t:=y3)
   rw[hself] at this
   rw[this,hv];simp
 ·rintro _ again ⟨o,rfl,hol,hBo,hd,hv⟩
  unfold rz
  dsimp only
  rw[aF (by omega)]
  exact⟨o,rfl,hol,hd,fun d hd'=>(hBo.get hd').1,hv⟩
theorem yy (x y:Int) (hx:(dg6 x.natAbs).length<100) (hy:(dg6 y.natAbs).length<1000):ry (N x) (N y)=some (N (x*y),()):=by
 unfold ry N
 dsimp only
 have e1:w64 (w64 (((dg6 x.natAbs).length:Int)+((dg6 y.natAbs).length:Int))+1)=(((dg6 x.natAbs).length+(dg6 y.natAbs).length+1:Nat):Int):=by
  rw[aC (n:=((dg6 x.natAbs).length:Int)+((dg6 y.natAbs).length:Int)) (by omega) (by omega),aC (by omega) (by omega)];omega
 rw[e1,ZD,aQ (by simp only[Zd,abG];omega)]
 generalize hL:(dg6 x.natAbs).length+(dg6 y.natAbs).length+1=L at*
 have hz:Big 0 (List.replicate L 0):=fun d hd=>by rw[List.mem_replicate] at hd;omega
 have hv0:v6 (List.replicate L 0)=0:=by
  generalize L=k
  induction k with
  | zero=>rfl
  | succ k ih=>rw[aaO,Df,ih];rfl
 obtain⟨o,h1,h2,h3,h4⟩:=MX (dg6 x.natAbs) (dg6 y.natAbs) (mY _) (mY _) hx hy (decide (y<0)) false [] (!(decide (x<0)==decide (y<0))) (List.replicate L 0) (by rw[aan];omega) (by rw[aan];omega) hz hv0 (List.length (dg6 x.natAbs)+(Int.natAbs ((List.length (dg6 x.natAbs):Int))+(Int.natAbs (0:Int)+(List.length (dg6 y.natAbs)+(List.length ([]:List Int)+(List.length ((List.replicate L 0):List Int)+2)))))) (by omega)
 rw[h1,aM]
 dsimp only
 rw[aan] at h2
 have e2:w64 ((o.length:Int) - 1)=(((L - 1:Nat)):Int):=by rw[aC (by omega) (by omega)];omega
 rw[e2]
 obtain⟨o',g1,g2,g3,g4,g5⟩:=O6 o (!(decide (x<0)==decide (y<0))) false [] (L - 1) (by omega) (by omega) h3 (Int.natAbs ((((L - 1:Nat)):Int))+(Int.natAbs (0:Int)+(List.length ([]:List Int)+(List.length o+2)))) (by omega)
 rw[g1,aM]
 dsimp only
 have hm:v6 o'=(x.natAbs:Int)*(y.natAbs:Int):=by rw[g5,h4,s8,s8]
 have hlast:o'[L - 1]? =some (o'[L - 1]'(by omega)):=aJ (by omega)
 have hsplit:v6 o'=v6 (o'.take (L - 1))+1000000 ^ (L - 1)*(o'[L - 1]'(by omega)):=by
  rw[← kK hlast,aaX (by omega)]
 have hlt:v6 o'<1000000 ^ (L - 1):=by
  rw[hm]
  have a1:=Ey (mY x.natAbs)
  have a2:=Ey (mY y.natAbs)
  rw[s8] at a1 a2
  rw[show L - 1=(dg6 x.natAbs).length+(dg6 y.natAbs).length by omega,Zz]
  have b1:(x.natAbs:Int)*(y.natAbs:Int)≤(x.natAbs:Int)*1000000 ^ (dg6 y.natAbs).length:=Zw (by omega) (by omega)
  have b2:(x.natAbs:Int)*1000000 ^ (dg6 y.natAbs).length<1000000 ^ (dg6 x.natAbs).length*1000000 ^ (dg6 y.natAbs).length:=Int.mul_lt_mul_of_pos_right a1 (by omega)
  omega
 have hl0:=g4 _ hlast
 generalize o'[L - 1]'(by omega)=dl at hlast hsplit hl0
 have hdl:dl=0:=by
  have h5:=kz g3
  rcases (show dl=0∨1≤dl by omega) with h | h
  ·exact h
  ·have hp:(0:Int)<1000000 ^ (L - 1):=D8 (by omega) _
   have:(1000000:Int) ^ (L - 1)*1≤1000000 ^ (L - 1)*dl:=Zw h (by omega)
   omega
 have hdig:Dg6 o':=by
  have e:o'=o'.take (L - 1)++[dl]:=by
   rw[← jE hlast,aaX (by omega)]
  rw[e];exact g3.snoc (by omega)
 rw[MZ _ _ hdig (by omega),abo,hm]
 show some (N _,())=some (N (x*y),())
 congr 3
 by_cases hxn:x<0<;>by_cases hyn:y<0
 ·simp only[hxn,hyn,abI,aby,Zo,Zh,abM]
  rw[show (x.natAbs:Int)= -x by omega,show (y.natAbs:Int)= -y by omega,Int.neg_mul_neg]
 ·simp only[hxn,hyn,abI,abH,abP,show (!(true==false))=true from rfl]
  rw[show (x.natAbs:Int)= -x by omega,show (y.natAbs:Int)=y by omega,Int.neg_mul,Int.neg_neg]
 ·simp only[hxn,hyn,abI,abH,abP,show (!(false==true))=true from rfl]
  rw[show (x.natAbs:Int)=x by omega,show (y.natAbs:Int)= -y by omega,Int.mul_neg,Int.neg_neg]
 ·simp only[hxn,hyn,abH,aby,Zo,Zh,abM]
  rw[show (x.natAbs:Int)=x by omega,show (y.natAbs:Int)=y by omega]
end Go.Md
