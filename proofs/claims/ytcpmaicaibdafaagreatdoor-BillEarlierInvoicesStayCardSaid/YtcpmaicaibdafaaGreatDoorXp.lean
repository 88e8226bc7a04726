/-
  Plain facts: loops, digits, whole numbers. No condition.
-/
import Derived.Test.YtcpmaicaibdafaaGreatDoorXm
set_option linter.all false
namespace Go.Md
open Go.Dn
def GG {α σ β:Type} (g:σ→Nat→α→(σ→Option β)→Option β) (fin:σ→Option β):List α→Nat→σ→Option β
 | [],_,s=>fin s
 | y::r,i,s=>g s i y fun s'=>GG g fin r (i+1) s'
theorem QK {X α σ β:Type} {f:X→(X→Option β)→Option β} (mk:σ→Nat→X) (l:List α) (g:σ→Nat→α→(σ→Option β)→Option β) (fin:σ→Option β)
 (hstep:∀ s i y again,l[i]? =some y→f (mk s i) again=g s i y fun s'=>again (mk s' (i+1))) (hend:∀ s again,f (mk s l.length) again=fin s):
 ∀ (r:List α) (i:Nat) (s:σ) (n:Nat),l.drop i=r→i≤l.length→r.length<n→iter n (mk s i) f=GG g fin r i s
 | _,_,_,0,_,_,hn=>absurd hn (acd _)
 | [],i,s,n+1,hd,hi,_=>by
  have:i=l.length:=by
   have:=congrArg List.length hd
   simp at this;omega
  subst this
  exact hend s _
 | y::r,i,s,n+1,hd,hi,hn=>by
  have hy:l[i]? =some y:=by
   have:=congrArg (·[0]?) hd
   simpa [aaZ] using this
  have hr:l.drop (i+1)=r:=by
   have:=congrArg List.tail hd
   simpa [abI] using this
  have hi':i<l.length:=(aa2.1 hy).1
  show f (mk s i) _=_
  rw[hstep s i y _ hy]
  show g s i y _=g s i y _
  congr 1
  funext s'
  exact QK mk l g fin hstep hend r (i+1) s' n hr hi' (by simp at hn;omega)
theorem Nz {X α σ β:Type} {f:X→(X→Option β)→Option β} (mk:σ→Nat→X) (l:List α) (g:σ→Nat→α→(σ→Option β)→Option β) (fin:σ→Option β)
 (hstep:∀ s i y again,l[i]? =some y→f (mk s i) again=g s i y fun s'=>again (mk s' (i+1))) (hend:∀ s again,f (mk s l.length) again=fin s) (s:σ) (n:Nat) (hn:l.length<n):iter n (mk s 0) f=GG g fin l 0 s:=
 QK mk l g fin hstep hend l 0 s n rfl (acj _) hn
theorem dR {X β:Type} {f:X→(X→Option β)→Option β} (Inv:Nat→X→Prop) (N:Nat) (Q:Option β→Prop)
 (step:∀ i x again,i<N→Inv i x→(∀ y,Inv (i+1) y→Q (again y))→Q (f x again)) (fin:∀ x again,Inv N x→Q (f x again)):∀ n i x,Inv i x→i≤N→N - i<n→Q (iter n x f)
 | 0,_,_,_,_,hn=>absurd hn (acd _)
 | n+1,i,x,hx,hi,hn=>by
  show Q (f x _)
  by_cases h:i=N
  ·subst h;exact fin x _ hx
  ·exact step i x _ (by omega) hx fun y hy=>dR Inv N Q step fin n (i+1) y hy (by omega) (by omega)
theorem KV {X β:Type} {f:X→(X→Option β)→Option β} (Inv:X→Prop) (μ:X→Nat) (Q:X→Option β→Prop)
 (step:∀ x again,Inv x→(∀ y,Inv y→μ y<μ x→Q y (again y))→Q x (f x again)):∀ n x,Inv x→μ x<n→Q x (iter n x f)
 | 0,_,_,hn=>absurd hn (acd _)
 | n+1,x,hx,hn=>step x _ hx fun y hy h=>KV Inv μ Q step n y hy (by omega)
theorem Wv:maxLen=9223372036854775807:=rfl
theorem bq {β:Type} {b:Bool} (h:b=true) (x:Option β):chk b x=x:=by rw[h];rfl
theorem uW {n k:Nat} (h:n*k≤140737488355328) (h2:n≤9223372036854775807):(decide (n*k≤140737488355328)&&decide (n≤maxLen))=true:=by
 simp only[Z2,acG];rw[Wv];omega
theorem aC {α:Type} {p:Prop} [Decidable p] (h:p) (x y:α):(bif decide p then x else y)=x:=by rw[acF h];rfl
theorem aB {α:Type} {p:Prop} [Decidable p] (h:¬p) (x y:α):(bif decide p then x else y)=y:=by rw[acE h];rfl
theorem pJ {β γ:Type} (r:β) (f:γ→Option β):aM (some (Sum.inl r)) f=some r:=rfl
theorem bg {β γ:Type} (v:γ) (f:γ→Option β):aM (β:=β) (some (Sum.inr v)) f=f v:=rfl
theorem bu {α:Type} {l:List α} {i:Nat} (h:i<l.length):l[i]? =some (l[i]'h):=aa0 h
theorem Tm {k:IntKind} {n:Int} (h1:k.min≤n) (h2:n≤k.max):k.wrap n=n:=by
 cases k<;>simp[IntKind.wrap,IntKind.min,IntKind.max,IntKind.bits,IntKind.signed] at* <;>(try split)<;>omega
theorem au {n:Int} (h1: -9223372036854775808≤n) (h2:n≤9223372036854775807):w64 n=n:=Tm h1 h2
theorem dW {n:Int} (h1:0≤n) (h2:n≤18446744073709551615):bT n=n:=Tm h1 h2
theorem B6 {n:Int} (h1:0≤n) (h2:n≤4294967295):oB n=n:=Tm h1 h2
theorem FD (n:Int):bT n=n % 18446744073709551616:=by simp[bT,IntKind.wrap,IntKind.bits,IntKind.signed]
theorem B7 (n:Int):oB n=n % 4294967296:=by simp[oB,IntKind.wrap,IntKind.bits,IntKind.signed]
theorem bS {α:Type} (l:List α) (i:Nat):idx l (i:Int)=l[i]? :=by simp[idx]
end Go.Md
namespace Go.Md
open Go.Dn
def val (B:Int):List Int→Int
 | []=>0
 | d::r=>d+B*val B r
def Dig (B:Int) (l:List Int):Prop:=∀ d,d∈l→0≤d∧d<B
theorem Dig.nil {B:Int}:Dig B []:=fun _ h=>by cases h
theorem Dig.cons {B d:Int} {l:List Int} (h:0≤d∧d<B) (hl:Dig B l):Dig B (d::l):=fun x hx=>by
 rcases abp.1 hx with rfl | hx
 ·exact h
 ·exact hl x hx
theorem Dig.head {B d:Int} {l:List Int} (h:Dig B (d::l)):0≤d∧d<B:=h d (by simp)
theorem Dig.tail {B d:Int} {l:List Int} (h:Dig B (d::l)):Dig B l:=fun x hx=>h x (by simp[hx])
theorem Dig.append {B:Int} {l m:List Int} (h:Dig B l) (k:Dig B m):Dig B (l++m):=fun x hx=>by
 rcases abo.1 hx with hx | hx
 ·exact h x hx
 ·exact k x hx
theorem Dig.snoc {B d:Int} {l:List Int} (h:Dig B l) (hd:0≤d∧d<B):Dig B (l++[d]):=h.append (Dig.cons hd Dig.nil)
theorem Dig.take {B:Int} {l:List Int} (h:Dig B l) (n:Nat):Dig B (l.take n):=fun x hx=>h x (List.mem_of_mem_take hx)
theorem Dig.drop {B:Int} {l:List Int} (h:Dig B l) (n:Nat):Dig B (l.drop n):=fun x hx=>h x (List.mem_of_mem_drop hx)
theorem Dig.get {B d:Int} {l:List Int} {i:Nat} (h:Dig B l) (hi:l[i]? =some d):0≤d∧d<B:=h d (abw hi)
theorem Dig.left {B:Int} {l m:List Int} (h:Dig B (l++m)):Dig B l:=fun x hx=>h x (List.mem_append_left _ hx)
theorem Dig.right {B:Int} {l m:List Int} (h:Dig B (l++m)):Dig B m:=fun x hx=>h x (List.mem_append_right _ hx)
theorem Jk {B:Int} (hB:0<B):∀ {l:List Int},Dig B l→0≤val B l
 | [],_=>aak _
 | d::r,h=>by
  have h1:=h.head;have h2:=Jk hB h.tail
  have:0≤B*val B r:=aap (by omega) h2
  simp only[val];omega
theorem Xd {B:Int} (hB:0<B):∀ {l:List Int},Dig B l→val B l<B ^ l.length
 | [],_=>by simp[val]
 | d::r,h=>by
  have h1:=h.head;have h2:=Xd hB h.tail
  have h3:B*(val B r+1)≤B*B ^ r.length:=aan h2 (by omega)
  rw[aal,Int.mul_one] at h3
  simp only[val,abe]
  rw[aau,Int.mul_comm (B ^ r.length) B]
  omega
theorem Jj {B:Int}:∀ (l m:List Int),val B (l++m)=val B l+B ^ l.length*val B m
 | [],m=>by simp[val]
 | d::r,m=>by
  simp only[aaF,val,Jj r m,abe,aau]
  rw[aal,Int.add_assoc]
  congr 2
  rw[Int.mul_comm (B ^ r.length) B,aam]
theorem XR {B:Int} (l:List Int) (d:Int):val B (l++[d])=val B l+B ^ l.length*d:=by
 rw[Jj];simp[val]
theorem S5 {B:Int} (hB:0<B):∀ n:Nat,0<B ^ n
 | 0=>by simp
 | n+1=>by rw[aau];exact Int.mul_pos (S5 hB n) hB
def dgF (B:Nat):Nat→Nat→List Int
 | 0,_=>[]
 | f+1,n=>if n=0 then [] else ((n % B:Nat):Int)::dgF B f (n / B)
def dg (B n:Nat):List Int:=dgF B n n
theorem V5 {B:Nat} (hB:2≤B):∀ (f g n:Nat),n≤f→n≤g→dgF B f n=dgF B g n
 | 0,0,_,_,_=>rfl
 | 0,g+1,n,h,_=>by have:n=0:=by omega
                   subst this;simp[dgF]
 | f+1,0,n,_,h=>by have:n=0:=by omega
                   subst this;simp[dgF]
 | f+1,g+1,n,hf,hg=>by
  by_cases hn:n=0
  ·subst hn;simp[dgF]
  ·have:n / B<n:=abS (by omega) (by omega)
   simp only[dgF,hn,acL]
   rw[V5 hB f g (n / B) (by omega) (by omega)]
theorem Ek (B:Nat):dg B 0=[]:=rfl
theorem EU {B:Nat} (hB:2≤B) {n:Nat} (hn:0<n):dg B n=((n % B:Nat):Int)::dg B (n / B):=by
 have:n / B<n:=abS hn (by omega)
 obtain⟨m,rfl⟩:∃ m,n=m+1:=⟨n - 1,by omega⟩
 unfold dg
 rw[dgF,acM (by omega),V5 hB m ((m+1) / B) _ (by omega) (abX _)]
theorem YY {B:Nat} (hB:2≤B):∀ n,Dig B (dg B n):=by
 intro n
 induction n using Nat.strongRecOn with
 | _ n ih=>
  by_cases hn:n=0
  ·subst hn;exact Dig.nil
  ·rw[EU hB (by omega)]
   exact Dig.cons ⟨by omega,by have:=Nat.mod_lt n (show 0<B by omega);omega⟩ (ih _ (abS (by omega) (by omega)))
theorem Zk {B:Nat} (hB:2≤B):∀ n,val B (dg B n)=n:=by
 intro n
 induction n using Nat.strongRecOn with
 | _ n ih=>
  by_cases hn:n=0
  ·subst hn;rfl
  ·rw[EU hB (by omega),val,ih _ (abS (by omega) (by omega))]
   have:=Nat.mod_add_div n B
   omega
theorem KD {B:Nat} (hB:2≤B) {n:Nat} (hn:0<n):dg B n≠[]:=by rw[EU hB hn];simp
theorem V6 {B:Nat} (hB:2≤B) {n:Nat}:dg B n=[]↔n=0:=by
 constructor
 ·intro h
  rcases abU n with h0 | h0
  ·exact h0
  ·exact absurd h (KD hB h0)
 ·rintro rfl;rfl
theorem Iz {B:Nat} (hB:2≤B) {d n:Nat} (hd:d<B) (h:0<d+B*n):dg B (d+B*n)=(d:Int)::dg B n:=by
 rw[EU hB h]
 have h1:(d+B*n) % B=d:=by rw[Nat.add_mul_mod_self_left,ab7 hd]
 have h2:(d+B*n) / B=n:=by rw[Nat.add_mul_div_left _ _ (by omega),abR hd];omega
 rw[h1,h2]
def trim:List Int→List Int
 | []=>[]
 | d::r=>match trim r with
  | []=>if d=0 then [] else [d]
  | t=>d::t
theorem UE {B:Nat} (hB:2≤B):∀ {l:List Int},Dig B l→trim l=dg B (val B l).toNat
 | [],_=>rfl
 | d::r,h=>by
  have hr:=UE hB h.tail
  have h1:=h.head
  have hB0:(0:Int)<B:=by omega
  have h2:=Jk hB0 h.tail
  obtain⟨k,rfl⟩:∃ k:Nat,d=k:=⟨d.toNat,by omega⟩
  obtain⟨n,hn⟩:∃ n:Nat,val B r=n:=⟨(val B r).toNat,by omega⟩
  have hv:(val B ((k:Int)::r)).toNat=k+B*n:=by
   simp only[val,hn]
   rw[show ((B:Int)*(n:Int))=((B*n:Nat):Int) by simp]
   omega
  rw[hv]
  rw[hn] at hr
  simp only[aay] at hr
  unfold trim
  rw[hr]
  rcases abU n with h0 | h0
  ·subst h0
   simp only[Ek,Nat.mul_zero,abQ]
   by_cases hk:k=0
   ·subst hk;simp[Ek]
   ·have:=Iz hB (d:=k) (n:=0) (by omega) (by omega)
    simp only[Nat.mul_zero,abQ,Ek] at this
    rw[this];simp[hk]
  ·have hpos:0<k+B*n:=by have:=Nat.mul_pos (show 0<B by omega) h0;omega
   rw[Iz hB (by omega) hpos]
   cases hd:dg B n with
   | nil=>exact absurd hd (KD hB h0)
   | cons a t=>rfl
theorem Ik:∀ l:List Int,trim (l++[0])=trim l
 | []=>rfl
 | d::r=>by simp only[aaF,trim,Ik r]
theorem LF {d:Int} (hd:d≠0):∀ l:List Int,trim (l++[d])=l++[d]
 | []=>by simp[trim,hd]
 | e::r=>by
  simp only[aaF,trim,LF hd r]
  cases h:r++[d] with
  | nil=>simp at h
  | cons a t=>rfl
theorem Sg {B:Nat} (hB:2≤B):∀ (k n:Nat),n<B ^ k→(dg B n).length≤k
 | 0,n,h=>by have:n=0:=by simpa using h
             subst this;simp[Ek]
 | k+1,n,h=>by
  by_cases hn:n=0
  ·subst hn;simp[Ek]
  ·rw[EU hB (by omega),abe]
   have:=Sg hB k (n / B) (by rw[ach] at h;exact Nat.div_lt_of_lt_mul (by rw[ab8];exact h))
   omega
theorem V7 {B:Nat} (hB:2≤B) {m n:Nat} (h:(dg B m).length<(dg B n).length):m<n:=by
 rcases ab3 m n with h1 | h1
 ·exact h1
 ·exfalso
  have h2:∀ a b:Nat,b≤a→(dg B b).length≤(dg B a).length:=by
   intro a
   induction a using Nat.strongRecOn with
   | _ a ih=>
    intro b hb
    by_cases h0:b=0
    ·subst h0;simp[Ek]
    ·rw[EU hB (by omega),EU hB (show 0<a by omega),abe,abe]
     have:=ih (a / B) (abS (by omega) (by omega)) (b / B) (Nat.div_le_div_right hb)
     omega
  have:=h2 m n h1
  omega
end Go.Md
namespace Go.Md
open Go.Dn
def v32 (l:List Int):Int:=val 4294967296 l
theorem BZ:v32 []=0:=rfl
theorem FA (d:Int) (l:List Int):v32 (d::l)=d+4294967296*v32 l:=rfl
theorem Jh (l m:List Int):v32 (l++m)=v32 l+4294967296 ^ l.length*v32 m:=Jj l m
theorem Ji (l:List Int) (d:Int):v32 (l++[d])=v32 l+4294967296 ^ l.length*d:=XR l d
abbrev Dg (l:List Int):Prop:=Dig 4294967296 l
def br (n:Nat):List Int:=dg 4294967296 n
theorem KC:br 0=[]:=rfl
theorem MN {n:Nat}:br n=[]↔n=0:=V6 (B:=4294967296) (by omega)
theorem MO {n:Nat} (h:0<n):br n≠[]:=KD (B:=4294967296) (by omega) h
theorem pI {m n:Nat} (h:(br m).length<(br n).length):m<n:=V7 (B:=4294967296) (by omega) h
theorem fe (n:Nat):Dg (br n):=YY (B:=4294967296) (by omega) n
theorem eH (n:Nat):v32 (br n)=n:=Zk (B:=4294967296) (by omega) n
theorem Tk {l:List Int} (h:Dg l):trim l=br (v32 l).toNat:=UE (B:=4294967296) (by omega) h
theorem Ba {l:List Int} (h:Dg l):0≤v32 l:=Jk (by omega) h
theorem Il {l:List Int} (h:Dg l):v32 l<4294967296 ^ l.length:=Xd (by omega) h
theorem tZ {k n:Nat} (h:n<4294967296 ^ k):(br n).length≤k:=Sg (B:=4294967296) (by omega) k n h
theorem zD (l:List Int) (hl:l.length<1000000):qI l=some (trim l,()):=by
 have key:∀ n (x:qi),x.1.length<1000000→x.1.length<n→iter n x zC=some (Sum.inr (trim x.1,())):=by
  refine KV (fun x:qi=>x.1.length<1000000) (fun x=>x.1.length) (fun x r=>r=some (Sum.inr (trim x.1,()))) ?_
  rintro⟨x,u⟩ again hx ih
  simp only at hx ih ⊢
  unfold zC
  simp only
  by_cases h0:x.length=0
  ·have:x=[]:=aaO h0
   subst this;simp[trim]
  ·have e1:w64 ((x.length:Int) - 1)=((x.length - 1:Nat):Int):=by rw[au (by omega) (by omega)];omega
   have hsp:x=x.take (x.length - 1)++[x[x.length - 1]'(by omega)]:=by
    have:=abK (x.length - 1) x
    rw[aaJ (by omega),aaL (by omega)] at this
    exact this.symm
   rw[aC (by omega),e1,bS,bu (by omega)]
   simp only[aay,aaM,acn]
   by_cases hz:x[x.length - 1]'(by omega)=0
   ·rw[hz] at hsp ⊢
    rw[bq (by simp only[Z2,acG];omega)]
    simp only[beq_self_eq_true,acC]
    rw[ih (List.take (x.length - 1) x,()) (by simp only[abj];omega) (by simp only[abj];omega)]
    conv=>rhs;rw[hsp,Ik]
   ·have:(x[x.length - 1]'(by omega)==0)=false:=by simp[hz]
    rw[this]
    simp only[acB]
    conv=>rhs;rw[hsp,LF hz]
    rw[← hsp]
 unfold qI
 rw[key _ _ (by simpa using hl) (by simp)]
 rfl
def W (z:Int):aG:=(decide (z<0),br z.natAbs)
theorem mm (b:Bool) (l:List Int) (hd:Dg l) (hl:l.length<1000000):ko b l=some (W (if b then -v32 l else v32 l),()):=by
 unfold ko
 rw[zD l hl,Tk hd]
 have h0:=Ba hd
 simp only[acn]
 cases b with
 | false=>simp only[acB,W];rw[show (decide ((if false=true then -v32 l else v32 l)<0))=false by simp;omega];congr 4;simp;omega
 | true=>
  simp only[acC,W]
  congr 3
  ·by_cases hv:v32 l=0
   ·simp[hv,KC]
   ·have hpos:0<v32 l:=by omega
    have:br (v32 l).toNat≠[]:=MO (by omega)
    have hlen:0<(br (v32 l).toNat).length:=by
     cases h:br (v32 l).toNat with
     | nil=>exact absurd h this
     | cons a t=>simp
    simp;omega
  ·congr 1;simp;omega
theorem nr (n:Int) (h1: -9223372036854775808≤n) (h2:n≤9223372036854775807):mV n=some (W n,()):=by
 unfold mV
 have key:∀ u:Int,0≤u→u≤9223372036854775808→ko (decide (n<0)) [oB u,oB (Int.fdiv u (2 ^ 32))]=some (W (if decide (n<0) then -u else u),()):=by
  intro u hu0 hu1
  have e:Int.fdiv u (2 ^ 32)=u / 4294967296:=by rw[aaj _ (by omega)];rfl
  rw[e,B7,B7]
  have hd:Dg [u % 4294967296,u / 4294967296 % 4294967296]:=Dig.cons (by omega) (Dig.cons (by omega) Dig.nil)
  rw[mm _ _ hd (by simp)]
  have hv:v32 [u % 4294967296,u / 4294967296 % 4294967296]=u:=by simp only[FA,BZ];omega
  rw[hv]
 by_cases hn:n<0
 ·have e1:bT (0 - bT n)= -n:=by rw[FD,FD];omega
  rw[show decide (n<0)=true by simpa using hn] at key ⊢
  simp only[acC,aM]
  rw[e1]
  rw[show decide (n<0)=true by simpa using hn]
  rw[key (-n) (by omega) (by omega)]
  simp
 ·have e1:bT n=n:=dW (by omega) (by omega)
  rw[show decide (n<0)=false by simpa using hn] at key ⊢
  simp only[acB,aM]
  rw[e1]
  rw[show decide (n<0)=false by simpa using hn]
  rw[key n (by omega) (by omega)]
  simp
theorem sE (z:Int):kZ (W z)=some (z.sign,()):=by
 unfold kZ W
 by_cases h:z<0
 ·simp[h,aav h]
 ·by_cases h0:z=0
  ·subst h0;simp[KC]
  ·have hp:0<z:=by omega
   have:br z.natAbs≠[]:=MO (by omega)
   have hlen:((br z.natAbs).length:Int)≠0:=by
    intro h;exact this (aaO (by omega))
   have hb:(((br z.natAbs).length:Int)==0)=false:=by simpa using hlen
   simp only[h,acH,acB,hb,aaw hp]
theorem Zo {z:Int} {k:Nat} (h:z.natAbs<4294967296 ^ k):(W z).2.length≤k:=tZ h
theorem Df (z:Int) (h:z.natAbs<4294967296 ^ 99):rG (W z)=some (W (-z),()):=by
 unfold rG
 have hl:=Zo h
 rw[mm _ (W z).2 (fe _) (by omega)]
 simp only[acn]
 congr 3
 simp only[W,eH]
 by_cases hz:z<0
 ·simp[hz];omega
 ·simp[hz];omega
theorem zf {α:Type} {l:List α} {i:Nat} {y:α} (h:l[i]? =some y):l.take (i+1)=l.take i++[y]:=by
 rw[abJ,h];rfl
theorem kj {l:List Int} {i:Nat} {y:Int} (h:l[i]? =some y):v32 (l.take (i+1))=v32 (l.take i)+4294967296 ^ i*y:=by
 have hi:=(aa2.1 h).1
 rw[zf h,Ji,abj,ab6 (by omega)]
theorem JL {l:List Int} {i:Nat} (h:l.length≤i):v32 (l.take (i+1))=v32 (l.take i):=by
 rw[abM h,abM (by omega)]
theorem Sj {u:Int}:Int.fdiv u (2 ^ 32)=u / 4294967296:=by rw[aaj _ (by omega)];rfl
theorem Qu (a b:List Int) (ha:Dg a) (hb:Dg b) (hla:a.length<100000) (hlb:b.length≤a.length) (n:Nat) (hn:a.length<n):
 ∃ out c,iter (X:=w9) (β:=w8) n (b,[],0,a,(a.length:Int),0,()) w6=some (Sum.inr (out,c,()))∧Dg out∧0≤c∧c≤1∧out.length=a.length∧v32 out+4294967296 ^ a.length*c=v32 a+v32 b:=by
 refine dR (Inv:=fun i x=>∃ out c,x=(b,out,c,a,(a.length:Int),(i:Int),())∧Dg out∧0≤c∧c≤1∧out.length=i∧v32 out+4294967296 ^ i*c=v32 (a.take i)+v32 (b.take i)) a.length
  (fun r=>∃ out c,r=some (Sum.inr (out,c,()))∧Dg out∧0≤c∧c≤1∧out.length=a.length∧v32 out+4294967296 ^ a.length*c=v32 a+v32 b) ?_ ?_ n 0 _ ⟨[],0,rfl,Dig.nil,by omega,by omega,rfl,by simp[BZ]⟩ (by omega) (by omega)
 ·rintro i _ again hi ⟨out,c,rfl,hd,hc0,hc1,hlen,hv⟩ ih
  unfold w6
  simp only
  have hy:a[i]? =some a[i]:=bu hi
  have hyd:=ha.get hy
  generalize a[i]=y at hy hyd
  rw[aC (by omega),bS,hy,acn]
  have step:∀ z:Int,0≤z→z<4294967296→v32 (b.take (i+1))=v32 (b.take i)+4294967296 ^ i*z→
   ∃ out' c',again (b,out++[oB (bT (bT (c+bT y)+bT z))],Int.fdiv (bT (bT (c+bT y)+bT z)) (2 ^ 32),a,(a.length:Int),w64 ((i:Int)+1),())=some (Sum.inr (out',c',()))∧Dg out'∧0≤c'∧c'≤1∧out'.length=a.length∧v32 out'+4294967296 ^ a.length*c'=v32 a+v32 b:=by
   intro z hz0 hz1 hbz
   have e1:bT (bT (c+bT y)+bT z)=c+y+z:=by
    rw[dW (n:=y) (by omega) (by omega),dW (n:=z) (by omega) (by omega),dW (n:=c+y) (by omega) (by omega),dW (by omega) (by omega)]
   rw[e1,B7,Sj,au (by omega) (by omega)]
   refine ih _ ⟨_,_,rfl,hd.snoc (by omega),by omega,by omega,by simp[hlen], ?_⟩
   rw[Ji,hlen,kj hy,hbz,aau]
   have hm:=Int.mul_ediv_add_emod (c+y+z) 4294967296
   have:(4294967296:Int) ^ i*((c+y+z) % 4294967296)+4294967296 ^ i*4294967296*((c+y+z) / 4294967296)=4294967296 ^ i*(c+y+z):=by
    rw[aam, ← aal];congr 1;omega
   rw[aal,aal] at this
   omega
  by_cases hib:i<b.length
  ·have hz:b[i]? =some b[i]:=bu hib
   rw[aC (by omega),bS,hz,acn]
   simp only[bg]
   rw[bq (uW (by omega) (by omega))]
   exact step b[i] (hb.get hz).1 (hb.get hz).2 (kj hz)
  ·rw[aB (by omega)]
   simp only[bg]
   rw[bq (uW (by omega) (by omega))]
   have:=step 0 (by omega) (by omega) (by rw[JL (by omega)];omega)
   have e0:bT (bT (c+bT y)+bT 0)=bT (c+bT y):=by
    rw[dW (n:=y) (by omega) (by omega),dW (n:=(0:Int)) (by omega) (by omega),dW (n:=c+y) (by omega) (by omega),dW (by omega) (by omega)];omega
   rw[e0] at this
   exact this
 ·rintro _ again ⟨out,c,rfl,hd,hc0,hc1,hlen,hv⟩
  unfold w6
  simp only
  rw[aB (by omega)]
  rw[abM (abX _),abM hlb] at hv
  exact⟨out,c,rfl,hd,hc0,hc1,hlen,hv⟩
theorem LH (a b:List Int) (ha:Dg a) (hb:Dg b) (hla:a.length<100000) (hlb:b.length<100000):
 ∃ s,Dh a b=some (s,())∧Dg s∧v32 s=v32 a+v32 b∧s.length=max a.length b.length+1:=by
 have core:∀ (a b:List Int),Dg a→Dg b→a.length<100000→b.length≤a.length→∃ s,(chk (decide (0≤(0:Int))&&decide ((0:Int)≤(w64 (((List.length a:Int))+1)))&&decide ((4:Int)*(w64 (((List.length a:Int))+1))≤281474976710656)&&decide ((w64 (((List.length a:Int))+1))≤9223372036854775807)) <|
 aM (β:=((List Int)×Unit)) (γ:=((List Int)×Int×Unit)) (
  iter (X:=w9) (β:=w8) (List.length b+(List.length ([]:List Int)+(Int.natAbs (0:Int)+(List.length a+(Int.natAbs ((List.length a:Int))+(Int.natAbs (0:Int)+2)))))) (b,[],0,a,(List.length a:Int),0,()) (w6)) fun v7=>
 chk (decide (((v7.1.length)+1)*4≤140737488355328)&&decide ((v7.1.length)+1≤maxLen)) <|
 some (v7.1++[(oB v7.2.1)],()))=some (s,())∧Dg s∧v32 s=v32 a+v32 b∧s.length=a.length+1:=by
  intro a b ha hb hla hlb
  obtain⟨out,c,h1,h2,h3,h4,h5,h6⟩:=Qu a b ha hb hla hlb _ (show a.length<List.length b+(List.length ([]:List Int)+(Int.natAbs (0:Int)+(List.length a+(Int.natAbs ((List.length a:Int))+(Int.natAbs (0:Int)+2))))) by omega)
  rw[h1,bg,au (by omega) (by omega),bq (by simp only[Z2,acG];omega)]
  simp only
  rw[bq (uW (by omega) (by omega))]
  refine⟨_,rfl,h2.snoc ?_, ?_,by simp[h5]⟩
  ·rw[B6 (by omega) (by omega)];omega
  ·rw[B6 (by omega) (by omega),Ji,h5];exact h6
 unfold Dh
 by_cases h:a.length<b.length
 ·rw[aC (by omega),bg]
  obtain⟨s,h1,h2,h3,h4⟩:=core b a hb ha hlb (by omega)
  exact⟨s,h1,h2,by omega,by omega⟩
 ·rw[aB (by omega),bg]
  obtain⟨s,h1,h2,h3,h4⟩:=core a b ha hb hla (by omega)
  exact⟨s,h1,h2,by omega,by omega⟩
theorem Pv (a b:List Int) (ha:Dg a) (hb:Dg b) (hla:a.length<100000) (hlb:b.length≤a.length) (n:Nat) (hn:a.length<n):
 ∃ out c,iter (X:=zk) (β:=zj) n (b,[],0,a,(a.length:Int),0,()) zi=some (Sum.inr (out,()))∧Dg out∧0≤c∧c≤1∧out.length=a.length∧v32 out=v32 a - v32 b+4294967296 ^ a.length*c:=by
 refine dR (Inv:=fun i x=>∃ out c,x=(b,out,c,a,(a.length:Int),(i:Int),())∧Dg out∧0≤c∧c≤1∧out.length=i∧v32 out=v32 (a.take i) - v32 (b.take i)+4294967296 ^ i*c) a.length
  (fun r=>∃ out c,r=some (Sum.inr (out,()))∧Dg out∧0≤c∧c≤1∧out.length=a.length∧v32 out=v32 a - v32 b+4294967296 ^ a.length*c) ?_ ?_ n 0 _ ⟨[],0,rfl,Dig.nil,by omega,by omega,rfl,by simp[BZ]⟩ (by omega) (by omega)
 ·rintro i _ again hi ⟨out,c,rfl,hd,hc0,hc1,hlen,hv⟩ ih
  unfold zi
  simp only
  have hy:a[i]? =some a[i]:=bu hi
  have hyd:=ha.get hy
  generalize a[i]=y at hy hyd
  rw[aC (by omega),bS,hy,acn]
  have step:∀ z:Int,0≤z→z<4294967296→v32 (b.take (i+1))=v32 (b.take i)+4294967296 ^ i*z→∀ t:Int,t=(y - c - z) % 18446744073709551616→
   ∃ out' c',again (b,out++[oB t],bT (((BitVec.ofInt (IntKind.bits .u64) (Int.fdiv t (2 ^ 32)) &&& BitVec.ofInt (IntKind.bits .u64) 1).toNat:Int)),a,(a.length:Int),w64 ((i:Int)+1),())=some (Sum.inr (out',()))∧Dg out'∧0≤c'∧c'≤1∧out'.length=a.length∧v32 out'=v32 a - v32 b+4294967296 ^ a.length*c':=by
   intro z hz0 hz1 hbz t ht
   have e2:bT (((BitVec.ofInt (IntKind.bits .u64) (Int.fdiv t (2 ^ 32)) &&& BitVec.ofInt (IntKind.bits .u64) 1).toNat:Int))=(if y - c - z<0 then 1 else 0):=by
    rw[Sj]
    have h1:t / 4294967296=(if y - c - z<0 then 4294967295 else 0):=by split<;>omega
    rw[h1]
    split<;>rfl
   rw[e2,B7,au (by omega) (by omega)]
   refine ih _ ⟨_,_,rfl,hd.snoc (by omega),by split<;>omega,by split<;>omega,by simp[hlen], ?_⟩
   rw[Ji,hlen,kj hy,hbz,aau,hv]
   have e3:t % 4294967296=y - c - z+4294967296*(if y - c - z<0 then 1 else 0):=by split<;>omega
   rw[e3]
   generalize (if y - c - z<0 then (1:Int) else 0)=q
   generalize (4294967296:Int) ^ i=p
   rw[aal,Int.mul_sub,Int.mul_sub,aam]
   omega
  by_cases hib:i<b.length
  ·have hz:b[i]? =some b[i]:=bu hib
   rw[aC (by omega),bS,hz,acn]
   simp only[bg]
   rw[bq (uW (by omega) (by omega))]
   have hz':=hb.get hz
   refine step b[i] hz'.1 hz'.2 (kj hz) _ ?_
   rw[dW (n:=y) (by omega) (by omega),dW (n:=b[i]) (by omega) (by omega),FD,FD]
   omega
  ·rw[aB (by omega)]
   simp only[bg]
   rw[bq (uW (by omega) (by omega))]
   refine step 0 (by omega) (by omega) (by rw[JL (by omega)];omega) _ ?_
   rw[dW (n:=y) (by omega) (by omega),FD]
   omega
 ·rintro _ again ⟨out,c,rfl,hd,hc0,hc1,hlen,hv⟩
  unfold zi
  simp only
  rw[aB (by omega)]
  rw[abM (abX _),abM hlb] at hv
  exact⟨out,c,rfl,hd,hc0,hc1,hlen,hv⟩
theorem Dy (a b:List Int) (ha:Dg a) (hb:Dg b) (hla:a.length<100000) (hlb:b.length≤a.length) (hle:v32 b≤v32 a):xK a b=some (br (v32 a - v32 b).toNat,()):=by
 unfold xK
 obtain⟨out,c,h1,h2,h3,h4,h5,h6⟩:=Pv a b ha hb hla hlb _ (show a.length<List.length b+(List.length ([]:List Int)+(Int.natAbs (0:Int)+(List.length a+(Int.natAbs ((List.length a:Int))+(Int.natAbs (0:Int)+2))))) by omega)
 rw[h1,bg,bq (by simp only[Z2,acG];omega)]
 simp only
 rw[zD _ (by omega),Tk h2,acn]
 have h7:=Il h2
 rw[h5] at h7
 have h8:c=0:=by
  rcases (show c=0∨c=1 by omega) with h | h
  ·exact h
  ·subst h;rw[Int.mul_one] at h6;omega
 subst h8
 rw[h6,Int.mul_zero,Int.add_zero]
theorem LG (a b:List Int) (ha:Dg a) (hb:Dg b) (hab:a.length=b.length) (hla:a.length<100000):∀ (n k:Nat),k≤a.length→k<n→
 iter (X:=ux) (β:=uw) n (a,b,(k:Int) - 1,()) qh=if v32 (a.take k)<v32 (b.take k) then some (Sum.inl ((-1),())) else if v32 (b.take k)<v32 (a.take k) then some (Sum.inl (1,())) else some (Sum.inr ()):=by
 intro n
 induction n with
 | zero=>intro k _ h;omega
 | succ n ih=>
  intro k hk hn
  rw[bQ]
  generalize hag:(fun y=>iter n y qh)=again
  unfold qh
  simp only
  cases k with
  | zero=>simp[BZ]
  | succ k=>
   rw[aC (by omega),show ((k+1:Nat):Int) - 1=(k:Int) by omega,bS,bS]
   have hx:a[k]? =some a[k]:=bu (by omega)
   have hy:b[k]? =some b[k]:=bu (by omega)
   rw[hx,hy]
   simp only[acn]
   rw[kj hx,kj hy]
   have h1:=Il (ha.take k)
   have h2:=Il (hb.take k)
   have h3:=Ba (ha.take k)
   have h4:=Ba (hb.take k)
   rw[abj,ab6 (by omega)] at h1 h2
   generalize a[k]=x
   generalize b[k]=y
   by_cases hxy:x=y
   ·subst hxy
    simp only[acA,acB]
    rw[au (by omega) (by omega), ← hag]
    show iter n (a,b,(k:Int) - 1,()) qh=_
    rw[ih k (by omega) (by omega)]
    congr 1
    ·simp
    ·congr 1;simp
   ·have hne:(x != y)=true:=by simp[hxy]
    rw[hne]
    simp only[acC]
    by_cases hlt:x<y
    ·rw[aC hlt,acN]
     have:(4294967296:Int) ^ k*(x+1)≤4294967296 ^ k*y:=aan (by omega) (by omega)
     rw[aal,Int.mul_one] at this
     omega
    ·rw[aB hlt]
     have:(4294967296:Int) ^ k*(y+1)≤4294967296 ^ k*x:=aan (by omega) (by omega)
     rw[aal,Int.mul_one] at this
     rw[acM (by omega),acN (by omega)]
theorem FC (m n:Nat) (hm:(br m).length<100000) (hn:(br n).length<100000):∃ c,uT (br m) (br n)=some (c,())∧(c<0↔m<n)∧(0<c↔n<m):=by
 unfold uT
 by_cases h:(br m).length=(br n).length
 ·have hb:(((br m).length:Int) != ((br n).length:Int))=false:=by simp[h]
  rw[hb]
  simp only[acB]
  by_cases h0:(br m).length=0
  ·have hm0:m=0:=MN.1 (aaO h0)
   have hn0:n=0:=MN.1 (aaO (by omega))
   subst hm0;subst hn0
   exact⟨0,rfl,by simp,by simp⟩
  ·have e1:w64 (((br m).length:Int) - 1)=(((br m).length:Nat):Int) - 1:=au (by omega) (by omega)
   rw[e1,LG _ _ (fe m) (fe n) h hm _ _ (abX _) (by omega),abM (abX _),abM (by omega),eH,eH]
   by_cases h1:m<n
   ·rw[acN (by omega),pJ];exact⟨-1,rfl,by omega,by omega⟩
   ·by_cases h2:n<m
    ·rw[acM (by omega),acN (by omega),pJ];exact⟨1,rfl,by omega,by omega⟩
    ·rw[acM (by omega),acM (by omega),bg];exact⟨0,rfl,by omega,by omega⟩
 ·have hb:(((br m).length:Int) != ((br n).length:Int))=true:=by simp;omega
  rw[hb]
  simp only[acC]
  rw[au (by omega) (by omega)]
  refine⟨_,rfl, ?_, ?_⟩
  ·constructor
   ·intro h1;exact pI (by omega)
   ·intro h1
    rcases Nat.lt_or_gt_of_ne h with h2 | h2
    ·omega
    ·have:=pI (m:=n) (n:=m) h2;omega
  ·constructor
   ·intro h1;exact pI (by omega)
   ·intro h1
    rcases Nat.lt_or_gt_of_ne h with h2 | h2
    ·have:=pI (m:=m) (n:=n) h2;omega
    ·omega
end Go.Md
namespace Go.Md
open Go.Dn
theorem RN (w:Nat) {a b:Nat} (ha:a<2 ^ w) (hb:b<2 ^ w):((BitVec.ofInt w (a:Int) ||| BitVec.ofInt w (b:Int)).toNat:Int)=((a ||| b:Nat):Int):=by
 rw[ZY,ZY,BitVec.toNat_or,ZZ,ZZ,ab7 ha,ab7 hb]
theorem bv_and (w:Nat) {a b:Nat} (ha:a<2 ^ w) (hb:b<2 ^ w):((BitVec.ofInt w (a:Int) &&& BitVec.ofInt w (b:Int)).toNat:Int)=((a &&& b:Nat):Int):=by
 rw[ZY,ZY,BitVec.toNat_and,ZZ,ZZ,ab7 ha,ab7 hb]
theorem SR {a k b:Nat} (hb:b<2 ^ k):(2 ^ k*a) ||| b=2 ^ k*a+b:=(Nat.two_pow_add_eq_or_of_lt hb a).symm
theorem Qs {l:List Int} (h:Dg l) {i:Nat} {y:Int} (hi:l[i]? =some y):y=v32 l / 4294967296 ^ i % 4294967296:=by
 have hlt:=(aa2.1 hi).1
 have e:l=l.take i++(y::l.drop (i+1)):=by
  have:=abK i l
  rw[aaJ hlt,(aa2.1 hi).2] at this
  exact this.symm
 have hd:=h.get hi
 have h1:=Il (h.take i)
 have h2:=Ba (h.take i)
 rw[abj,ab6 (by omega)] at h1
 have hv:v32 l=v32 (l.take i)+4294967296 ^ i*(y+4294967296*v32 (l.drop (i+1))):=by
  conv=>lhs;rw[e]
  rw[Jh,abj,ab6 (by omega),FA]
 rw[hv,Int.add_mul_ediv_left _ _ (by omega),Int.ediv_eq_zero_of_lt h2 h1,Int.zero_add,Int.add_mul_emod_self_left,Int.emod_eq_of_lt hd.1 hd.2]
theorem Mc {l:List Int} {i:Nat} {y z:Int} (hi:l[i]? =some y):v32 (l.set i z)=v32 l+4294967296 ^ i*(z - y):=by
 have hlt:=(aa2.1 hi).1
 have e:l=l.take i++(y::l.drop (i+1)):=by
  have:=abK i l
  rw[aaJ hlt,(aa2.1 hi).2] at this
  exact this.symm
 have e2:l.set i z=l.take i++(z::l.drop (i+1)):=by rw[List.set_eq_take_append_cons_drop,acN hlt]
 rw[e2]
 conv=>rhs;rw[e]
 rw[Jh,Jh,FA,FA,abj,ab6 (by omega)]
 have:(4294967296:Int) ^ i*(z+4294967296*v32 (l.drop (i+1)))=4294967296 ^ i*(y+4294967296*v32 (l.drop (i+1)))+4294967296 ^ i*(z - y):=by rw[← aal];congr 1;omega
 omega
theorem Dig.set {B:Int} {l:List Int} (h:Dig B l) {i:Nat} {z:Int} (hz:0≤z∧z<B):Dig B (l.set i z):=fun x hx=>by
 rcases abx hx with hx | rfl
 ·exact h x hx
 ·exact hz
theorem Ya (y:Nat) (j:Nat) (hy:y<4294967296):oB (((BitVec.ofInt (IntKind.bits .u32) (Int.fdiv (y:Int) (2 ^ (min j (IntKind.bits .u32)))) &&& BitVec.ofInt (IntKind.bits .u32) 1).toNat:Int))=((y / 2 ^ (min j 32) % 2:Nat):Int):=by
 have e1:Int.fdiv (y:Int) (2 ^ (min j (IntKind.bits .u32)))=((y / 2 ^ (min j 32):Nat):Int):=by
  have:((2:Int) ^ (min j 32))=((2 ^ (min j 32):Nat):Int):=by simp
  rw[show IntKind.bits .u32=32 from rfl,this,aaj _ (aas _)]
  simp
 rw[e1]
 have hlt:y / 2 ^ (min j 32)<2 ^ 32:=ab1 (Nat.div_le_self _ _) hy
 have:=bv_and (IntKind.bits .u32) (a:=y / 2 ^ (min j 32)) (b:=1) hlt (by decide)
 rw[show ((1:Nat):Int)=1 from rfl] at this
 rw[this,Nat.and_one_is_mod]
 exact B6 (by omega) (by omega)
theorem RJ (a b:Nat) (hb:0<b) (na:Bool) (nb:Bool) (ha:(br a).length<1000) (hlb:(br b).length<1000) (g1:Bool) (g2:List Int) (g3:Bool) (g4:List Int):∀ (n k:Nat) (q:List Int),k≤32*(br a).length→k<n→Dg q→q.length=(br a).length→v32 q=((a / 2 ^ k / b*2 ^ k:Nat):Int)→
 ∃ q',iter (X:=vO) (β:=vN) n (br (a / 2 ^ k % b),(k:Int) - 1,na,br a,nb,br b,g1,g2,g3,g4,q,()) vM=some (Sum.inr (br (a % b),g1,g2,g3,g4,q',()))∧Dg q'∧q'.length=(br a).length∧v32 q'=((a / b:Nat):Int):=by
 intro n
 induction n with
 | zero=>intro k q _ h;omega
 | succ n ih=>
  intro k q hk hn hq hql hqv
  rw[bQ]
  generalize hag:(fun y=>iter n y vM)=again
  unfold vM
  simp only
  cases k with
  | zero=>
   rw[aB (by omega)]
   refine⟨q, ?_,hq,hql,by simpa using hqv⟩
   simp
  | succ k=>
   rw[aC (by omega),show ((k+1:Nat):Int) - 1=(k:Int) by omega]
   have hR:a / 2 ^ (k+1) % b<b:=Nat.mod_lt _ hb
   have hRl:(br (a / 2 ^ (k+1) % b)).length≤(br b).length:=by
    rcases ab3 (br b).length (br (a / 2 ^ (k+1) % b)).length with h | h
    ·have:=pI h;omega
    ·exact h
   obtain⟨s,hs1,hs2,hs3,hs4⟩:=LH _ _ (fe (a / 2 ^ (k+1) % b)) (fe (a / 2 ^ (k+1) % b)) (by omega) (by omega)
   rw[hs1]
   simp only[acn]
   have hs0:s[0]? =some s[0]:=bu (by omega)
   have hs0d:=hs2.get hs0
   have hs0v:=Qs hs2 hs0
   rw[eH] at hs3
   generalize s[0]'(by omega)=y3 at hs0 hs0d hs0v
   rw[bq (by simp only[Z2,acG];omega),hs0]
   simp only[acn]
   have hk32:k / 32<(br a).length:=by omega
   have e5:w64 (Int.tdiv (k:Int) 32)=((k / 32:Nat):Int):=by
    rw[aax (by omega),au (by omega) (by omega)];omega
   have e6:Int.tmod (k:Int) 32=((k % 32:Nat):Int):=by rw[Int.tmod_eq_emod_of_nonneg (by omega)];omega
   have hy4:(br a)[k / 32]? =some ((br a)[k / 32]):=bu hk32
   have hy4d:=(fe a).get hy4
   have hy4v:=Qs (fe a) hy4
   rw[eH] at hy4v
   generalize (br a)[k / 32]=y4 at hy4 hy4d hy4v
   obtain⟨m4,rfl⟩:∃ m:Nat,y4=m:=⟨y4.toNat,by omega⟩
   rw[e5,e6,bS,hy4]
   simp only[acn]
   rw[bq (by simp only[acG];omega)]
   simp only[aay]
   rw[Ya m4 (k % 32) (by omega)]
   have hbit:m4 / 2 ^ (min (k % 32) 32) % 2=a / 2 ^ k % 2:=by
    have h1:m4=a / 4294967296 ^ (k / 32) % 4294967296:=by
     have h2:((a:Int) / 4294967296 ^ (k / 32) % 4294967296)=((a / 4294967296 ^ (k / 32) % 4294967296:Nat):Int):=by simp
     rw[h2] at hy4v;omega
    have h3:(4294967296:Nat) ^ (k / 32)=2 ^ (32*(k / 32)):=by rw[Nat.pow_mul]
    rw[h1,ab6 (by omega),h3]
    have h4:(4294967296:Nat)=2 ^ (k % 32)*2 ^ (32 - k % 32):=by rw[← acf];rw[show k % 32+(32 - k % 32)=32 by omega]
    rw[show a / 2 ^ (32*(k / 32)) % 4294967296=a / 2 ^ (32*(k / 32)) % (2 ^ (k % 32)*2 ^ (32 - k % 32)) by rw[← h4],Nat.mod_mul_right_div_self,Nat.div_div_eq_div_mul, ← acf,show 32*(k / 32)+k % 32=k by omega]
    have h5:(2:Nat) ∣ 2 ^ (32 - k % 32):=by
     rw[show 32 - k % 32=(31 - k % 32)+1 by omega,ach];exact Nat.dvd_mul_left _ _
    exact Nat.mod_mod_of_dvd _ h5
   rw[hbit,bq (by simp only[Z2,acG];omega)]
   obtain⟨m3,rfl⟩:∃ m:Nat,y3=m:=⟨y3.toNat,by omega⟩
   have hev:m3 % 2=0:=by
    have h1:v32 s / 4294967296 ^ 0 % 4294967296=v32 s % 4294967296:=by simp
    rw[h1,hs3] at hs0v
    omega
   have hor:oB (((BitVec.ofInt (IntKind.bits .u32) (m3:Int) ||| BitVec.ofInt (IntKind.bits .u32) ((a / 2 ^ k % 2:Nat):Int)).toNat:Int))=((m3+a / 2 ^ k % 2:Nat):Int):=by
    rw[RN (IntKind.bits .u32) (by show m3<2 ^ 32;omega) (by show a / 2 ^ k % 2<2 ^ 32;omega)]
    have h1:m3=2 ^ 1*(m3 / 2):=by omega
    have h2:m3 ||| (a / 2 ^ k % 2)=m3+a / 2 ^ k % 2:=by
     conv=>lhs;rw[h1]
     rw[SR (by omega)];omega
    rw[h2];exact B6 (by omega) (by omega)
   rw[hor]
   rw[zD _ (by simp only[abi];omega),Tk (hs2.set (by omega)),Mc hs0,hs3]
   simp only[acn]
   have hr2:(((a / 2 ^ (k+1) % b:Nat):Int)+((a / 2 ^ (k+1) % b:Nat):Int)+4294967296 ^ 0*(((m3+a / 2 ^ k % 2:Nat):Int) - (m3:Int))).toNat=2*(a / 2 ^ (k+1) % b)+a / 2 ^ k % 2:=by
    rw[Int.pow_zero];omega
   rw[hr2]
   have htop:a / 2 ^ k=2*(a / 2 ^ (k+1))+a / 2 ^ k % 2:=by
    rw[ach, ← Nat.div_div_eq_div_mul];omega
   generalize hT:a / 2 ^ (k+1)=T at*
   generalize hbt:a / 2 ^ k % 2=bt at*
   have hbt2:bt<2:=by omega
   have hr3l:(br (2*(T % b)+bt)).length≤(br b).length+1:=by
    rcases ab3 ((br b).length+1) (br (2*(T % b)+bt)).length with h | h
    ·exfalso
     have h1:br (4294967296*b)=0::br b:=by
      have:=Iz (B:=4294967296) (by omega) (d:=0) (n:=b) (by omega) (by omega)
      simpa [br] using this
     have h2:(br (4294967296*b)).length<(br (2*(T % b)+bt)).length:=by rw[h1];simpa using h
     have:=pI h2
     omega
    ·exact h
   obtain⟨c,hc1,hc2,hc3⟩:=FC (2*(T % b)+bt) b (by omega) (by omega)
   rw[hc1]
   simp only[acn]
   have hdm:=Nat.div_add_mod T b
   by_cases hge:b≤2*(T % b)+bt
   ·rw[aC (by omega)]
    have hlen2:(br b).length≤(br (2*(T % b)+bt)).length:=by
     rcases ab3 (br (2*(T % b)+bt)).length (br b).length with h | h
     ·have:=pI h;omega
     ·exact h
    rw[Dy _ _ (fe _) (fe _) (by omega) hlen2 (by rw[eH,eH];omega),eH,eH]
    simp only[acn]
    rw[bq (by simp only[Z2,acG];omega)]
    have hy9:q[k / 32]? =some (q[k / 32]'(by omega)):=bu (by omega)
    have hy9d:=hq.get hy9
    have hy9v:=Qs hq hy9
    rw[hqv] at hy9v
    generalize q[k / 32]'(by omega)=y9 at hy9 hy9d hy9v
    obtain⟨m9,rfl⟩:∃ m:Nat,y9=m:=⟨y9.toNat,by omega⟩
    rw[hy9]
    simp only[acn]
    rw[bq (by simp only[acG];omega),bq (by simp only[Z2,acG];omega)]
    have h9:m9=T / b*2 ^ (k+1) / 4294967296 ^ (k / 32) % 4294967296:=by
     have h2:(((T / b*2 ^ (k+1):Nat):Int) / 4294967296 ^ (k / 32) % 4294967296)=((T / b*2 ^ (k+1) / 4294967296 ^ (k / 32) % 4294967296:Nat):Int):=by simp
     rw[h2] at hy9v;omega
    have h3:(4294967296:Nat) ^ (k / 32)=2 ^ (32*(k / 32)):=by rw[Nat.pow_mul]
    have h9d:2 ^ (k % 32+1) ∣ m9:=by
     rw[h9,h3]
     have e1:T / b*2 ^ (k+1) / 2 ^ (32*(k / 32))=T / b*2 ^ (k % 32+1):=by
      rw[show k+1=(k % 32+1)+32*(k / 32) by omega,acf, ← Nat.mul_assoc,Nat.mul_div_cancel _ (Nat.pow_pos (by omega))]
     rw[e1]
     have h4:(4294967296:Nat)=2 ^ (k % 32+1)*2 ^ (31 - k % 32):=by rw[← acf];rw[show k % 32+1+(31 - k % 32)=32 by omega]
     exact (Nat.dvd_mod_iff (by rw[h4];exact Nat.dvd_mul_right _ _)).2 (Nat.dvd_mul_left _ _)
    have hsh:oB (1*2 ^ (min (k % 32) (IntKind.bits .u32)))=((2 ^ (k % 32):Nat):Int):=by
     rw[show IntKind.bits .u32=32 from rfl,ab6 (by omega),Int.one_mul,show ((2:Int) ^ (k % 32))=((2 ^ (k % 32):Nat):Int) by simp]
     have:2 ^ (k % 32)≤2 ^ 31:=acg (by omega) (by omega)
     exact B6 (by omega) (by omega)
    have hp31:2 ^ (k % 32)≤2 ^ 31:=acg (by omega) (by omega)
    obtain⟨e9,he9⟩:=h9d
    have hor2:oB (((BitVec.ofInt (IntKind.bits .u32) (m9:Int) ||| BitVec.ofInt (IntKind.bits .u32) ((2 ^ (k % 32):Nat):Int)).toNat:Int))=((m9+2 ^ (k % 32):Nat):Int):=by
     rw[RN (IntKind.bits .u32) (by show m9<2 ^ 32;omega) (by show 2 ^ (k % 32)<2 ^ 32;omega)]
     have h2:m9 ||| 2 ^ (k % 32)=m9+2 ^ (k % 32):=by rw[he9,SR (Nat.pow_lt_pow_right (by omega) (by omega))]
     rw[h2]
     refine B6 (by omega) ?_
     have h5:2 ^ (k % 32+1)*e9+2 ^ (k % 32)≤4294967295:=by
      have h4:(4294967296:Nat)=2 ^ (k % 32+1)*2 ^ (31 - k % 32):=by rw[← acf];rw[show k % 32+1+(31 - k % 32)=32 by omega]
      have h6:e9<2 ^ (31 - k % 32):=by
       rcases ab3 e9 (2 ^ (31 - k % 32)) with h | h
       ·exact h
       ·have:=Nat.mul_le_mul_left (2 ^ (k % 32+1)) h;omega
      have h7:=Nat.mul_le_mul_left (2 ^ (k % 32+1)) (show e9+1≤2 ^ (31 - k % 32) by omega)
      rw[Nat.mul_add,Nat.mul_one, ← h4] at h7
      have h8:2 ^ (k % 32+1)=2*2 ^ (k % 32):=by rw[ach,ab8]
      omega
     omega
    have hz9:m9+2 ^ (k % 32)<4294967296:=by
     have:=B7 (((BitVec.ofInt (IntKind.bits .u32) (m9:Int) ||| BitVec.ofInt (IntKind.bits .u32) ((2 ^ (k % 32):Nat):Int)).toNat:Int))
     rw[hor2] at this;omega
    rw[hsh,hor2,au (by omega) (by omega), ← hag]
    have hTk:a / 2 ^ k / b=2*(T / b)+1∧a / 2 ^ k % b=2*(T % b)+bt - b:=by
     have h1:a / 2 ^ k=b*(2*(T / b)+1)+(2*(T % b)+bt - b):=by
      rw[htop,Nat.mul_add,Nat.mul_one,show b*(2*(T / b))=2*(b*(T / b)) by rw[Nat.mul_left_comm]];omega
     have h2:2*(T % b)+bt - b<b:=by have:=Nat.mod_lt T hb;omega
     rw[h1]
     exact⟨by rw[Nat.mul_add_div hb,abR h2,abQ],by rw[Nat.mul_add_mod,ab7 h2]⟩
    have hih:=ih k (q.set (k / 32) ((m9+2 ^ (k % 32):Nat):Int)) (by omega) (by omega) (hq.set ⟨aas _,Int.ofNat_lt.2 hz9⟩) (by rw[abi];exact hql) (by
     rw[Mc hy9,hqv,hTk.1]
     have e1:(((m9+2 ^ (k % 32):Nat):Int) - (m9:Int))=((2 ^ (k % 32):Nat):Int):=by omega
     have e2:((4294967296:Int) ^ (k / 32))=((2 ^ (32*(k / 32)):Nat):Int):=by rw[← h3];simp
     rw[e1,e2, ← Int.natCast_mul, ← acf,show 32*(k / 32)+k % 32=k by omega, ← Int.natCast_add]
     congr 1
     rw[ach,abP,ace,ab8 (2 ^ k) 2, ← Nat.mul_assoc,ab8 (T / b) 2])
    rw[hTk.2] at hih
    have e7:(((2*(T % b)+bt:Nat):Int) - (b:Int)).toNat=2*(T % b)+bt - b:=by omega
    rw[e7]
    exact hih
   ·rw[aB (by omega),au (by omega) (by omega), ← hag]
    have hTk:a / 2 ^ k / b=2*(T / b)∧a / 2 ^ k % b=2*(T % b)+bt:=by
     have h1:a / 2 ^ k=b*(2*(T / b))+(2*(T % b)+bt):=by
      rw[htop,show b*(2*(T / b))=2*(b*(T / b)) by rw[Nat.mul_left_comm]];omega
     have h2:2*(T % b)+bt<b:=by omega
     rw[h1]
     exact⟨by rw[Nat.mul_add_div hb,abR h2,abQ],by rw[Nat.mul_add_mod,ab7 h2]⟩
    have hih:=ih k q (by omega) (by omega) hq hql (by
     rw[hqv,hTk.1]
     congr 1
     rw[ach,ab8 (2 ^ k) 2, ← Nat.mul_assoc,ab8 (T / b) 2])
    rw[hTk.2] at hih
    exact hih
theorem JK (n:Nat):v32 (List.replicate n 0)=0:=by
 induction n with
 | zero=>rfl
 | succ n ih=>rw[abE,FA,ih];rfl
theorem Zx (k:Nat):(4294967296:Nat) ^ k=2 ^ (32*k):=by rw[Nat.pow_mul]
theorem Pu (x y:Int) (hx:x.natAbs<4294967296 ^ 99) (hy:y.natAbs<4294967296 ^ 99) (h0:y≠0):wY (W x) (W y)=some (W ((x.natAbs / y.natAbs:Nat):Int),W ((x.natAbs % y.natAbs:Nat):Int),()):=by
 have hlx:=tZ hx
 have hly:=tZ hy
 unfold wY W
 dsimp only
 rw[bq (by simp only[Z2,acG];omega)]
 have e1:w64 (w64 (((br x.natAbs).length:Int)*32) - 1)=((32*(br x.natAbs).length:Nat):Int) - 1:=by
  rw[au (n:=((br x.natAbs).length:Int)*32) (by omega) (by omega),au (by omega) (by omega)];omega
 rw[e1]
 have hlt:x.natAbs<2 ^ (32*(br x.natAbs).length):=by
  have:=Il (fe x.natAbs)
  rw[eH] at this
  have h2:((4294967296:Int) ^ (br x.natAbs).length)=((4294967296 ^ (br x.natAbs).length:Nat):Int):=by simp
  rw[h2,Zx] at this
  omega
 have hz:x.natAbs / 2 ^ (32*(br x.natAbs).length)=0:=abR hlt
 obtain⟨q,h1,h2,h3,h4⟩:=RJ x.natAbs y.natAbs (by omega) (decide (x<0)) (decide (y<0)) (by omega) (by omega) false [] false [] (List.length ([]:List Int)+(Int.natAbs (((32*(br x.natAbs).length:Nat):Int) - 1)+(List.length (br x.natAbs)+(List.length (br y.natAbs)+(List.length ([]:List Int)+(List.length ([]:List Int)+(List.length ((List.replicate (Int.toNat ((List.length (br x.natAbs):Int))) 0):List Int)+2)))))))
  (32*(br x.natAbs).length) (List.replicate (Int.toNat ((List.length (br x.natAbs):Int))) 0) (abX _) (by omega) (fun d hd=>by rw[List.mem_replicate] at hd;omega) (by simp) (by rw[JK,hz];simp)
 rw[hz,Nat.zero_mod,KC] at h1
 rw[h1,bg]
 simp only
 rw[mm _ _ h2 (by omega),mm _ _ (fe _) (by
  have:=tZ (k:=99) (n:=x.natAbs % y.natAbs) (ab1 (Nat.mod_le _ _) hx);omega),h4,eH]
 rfl
theorem NV (z:Int) (most:Int) (h0:0≤most) (h1:most≤9223372036854775807):zh (W z) most=some (if z.natAbs≤most then (z,true,()) else (0,false,())):=by
 unfold zh W
 dsimp only
 by_cases hl:(br z.natAbs).length>2
 ·rw[aC (by omega)]
  have:¬ (z.natAbs:Int)≤most:=by
   intro h
   have:=tZ (k:=2) (n:=z.natAbs) (by omega)
   omega
  rw[acM this]
 ·rw[aB (by omega)]
  have hdig:=fe z.natAbs
  have hval:=eH z.natAbs
  have hlen:(br z.natAbs).length≤2:=by omega
  generalize hd:br z.natAbs=d at*
  have loop:∃ n0,iter (X:=uv) (β:=ur) (Int.natAbs most+(Int.natAbs (0:Int)+(List.length d+(Int.natAbs ((List.length d:Int))+(Int.natAbs (0:Int)+(List.length d+2)))))) (most,0,d,(List.length d:Int),0,decide (z<0),d,()) uo=some (Sum.inr (most,n0,decide (z<0),d,()))∧n0=(z.natAbs:Int):=by
   refine dR (Inv:=fun i x=>∃ u:Int,x=(most,u,d,(d.length:Int),(i:Int),decide (z<0),d,())∧u=v32 (d.take i)) d.length (fun r=>∃ n0,r=some (Sum.inr (most,n0,decide (z<0),d,()))∧n0=(z.natAbs:Int)) ?_ ?_ _ 0 _ ⟨0,rfl,by simp[BZ]⟩ (by omega) (by omega)
   ·rintro i _ again hi ⟨u,rfl,hu⟩ ih
    unfold uo
    simp only
    have hy:d[i]? =some d[i]:=bu hi
    have hyd:=hdig.get hy
    have hts:=kj hy
    have hlt:=Il (hdig.take i)
    have hnn:=Ba (hdig.take i)
    rw[abj,ab6 (by omega)] at hlt
    generalize d[i]=y at hy hyd hts
    rw[aC (by omega),bS,hy,acn,au (n:=32*(i:Int)) (by omega) (by omega),bq (by simp only[acG];omega),au (n:=(i:Int)+1) (by omega) (by omega)]
    refine ih _ ⟨_,rfl, ?_⟩
    rw[hts]
    obtain⟨m,rfl⟩:∃ m:Nat,y=m:=⟨y.toNat,by omega⟩
    obtain⟨k,hk⟩:∃ k:Nat,v32 (d.take i)=k:=⟨(v32 (d.take i)).toNat,by omega⟩
    rw[hk] at hlt hu ⊢
    subst hu
    have hi2:i=0∨i=1:=by omega
    rcases hi2 with rfl | rfl
    ·simp only[Int.pow_zero] at hlt ⊢
     have:k=0:=by omega
     subst this
     have e:bT (bT (m:Int)*2 ^ (min (Int.toNat (32*((0:Nat):Int))) (IntKind.bits .u64)))=(m:Int):=by
      rw[dW (n:=(m:Int)) (by omega) (by omega)]
      simp
      exact dW (by omega) (by omega)
     rw[e,RN (IntKind.bits .u64) (by decide) (by show m<2 ^ 64;omega),Nat.zero_or,dW (by omega) (by omega)]
     omega
    ·simp only[Int.pow_one] at hlt ⊢
     have e:bT (bT (m:Int)*2 ^ (min (Int.toNat (32*((1:Nat):Int))) (IntKind.bits .u64)))=((2 ^ 32*m:Nat):Int):=by
      rw[dW (n:=(m:Int)) (by omega) (by omega),show min (Int.toNat (32*((1:Nat):Int))) (IntKind.bits .u64)=32 from rfl]
      rw[dW (by omega) (by omega)]
      omega
     rw[e,RN (IntKind.bits .u64) (by show k<2 ^ 64;omega) (by show 2 ^ 32*m<2 ^ 64;omega),Nat.or_comm,SR (by omega),dW (by omega) (by omega)]
     omega
   ·rintro _ again ⟨u,rfl,hu⟩
    unfold uo
    simp only
    rw[aB (by omega)]
    rw[abM (abX _),hval] at hu
    exact⟨u,rfl,hu⟩
  obtain⟨n0,h2,h3⟩:=loop
  rw[h2,bg]
  subst h3
  simp only
  rw[dW (n:=most) (by omega) (by omega)]
  by_cases hm:(z.natAbs:Int)≤most
  ·rw[aB (by omega),acN hm]
   by_cases hneg:z<0
   ·rw[acF hneg]
    simp only[acC]
    rw[au (n:=(z.natAbs:Int)) (by omega) (by omega),au (by omega) (by omega)]
    congr 2;omega
   ·rw[acE hneg]
    simp only[acB]
    rw[au (by omega) (by omega)]
    congr 2;omega
  ·rw[aC (by omega),acM hm]
end Go.Md
namespace Go.Md
open Go.Dn
def v6 (l:List Int):Int:=val 1000000 l
def dg6 (n:Nat):List Int:=dg 1000000 n
theorem Yk {k n:Nat} (h:n<1000000 ^ k):(dg6 n).length≤k:=Sg (B:=1000000) (by omega) k n h
def N (z:Int):G9:=(decide (z<0),dg6 z.natAbs)
end Go.Md
namespace Go.Md
open Go.Dn
def Big (D:Int) (l:List Int):Prop:=∀ d,d∈l→0≤d∧d≤D
theorem Big.get {D d:Int} {l:List Int} {i:Nat} (h:Big D l) (hi:l[i]? =some d):0≤d∧d≤D:=h d (abw hi)
theorem Big.set {D E:Int} {l:List Int} (h:Big D l) (hDE:D≤E) {i:Nat} {z:Int} (hz:0≤z∧z≤E):Big E (l.set i z):=fun x hx=>by
 rcases abx hx with hx | rfl
 ·have:=h x hx;omega
 ·exact hz
theorem Big.mono {D E:Int} {l:List Int} (h:Big D l) (hDE:D≤E):Big E l:=fun x hx=>by have:=h x hx;omega
end Go.Md
