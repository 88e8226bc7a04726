/-
  Plain facts: loops, digits, whole numbers. No condition.
-/
import Derived.Test.YtcpmaicaibdafaaGreatDoorWm
set_option linter.all false
namespace Go.Md
open Go.Dn
def FJ {α σ β:Type} (g:σ→Nat→α→(σ→Option β)→Option β) (fin:σ→Option β):List α→Nat→σ→Option β
 | [],_,s=>fin s
 | y::r,i,s=>g s i y fun s'=>FJ g fin r (i+1) s'
theorem Uw {X α σ β:Type} {f:X→(X→Option β)→Option β} (mk:σ→Nat→X) (l:List α) (g:σ→Nat→α→(σ→Option β)→Option β) (fin:σ→Option β)
 (hstep:∀ s i y again,l[i]? =some y→f (mk s i) again=g s i y fun s'=>again (mk s' (i+1))) (hend:∀ s again,f (mk s l.length) again=fin s):
 ∀ (r:List α) (i:Nat) (s:σ) (n:Nat),l.drop i=r→i≤l.length→r.length<n→iter n (mk s i) f=FJ g fin r i s
 | _,_,_,0,_,_,hn=>absurd hn (ahW _)
 | [],i,s,n+1,hd,hi,_=>by
  have:i=l.length:=by
   have:=congrArg List.length hd
   simp at this;omega
  subst this
  exact hend s _
 | y::r,i,s,n+1,hd,hi,hn=>by
  have hy:l[i]? =some y:=by
   have:=congrArg (·[0]?) hd
   simpa [agA] using this
  have hr:l.drop (i+1)=r:=by
   have:=congrArg List.tail hd
   simpa [aho] using this
  have hi':i<l.length:=(agD.1 hy).1
  show f (mk s i) _=_
  rw[hstep s i y _ hy]
  show g s i y _=g s i y _
  congr 1
  funext s'
  exact Uw mk l g fin hstep hend r (i+1) s' n hr hi' (by simp at hn;omega)
theorem Kr {X α σ β:Type} {f:X→(X→Option β)→Option β} (mk:σ→Nat→X) (l:List α) (g:σ→Nat→α→(σ→Option β)→Option β) (fin:σ→Option β)
 (hstep:∀ s i y again,l[i]? =some y→f (mk s i) again=g s i y fun s'=>again (mk s' (i+1))) (hend:∀ s again,f (mk s l.length) again=fin s) (s:σ) (n:Nat) (hn:l.length<n):iter n (mk s 0) f=FJ g fin l 0 s:=
 Uw mk l g fin hstep hend l 0 s n rfl (ah2 _) hn
theorem cN {X β:Type} {f:X→(X→Option β)→Option β} (Inv:Nat→X→Prop) (N:Nat) (Q:Option β→Prop)
 (step:∀ i x again,i<N→Inv i x→(∀ y,Inv (i+1) y→Q (again y))→Q (f x again)) (fin:∀ x again,Inv N x→Q (f x again)):∀ n i x,Inv i x→i≤N→N - i<n→Q (iter n x f)
 | 0,_,_,_,_,hn=>absurd hn (ahW _)
 | n+1,i,x,hx,hi,hn=>by
  show Q (f x _)
  by_cases h:i=N
  ·subst h;exact fin x _ hx
  ·exact step i x _ (by omega) hx fun y hy=>cN Inv N Q step fin n (i+1) y hy (by omega) (by omega)
theorem He {X β:Type} {f:X→(X→Option β)→Option β} (Inv:X→Prop) (μ:X→Nat) (Q:X→Option β→Prop)
 (step:∀ x again,Inv x→(∀ y,Inv y→μ y<μ x→Q y (again y))→Q x (f x again)):∀ n x,Inv x→μ x<n→Q x (iter n x f)
 | 0,_,_,hn=>absurd hn (ahW _)
 | n+1,x,hx,hn=>step x _ hx fun y hy h=>He Inv μ Q step n y hy (by omega)
theorem abB:maxLen=9223372036854775807:=rfl
theorem bP {β:Type} {b:Bool} (h:b=true) (x:Option β):chk b x=x:=by rw[h];rfl
theorem wW {n k:Nat} (h:n*k≤140737488355328) (h2:n≤9223372036854775807):(decide (n*k≤140737488355328)&&decide (n≤maxLen))=true:=by
 simp only[afr,ain];rw[abB];omega
theorem aK {α:Type} {p:Prop} [Decidable p] (h:p) (x y:α):(bif decide p then x else y)=x:=by rw[aim h];rfl
theorem aN {α:Type} {p:Prop} [Decidable p] (h:¬p) (x y:α):(bif decide p then x else y)=y:=by rw[aik h];rfl
theorem Ag {β γ:Type} (r:β) (f:γ→Option β):az (some (Sum.inl r)) f=some r:=rfl
theorem aU {β γ:Type} (v:γ) (f:γ→Option β):az (β:=β) (some (Sum.inr v)) f=f v:=rfl
theorem bq {α:Type} {l:List α} {i:Nat} (h:i<l.length):l[i]? =some (l[i]'h):=agB h
theorem XE {k:IntKind} {n:Int} (h1:k.min≤n) (h2:n≤k.max):k.wrap n=n:=by
 cases k<;>simp[IntKind.wrap,IntKind.min,IntKind.max,IntKind.bits,IntKind.signed] at* <;>(try split)<;>omega
theorem av {n:Int} (h1: -9223372036854775808≤n) (h2:n≤9223372036854775807):w64 n=n:=XE h1 h2
theorem dY {n:Int} (h1:0≤n) (h2:n≤18446744073709551615):cn n=n:=XE h1 h2
theorem Cr {n:Int} (h1:0≤n) (h2:n≤4294967295):mL n=n:=XE h1 h2
theorem GH (n:Int):cn n=n % 18446744073709551616:=by simp[cn,IntKind.wrap,IntKind.bits,IntKind.signed]
theorem Cs (n:Int):mL n=n % 4294967296:=by simp[mL,IntKind.wrap,IntKind.bits,IntKind.signed]
theorem bH {α:Type} (l:List α) (i:Nat):idx l (i:Int)=l[i]? :=by simp[idx]
end Go.Md
namespace Go.Md
open Go.Dn
def val (B:Int):List Int→Int
 | []=>0
 | d::r=>d+B*val B r
def Dig (B:Int) (l:List Int):Prop:=∀ d,d∈l→0≤d∧d<B
theorem Dig.nil {B:Int}:Dig B []:=fun _ h=>by cases h
theorem Dig.cons {B d:Int} {l:List Int} (h:0≤d∧d<B) (hl:Dig B l):Dig B (d::l):=fun x hx=>by
 rcases ag4.1 hx with rfl | hx
 ·exact h
 ·exact hl x hx
theorem Dig.head {B d:Int} {l:List Int} (h:Dig B (d::l)):0≤d∧d<B:=h d (by simp)
theorem Dig.tail {B d:Int} {l:List Int} (h:Dig B (d::l)):Dig B l:=fun x hx=>h x (by simp[hx])
theorem Dig.append {B:Int} {l m:List Int} (h:Dig B l) (k:Dig B m):Dig B (l++m):=fun x hx=>by
 rcases ag1.1 hx with hx | hx
 ·exact h x hx
 ·exact k x hx
theorem Dig.snoc {B d:Int} {l:List Int} (h:Dig B l) (hd:0≤d∧d<B):Dig B (l++[d]):=h.append (Dig.cons hd Dig.nil)
theorem Dig.take {B:Int} {l:List Int} (h:Dig B l) (n:Nat):Dig B (l.take n):=fun x hx=>h x (List.mem_of_mem_take hx)
theorem Dig.drop {B:Int} {l:List Int} (h:Dig B l) (n:Nat):Dig B (l.drop n):=fun x hx=>h x (ahc hx)
theorem Dig.get {B d:Int} {l:List Int} {i:Nat} (h:Dig B l) (hi:l[i]? =some d):0≤d∧d<B:=h d (ahb hi)
theorem Dig.left {B:Int} {l m:List Int} (h:Dig B (l++m)):Dig B l:=fun x hx=>h x (ag2 _ hx)
theorem Dig.right {B:Int} {l m:List Int} (h:Dig B (l++m)):Dig B m:=fun x hx=>h x (ag3 _ hx)
theorem EU {B:Int} (hB:0<B):∀ {l:List Int},Dig B l→0≤val B l
 | [],_=>afM _
 | d::r,h=>by
  have h1:=h.head;have h2:=EU hB h.tail
  have:0≤B*val B r:=afR (by omega) h2
  simp only[val];omega
theorem XC {B:Int} (hB:0<B):∀ {l:List Int},Dig B l→val B l<B ^ l.length
 | [],_=>by simp[val]
 | d::r,h=>by
  have h1:=h.head;have h2:=XC hB h.tail
  have h3:B*(val B r+1)≤B*B ^ r.length:=afP h2 (by omega)
  rw[afN,afS] at h3
  simp only[val,agO]
  rw[afZ,Int.mul_comm (B ^ r.length) B]
  omega
theorem ET {B:Int}:∀ (l m:List Int),val B (l++m)=val B l+B ^ l.length*val B m
 | [],m=>by simp[val]
 | d::r,m=>by
  simp only[agd,val,ET r m,agO,afZ]
  rw[afN,Int.add_assoc]
  congr 2
  rw[Int.mul_comm (B ^ r.length) B,afO]
theorem XD {B:Int} (l:List Int) (d:Int):val B (l++[d])=val B l+B ^ l.length*d:=by
 rw[ET];simp[val]
theorem Qw {B:Int} (hB:0<B):∀ n:Nat,0<B ^ n
 | 0=>by simp
 | n+1=>by rw[afZ];exact Int.mul_pos (Qw hB n) hB
def dgF (B:Nat):Nat→Nat→List Int
 | 0,_=>[]
 | f+1,n=>if n=0 then [] else ((n % B:Nat):Int)::dgF B f (n / B)
def dg (B n:Nat):List Int:=dgF B n n
theorem aa6 {B:Nat} (hB:2≤B):∀ (f g n:Nat),n≤f→n≤g→dgF B f n=dgF B g n
 | 0,0,_,_,_=>rfl
 | 0,g+1,n,h,_=>by have:n=0:=by omega
                   subst this;simp[dgF]
 | f+1,0,n,_,h=>by have:n=0:=by omega
                   subst this;simp[dgF]
 | f+1,g+1,n,hf,hg=>by
  by_cases hn:n=0
  ·subst hn;simp[dgF]
  ·have:n / B<n:=ahA (by omega) (by omega)
   simp only[dgF,hn,ait]
   rw[aa6 hB f g (n / B) (by omega) (by omega)]
theorem EX (B:Nat):dg B 0=[]:=rfl
theorem C6 {B:Nat} (hB:2≤B) {n:Nat} (hn:0<n):dg B n=((n % B:Nat):Int)::dg B (n / B):=by
 have:n / B<n:=ahA hn (by omega)
 obtain⟨m,rfl⟩:∃ m,n=m+1:=⟨n - 1,by omega⟩
 unfold dg
 rw[dgF,aiu (by omega),aa6 hB m ((m+1) / B) _ (by omega) (ahF _)]
theorem aa7 {B:Nat} (hB:2≤B):∀ n,Dig B (dg B n):=by
 intro n
 induction n using Nat.strongRecOn with
 | _ n ih=>
  by_cases hn:n=0
  ·subst hn;exact Dig.nil
  ·rw[C6 hB (by omega)]
   exact Dig.cons ⟨by omega,by have:=Nat.mod_lt n (show 0<B by omega);omega⟩ (ih _ (ahA (by omega) (by omega)))
theorem ab8 {B:Nat} (hB:2≤B):∀ n,val B (dg B n)=n:=by
 intro n
 induction n using Nat.strongRecOn with
 | _ n ih=>
  by_cases hn:n=0
  ·subst hn;rfl
  ·rw[C6 hB (by omega),val,ih _ (ahA (by omega) (by omega))]
   have:=Nat.mod_add_div n B
   omega
theorem GW {B:Nat} (hB:2≤B) {n:Nat} (hn:0<n):dg B n≠[]:=by rw[C6 hB hn];simp
theorem Uo {B:Nat} (hB:2≤B) {n:Nat}:dg B n=[]↔n=0:=by
 constructor
 ·intro h
  rcases ahC n with h0 | h0
  ·exact h0
  ·exact absurd h (GW hB h0)
 ·rintro rfl;rfl
theorem J7 {B:Nat} (hB:2≤B) {d n:Nat} (hd:d<B) (h:0<d+B*n):dg B (d+B*n)=(d:Int)::dg B n:=by
 rw[C6 hB h]
 have h1:(d+B*n) % B=d:=by rw[Nat.add_mul_mod_self_left,ahR hd]
 have h2:(d+B*n) / B=n:=by rw[Nat.add_mul_div_left _ _ (by omega),ahz hd];omega
 rw[h1,h2]
def trim:List Int→List Int
 | []=>[]
 | d::r=>match trim r with
  | []=>if d=0 then [] else [d]
  | t=>d::t
theorem T8 {B:Nat} (hB:2≤B):∀ {l:List Int},Dig B l→trim l=dg B (val B l).toNat
 | [],_=>rfl
 | d::r,h=>by
  have hr:=T8 hB h.tail
  have h1:=h.head
  have hB0:(0:Int)<B:=by omega
  have h2:=EU hB0 h.tail
  obtain⟨k,rfl⟩:∃ k:Nat,d=k:=⟨d.toNat,by omega⟩
  obtain⟨n,hn⟩:∃ n:Nat,val B r=n:=⟨(val B r).toNat,by omega⟩
  have hv:(val B ((k:Int)::r)).toNat=k+B*n:=by
   simp only[val,hn]
   rw[show ((B:Int)*(n:Int))=((B*n:Nat):Int) by simp]
   omega
  rw[hv]
  rw[hn] at hr
  simp only[af4] at hr
  unfold trim
  rw[hr]
  rcases ahC n with h0 | h0
  ·subst h0
   simp only[EX,Nat.mul_zero,ahy]
   by_cases hk:k=0
   ·subst hk;simp[EX]
   ·have:=J7 hB (d:=k) (n:=0) (by omega) (by omega)
    simp only[Nat.mul_zero,ahy,EX] at this
    rw[this];simp[hk]
  ·have hpos:0<k+B*n:=by have:=Nat.mul_pos (show 0<B by omega) h0;omega
   rw[J7 hB (by omega) hpos]
   cases hd:dg B n with
   | nil=>exact absurd hd (GW hB h0)
   | cons a t=>rfl
theorem Cl:∀ l:List Int,trim (l++[0])=trim l
 | []=>rfl
 | d::r=>by simp only[agd,trim,Cl r]
theorem GB {d:Int} (hd:d≠0):∀ l:List Int,trim (l++[d])=l++[d]
 | []=>by simp[trim,hd]
 | e::r=>by
  simp only[agd,trim,GB hd r]
  cases h:r++[d] with
  | nil=>simp at h
  | cons a t=>rfl
theorem WA {B:Nat} (hB:2≤B):∀ (k n:Nat),n<B ^ k→(dg B n).length≤k
 | 0,n,h=>by have:n=0:=by simpa using h
             subst this;simp[EX]
 | k+1,n,h=>by
  by_cases hn:n=0
  ·subst hn;simp[EX]
  ·rw[C6 hB (by omega),agO]
   have:=WA hB k (n / B) (by rw[ah0] at h;exact Nat.div_lt_of_lt_mul (by rw[ahS];exact h))
   omega
theorem Up {B:Nat} (hB:2≤B) {m n:Nat} (h:(dg B m).length<(dg B n).length):m<n:=by
 rcases ahL m n with h1 | h1
 ·exact h1
 ·exfalso
  have h2:∀ a b:Nat,b≤a→(dg B b).length≤(dg B a).length:=by
   intro a
   induction a using Nat.strongRecOn with
   | _ a ih=>
    intro b hb
    by_cases h0:b=0
    ·subst h0;simp[EX]
    ·rw[C6 hB (by omega),C6 hB (show 0<a by omega),agO,agO]
     have:=ih (a / B) (ahA (by omega) (by omega)) (b / B) (Nat.div_le_div_right hb)
     omega
  have:=h2 m n h1
  omega
end Go.Md
namespace Go.Md
open Go.Dn
def v32 (l:List Int):Int:=val 4294967296 l
theorem Cm:v32 []=0:=rfl
theorem GC (d:Int) (l:List Int):v32 (d::l)=d+4294967296*v32 l:=rfl
theorem K5 (l m:List Int):v32 (l++m)=v32 l+4294967296 ^ l.length*v32 m:=ET l m
theorem K6 (l:List Int) (d:Int):v32 (l++[d])=v32 l+4294967296 ^ l.length*d:=XD l d
abbrev Dg (l:List Int):Prop:=Dig 4294967296 l
def bC (n:Nat):List Int:=dg 4294967296 n
theorem MA:bC 0=[]:=rfl
theorem OZ {n:Nat}:bC n=[]↔n=0:=Uo (B:=4294967296) (by omega)
theorem O3 {n:Nat} (h:0<n):bC n≠[]:=GW (B:=4294967296) (by omega) h
theorem nx {m n:Nat} (h:(bC m).length<(bC n).length):m<n:=Up (B:=4294967296) (by omega) h
theorem eC (n:Nat):Dg (bC n):=aa7 (B:=4294967296) (by omega) n
theorem ez (n:Nat):v32 (bC n)=n:=ab8 (B:=4294967296) (by omega) n
theorem Xx {l:List Int} (h:Dg l):trim l=bC (v32 l).toNat:=T8 (B:=4294967296) (by omega) h
theorem BE {l:List Int} (h:Dg l):0≤v32 l:=EU (by omega) h
theorem JG {l:List Int} (h:Dg l):v32 l<4294967296 ^ l.length:=XC (by omega) h
theorem sE {k n:Nat} (h:n<4294967296 ^ k):(bC n).length≤k:=WA (B:=4294967296) (by omega) k n h
theorem zZ (l:List Int) (hl:l.length<1000000):oV l=some (trim l,()):=by
 have key:∀ n (x:oa),x.1.length<1000000→x.1.length<n→iter n x zY=some (Sum.inr (trim x.1,())):=by
  refine He (fun x:oa=>x.1.length<1000000) (fun x=>x.1.length) (fun x r=>r=some (Sum.inr (trim x.1,()))) ?_
  rintro⟨x,u⟩ again hx ih
  simp only at hx ih ⊢
  unfold zY
  simp only
  by_cases h0:x.length=0
  ·have:x=[]:=agn h0
   subst this;simp[trim]
  ·have e1:w64 ((x.length:Int) - 1)=((x.length - 1:Nat):Int):=by rw[av (by omega) (by omega)];omega
   have hsp:x=x.take (x.length - 1)++[x[x.length - 1]'(by omega)]:=by
    have:=ahq (x.length - 1) x
    rw[agi (by omega),agk (by omega)] at this
    exact this.symm
   rw[aK (by omega),e1,bH,bq (by omega)]
   simp only[af4,agl,ah4]
   by_cases hz:x[x.length - 1]'(by omega)=0
   ·rw[hz] at hsp ⊢
    rw[bP (by simp only[afr,ain];omega)]
    simp only[aie,aii]
    rw[ih (List.take (x.length - 1) x,()) (by simp only[agV];omega) (by simp only[agV];omega)]
    conv=>rhs;rw[hsp,Cl]
   ·have:(x[x.length - 1]'(by omega)==0)=false:=by simp[hz]
    rw[this]
    simp only[aih]
    conv=>rhs;rw[hsp,GB hz]
    rw[← hsp]
 unfold oV
 rw[key _ _ (by simpa using hl) (by simp)]
 rfl
def W (z:Int):aO:=(decide (z<0),bC z.natAbs)
theorem ki (b:Bool) (l:List Int) (hd:Dg l) (hl:l.length<1000000):iX b l=some (W (if b then -v32 l else v32 l),()):=by
 unfold iX
 rw[zZ l hl,Xx hd]
 have h0:=BE hd
 simp only[ah4]
 cases b with
 | false=>simp only[aih,W];rw[show (decide ((if false=true then -v32 l else v32 l)<0))=false by simp;omega];congr 4;simp;omega
 | true=>
  simp only[aii,W]
  congr 3
  ·by_cases hv:v32 l=0
   ·simp[hv,MA]
   ·have hpos:0<v32 l:=by omega
    have:bC (v32 l).toNat≠[]:=O3 (by omega)
    have hlen:0<(bC (v32 l).toNat).length:=by
     cases h:bC (v32 l).toNat with
     | nil=>exact absurd h this
     | cons a t=>simp
    simp;omega
  ·congr 1;simp;omega
theorem nA (n:Int) (h1: -9223372036854775808≤n) (h2:n≤9223372036854775807):kU n=some (W n,()):=by
 unfold kU
 have key:∀ u:Int,0≤u→u≤9223372036854775808→iX (decide (n<0)) [mL u,mL (Int.fdiv u (2 ^ 32))]=some (W (if decide (n<0) then -u else u),()):=by
  intro u hu0 hu1
  have e:Int.fdiv u (2 ^ 32)=u / 4294967296:=by rw[afL _ (by omega)];rfl
  rw[e,Cs,Cs]
  have hd:Dg [u % 4294967296,u / 4294967296 % 4294967296]:=Dig.cons (by omega) (Dig.cons (by omega) Dig.nil)
  rw[ki _ _ hd (by simp)]
  have hv:v32 [u % 4294967296,u / 4294967296 % 4294967296]=u:=by simp only[GC,Cm];omega
  rw[hv]
 by_cases hn:n<0
 ·have e1:cn (0 - cn n)= -n:=by rw[GH,GH];omega
  rw[show decide (n<0)=true by simpa using hn] at key ⊢
  simp only[aii,az]
  rw[e1]
  rw[show decide (n<0)=true by simpa using hn]
  rw[key (-n) (by omega) (by omega)]
  simp
 ·have e1:cn n=n:=dY (by omega) (by omega)
  rw[show decide (n<0)=false by simpa using hn] at key ⊢
  simp only[aih,az]
  rw[e1]
  rw[show decide (n<0)=false by simpa using hn]
  rw[key n (by omega) (by omega)]
  simp
theorem qS (z:Int):jr (W z)=some (z.sign,()):=by
 unfold jr W
 by_cases h:z<0
 ·simp[h,af0 h]
 ·by_cases h0:z=0
  ·subst h0;simp[MA]
  ·have hp:0<z:=by omega
   have:bC z.natAbs≠[]:=O3 (by omega)
   have hlen:((bC z.natAbs).length:Int)≠0:=by
    intro h;exact this (agn (by omega))
   have hb:(((bC z.natAbs).length:Int)==0)=false:=by simpa using hlen
   simp only[h,aio,aih,hb,af1 hp]
theorem aeL {z:Int} {k:Nat} (h:z.natAbs<4294967296 ^ k):(W z).2.length≤k:=sE h
theorem DI (z:Int) (h:z.natAbs<4294967296 ^ 99):qa (W z)=some (W (-z),()):=by
 unfold qa
 have hl:=aeL h
 rw[ki _ (W z).2 (eC _) (by omega)]
 simp only[ah4]
 congr 3
 simp only[W,ez]
 by_cases hz:z<0
 ·simp[hz];omega
 ·simp[hz];omega
theorem zy {α:Type} {l:List α} {i:Nat} {y:α} (h:l[i]? =some y):l.take (i+1)=l.take i++[y]:=by
 rw[ahp,h];rfl
theorem iW {l:List Int} {i:Nat} {y:Int} (h:l[i]? =some y):v32 (l.take (i+1))=v32 (l.take i)+4294967296 ^ i*y:=by
 have hi:=(agD.1 h).1
 rw[zy h,K6,agV,ahQ (by omega)]
theorem Lv {l:List Int} {i:Nat} (h:l.length≤i):v32 (l.take (i+1))=v32 (l.take i):=by
 rw[ahu h,ahu (by omega)]
theorem WN {u:Int}:Int.fdiv u (2 ^ 32)=u / 4294967296:=by rw[afL _ (by omega)];rfl
theorem Ue (a b:List Int) (ha:Dg a) (hb:Dg b) (hla:a.length<100000) (hlb:b.length≤a.length) (n:Nat) (hn:a.length<n):
 ∃ out c,iter (X:=wS) (β:=wR) n (b,[],0,a,(a.length:Int),0,()) wQ=some (Sum.inr (out,c,()))∧Dg out∧0≤c∧c≤1∧out.length=a.length∧v32 out+4294967296 ^ a.length*c=v32 a+v32 b:=by
 refine cN (Inv:=fun i x=>∃ out c,x=(b,out,c,a,(a.length:Int),(i:Int),())∧Dg out∧0≤c∧c≤1∧out.length=i∧v32 out+4294967296 ^ i*c=v32 (a.take i)+v32 (b.take i)) a.length
  (fun r=>∃ out c,r=some (Sum.inr (out,c,()))∧Dg out∧0≤c∧c≤1∧out.length=a.length∧v32 out+4294967296 ^ a.length*c=v32 a+v32 b) ?_ ?_ n 0 _ ⟨[],0,rfl,Dig.nil,by omega,by omega,rfl,by simp[Cm]⟩ (by omega) (by omega)
 ·rintro i _ again hi ⟨out,c,rfl,hd,hc0,hc1,hlen,hv⟩ ih
  unfold wQ
  simp only
  have hy:a[i]? =some a[i]:=bq hi
  have hyd:=ha.get hy
  generalize a[i]=y at hy hyd
  rw[aK (by omega),bH,hy,ah4]
  have step:∀ z:Int,0≤z→z<4294967296→v32 (b.take (i+1))=v32 (b.take i)+4294967296 ^ i*z→
   ∃ out' c',again (b,out++[mL (cn (cn (c+cn y)+cn z))],Int.fdiv (cn (cn (c+cn y)+cn z)) (2 ^ 32),a,(a.length:Int),w64 ((i:Int)+1),())=some (Sum.inr (out',c',()))∧Dg out'∧0≤c'∧c'≤1∧out'.length=a.length∧v32 out'+4294967296 ^ a.length*c'=v32 a+v32 b:=by
   intro z hz0 hz1 hbz
   have e1:cn (cn (c+cn y)+cn z)=c+y+z:=by
    rw[dY (n:=y) (by omega) (by omega),dY (n:=z) (by omega) (by omega),dY (n:=c+y) (by omega) (by omega),dY (by omega) (by omega)]
   rw[e1,Cs,WN,av (by omega) (by omega)]
   refine ih _ ⟨_,_,rfl,hd.snoc (by omega),by omega,by omega,by simp[hlen], ?_⟩
   rw[K6,hlen,iW hy,hbz,afZ]
   have hm:=Int.mul_ediv_add_emod (c+y+z) 4294967296
   have:(4294967296:Int) ^ i*((c+y+z) % 4294967296)+4294967296 ^ i*4294967296*((c+y+z) / 4294967296)=4294967296 ^ i*(c+y+z):=by
    rw[afO, ← afN];congr 1;omega
   rw[afN,afN] at this
   omega
  by_cases hib:i<b.length
  ·have hz:b[i]? =some b[i]:=bq hib
   rw[aK (by omega),bH,hz,ah4]
   simp only[aU]
   rw[bP (wW (by omega) (by omega))]
   exact step b[i] (hb.get hz).1 (hb.get hz).2 (iW hz)
  ·rw[aN (by omega)]
   simp only[aU]
   rw[bP (wW (by omega) (by omega))]
   have:=step 0 (by omega) (by omega) (by rw[Lv (by omega)];omega)
   have e0:cn (cn (c+cn y)+cn 0)=cn (c+cn y):=by
    rw[dY (n:=y) (by omega) (by omega),dY (n:=(0:Int)) (by omega) (by omega),dY (n:=c+y) (by omega) (by omega),dY (by omega) (by omega)];omega
   rw[e0] at this
   exact this
 ·rintro _ again ⟨out,c,rfl,hd,hc0,hc1,hlen,hv⟩
  unfold wQ
  simp only
  rw[aN (by omega)]
  rw[ahu (ahF _),ahu hlb] at hv
  exact⟨out,c,rfl,hd,hc0,hc1,hlen,hv⟩
theorem NR (a b:List Int) (ha:Dg a) (hb:Dg b) (hla:a.length<100000) (hlb:b.length<100000):
 ∃ s,DJ a b=some (s,())∧Dg s∧v32 s=v32 a+v32 b∧s.length=max a.length b.length+1:=by
 have core:∀ (a b:List Int),Dg a→Dg b→a.length<100000→b.length≤a.length→∃ s,(chk (decide (0≤(0:Int))&&decide ((0:Int)≤(w64 (((List.length a:Int))+1)))&&decide ((4:Int)*(w64 (((List.length a:Int))+1))≤281474976710656)&&decide ((w64 (((List.length a:Int))+1))≤9223372036854775807)) <|
 az (β:=((List Int)×Unit)) (γ:=((List Int)×Int×Unit)) (
  iter (X:=wS) (β:=wR) (List.length b+(List.length ([]:List Int)+(Int.natAbs (0:Int)+(List.length a+(Int.natAbs ((List.length a:Int))+(Int.natAbs (0:Int)+2)))))) (b,[],0,a,(List.length a:Int),0,()) (wQ)) fun v7=>
 chk (decide (((v7.1.length)+1)*4≤140737488355328)&&decide ((v7.1.length)+1≤maxLen)) <|
 some (v7.1++[(mL v7.2.1)],()))=some (s,())∧Dg s∧v32 s=v32 a+v32 b∧s.length=a.length+1:=by
  intro a b ha hb hla hlb
  obtain⟨out,c,h1,h2,h3,h4,h5,h6⟩:=Ue a b ha hb hla hlb _ (show a.length<List.length b+(List.length ([]:List Int)+(Int.natAbs (0:Int)+(List.length a+(Int.natAbs ((List.length a:Int))+(Int.natAbs (0:Int)+2))))) by omega)
  rw[h1,aU,av (by omega) (by omega),bP (by simp only[afr,ain];omega)]
  simp only
  rw[bP (wW (by omega) (by omega))]
  refine⟨_,rfl,h2.snoc ?_, ?_,by simp[h5]⟩
  ·rw[Cr (by omega) (by omega)];omega
  ·rw[Cr (by omega) (by omega),K6,h5];exact h6
 unfold DJ
 by_cases h:a.length<b.length
 ·rw[aK (by omega),aU]
  obtain⟨s,h1,h2,h3,h4⟩:=core b a hb ha hlb (by omega)
  exact⟨s,h1,h2,by omega,by omega⟩
 ·rw[aN (by omega),aU]
  obtain⟨s,h1,h2,h3,h4⟩:=core a b ha hb hla (by omega)
  exact⟨s,h1,h2,by omega,by omega⟩
theorem SG (a b:List Int) (ha:Dg a) (hb:Dg b) (hla:a.length<100000) (hlb:b.length≤a.length) (n:Nat) (hn:a.length<n):
 ∃ out c,iter (X:=zD) (β:=zC) n (b,[],0,a,(a.length:Int),0,()) zB=some (Sum.inr (out,()))∧Dg out∧0≤c∧c≤1∧out.length=a.length∧v32 out=v32 a - v32 b+4294967296 ^ a.length*c:=by
 refine cN (Inv:=fun i x=>∃ out c,x=(b,out,c,a,(a.length:Int),(i:Int),())∧Dg out∧0≤c∧c≤1∧out.length=i∧v32 out=v32 (a.take i) - v32 (b.take i)+4294967296 ^ i*c) a.length
  (fun r=>∃ out c,r=some (Sum.inr (out,()))∧Dg out∧0≤c∧c≤1∧out.length=a.length∧v32 out=v32 a - v32 b+4294967296 ^ a.length*c) ?_ ?_ n 0 _ ⟨[],0,rfl,Dig.nil,by omega,by omega,rfl,by simp[Cm]⟩ (by omega) (by omega)
 ·rintro i _ again hi ⟨out,c,rfl,hd,hc0,hc1,hlen,hv⟩ ih
  unfold zB
  simp only
  have hy:a[i]? =some a[i]:=bq hi
  have hyd:=ha.get hy
  generalize a[i]=y at hy hyd
  rw[aK (by omega),bH,hy,ah4]
  have step:∀ z:Int,0≤z→z<4294967296→v32 (b.take (i+1))=v32 (b.take i)+4294967296 ^ i*z→∀ t:Int,t=(y - c - z) % 18446744073709551616→
   ∃ out' c',again (b,out++[mL t],cn (((BitVec.ofInt (IntKind.bits .u64) (Int.fdiv t (2 ^ 32)) &&& BitVec.ofInt (IntKind.bits .u64) 1).toNat:Int)),a,(a.length:Int),w64 ((i:Int)+1),())=some (Sum.inr (out',()))∧Dg out'∧0≤c'∧c'≤1∧out'.length=a.length∧v32 out'=v32 a - v32 b+4294967296 ^ a.length*c':=by
   intro z hz0 hz1 hbz t ht
   have e2:cn (((BitVec.ofInt (IntKind.bits .u64) (Int.fdiv t (2 ^ 32)) &&& BitVec.ofInt (IntKind.bits .u64) 1).toNat:Int))=(if y - c - z<0 then 1 else 0):=by
    rw[WN]
    have h1:t / 4294967296=(if y - c - z<0 then 4294967295 else 0):=by split<;>omega
    rw[h1]
    split<;>rfl
   rw[e2,Cs,av (by omega) (by omega)]
   refine ih _ ⟨_,_,rfl,hd.snoc (by omega),by split<;>omega,by split<;>omega,by simp[hlen], ?_⟩
   rw[K6,hlen,iW hy,hbz,afZ,hv]
   have e3:t % 4294967296=y - c - z+4294967296*(if y - c - z<0 then 1 else 0):=by split<;>omega
   rw[e3]
   generalize (if y - c - z<0 then (1:Int) else 0)=q
   generalize (4294967296:Int) ^ i=p
   rw[afN,Int.mul_sub,Int.mul_sub,afO]
   omega
  by_cases hib:i<b.length
  ·have hz:b[i]? =some b[i]:=bq hib
   rw[aK (by omega),bH,hz,ah4]
   simp only[aU]
   rw[bP (wW (by omega) (by omega))]
   have hz':=hb.get hz
   refine step b[i] hz'.1 hz'.2 (iW hz) _ ?_
   rw[dY (n:=y) (by omega) (by omega),dY (n:=b[i]) (by omega) (by omega),GH,GH]
   omega
  ·rw[aN (by omega)]
   simp only[aU]
   rw[bP (wW (by omega) (by omega))]
   refine step 0 (by omega) (by omega) (by rw[Lv (by omega)];omega) _ ?_
   rw[dY (n:=y) (by omega) (by omega),GH]
   omega
 ·rintro _ again ⟨out,c,rfl,hd,hc0,hc1,hlen,hv⟩
  unfold zB
  simp only
  rw[aN (by omega)]
  rw[ahu (ahF _),ahu hlb] at hv
  exact⟨out,c,rfl,hd,hc0,hc1,hlen,hv⟩
theorem Ea (a b:List Int) (ha:Dg a) (hb:Dg b) (hla:a.length<100000) (hlb:b.length≤a.length) (hle:v32 b≤v32 a):xG a b=some (bC (v32 a - v32 b).toNat,()):=by
 unfold xG
 obtain⟨out,c,h1,h2,h3,h4,h5,h6⟩:=SG a b ha hb hla hlb _ (show a.length<List.length b+(List.length ([]:List Int)+(Int.natAbs (0:Int)+(List.length a+(Int.natAbs ((List.length a:Int))+(Int.natAbs (0:Int)+2))))) by omega)
 rw[h1,aU,bP (by simp only[afr,ain];omega)]
 simp only
 rw[zZ _ (by omega),Xx h2,ah4]
 have h7:=JG h2
 rw[h5] at h7
 have h8:c=0:=by
  rcases (show c=0∨c=1 by omega) with h | h
  ·exact h
  ·subst h;rw[afS] at h6;omega
 subst h8
 rw[h6,Int.mul_zero,Int.add_zero]
theorem NQ (a b:List Int) (ha:Dg a) (hb:Dg b) (hab:a.length=b.length) (hla:a.length<100000):∀ (n k:Nat),k≤a.length→k<n→
 iter (X:=tq) (β:=tj) n (a,b,(k:Int) - 1,()) nZ=if v32 (a.take k)<v32 (b.take k) then some (Sum.inl ((-1),())) else if v32 (b.take k)<v32 (a.take k) then some (Sum.inl (1,())) else some (Sum.inr ()):=by
 intro n
 induction n with
 | zero=>intro k _ h;omega
 | succ n ih=>
  intro k hk hn
  rw[br]
  generalize hag:(fun y=>iter n y nZ)=again
  unfold nZ
  simp only
  cases k with
  | zero=>simp[Cm]
  | succ k=>
   rw[aK (by omega),show ((k+1:Nat):Int) - 1=(k:Int) by omega,bH,bH]
   have hx:a[k]? =some a[k]:=bq (by omega)
   have hy:b[k]? =some b[k]:=bq (by omega)
   rw[hx,hy]
   simp only[ah4]
   rw[iW hx,iW hy]
   have h1:=JG (ha.take k)
   have h2:=JG (hb.take k)
   have h3:=BE (ha.take k)
   have h4:=BE (hb.take k)
   rw[agV,ahQ (by omega)] at h1 h2
   generalize a[k]=x
   generalize b[k]=y
   by_cases hxy:x=y
   ·subst hxy
    simp only[aif,aih]
    rw[av (by omega) (by omega), ← hag]
    show iter n (a,b,(k:Int) - 1,()) nZ=_
    rw[ih k (by omega) (by omega)]
    congr 1
    ·simp
    ·congr 1;simp
   ·have hne:(x != y)=true:=by simp[hxy]
    rw[hne]
    simp only[aii]
    by_cases hlt:x<y
    ·rw[aK hlt,aiv]
     have:(4294967296:Int) ^ k*(x+1)≤4294967296 ^ k*y:=afP (by omega) (by omega)
     rw[afN,afS] at this
     omega
    ·rw[aN hlt]
     have:(4294967296:Int) ^ k*(y+1)≤4294967296 ^ k*x:=afP (by omega) (by omega)
     rw[afN,afS] at this
     rw[aiu (by omega),aiv (by omega)]
theorem GG (m n:Nat) (hm:(bC m).length<100000) (hn:(bC n).length<100000):∃ c,tZ (bC m) (bC n)=some (c,())∧(c<0↔m<n)∧(0<c↔n<m):=by
 unfold tZ
 by_cases h:(bC m).length=(bC n).length
 ·have hb:(((bC m).length:Int) != ((bC n).length:Int))=false:=by simp[h]
  rw[hb]
  simp only[aih]
  by_cases h0:(bC m).length=0
  ·have hm0:m=0:=OZ.1 (agn h0)
   have hn0:n=0:=OZ.1 (agn (by omega))
   subst hm0;subst hn0
   exact⟨0,rfl,by simp,by simp⟩
  ·have e1:w64 (((bC m).length:Int) - 1)=(((bC m).length:Nat):Int) - 1:=av (by omega) (by omega)
   rw[e1,NQ _ _ (eC m) (eC n) h hm _ _ (ahF _) (by omega),ahu (ahF _),ahu (by omega),ez,ez]
   by_cases h1:m<n
   ·rw[aiv (by omega),Ag];exact⟨-1,rfl,by omega,by omega⟩
   ·by_cases h2:n<m
    ·rw[aiu (by omega),aiv (by omega),Ag];exact⟨1,rfl,by omega,by omega⟩
    ·rw[aiu (by omega),aiu (by omega),aU];exact⟨0,rfl,by omega,by omega⟩
 ·have hb:(((bC m).length:Int) != ((bC n).length:Int))=true:=by simp;omega
  rw[hb]
  simp only[aii]
  rw[av (by omega) (by omega)]
  refine⟨_,rfl, ?_, ?_⟩
  ·constructor
   ·intro h1;exact nx (by omega)
   ·intro h1
    rcases ahM h with h2 | h2
    ·omega
    ·have:=nx (m:=n) (n:=m) h2;omega
  ·constructor
   ·intro h1;exact nx (by omega)
   ·intro h1
    rcases ahM h with h2 | h2
    ·have:=nx (m:=m) (n:=n) h2;omega
    ·omega
end Go.Md
namespace Go.Md
open Go.Dn
theorem VN (w:Nat) {a b:Nat} (ha:a<2 ^ w) (hb:b<2 ^ w):((BitVec.ofInt w (a:Int) ||| BitVec.ofInt w (b:Int)).toNat:Int)=((a ||| b:Nat):Int):=by
 rw[afp,afp,BitVec.toNat_or,afq,afq,ahR ha,ahR hb]
theorem bv_and (w:Nat) {a b:Nat} (ha:a<2 ^ w) (hb:b<2 ^ w):((BitVec.ofInt w (a:Int) &&& BitVec.ofInt w (b:Int)).toNat:Int)=((a &&& b:Nat):Int):=by
 rw[afp,afp,BitVec.toNat_and,afq,afq,ahR ha,ahR hb]
theorem Xd {a k b:Nat} (hb:b<2 ^ k):(2 ^ k*a) ||| b=2 ^ k*a+b:=(Nat.two_pow_add_eq_or_of_lt hb a).symm
theorem Ua {l:List Int} (h:Dg l) {i:Nat} {y:Int} (hi:l[i]? =some y):y=v32 l / 4294967296 ^ i % 4294967296:=by
 have hlt:=(agD.1 hi).1
 have e:l=l.take i++(y::l.drop (i+1)):=by
  have:=ahq i l
  rw[agi hlt,(agD.1 hi).2] at this
  exact this.symm
 have hd:=h.get hi
 have h1:=JG (h.take i)
 have h2:=BE (h.take i)
 rw[agV,ahQ (by omega)] at h1
 have hv:v32 l=v32 (l.take i)+4294967296 ^ i*(y+4294967296*v32 (l.drop (i+1))):=by
  conv=>lhs;rw[e]
  rw[K5,agV,ahQ (by omega),GC]
 rw[hv,Int.add_mul_ediv_left _ _ (by omega),Int.ediv_eq_zero_of_lt h2 h1,Int.zero_add,Int.add_mul_emod_self_left,Int.emod_eq_of_lt hd.1 hd.2]
theorem Oh {l:List Int} {i:Nat} {y z:Int} (hi:l[i]? =some y):v32 (l.set i z)=v32 l+4294967296 ^ i*(z - y):=by
 have hlt:=(agD.1 hi).1
 have e:l=l.take i++(y::l.drop (i+1)):=by
  have:=ahq i l
  rw[agi hlt,(agD.1 hi).2] at this
  exact this.symm
 have e2:l.set i z=l.take i++(z::l.drop (i+1)):=by rw[List.set_eq_take_append_cons_drop,aiv hlt]
 rw[e2]
 conv=>rhs;rw[e]
 rw[K5,K5,GC,GC,agV,ahQ (by omega)]
 have:(4294967296:Int) ^ i*(z+4294967296*v32 (l.drop (i+1)))=4294967296 ^ i*(y+4294967296*v32 (l.drop (i+1)))+4294967296 ^ i*(z - y):=by rw[← afN];congr 1;omega
 omega
theorem Dig.set {B:Int} {l:List Int} (h:Dig B l) {i:Nat} {z:Int} (hz:0≤z∧z<B):Dig B (l.set i z):=fun x hx=>by
 rcases ahd hx with hx | rfl
 ·exact h x hx
 ·exact hz
theorem adj (y:Nat) (j:Nat) (hy:y<4294967296):mL (((BitVec.ofInt (IntKind.bits .u32) (Int.fdiv (y:Int) (2 ^ (min j (IntKind.bits .u32)))) &&& BitVec.ofInt (IntKind.bits .u32) 1).toNat:Int))=((y / 2 ^ (min j 32) % 2:Nat):Int):=by
 have e1:Int.fdiv (y:Int) (2 ^ (min j (IntKind.bits .u32)))=((y / 2 ^ (min j 32):Nat):Int):=by
  have:((2:Int) ^ (min j 32))=((2 ^ (min j 32):Nat):Int):=by simp
  rw[show IntKind.bits .u32=32 from rfl,this,afL _ (afW _)]
  simp
 rw[e1]
 have hlt:y / 2 ^ (min j 32)<2 ^ 32:=ahJ (Nat.div_le_self _ _) hy
 have:=bv_and (IntKind.bits .u32) (a:=y / 2 ^ (min j 32)) (b:=1) hlt (by decide)
 rw[show ((1:Nat):Int)=1 from rfl] at this
 rw[this,Nat.and_one_is_mod]
 exact Cr (by omega) (by omega)
theorem VK (a b:Nat) (hb:0<b) (na:Bool) (nb:Bool) (ha:(bC a).length<1000) (hlb:(bC b).length<1000) (g1:Bool) (g2:List Int) (g3:Bool) (g4:List Int):∀ (n k:Nat) (q:List Int),k≤32*(bC a).length→k<n→Dg q→q.length=(bC a).length→v32 q=((a / 2 ^ k / b*2 ^ k:Nat):Int)→
 ∃ q',iter (X:=vj) (β:=vi) n (bC (a / 2 ^ k % b),(k:Int) - 1,na,bC a,nb,bC b,g1,g2,g3,g4,q,()) vh=some (Sum.inr (bC (a % b),g1,g2,g3,g4,q',()))∧Dg q'∧q'.length=(bC a).length∧v32 q'=((a / b:Nat):Int):=by
 intro n
 induction n with
 | zero=>intro k q _ h;omega
 | succ n ih=>
  intro k q hk hn hq hql hqv
  rw[br]
  generalize hag:(fun y=>iter n y vh)=again
  unfold vh
  simp only
  cases k with
  | zero=>
   rw[aN (by omega)]
   refine⟨q, ?_,hq,hql,by simpa using hqv⟩
   simp
  | succ k=>
   rw[aK (by omega),show ((k+1:Nat):Int) - 1=(k:Int) by omega]
   have hR:a / 2 ^ (k+1) % b<b:=Nat.mod_lt _ hb
   have hRl:(bC (a / 2 ^ (k+1) % b)).length≤(bC b).length:=by
    rcases ahL (bC b).length (bC (a / 2 ^ (k+1) % b)).length with h | h
    ·have:=nx h;omega
    ·exact h
   obtain⟨s,hs1,hs2,hs3,hs4⟩:=NR _ _ (eC (a / 2 ^ (k+1) % b)) (eC (a / 2 ^ (k+1) % b)) (by omega) (by omega)
   rw[hs1]
   simp only[ah4]
   have hs0:s[0]? =some s[0]:=bq (by omega)
   have hs0d:=hs2.get hs0
   have hs0v:=Ua hs2 hs0
   rw[ez] at hs3
   generalize s[0]'(by omega)=y3 at hs0 hs0d hs0v
   rw[bP (by simp only[afr,ain];omega),hs0]
   simp only[ah4]
   have hk32:k / 32<(bC a).length:=by omega
   have e5:w64 (Int.tdiv (k:Int) 32)=((k / 32:Nat):Int):=by
    rw[af2 (by omega),av (by omega) (by omega)];omega
   have e6:Int.tmod (k:Int) 32=((k % 32:Nat):Int):=by rw[af3 (by omega)];omega
   have hy4:(bC a)[k / 32]? =some ((bC a)[k / 32]):=bq hk32
   have hy4d:=(eC a).get hy4
   have hy4v:=Ua (eC a) hy4
   rw[ez] at hy4v
   generalize (bC a)[k / 32]=y4 at hy4 hy4d hy4v
   obtain⟨m4,rfl⟩:∃ m:Nat,y4=m:=⟨y4.toNat,by omega⟩
   rw[e5,e6,bH,hy4]
   simp only[ah4]
   rw[bP (by simp only[ain];omega)]
   simp only[af4]
   rw[adj m4 (k % 32) (by omega)]
   have hbit:m4 / 2 ^ (min (k % 32) 32) % 2=a / 2 ^ k % 2:=by
    have h1:m4=a / 4294967296 ^ (k / 32) % 4294967296:=by
     have h2:((a:Int) / 4294967296 ^ (k / 32) % 4294967296)=((a / 4294967296 ^ (k / 32) % 4294967296:Nat):Int):=by simp
     rw[h2] at hy4v;omega
    have h3:(4294967296:Nat) ^ (k / 32)=2 ^ (32*(k / 32)):=by rw[Nat.pow_mul]
    rw[h1,ahQ (by omega),h3]
    have h4:(4294967296:Nat)=2 ^ (k % 32)*2 ^ (32 - k % 32):=by rw[← ahY];rw[show k % 32+(32 - k % 32)=32 by omega]
    rw[show a / 2 ^ (32*(k / 32)) % 4294967296=a / 2 ^ (32*(k / 32)) % (2 ^ (k % 32)*2 ^ (32 - k % 32)) by rw[← h4],Nat.mod_mul_right_div_self,Nat.div_div_eq_div_mul, ← ahY,show 32*(k / 32)+k % 32=k by omega]
    have h5:(2:Nat) ∣ 2 ^ (32 - k % 32):=by
     rw[show 32 - k % 32=(31 - k % 32)+1 by omega,ah0];exact Nat.dvd_mul_left _ _
    exact Nat.mod_mod_of_dvd _ h5
   rw[hbit,bP (by simp only[afr,ain];omega)]
   obtain⟨m3,rfl⟩:∃ m:Nat,y3=m:=⟨y3.toNat,by omega⟩
   have hev:m3 % 2=0:=by
    have h1:v32 s / 4294967296 ^ 0 % 4294967296=v32 s % 4294967296:=by simp
    rw[h1,hs3] at hs0v
    omega
   have hor:mL (((BitVec.ofInt (IntKind.bits .u32) (m3:Int) ||| BitVec.ofInt (IntKind.bits .u32) ((a / 2 ^ k % 2:Nat):Int)).toNat:Int))=((m3+a / 2 ^ k % 2:Nat):Int):=by
    rw[VN (IntKind.bits .u32) (by show m3<2 ^ 32;omega) (by show a / 2 ^ k % 2<2 ^ 32;omega)]
    have h1:m3=2 ^ 1*(m3 / 2):=by omega
    have h2:m3 ||| (a / 2 ^ k % 2)=m3+a / 2 ^ k % 2:=by
     conv=>lhs;rw[h1]
     rw[Xd (by omega)];omega
    rw[h2];exact Cr (by omega) (by omega)
   rw[hor]
   rw[zZ _ (by simp only[agT];omega),Xx (hs2.set (by omega)),Oh hs0,hs3]
   simp only[ah4]
   have hr2:(((a / 2 ^ (k+1) % b:Nat):Int)+((a / 2 ^ (k+1) % b:Nat):Int)+4294967296 ^ 0*(((m3+a / 2 ^ k % 2:Nat):Int) - (m3:Int))).toNat=2*(a / 2 ^ (k+1) % b)+a / 2 ^ k % 2:=by
    rw[Int.pow_zero];omega
   rw[hr2]
   have htop:a / 2 ^ k=2*(a / 2 ^ (k+1))+a / 2 ^ k % 2:=by
    rw[ah0, ← Nat.div_div_eq_div_mul];omega
   generalize hT:a / 2 ^ (k+1)=T at*
   generalize hbt:a / 2 ^ k % 2=bt at*
   have hbt2:bt<2:=by omega
   have hr3l:(bC (2*(T % b)+bt)).length≤(bC b).length+1:=by
    rcases ahL ((bC b).length+1) (bC (2*(T % b)+bt)).length with h | h
    ·exfalso
     have h1:bC (4294967296*b)=0::bC b:=by
      have:=J7 (B:=4294967296) (by omega) (d:=0) (n:=b) (by omega) (by omega)
      simpa [bC] using this
     have h2:(bC (4294967296*b)).length<(bC (2*(T % b)+bt)).length:=by rw[h1];simpa using h
     have:=nx h2
     omega
    ·exact h
   obtain⟨c,hc1,hc2,hc3⟩:=GG (2*(T % b)+bt) b (by omega) (by omega)
   rw[hc1]
   simp only[ah4]
   have hdm:=Nat.div_add_mod T b
   by_cases hge:b≤2*(T % b)+bt
   ·rw[aK (by omega)]
    have hlen2:(bC b).length≤(bC (2*(T % b)+bt)).length:=by
     rcases ahL (bC (2*(T % b)+bt)).length (bC b).length with h | h
     ·have:=nx h;omega
     ·exact h
    rw[Ea _ _ (eC _) (eC _) (by omega) hlen2 (by rw[ez,ez];omega),ez,ez]
    simp only[ah4]
    rw[bP (by simp only[afr,ain];omega)]
    have hy9:q[k / 32]? =some (q[k / 32]'(by omega)):=bq (by omega)
    have hy9d:=hq.get hy9
    have hy9v:=Ua hq hy9
    rw[hqv] at hy9v
    generalize q[k / 32]'(by omega)=y9 at hy9 hy9d hy9v
    obtain⟨m9,rfl⟩:∃ m:Nat,y9=m:=⟨y9.toNat,by omega⟩
    rw[hy9]
    simp only[ah4]
    rw[bP (by simp only[ain];omega),bP (by simp only[afr,ain];omega)]
    have h9:m9=T / b*2 ^ (k+1) / 4294967296 ^ (k / 32) % 4294967296:=by
     have h2:(((T / b*2 ^ (k+1):Nat):Int) / 4294967296 ^ (k / 32) % 4294967296)=((T / b*2 ^ (k+1) / 4294967296 ^ (k / 32) % 4294967296:Nat):Int):=by simp
     rw[h2] at hy9v;omega
    have h3:(4294967296:Nat) ^ (k / 32)=2 ^ (32*(k / 32)):=by rw[Nat.pow_mul]
    have h9d:2 ^ (k % 32+1) ∣ m9:=by
     rw[h9,h3]
     have e1:T / b*2 ^ (k+1) / 2 ^ (32*(k / 32))=T / b*2 ^ (k % 32+1):=by
      rw[show k+1=(k % 32+1)+32*(k / 32) by omega,ahY, ← Nat.mul_assoc,Nat.mul_div_cancel _ (Nat.pow_pos (by omega))]
     rw[e1]
     have h4:(4294967296:Nat)=2 ^ (k % 32+1)*2 ^ (31 - k % 32):=by rw[← ahY];rw[show k % 32+1+(31 - k % 32)=32 by omega]
     exact (Nat.dvd_mod_iff (by rw[h4];exact Nat.dvd_mul_right _ _)).2 (Nat.dvd_mul_left _ _)
    have hsh:mL (1*2 ^ (min (k % 32) (IntKind.bits .u32)))=((2 ^ (k % 32):Nat):Int):=by
     rw[show IntKind.bits .u32=32 from rfl,ahQ (by omega),Int.one_mul,show ((2:Int) ^ (k % 32))=((2 ^ (k % 32):Nat):Int) by simp]
     have:2 ^ (k % 32)≤2 ^ 31:=ahZ (by omega) (by omega)
     exact Cr (by omega) (by omega)
    have hp31:2 ^ (k % 32)≤2 ^ 31:=ahZ (by omega) (by omega)
    obtain⟨e9,he9⟩:=h9d
    have hor2:mL (((BitVec.ofInt (IntKind.bits .u32) (m9:Int) ||| BitVec.ofInt (IntKind.bits .u32) ((2 ^ (k % 32):Nat):Int)).toNat:Int))=((m9+2 ^ (k % 32):Nat):Int):=by
     rw[VN (IntKind.bits .u32) (by show m9<2 ^ 32;omega) (by show 2 ^ (k % 32)<2 ^ 32;omega)]
     have h2:m9 ||| 2 ^ (k % 32)=m9+2 ^ (k % 32):=by rw[he9,Xd (Nat.pow_lt_pow_right (by omega) (by omega))]
     rw[h2]
     refine Cr (by omega) ?_
     have h5:2 ^ (k % 32+1)*e9+2 ^ (k % 32)≤4294967295:=by
      have h4:(4294967296:Nat)=2 ^ (k % 32+1)*2 ^ (31 - k % 32):=by rw[← ahY];rw[show k % 32+1+(31 - k % 32)=32 by omega]
      have h6:e9<2 ^ (31 - k % 32):=by
       rcases ahL e9 (2 ^ (31 - k % 32)) with h | h
       ·exact h
       ·have:=ahU (2 ^ (k % 32+1)) h;omega
      have h7:=ahU (2 ^ (k % 32+1)) (show e9+1≤2 ^ (31 - k % 32) by omega)
      rw[Nat.mul_add,Nat.mul_one, ← h4] at h7
      have h8:2 ^ (k % 32+1)=2*2 ^ (k % 32):=by rw[ah0,ahS]
      omega
     omega
    have hz9:m9+2 ^ (k % 32)<4294967296:=by
     have:=Cs (((BitVec.ofInt (IntKind.bits .u32) (m9:Int) ||| BitVec.ofInt (IntKind.bits .u32) ((2 ^ (k % 32):Nat):Int)).toNat:Int))
     rw[hor2] at this;omega
    rw[hsh,hor2,av (by omega) (by omega), ← hag]
    have hTk:a / 2 ^ k / b=2*(T / b)+1∧a / 2 ^ k % b=2*(T % b)+bt - b:=by
     have h1:a / 2 ^ k=b*(2*(T / b)+1)+(2*(T % b)+bt - b):=by
      rw[htop,Nat.mul_add,Nat.mul_one,show b*(2*(T / b))=2*(b*(T / b)) by rw[Nat.mul_left_comm]];omega
     have h2:2*(T % b)+bt - b<b:=by have:=Nat.mod_lt T hb;omega
     rw[h1]
     exact⟨by rw[Nat.mul_add_div hb,ahz h2,ahy],by rw[Nat.mul_add_mod,ahR h2]⟩
    have hih:=ih k (q.set (k / 32) ((m9+2 ^ (k % 32):Nat):Int)) (by omega) (by omega) (hq.set ⟨afW _,Int.ofNat_lt.2 hz9⟩) (by rw[agT];exact hql) (by
     rw[Oh hy9,hqv,hTk.1]
     have e1:(((m9+2 ^ (k % 32):Nat):Int) - (m9:Int))=((2 ^ (k % 32):Nat):Int):=by omega
     have e2:((4294967296:Int) ^ (k / 32))=((2 ^ (32*(k / 32)):Nat):Int):=by rw[← h3];simp
     rw[e1,e2, ← Int.natCast_mul, ← ahY,show 32*(k / 32)+k % 32=k by omega, ← Int.natCast_add]
     congr 1
     rw[ah0,ahx,ahX,ahS (2 ^ k) 2, ← Nat.mul_assoc,ahS (T / b) 2])
    rw[hTk.2] at hih
    have e7:(((2*(T % b)+bt:Nat):Int) - (b:Int)).toNat=2*(T % b)+bt - b:=by omega
    rw[e7]
    exact hih
   ·rw[aN (by omega),av (by omega) (by omega), ← hag]
    have hTk:a / 2 ^ k / b=2*(T / b)∧a / 2 ^ k % b=2*(T % b)+bt:=by
     have h1:a / 2 ^ k=b*(2*(T / b))+(2*(T % b)+bt):=by
      rw[htop,show b*(2*(T / b))=2*(b*(T / b)) by rw[Nat.mul_left_comm]];omega
     have h2:2*(T % b)+bt<b:=by omega
     rw[h1]
     exact⟨by rw[Nat.mul_add_div hb,ahz h2,ahy],by rw[Nat.mul_add_mod,ahR h2]⟩
    have hih:=ih k q (by omega) (by omega) hq hql (by
     rw[hqv,hTk.1]
     congr 1
     rw[ah0,ahS (2 ^ k) 2, ← Nat.mul_assoc,ahS (T / b) 2])
    rw[hTk.2] at hih
    exact hih
theorem Lu (n:Nat):v32 (List.replicate n 0)=0:=by
 induction n with
 | zero=>rfl
 | succ n ih=>rw[ahk,GC,ih];rfl
theorem aeU (k:Nat):(4294967296:Nat) ^ k=2 ^ (32*k):=by rw[Nat.pow_mul]
theorem SF (x y:Int) (hx:x.natAbs<4294967296 ^ 99) (hy:y.natAbs<4294967296 ^ 99) (h0:y≠0):wN (W x) (W y)=some (W ((x.natAbs / y.natAbs:Nat):Int),W ((x.natAbs % y.natAbs:Nat):Int),()):=by
 have hlx:=sE hx
 have hly:=sE hy
 unfold wN W
 dsimp only
 rw[bP (by simp only[afr,ain];omega)]
 have e1:w64 (w64 (((bC x.natAbs).length:Int)*32) - 1)=((32*(bC x.natAbs).length:Nat):Int) - 1:=by
  rw[av (n:=((bC x.natAbs).length:Int)*32) (by omega) (by omega),av (by omega) (by omega)];omega
 rw[e1]
 have hlt:x.natAbs<2 ^ (32*(bC x.natAbs).length):=by
  have:=JG (eC x.natAbs)
  rw[ez] at this
  have h2:((4294967296:Int) ^ (bC x.natAbs).length)=((4294967296 ^ (bC x.natAbs).length:Nat):Int):=by simp
  rw[h2,aeU] at this
  omega
 have hz:x.natAbs / 2 ^ (32*(bC x.natAbs).length)=0:=ahz hlt
 obtain⟨q,h1,h2,h3,h4⟩:=VK x.natAbs y.natAbs (by omega) (decide (x<0)) (decide (y<0)) (by omega) (by omega) false [] false [] (List.length ([]:List Int)+(Int.natAbs (((32*(bC x.natAbs).length:Nat):Int) - 1)+(List.length (bC x.natAbs)+(List.length (bC y.natAbs)+(List.length ([]:List Int)+(List.length ([]:List Int)+(List.length ((List.replicate (Int.toNat ((List.length (bC x.natAbs):Int))) 0):List Int)+2)))))))
  (32*(bC x.natAbs).length) (List.replicate (Int.toNat ((List.length (bC x.natAbs):Int))) 0) (ahF _) (by omega) (fun d hd=>by rw[List.mem_replicate] at hd;omega) (by simp) (by rw[Lu,hz];simp)
 rw[hz,Nat.zero_mod,MA] at h1
 rw[h1,aU]
 simp only
 rw[ki _ _ h2 (by omega),ki _ _ (eC _) (by
  have:=sE (k:=99) (n:=x.natAbs % y.natAbs) (ahJ (Nat.mod_le _ _) hx);omega),h4,ez]
 rfl
theorem QF (z:Int) (most:Int) (h0:0≤most) (h1:most≤9223372036854775807):zA (W z) most=some (if z.natAbs≤most then (z,true,()) else (0,false,())):=by
 unfold zA W
 dsimp only
 by_cases hl:(bC z.natAbs).length>2
 ·rw[aK (by omega)]
  have:¬ (z.natAbs:Int)≤most:=by
   intro h
   have:=sE (k:=2) (n:=z.natAbs) (by omega)
   omega
  rw[aiu this]
 ·rw[aN (by omega)]
  have hdig:=eC z.natAbs
  have hval:=ez z.natAbs
  have hlen:(bC z.natAbs).length≤2:=by omega
  generalize hd:bC z.natAbs=d at*
  have loop:∃ n0,iter (X:=th) (β:=tg) (Int.natAbs most+(Int.natAbs (0:Int)+(List.length d+(Int.natAbs ((List.length d:Int))+(Int.natAbs (0:Int)+(List.length d+2)))))) (most,0,d,(List.length d:Int),0,decide (z<0),d,()) td=some (Sum.inr (most,n0,decide (z<0),d,()))∧n0=(z.natAbs:Int):=by
   refine cN (Inv:=fun i x=>∃ u:Int,x=(most,u,d,(d.length:Int),(i:Int),decide (z<0),d,())∧u=v32 (d.take i)) d.length (fun r=>∃ n0,r=some (Sum.inr (most,n0,decide (z<0),d,()))∧n0=(z.natAbs:Int)) ?_ ?_ _ 0 _ ⟨0,rfl,by simp[Cm]⟩ (by omega) (by omega)
   ·rintro i _ again hi ⟨u,rfl,hu⟩ ih
    unfold td
    simp only
    have hy:d[i]? =some d[i]:=bq hi
    have hyd:=hdig.get hy
    have hts:=iW hy
    have hlt:=JG (hdig.take i)
    have hnn:=BE (hdig.take i)
    rw[agV,ahQ (by omega)] at hlt
    generalize d[i]=y at hy hyd hts
    rw[aK (by omega),bH,hy,ah4,av (n:=32*(i:Int)) (by omega) (by omega),bP (by simp only[ain];omega),av (n:=(i:Int)+1) (by omega) (by omega)]
    refine ih _ ⟨_,rfl, ?_⟩
    rw[hts]
    obtain⟨m,rfl⟩:∃ m:Nat,y=m:=⟨y.toNat,by omega⟩
    obtain⟨k,hk⟩:∃ k:Nat,v32 (d.take i)=k:=⟨(v32 (d.take i)).toNat,by omega⟩
    rw[hk] at hlt hu ⊢
    subst hu
    have hi2:i=0∨i=1:=by omega
    rcases hi2 with rfl | rfl
    ·simp only[Int.pow_zero] at hlt ⊢
     have:k=0:=by omega
     subst this
     have e:cn (cn (m:Int)*2 ^ (min (Int.toNat (32*((0:Nat):Int))) (IntKind.bits .u64)))=(m:Int):=by
      rw[dY (n:=(m:Int)) (by omega) (by omega)]
      simp
      exact dY (by omega) (by omega)
     rw[e,VN (IntKind.bits .u64) (by decide) (by show m<2 ^ 64;omega),Nat.zero_or,dY (by omega) (by omega)]
     omega
    ·simp only[Int.pow_one] at hlt ⊢
     have e:cn (cn (m:Int)*2 ^ (min (Int.toNat (32*((1:Nat):Int))) (IntKind.bits .u64)))=((2 ^ 32*m:Nat):Int):=by
      rw[dY (n:=(m:Int)) (by omega) (by omega),show min (Int.toNat (32*((1:Nat):Int))) (IntKind.bits .u64)=32 from rfl]
      rw[dY (by omega) (by omega)]
      omega
     rw[e,VN (IntKind.bits .u64) (by show k<2 ^ 64;omega) (by show 2 ^ 32*m<2 ^ 64;omega),Nat.or_comm,Xd (by omega),dY (by omega) (by omega)]
     omega
   ·rintro _ again ⟨u,rfl,hu⟩
    unfold td
    simp only
    rw[aN (by omega)]
    rw[ahu (ahF _),hval] at hu
    exact⟨u,rfl,hu⟩
  obtain⟨n0,h2,h3⟩:=loop
  rw[h2,aU]
  subst h3
  simp only
  rw[dY (n:=most) (by omega) (by omega)]
  by_cases hm:(z.natAbs:Int)≤most
  ·rw[aN (by omega),aiv hm]
   by_cases hneg:z<0
   ·rw[aim hneg]
    simp only[aii]
    rw[av (n:=(z.natAbs:Int)) (by omega) (by omega),av (by omega) (by omega)]
    congr 2;omega
   ·rw[aik hneg]
    simp only[aih]
    rw[av (by omega) (by omega)]
    congr 2;omega
  ·rw[aK (by omega),aiu hm]
end Go.Md
namespace Go.Md
open Go.Dn
def v6 (l:List Int):Int:=val 1000000 l
theorem NP:v6 []=0:=rfl
theorem Ub (d:Int) (l:List Int):v6 (d::l)=d+1000000*v6 l:=rfl
theorem UW (l m:List Int):v6 (l++m)=v6 l+1000000 ^ l.length*v6 m:=ET l m
theorem Uc (l:List Int) (d:Int):v6 (l++[d])=v6 l+1000000 ^ l.length*d:=XD l d
abbrev Dg6 (l:List Int):Prop:=Dig 1000000 l
def dg6 (n:Nat):List Int:=dg 1000000 n
theorem Fu:dg6 0=[]:=rfl
theorem Rr {n:Nat}:dg6 n=[]↔n=0:=Uo (B:=1000000) (by omega)
theorem J6 {n:Nat} (h:0<n):dg6 n≠[]:=GW (B:=1000000) (by omega) h
theorem AN {m n:Nat} (h:(dg6 m).length<(dg6 n).length):m<n:=Up (B:=1000000) (by omega) h
theorem uf (n:Nat):Dg6 (dg6 n):=aa7 (B:=1000000) (by omega) n
theorem BF (n:Nat):v6 (dg6 n)=n:=ab8 (B:=1000000) (by omega) n
theorem ae1 {l:List Int} (h:Dg6 l):trim l=dg6 (v6 l).toNat:=T8 (B:=1000000) (by omega) h
theorem sr {l:List Int} (h:Dg6 l):0≤v6 l:=EU (by omega) h
theorem K7 {l:List Int} (h:Dg6 l):v6 l<1000000 ^ l.length:=XC (by omega) h
theorem YL {k n:Nat} (h:n<1000000 ^ k):(dg6 n).length≤k:=WA (B:=1000000) (by omega) k n h
theorem nY {l:List Int} {i:Nat} {y:Int} (h:l[i]? =some y):v6 (l.take (i+1))=v6 (l.take i)+1000000 ^ i*y:=by
 have hi:=(agD.1 h).1
 rw[zy h,Uc,agV,ahQ (by omega)]
theorem XB {l:List Int} {i:Nat} (h:l.length≤i):v6 (l.take (i+1))=v6 (l.take i):=by
 rw[ahu h,ahu (by omega)]
theorem XA {l:List Int} {i:Nat} {y z:Int} (hi:l[i]? =some y):v6 (l.set i z)=v6 l+1000000 ^ i*(z - y):=by
 have hlt:=(agD.1 hi).1
 have e:l=l.take i++(y::l.drop (i+1)):=by
  have:=ahq i l
  rw[agi hlt,(agD.1 hi).2] at this
  exact this.symm
 have e2:l.set i z=l.take i++(z::l.drop (i+1)):=by rw[List.set_eq_take_append_cons_drop,aiv hlt]
 rw[e2]
 conv=>rhs;rw[e]
 rw[UW,UW,Ub,Ub,agV,ahQ (by omega)]
 have:(1000000:Int) ^ i*(z+1000000*v6 (l.drop (i+1)))=1000000 ^ i*(y+1000000*v6 (l.drop (i+1)))+1000000 ^ i*(z - y):=by rw[← afN];congr 1;omega
 omega
theorem VB (b:Bool) (l:List Int) (hd:Dg6 l) (hl:l.length<1000000):p8 (b,l)=some ((b&&decide (0<v6 l),dg6 (v6 l).toNat),()):=by
 have key:∀ n (x:tT),x.2.1.length<1000000→x.2.1.length<n→iter n x D3=some (Sum.inr (x.1,trim x.2.1,x.2.2.1,x.2.2.2.1,())):=by
  refine He (fun x:tT=>x.2.1.length<1000000) (fun x=>x.2.1.length) (fun x r=>r=some (Sum.inr (x.1,trim x.2.1,x.2.2.1,x.2.2.2.1,()))) ?_
  rintro⟨c,x,g,m,u⟩ again hx ih
  simp only at hx ih ⊢
  unfold D3
  simp only
  by_cases h0:x.length=0
  ·have:x=[]:=agn h0
   subst this;simp[trim]
  ·have e1:w64 ((x.length:Int) - 1)=((x.length - 1:Nat):Int):=by rw[av (by omega) (by omega)];omega
   have hsp:x=x.take (x.length - 1)++[x[x.length - 1]'(by omega)]:=by
    have:=ahq (x.length - 1) x
    rw[agi (by omega),agk (by omega)] at this
    exact this.symm
   rw[aK (by omega),e1,bH,bq (by omega)]
   simp only[af4,agl,ah4]
   by_cases hz:x[x.length - 1]'(by omega)=0
   ·rw[hz] at hsp ⊢
    rw[bP (by simp only[afr,ain];omega)]
    simp only[aie,aii]
    rw[ih (c,List.take (x.length - 1) x,g,m,()) (by simp only[agV];omega) (by simp only[agV];omega)]
    conv=>rhs;rw[hsp,Cl]
   ·have:(x[x.length - 1]'(by omega)==0)=false:=by simp[hz]
    rw[this]
    simp only[aih]
    conv=>rhs;rw[hsp,GB hz]
    rw[← hsp]
 unfold p8
 rw[key _ _ (by simpa using hl) (by simp),aU]
 simp only
 rw[ae1 hd]
 have h0:=sr hd
 by_cases hv:v6 l=0
 ·simp[hv,Fu]
 ·have h1:dg6 (v6 l).toNat≠[]:=J6 (by omega)
  have h2:(((dg6 (v6 l).toNat).length:Int)==0)=false:=by
   have:(dg6 (v6 l).toNat).length≠0:=fun h=>h1 (agn h)
   simp;omega
  rw[h2]
  have h3:decide (0<v6 l)=true:=by simp;omega
  simp[h3]
def N (z:Int):aJ:=(decide (z<0),dg6 z.natAbs)
theorem TP (b:Bool) (l:List Int) (hd:Dg6 l) (hl:l.length<1000000):p8 (b,l)=some (N (if b then -v6 l else v6 l),()):=by
 rw[VB b l hd hl]
 have h0:=sr hd
 cases b with
 | false=>
  simp only[N];congr 3
  ·simp;omega
  ·simp only[afx,ait];congr 1;omega
 | true=>
  simp only[N];congr 3
  ·simp
  ·simp only[aiw];congr 1;omega
theorem acZ (x:Int):(Int.tdiv x 1000000).natAbs=x.natAbs / 1000000:=by rw[Int.natAbs_tdiv];rfl
theorem ac0 (x:Int):(Int.tmod x 1000000).natAbs=x.natAbs % 1000000:=by rw[Int.natAbs_tmod];rfl
theorem adu {n:Nat} (h:0<n):dg6 n=((n % 1000000:Nat):Int)::dg6 (n / 1000000):=C6 (B:=1000000) (by omega) h
theorem EL (ng g:Bool) (gl:List Int):∀ (k fuel:Nat) (out:List Int) (x:Int),out.length+k<1000→x.natAbs<1000000 ^ k→k<fuel→ -9223372036854775808<x→x≤9223372036854775807→
 iter (X:=F5) (β:=FZ) fuel (x,g,gl,ng,out,()) zO=some (Sum.inr (g,gl,ng,out++dg6 x.natAbs,()))
 | k,0,_,_,_,_,h,_,_=>by omega
 | 0,fuel+1,out,x,_,hx,_,_,_=>by
  have:x=0:=by simp at hx;omega
  subst this
  rw[br]
  unfold zO
  simp[Fu]
 | k+1,fuel+1,out,x,ho,hx,hf,h1,h2=>by
  rw[br]
  generalize hag:(fun y=>iter fuel y zO)=again
  unfold zO
  dsimp only
  by_cases h0:x=0
  ·subst h0;simp[Fu]
  ·have hb:(x != 0)=true:=by simp[h0]
   rw[hb,aii,bP (wW (by omega) (by omega)), ← hag]
   have e0:=acZ x
   have e1:=ac0 x
   have e2:(if (w64 (0 - (Int.tmod x 1000000)))>(Int.tmod x 1000000) then (w64 (0 - (Int.tmod x 1000000))) else (Int.tmod x 1000000))=((x.natAbs % 1000000:Nat):Int):=by
    rw[av (by omega) (by omega)]
    split<;>omega
   rw[e2,av (by omega) (by omega)]
   show iter fuel _ zO=_
   rw[EL ng g gl k fuel _ _ (by simp;omega) (by rw[e0];rw[ah0] at hx;exact Nat.div_lt_of_lt_mul (by rw[ahS];exact hx)) (by omega) (by omega) (by omega),e0,agb,List.singleton_append, ← adu (by omega)]
theorem nR (n:Int) (h1: -9223372036854775808<n) (h2:n≤9223372036854775807):sX n=some (N n,()):=by
 unfold sX
 have key:iter (X:=F5) (β:=FZ) (Int.natAbs n+(List.length ([]:List Int)+(List.length ([]:List Int)+2))) (n,false,[],decide (n<0),[],()) zO=some (Sum.inr (false,[],decide (n<0),[]++dg6 n.natAbs,())):=by
  by_cases h0:n.natAbs<1
  ·exact EL _ _ _ 0 _ _ _ (by simp) (by simpa using h0) (by omega) h1 h2
  ·by_cases h3:n.natAbs<1000000
   ·exact EL _ _ _ 1 _ _ _ (by simp) (by simpa using h3) (by omega) h1 h2
   ·exact EL _ _ _ 4 _ _ _ (by simp) (by omega) (by omega) h1 h2
 rw[key,aU]
 rfl
theorem VA (a b:List Int) (ha:Dg6 a) (hb:Dg6 b) (hab:a.length=b.length) (hla:a.length<100000):∀ (n k:Nat),k≤a.length→k<n→
 ∃ c:Int,iter (X:=CO) (β:=CN) n (a,b,(k:Int) - 1,()) yF=(if v6 (a.take k)=v6 (b.take k) then some (Sum.inr ()) else some (Sum.inl (c,())))∧(c<0↔v6 (a.take k)<v6 (b.take k))∧(0<c↔v6 (b.take k)<v6 (a.take k)):=by
 intro n
 induction n with
 | zero=>intro k _ h;omega
 | succ n ih=>
  intro k hk hn
  rw[br]
  generalize hag:(fun y=>iter n y yF)=again
  unfold yF
  dsimp only
  cases k with
  | zero=>exact⟨0,by simp[NP],by simp,by simp⟩
  | succ k=>
   rw[aK (by omega),show ((k+1:Nat):Int) - 1=(k:Int) by omega,bH,bH]
   have hx:a[k]? =some a[k]:=bq (by omega)
   have hy:b[k]? =some b[k]:=bq (by omega)
   rw[hx,hy]
   simp only[ah4]
   rw[nY hx,nY hy]
   have h1:=K7 (ha.take k)
   have h2:=K7 (hb.take k)
   have h3:=sr (ha.take k)
   have h4:=sr (hb.take k)
   have h5:=ha.get hx
   have h6:=hb.get hy
   rw[agV,ahQ (by omega)] at h1 h2
   generalize a[k]=x at*
   generalize b[k]=y at*
   by_cases hxy:x=y
   ·subst hxy
    simp only[aif,aih]
    rw[av (by omega) (by omega), ← hag]
    obtain⟨c,h7,h8,h9⟩:=ih k (by omega) (by omega)
    refine⟨c, ?_,by omega,by omega⟩
    show iter n (a,b,(k:Int) - 1,()) yF=_
    rw[h7]
    congr 1
    simp
   ·have hne:(x != y)=true:=by simp[hxy]
    rw[hne]
    simp only[aii]
    rw[av (by omega) (by omega)]
    refine⟨x - y, ?_, ?_, ?_⟩
    ·rw[aiu]
     intro h
     rcases Int.lt_or_gt_of_ne hxy with hlt | hlt
     ·have:(1000000:Int) ^ k*(x+1)≤1000000 ^ k*y:=afP (by omega) (by omega)
      rw[afN,afS] at this
      omega
     ·have:(1000000:Int) ^ k*(y+1)≤1000000 ^ k*x:=afP (by omega) (by omega)
      rw[afN,afS] at this
      omega
    ·rcases Int.lt_or_gt_of_ne hxy with hlt | hlt
     ·have:(1000000:Int) ^ k*(x+1)≤1000000 ^ k*y:=afP (by omega) (by omega)
      rw[afN,afS] at this
      omega
     ·have:(1000000:Int) ^ k*(y+1)≤1000000 ^ k*x:=afP (by omega) (by omega)
      rw[afN,afS] at this
      omega
    ·rcases Int.lt_or_gt_of_ne hxy with hlt | hlt
     ·have:(1000000:Int) ^ k*(x+1)≤1000000 ^ k*y:=afP (by omega) (by omega)
      rw[afN,afS] at this
      omega
     ·have:(1000000:Int) ^ k*(y+1)≤1000000 ^ k*x:=afP (by omega) (by omega)
      rw[afN,afS] at this
      omega
theorem Yy (m n:Nat) (hm:(dg6 m).length<100000) (hn:(dg6 n).length<100000):∃ c,KO (dg6 m) (dg6 n)=some (c,())∧(c<0↔m<n)∧(0<c↔n<m):=by
 unfold KO
 by_cases h:(dg6 m).length=(dg6 n).length
 ·have hb:(((dg6 m).length:Int) != ((dg6 n).length:Int))=false:=by simp[h]
  rw[hb]
  simp only[aih]
  by_cases h0:(dg6 m).length=0
  ·have hm0:m=0:=Rr.1 (agn h0)
   have hn0:n=0:=Rr.1 (agn (by omega))
   subst hm0;subst hn0
   exact⟨0,rfl,by simp,by simp⟩
  ·have e1:w64 (((dg6 m).length:Int) - 1)=(((dg6 m).length:Nat):Int) - 1:=av (by omega) (by omega)
   obtain⟨c,h1,h2,h3⟩:=VA _ _ (uf m) (uf n) h hm ((dg6 m).length+((dg6 n).length+(Int.natAbs ((((dg6 m).length:Nat):Int) - 1)+2))) _ (ahF _) (by omega)
   rw[ahu (ahF _),ahu (by omega),BF,BF] at h1 h2 h3
   rw[e1,h1]
   by_cases hmn:(m:Int)=n
   ·rw[aiv hmn,aU];exact⟨0,rfl,by omega,by omega⟩
   ·rw[aiu hmn,Ag];exact⟨c,rfl,by omega,by omega⟩
 ·have hb:(((dg6 m).length:Int) != ((dg6 n).length:Int))=true:=by simp;omega
  rw[hb]
  simp only[aii]
  rw[av (by omega) (by omega)]
  refine⟨_,rfl, ?_, ?_⟩
  ·constructor
   ·intro h1;exact AN (by omega)
   ·intro h1
    rcases ahM h with h2 | h2
    ·omega
    ·have:=AN (m:=n) (n:=m) h2;omega
  ·constructor
   ·intro h1;exact AN (by omega)
   ·intro h1
    rcases ahM h with h2 | h2
    ·have:=AN (m:=m) (n:=n) h2;omega
    ·omega
theorem It (l:List Int) (i:Nat):Cd l (i:Int)=some ((l[i]?).getD 0,()):=by
 unfold Cd
 by_cases h:i<l.length
 ·rw[aK (by omega),bH,bq h];rfl
 ·rw[aN (by omega),agC (by omega)];rfl
theorem GD (l:List Int) (i:Nat):v6 (l.take (i+1))=v6 (l.take i)+1000000 ^ i*(l[i]?).getD 0:=by
 by_cases h:i<l.length
 ·rw[nY (bq h),bq h];rfl
 ·rw[XB (by omega),agC (by omega)];simp
theorem Ql {l:List Int} (h:Dg6 l) (i:Nat):0≤(l[i]?).getD 0∧(l[i]?).getD 0<1000000:=by
 cases hi:l[i]? with
 | none=>simp
 | some d=>exact h.get hi
theorem Yw (a b:List Int) (ha:Dg6 a) (hb:Dg6 b) (na nb g:Bool) (gl:List Int) (ng:Bool) (M:Nat) (hM:M<100000) (hlen:a.length<M∧b.length<M) (n:Nat) (hn:M<n):
 ∃ out,iter (X:=CI) (β:=CH) n (0,(M:Int),0,na,a,nb,b,g,gl,ng,[],()) CG=some (Sum.inr (g,gl,ng,out,()))∧Dg6 out∧out.length=M∧v6 out=v6 a+v6 b:=by
 refine cN (Inv:=fun i x=>∃ (out:List Int) (c:Int),x=(c,(M:Int),(i:Int),na,a,nb,b,g,gl,ng,out,())∧Dg6 out∧0≤c∧c≤1∧out.length=i∧v6 out+1000000 ^ i*c=v6 (a.take i)+v6 (b.take i)) M
  (fun r=>∃ out,r=some (Sum.inr (g,gl,ng,out,()))∧Dg6 out∧out.length=M∧v6 out=v6 a+v6 b) ?_ ?_ n 0 _ ⟨[],0,rfl,Dig.nil,by omega,by omega,rfl,by simp[NP]⟩ (by omega) (by omega)
 ·rintro i _ again hi ⟨out,c,rfl,hd,hc0,hc1,hl,hv⟩ ih
  unfold CG
  dsimp only
  rw[aK (by omega),It,It]
  have h1:=Ql ha i
  have h2:=Ql hb i
  have h3:=GD a i
  have h4:=GD b i
  generalize (a[i]?).getD 0=x at*
  generalize (b[i]?).getD 0=y at*
  simp only[ah4]
  rw[bP (wW (by omega) (by omega)),av (n:=x+y) (by omega) (by omega),av (n:=x+y+c) (by omega) (by omega),av (n:=(i:Int)+1) (by omega) (by omega),af3 (by omega),af2 (by omega),av (by omega) (by omega)]
  refine ih _ ⟨_,_,rfl,hd.snoc (by omega),by omega,by omega,by simp[hl], ?_⟩
  rw[Uc,hl,h3,h4,afZ]
  have:(1000000:Int) ^ i*((x+y+c) % 1000000)+1000000 ^ i*1000000*((x+y+c) / 1000000)=1000000 ^ i*(x+y+c):=by
   rw[afO, ← afN];congr 1;omega
  rw[afN,afN] at this
  omega
 ·rintro _ again ⟨out,c,rfl,hd,hc0,hc1,hl,hv⟩
  unfold CG
  dsimp only
  rw[aN (by omega)]
  rw[ahu (by omega),ahu (by omega)] at hv
  refine⟨out,rfl,hd,hl, ?_⟩
  have h1:=K7 ha
  have h2:=K7 hb
  have h3:=sr hd
  have hp:∀ l:Nat,l<M→(1000000:Int) ^ l*1000000≤1000000 ^ M:=by
   intro l hlM
   rw[← afZ]
   have h:=ahZ (n:=1000000) (by omega) (show l+1≤M by omega)
   have:=afX.2 h
   simpa using this
  have h4:=hp _ hlen.1
  have h5:=hp _ hlen.2
  have h6:=sr ha
  have h7:=sr hb
  rcases (show c=0∨c=1 by omega) with h | h
  ·subst h;omega
  ·subst h;rw[afS] at hv;omega
theorem Yx (a b:List Int) (ha:Dg6 a) (hb:Dg6 b) (na nb g:Bool) (gl:List Int) (ng:Bool) (hla:a.length<100000) (hlb:b.length≤a.length) (hle:v6 b≤v6 a) (n:Nat) (hn:a.length<n):
 ∃ out,iter (X:=Bf) (β:=Be) n (0,(a.length:Int),0,na,a,nb,b,g,gl,ng,[],()) Bc=some (Sum.inr (g,gl,ng,out,()))∧Dg6 out∧out.length=a.length∧v6 out=v6 a - v6 b:=by
 refine cN (Inv:=fun i x=>∃ (out:List Int) (c:Int),x=(c,(a.length:Int),(i:Int),na,a,nb,b,g,gl,ng,out,())∧Dg6 out∧0≤c∧c≤1∧out.length=i∧v6 out=v6 (a.take i) - v6 (b.take i)+1000000 ^ i*c) a.length
  (fun r=>∃ out,r=some (Sum.inr (g,gl,ng,out,()))∧Dg6 out∧out.length=a.length∧v6 out=v6 a - v6 b) ?_ ?_ n 0 _ ⟨[],0,rfl,Dig.nil,by omega,by omega,rfl,by simp[NP]⟩ (by omega) (by omega)
 ·rintro i _ again hi ⟨out,c,rfl,hd,hc0,hc1,hl,hv⟩ ih
  unfold Bc
  dsimp only
  have hy:a[i]? =some a[i]:=bq hi
  rw[aK (by omega),It,bH,hy]
  have h1:=ha.get hy
  have h2:=Ql hb i
  have h3:=nY hy
  have h4:=GD b i
  generalize a[i]=x at*
  generalize (b[i]?).getD 0=y at*
  simp only[ah4]
  rw[av (n:=x - y) (by omega) (by omega),av (n:=x - y - c) (by omega) (by omega)]
  have fin:∀ q:Int,(q=0∨q=1)→0≤x - y - c+1000000*q→x - y - c+1000000*q<1000000→∃ out',again (q,(a.length:Int),w64 ((i:Int)+1),na,a,nb,b,g,gl,ng,out++[x - y - c+1000000*q],())=some (Sum.inr (g,gl,ng,out',()))∧Dg6 out'∧out'.length=a.length∧v6 out'=v6 a - v6 b:=by
   intro q hq hq0 hq1
   rw[av (by omega) (by omega)]
   refine ih _ ⟨_,q,rfl,hd.snoc (by omega),by omega,by omega,by simp[hl], ?_⟩
   rw[Uc,hl,h3,h4,afZ,hv]
   generalize (1000000:Int) ^ i=p
   rw[afN,Int.mul_sub,Int.mul_sub,afO]
   omega
  by_cases hneg:x - y - c<0
  ·rw[aK hneg,aU]
   dsimp only
   rw[bP (wW (by omega) (by omega)),av (n:=x - y - c+1000000) (by omega) (by omega)]
   exact fin 1 (.inr rfl) (by omega) (by omega)
  ·rw[aN hneg,aU]
   dsimp only
   rw[bP (wW (by omega) (by omega))]
   have:=fin 0 (.inl rfl) (by omega) (by omega)
   rw[show x - y - c+1000000*0=x - y - c by omega] at this
   exact this
 ·rintro _ again ⟨out,c,rfl,hd,hc0,hc1,hl,hv⟩
  unfold Bc
  dsimp only
  rw[aN (by omega)]
  rw[ahu (ahF _),ahu hlb] at hv
  refine⟨out,rfl,hd,hl, ?_⟩
  have h3:=K7 hd
  rw[hl] at h3
  rcases (show c=0∨c=1 by omega) with h | h
  ·subst h;omega
  ·subst h;rw[afS] at hv;omega
theorem ZK {m n:Nat} (h:m≤n):(dg6 m).length≤(dg6 n).length:=by
 rcases ahL (dg6 n).length (dg6 m).length with h1 | h1
 ·have:=AN h1;omega
 ·exact h1
theorem aak (x y:Int) (hx:(dg6 x.natAbs).length<10000) (hy:(dg6 y.natAbs).length<10000):Oc (N x) (N y)=some (N (x+y),()):=by
 unfold Oc N
 dsimp only
 have main:∀ (a b:Nat) (na nb:Bool),(dg6 a).length<10000→(dg6 b).length<10000→b≤a→az (β:=(aJ×Unit)) (γ:=(Bool×(List Int)×Bool×(List Int)×Unit)) (
  iter (X:=Bf) (β:=Be) (Int.natAbs (0:Int)+(Int.natAbs ((List.length (dg6 a):Int))+(Int.natAbs (0:Int)+(List.length (dg6 a)+(List.length (dg6 b)+(List.length ([]:List Int)+(List.length ([]:List Int)+2))))))) (0,(List.length (dg6 a):Int),0,na,dg6 a,nb,dg6 b,false,[],na,[],()) (Bc)) (fun v8=>
  Option.bind (p8 (v8.2.2.1,v8.2.2.2.1)) fun r9=>
  some (r9.1,()))=some (N (if na then -((a:Int) - b) else (a:Int) - b),()):=by
  intro a b na nb h1 h2 h3
  obtain⟨out,h4,h5,h6,h7⟩:=Yx (dg6 a) (dg6 b) (uf a) (uf b) na nb false [] na (by omega) (ZK h3) (by rw[BF,BF];omega) (Int.natAbs (0:Int)+(Int.natAbs ((List.length (dg6 a):Int))+(Int.natAbs (0:Int)+(List.length (dg6 a)+(List.length (dg6 b)+(List.length ([]:List Int)+(List.length ([]:List Int)+2))))))) (by omega)
  rw[h4,aU]
  dsimp only
  rw[TP _ _ h5 (by omega),h7,BF,BF]
  rfl
 by_cases hs:decide (x<0)=decide (y<0)
 ·rw[show (!(decide (x<0)==decide (y<0)))=false by simp[hs]]
  dsimp only[cond_false]
  have e1:w64 ((if ((dg6 y.natAbs).length:Int)>((dg6 x.natAbs).length:Int) then ((dg6 y.natAbs).length:Int) else ((dg6 x.natAbs).length:Int))+1)=((max (dg6 x.natAbs).length (dg6 y.natAbs).length+1:Nat):Int):=by
   split<;>rw[av (by omega) (by omega)]<;>omega
  rw[e1]
  obtain⟨out,h4,h5,h6,h7⟩:=Yw (dg6 x.natAbs) (dg6 y.natAbs) (uf _) (uf _) (decide (x<0)) (decide (y<0)) false [] (decide (x<0)) (max (dg6 x.natAbs).length (dg6 y.natAbs).length+1) (by omega) ⟨by omega,by omega⟩ (Int.natAbs (0:Int)+(Int.natAbs ((max (dg6 x.natAbs).length (dg6 y.natAbs).length+1:Nat):Int)+(Int.natAbs (0:Int)+(List.length (dg6 x.natAbs)+(List.length (dg6 y.natAbs)+(List.length ([]:List Int)+(List.length ([]:List Int)+2))))))) (by omega)
  rw[h4,aU]
  dsimp only
  rw[TP _ _ h5 (by omega),h7,BF,BF]
  rw[ah4]
  show some (N _,())=some (N (x+y),())
  congr 3
  simp only[aij] at hs
  by_cases h:x<0
  ·simp only[h,aip,aiw];omega
  ·simp only[h,aio,afx,ait];omega
 ·rw[show (!(decide (x<0)==decide (y<0)))=true by simp[hs]]
  rw[aii]
  obtain⟨c,h1,h2,h3⟩:=Yy x.natAbs y.natAbs (by omega) (by omega)
  rw[h1,ah4]
  dsimp only
  simp only[aij] at hs
  by_cases hc:c<0
  ·rw[aK hc,aU]
   have:=main y.natAbs x.natAbs (decide (y<0)) (decide (x<0)) hy hx (by omega)
   dsimp only
   rw[this]
   congr 3
   by_cases h:y<0
   ·simp only[h,aip,aiw];omega
   ·simp only[h,aio,afx,ait];omega
  ·rw[aN hc,aU]
   have:=main x.natAbs y.natAbs (decide (x<0)) (decide (y<0)) hx hy (by omega)
   dsimp only
   rw[this]
   congr 3
   by_cases h:x<0
   ·simp only[h,aip,aiw];omega
   ·simp only[h,aio,afx,ait];omega
theorem Yv (x:Int):KM (N x)=some (N (-x),()):=by
 unfold KM N
 dsimp only
 by_cases h0:x=0
 ·subst h0;simp[Fu]
 ·have h1:dg6 x.natAbs≠[]:=J6 (by omega)
  have h2:0<(dg6 x.natAbs).length:=by
   rcases ahC (dg6 x.natAbs).length with h | h
   ·exact absurd (agn h) h1
   ·exact h
  rw[aK (by omega),Int.natAbs_neg]
  congr 3
  by_cases h:x<0
  ·simp[h];omega
  ·simp[h];omega
theorem aal (x:Int):Od (N x)=some (x.sign,()):=by
 unfold Od N
 dsimp only
 by_cases h0:x=0
 ·subst h0;simp[Fu]
 ·have h1:dg6 x.natAbs≠[]:=J6 (by omega)
  have h2:(((dg6 x.natAbs).length:Int)==0)=false:=by
   have:(dg6 x.natAbs).length≠0:=fun h=>h1 (agn h)
   simp;omega
  rw[h2,aih]
  by_cases h:x<0
  ·simp[h,af0 h]
  ·simp[h,af1 (show 0<x by omega)]
theorem Nx (x y:Int) (hx:(dg6 x.natAbs).length<10000) (hy:(dg6 y.natAbs).length<10000):FY (N x) (N y)=some ((x - y).sign,()):=by
 unfold FY
 rw[Yv,ah4]
 dsimp only
 rw[aak x (-y) hx (by rw[Int.natAbs_neg];exact hy),ah4]
 dsimp only
 rw[aal,ah4]
 rw[show x+ -y=x - y by omega]
end Go.Md
namespace Go.Md
open Go.Dn
def Big (D:Int) (l:List Int):Prop:=∀ d,d∈l→0≤d∧d≤D
theorem Big.get {D d:Int} {l:List Int} {i:Nat} (h:Big D l) (hi:l[i]? =some d):0≤d∧d≤D:=h d (ahb hi)
theorem Big.set {D E:Int} {l:List Int} (h:Big D l) (hDE:D≤E) {i:Nat} {z:Int} (hz:0≤z∧z≤E):Big E (l.set i z):=fun x hx=>by
 rcases ahd hx with hx | rfl
 ·have:=h x hx;omega
 ·exact hz
theorem Big.mono {D E:Int} {l:List Int} (h:Big D l) (hDE:D≤E):Big E l:=fun x hx=>by have:=h x hx;omega
theorem Xz {l:List Int} {j:Nat} {y z t:Int} (hj:l[j]? =some y) (hj1:l[j+1]? =some z):v6 (((l.set j t).set (j+1) (z+t / 1000000)).set j (t % 1000000))=v6 l+1000000 ^ j*(t - y):=by
 have hl:=(agD.1 hj).1
 have h1:(l.set j t)[j+1]? =some z:=by rw[agI (by omega)];exact hj1
 have h2:((l.set j t).set (j+1) (z+t / 1000000))[j]? =some t:=by rw[agI (by omega),agJ hl]
 rw[XA h2,XA h1,XA hj,afZ]
 have e:(1000000:Int) ^ j*1000000*(z+t / 1000000 - z)+1000000 ^ j*(t % 1000000 - t)=0:=by
  rw[afO, ← afN]
  have:1000000*(z+t / 1000000 - z)+(t % 1000000 - t)=0:=by omega
  rw[this,Int.mul_zero]
 omega
theorem aaz {α:Type} (l:List α) (j:Nat) (t z u:α):((l.set j t).set (j+1) z).set j u=(l.set j u).set (j+1) z:=by
 rw[ahl _ _ (show j+1≠j by omega),ahm]
theorem TN (i:Nat) (x:Int) (g1:List Int) (g2 g3:Int) (b:List Int) (nb gb:Bool) (gl:List Int) (ng:Bool) (out:List Int) (D:Int) (hx:0≤x∧x<1000000) (hb:Dg6 b) (hbl:b.length<10000) (hil:i<10000) (ho:i+b.length<out.length) (hol:out.length<100000) (hD:Big D out) (hD0:0≤D) (hD1:D+3000000*b.length≤1000000000000) (n:Nat) (hn:b.length<n):
 ∃ out',iter (X:=zo) (β:=zm) n ((i:Int),x,g1,g2,g3,b,(b.length:Int),0,nb,b,gb,gl,ng,out,()) zk=some (Sum.inr (g1,g2,g3,nb,b,gb,gl,ng,out',()))∧out'.length=out.length∧Big (D+3000000*b.length) out'∧v6 out'=v6 out+1000000 ^ i*(x*v6 b):=by
 refine cN (Inv:=fun k s=>∃ o:List Int,s=((i:Int),x,g1,g2,g3,b,(b.length:Int),(k:Int),nb,b,gb,gl,ng,o,())∧o.length=out.length∧Big (D+3000000*k) o∧v6 o=v6 out+1000000 ^ i*(x*v6 (b.take k))) b.length
  (fun r=>∃ out',r=some (Sum.inr (g1,g2,g3,nb,b,gb,gl,ng,out',()))∧out'.length=out.length∧Big (D+3000000*b.length) out'∧v6 out'=v6 out+1000000 ^ i*(x*v6 b)) ?_ ?_ n 0 _ ⟨out,rfl,rfl,hD.mono (by omega),by simp[NP]⟩ (by omega) (by omega)
 ·rintro k _ again hk ⟨o,rfl,hol',hB,hv⟩ ih
  unfold zk
  dsimp only
  have hy:b[k]? =some b[k]:=bq hk
  have hyd:=hb.get hy
  have hts:=nY hy
  generalize b[k]=y at hy hyd hts
  have e1:w64 ((i:Int)+(k:Int))=((i+k:Nat):Int):=by rw[av (by omega) (by omega)];omega
  have e2:w64 (((i+k:Nat):Int)+1)=((i+k+1:Nat):Int):=by rw[av (by omega) (by omega)];omega
  rw[aK (by omega),bH,hy,ah4,e1,e2]
  simp only[af4]
  have h3:o[i+k]? =some o[i+k]:=bq (by omega)
  have h4:o[i+k+1]? =some o[i+k+1]:=bq (by omega)
  have d3:=hB.get h3
  have d4:=hB.get h4
  generalize o[i+k]'(by omega)=y3 at h3 d3
  generalize o[i+k+1]'(by omega)=y4 at h4 d4
  have hxy:0≤x*y∧x*y≤1000000000000:=by
   constructor
   ·exact afR hx.1 hyd.1
   ·have h1:x*y≤1000000*y:=afQ (by omega) hyd.1
    omega
  have e3:w64 (y3+w64 (x*y))=y3+x*y:=by rw[av (n:=x*y) (by omega) (by omega),av (by omega) (by omega)]
  generalize hxy':x*y=xy at*
  have h5:(o.set (i+k) (y3+xy))[i+k+1]? =some y4:=by rw[agI (by omega)];exact h4
  have h6:(o.set (i+k) (y3+xy))[i+k]? =some (y3+xy):=agJ (by omega)
  have e4:w64 (y4+w64 (Int.tdiv (y3+xy) 1000000))=y4+(y3+xy) / 1000000:=by
   rw[af2 (by omega),av (n:=(y3+xy) / 1000000) (by omega) (by omega),av (by omega) (by omega)]
  have h7:((o.set (i+k) (y3+xy)).set (i+k+1) (y4+(y3+xy) / 1000000))[i+k]? =some (y3+xy):=by rw[agI (by omega)];exact h6
  simp only[h3,ah4,e3]
  simp only[h5,h6,ah4]
  simp only[e4,h7,ah4,agT]
  rw[bP (by simp only[afr,ain];omega),bP (by simp only[afr,ain];omega),bP (by simp only[afr,ain];omega),bP (by simp only[afr,ain];omega),bP (by simp only[afr,ain];omega),bP (by simp only[afr,ain];omega),bP (by simp only[afr,ain];omega)]
  rw[av (n:=(k:Int)+1) (by omega) (by omega),af3 (by omega)]
  refine ih _ ⟨_,rfl,by simp only[agT];exact hol', ?_, ?_⟩
  ·rw[aaz]
   exact Big.set (D:=D+3000000*((k+1:Nat):Int)) (Big.set hB (by omega) (by omega)) (afM _) (by omega)
  ·rw[Xz h3 h4,hv,hts]
   have e5:x*(v6 (b.take k)+1000000 ^ k*y)=x*v6 (b.take k)+1000000 ^ k*xy:=by rw[afN, ← hxy',Int.mul_left_comm]
   rw[e5,afN,afY,show y3+xy - y3=xy by omega,afO (1000000 ^ i) (1000000 ^ k) xy]
   omega
 ·rintro _ again ⟨o,rfl,hol',hB,hv⟩
  unfold zk
  dsimp only
  rw[aN (by omega)]
  rw[ahu (ahF _)] at hv
  exact⟨o,rfl,hol',hB,hv⟩
theorem TO (a b:List Int) (ha:Dg6 a) (hb:Dg6 b) (hal:a.length<100) (hbl:b.length<1000) (nb gb:Bool) (gl:List Int) (ng:Bool) (out:List Int) (ho:a.length+b.length<out.length) (hol:out.length<100000) (hz:Big 0 out) (hv0:v6 out=0) (n:Nat) (hn:a.length<n):
 ∃ out',iter (X:=zn) (β:=zl) n (a,(a.length:Int),0,nb,b,gb,gl,ng,out,()) zj=some (Sum.inr (gb,gl,ng,out',()))∧out'.length=out.length∧Big 1000000000000 out'∧v6 out'=v6 a*v6 b:=by
 refine cN (Inv:=fun i s=>∃ o:List Int,s=(a,(a.length:Int),(i:Int),nb,b,gb,gl,ng,o,())∧o.length=out.length∧Big (3000000*b.length*i) o∧v6 o=v6 (a.take i)*v6 b) a.length
  (fun r=>∃ out',r=some (Sum.inr (gb,gl,ng,out',()))∧out'.length=out.length∧Big 1000000000000 out'∧v6 out'=v6 a*v6 b) ?_ ?_ n 0 _ ⟨out,rfl,rfl,hz.mono (by omega),by simp[NP,hv0]⟩ (by omega) (by omega)
 ·rintro i _ again hi ⟨o,rfl,hl,hB,hv⟩ ih
  unfold zj
  dsimp only
  have hy:a[i]? =some a[i]:=bq hi
  have hyd:=ha.get hy
  have hts:=nY hy
  generalize a[i]=y at hy hyd hts
  rw[aK (by omega),bH,hy,ah4]
  have hbnd:3000000*(b.length:Int)*(i:Int)≤3000000*(b.length:Int)*99:=afP (by omega) (by omega)
  have hnn:0≤3000000*(b.length:Int)*(i:Int):=afR (by omega) (by omega)
  obtain⟨o',h1,h2,h3,h4⟩:=TN i y a (a.length:Int) (i:Int) b nb gb gl ng o (3000000*(b.length:Int)*(i:Int)) hyd hb (by omega) (by omega) (by omega) (by omega) hB hnn (by omega) (Int.natAbs (i:Int)+(Int.natAbs y+(List.length a+(Int.natAbs (a.length:Int)+(Int.natAbs (i:Int)+(List.length b+(Int.natAbs ((List.length b:Int))+(Int.natAbs (0:Int)+(List.length b+(List.length gl+(List.length o+2))))))))))) (by omega)
  rw[h1,aU]
  dsimp only
  rw[av (by omega) (by omega)]
  refine ih _ ⟨o',rfl,by omega, ?_, ?_⟩
  ·have e:3000000*(b.length:Int)*(i:Int)+3000000*(b.length:Int)=3000000*(b.length:Int)*((i+1:Nat):Int):=by
    rw[show ((i+1:Nat):Int)=(i:Int)+1 by omega,afN,afS]
   rw[← e];exact h3
  ·rw[h4,hv,hts,Int.add_mul,afO]
 ·rintro _ again ⟨o,rfl,hl,hB,hv⟩
  unfold zj
  dsimp only
  rw[aN (by omega)]
  rw[ahu (ahF _)] at hv
  have hbnd:3000000*(b.length:Int)*(a.length:Int)≤3000000*(b.length:Int)*99:=afP (by omega) (by omega)
  exact⟨o,rfl,hl,hB.mono (by omega),hv⟩
theorem Vz (l:List Int) (nb g:Bool) (gl:List Int) (M:Nat) (hM:M+1=l.length) (hl:l.length<10000) (hB:Big 1000000000000 l) (n:Nat) (hn:M<n):
 ∃ l',iter (X:=xB) (β:=xA) n ((M:Int),0,g,gl,nb,l,()) xz=some (Sum.inr (g,gl,nb,l',()))∧l'.length=l.length∧Dg6 (l'.take M)∧(∀ d,l'[M]? =some d→0≤d)∧v6 l'=v6 l:=by
 refine cN (Inv:=fun i s=>∃ o:List Int,s=((M:Int),(i:Int),g,gl,nb,o,())∧o.length=l.length∧Big (1000000000000+2000000*i) o∧Dg6 (o.take i)∧v6 o=v6 l) M
  (fun r=>∃ l',r=some (Sum.inr (g,gl,nb,l',()))∧l'.length=l.length∧Dg6 (l'.take M)∧(∀ d,l'[M]? =some d→0≤d)∧v6 l'=v6 l) ?_ ?_ n 0 _ ⟨l,rfl,rfl,hB.mono (by omega),by simpa using Dig.nil,rfl⟩ (by omega) (by omega)
 ·rintro i _ again hi ⟨o,rfl,hol,hBo,hd,hv⟩ ih
  unfold xz
  dsimp only
  have e2:w64 ((i:Int)+1)=((i+1:Nat):Int):=by rw[av (by omega) (by omega)];omega
  have h3:o[i]? =some o[i]:=bq (by omega)
  have h4:o[i+1]? =some o[i+1]:=bq (by omega)
  have d3:=hBo.get h3
  have d4:=hBo.get h4
  generalize o[i]'(by omega)=y3 at h3 d3
  generalize o[i+1]'(by omega)=y4 at h4 d4
  rw[aK (by omega),e2]
  simp only[af4,h3,h4,ah4,agT]
  have e4:w64 (y4+w64 (Int.tdiv y3 1000000))=y4+y3 / 1000000:=by
   rw[af2 (by omega),av (n:=y3 / 1000000) (by omega) (by omega),av (by omega) (by omega)]
  have h7:(o.set (i+1) (y4+y3 / 1000000))[i]? =some y3:=by rw[agI (by omega)];exact h3
  simp only[e4,h7,ah4]
  rw[bP (by simp only[afr,ain];omega),bP (by simp only[afr,ain];omega),bP (by simp only[afr,ain];omega),bP (by simp only[afr,ain];omega),bP (by simp only[afr,ain];omega),af3 (by omega)]
  have hself:o.set i y3=o:=by
   apply ago
   intro j
   by_cases hj:i=j
   ·subst hj;rw[agJ (by omega),h3]
   ·rw[agI hj]
  refine ih _ ⟨_,rfl,by simp only[agT];exact hol, ?_, ?_, ?_⟩
  ·exact Big.set (D:=1000000000000+2000000*((i+1:Nat):Int)) (Big.set hBo (by omega) (by omega)) (afM _) (by omega)
  ·have hg:((o.set (i+1) (y4+y3 / 1000000)).set i (y3 % 1000000))[i]? =some (y3 % 1000000):=agJ (by rw[agT];omega)
   rw[zy hg]
   refine Dig.snoc ?_ (by omega)
   rw[List.take_set_of_le (by omega),List.take_set_of_le (by omega)]
   exact hd
  ·have:=Xz h3 h4 (t:=y3)
   rw[hself] at this
   rw[this,hv];simp
 ·rintro _ again ⟨o,rfl,hol,hBo,hd,hv⟩
  unfold xz
  dsimp only
  rw[aN (by omega)]
  exact⟨o,rfl,hol,hd,fun d hd'=>(hBo.get hd').1,hv⟩
theorem tQ (x y:Int) (hx:(dg6 x.natAbs).length<100) (hy:(dg6 y.natAbs).length<1000):lC (N x) (N y)=some (N (x*y),()):=by
 unfold lC N
 dsimp only
 have e1:w64 (w64 (((dg6 x.natAbs).length:Int)+((dg6 y.natAbs).length:Int))+1)=(((dg6 x.natAbs).length+(dg6 y.natAbs).length+1:Nat):Int):=by
  rw[av (n:=((dg6 x.natAbs).length:Int)+((dg6 y.natAbs).length:Int)) (by omega) (by omega),av (by omega) (by omega)];omega
 rw[e1,af4,bP (by simp only[afr,ain];omega)]
 generalize hL:(dg6 x.natAbs).length+(dg6 y.natAbs).length+1=L at*
 have hz:Big 0 (List.replicate L 0):=fun d hd=>by rw[List.mem_replicate] at hd;omega
 have hv0:v6 (List.replicate L 0)=0:=by
  generalize L=k
  induction k with
  | zero=>rfl
  | succ k ih=>rw[ahk,Ub,ih];rfl
 obtain⟨o,h1,h2,h3,h4⟩:=TO (dg6 x.natAbs) (dg6 y.natAbs) (uf _) (uf _) hx hy (decide (y<0)) false [] (!(decide (x<0)==decide (y<0))) (List.replicate L 0) (by rw[agS];omega) (by rw[agS];omega) hz hv0 (List.length (dg6 x.natAbs)+(Int.natAbs ((List.length (dg6 x.natAbs):Int))+(Int.natAbs (0:Int)+(List.length (dg6 y.natAbs)+(List.length ([]:List Int)+(List.length ((List.replicate L 0):List Int)+2)))))) (by omega)
 rw[h1,aU]
 dsimp only
 rw[agS] at h2
 have e2:w64 ((o.length:Int) - 1)=(((L - 1:Nat)):Int):=by rw[av (by omega) (by omega)];omega
 rw[e2]
 obtain⟨o',g1,g2,g3,g4,g5⟩:=Vz o (!(decide (x<0)==decide (y<0))) false [] (L - 1) (by omega) (by omega) h3 (Int.natAbs ((((L - 1:Nat)):Int))+(Int.natAbs (0:Int)+(List.length ([]:List Int)+(List.length o+2)))) (by omega)
 rw[g1,aU]
 dsimp only
 have hm:v6 o'=(x.natAbs:Int)*(y.natAbs:Int):=by rw[g5,h4,BF,BF]
 have hlast:o'[L - 1]? =some (o'[L - 1]'(by omega)):=bq (by omega)
 have hsplit:v6 o'=v6 (o'.take (L - 1))+1000000 ^ (L - 1)*(o'[L - 1]'(by omega)):=by
  rw[← nY hlast,ahu (by omega)]
 have hlt:v6 o'<1000000 ^ (L - 1):=by
  rw[hm]
  have a1:=K7 (uf x.natAbs)
  have a2:=K7 (uf y.natAbs)
  rw[BF] at a1 a2
  rw[show L - 1=(dg6 x.natAbs).length+(dg6 y.natAbs).length by omega,afY]
  have b1:(x.natAbs:Int)*(y.natAbs:Int)≤(x.natAbs:Int)*1000000 ^ (dg6 y.natAbs).length:=afP (by omega) (by omega)
  have b2:(x.natAbs:Int)*1000000 ^ (dg6 y.natAbs).length<1000000 ^ (dg6 x.natAbs).length*1000000 ^ (dg6 y.natAbs).length:=Int.mul_lt_mul_of_pos_right a1 (by omega)
  omega
 have hl0:=g4 _ hlast
 generalize o'[L - 1]'(by omega)=dl at hlast hsplit hl0
 have hdl:dl=0:=by
  have h5:=sr g3
  rcases (show dl=0∨1≤dl by omega) with h | h
  ·exact h
  ·have hp:(0:Int)<1000000 ^ (L - 1):=Qw (by omega) _
   have:(1000000:Int) ^ (L - 1)*1≤1000000 ^ (L - 1)*dl:=afP h (by omega)
   omega
 have hdig:Dg6 o':=by
  have e:o'=o'.take (L - 1)++[dl]:=by
   rw[← zy hlast,ahu (by omega)]
  rw[e];exact g3.snoc (by omega)
 rw[TP _ _ hdig (by omega),ah4,hm]
 show some (N _,())=some (N (x*y),())
 congr 3
 by_cases hxn:x<0<;>by_cases hyn:y<0
 ·simp only[hxn,hyn,aip,aie,afE,afx,ait]
  rw[show (x.natAbs:Int)= -x by omega,show (y.natAbs:Int)= -y by omega,Int.neg_mul_neg]
 ·simp only[hxn,hyn,aip,aio,aiw,show (!(true==false))=true from rfl]
  rw[show (x.natAbs:Int)= -x by omega,show (y.natAbs:Int)=y by omega,Int.neg_mul,Int.neg_neg]
 ·simp only[hxn,hyn,aip,aio,aiw,show (!(false==true))=true from rfl]
  rw[show (x.natAbs:Int)=x by omega,show (y.natAbs:Int)= -y by omega,Int.mul_neg,Int.neg_neg]
 ·simp only[hxn,hyn,aio,aie,afE,afx,ait]
  rw[show (x.natAbs:Int)=x by omega,show (y.natAbs:Int)=y by omega]
end Go.Md
