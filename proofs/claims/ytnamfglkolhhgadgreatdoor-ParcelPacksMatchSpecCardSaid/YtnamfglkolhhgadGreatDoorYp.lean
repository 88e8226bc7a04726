/-
  Plain facts: loops, digits, whole numbers. No condition.
-/
import Derived.Test.YtnamfglkolhhgadGreatDoorYm
set_option linter.all false
namespace Go.Md
open Go.Dn
theorem bf {X β:Type} {f:X→(X→Option β)→Option β} (Inv:Nat→X→Prop) (N:Nat) (Q:Option β→Prop)
 (step:∀ i x again,i<N→Inv i x→(∀ y,Inv (i+1) y→Q (again y))→Q (f x again)) (fin:∀ x again,Inv N x→Q (f x again)):∀ n i x,Inv i x→i≤N→N - i<n→Q (iter n x f)
 | 0,_,_,_,_,hn=>absurd hn (ajg _)
 | n+1,i,x,hx,hi,hn=>by
  show Q (f x _)
  by_cases h:i=N
  ·subst h;exact fin x _ hx
  ·exact step i x _ (by omega) hx fun y hy=>bf Inv N Q step fin n (i+1) y hy (by omega) (by omega)
theorem zX {X β:Type} {f:X→(X→Option β)→Option β} (Inv:X→Prop) (μ:X→Nat) (Q:X→Option β→Prop)
 (step:∀ x again,Inv x→(∀ y,Inv y→μ y<μ x→Q y (again y))→Q x (f x again)):∀ n x,Inv x→μ x<n→Q x (iter n x f)
 | 0,_,_,hn=>absurd hn (ajg _)
 | n+1,x,hx,hn=>step x _ hx fun y hy h=>zX Inv μ Q step n y hy (by omega)
theorem acC:maxLen=9223372036854775807:=rfl
theorem aC {β:Type} {b:Bool} (h:b=true) (x:Option β):chk b x=x:=by rw[h];rfl
theorem qU {n k:Nat} (h:n*k≤140737488355328) (h2:n≤9223372036854775807):(decide (n*k≤140737488355328)&&decide (n≤maxLen))=true:=by
 simp only[agE,ajJ];rw[acC];omega
theorem ax {α:Type} {p:Prop} [Decidable p] (h:p) (x y:α):(bif decide p then x else y)=x:=by rw[ajI h];rfl
theorem av {α:Type} {p:Prop} [Decidable p] (h:¬p) (x y:α):(bif decide p then x else y)=y:=by rw[ajG h];rfl
theorem bO {β γ:Type} (r:β) (f:γ→Option β):aK (some (Sum.inl r)) f=some r:=rfl
theorem aB {β γ:Type} (v:γ) (f:γ→Option β):aK (β:=β) (some (Sum.inr v)) f=f v:=rfl
theorem aM {α:Type} {l:List α} {i:Nat} (h:i<l.length):l[i]? =some (l[i]'h):=ahO h
theorem YK {k:IntKind} {n:Int} (h1:k.min≤n) (h2:n≤k.max):k.wrap n=n:=by
 cases k<;>simp[IntKind.wrap,IntKind.min,IntKind.max,IntKind.bits,IntKind.signed] at* <;>(try split)<;>omega
theorem aq {n:Int} (h1: -9223372036854775808≤n) (h2:n≤9223372036854775807):w64 n=n:=YK h1 h2
theorem dF {n:Int} (h1:0≤n) (h2:n≤18446744073709551615):bR n=n:=YK h1 h2
theorem Cy {n:Int} (h1:0≤n) (h2:n≤4294967295):mE n=n:=YK h1 h2
theorem FY (n:Int):bR n=n % 18446744073709551616:=by simp[bR,IntKind.wrap,IntKind.bits,IntKind.signed]
theorem Cz (n:Int):mE n=n % 4294967296:=by simp[mE,IntKind.wrap,IntKind.bits,IntKind.signed]
theorem aV {α:Type} (l:List α) (i:Nat):idx l (i:Int)=l[i]? :=by simp[idx]
end Go.Md
namespace Go.Md
open Go.Dn
def val (B:Int):List Int→Int
 | []=>0
 | d::r=>d+B*val B r
def Dig (B:Int) (l:List Int):Prop:=∀ d,d∈l→0≤d∧d<B
theorem Dig.nil {B:Int}:Dig B []:=fun _ h=>by cases h
theorem Dig.cons {B d:Int} {l:List Int} (h:0≤d∧d<B) (hl:Dig B l):Dig B (d::l):=fun x hx=>by
 rcases aij.1 hx with rfl | hx
 ·exact h
 ·exact hl x hx
theorem Dig.head {B d:Int} {l:List Int} (h:Dig B (d::l)):0≤d∧d<B:=h d (by simp)
theorem Dig.tail {B d:Int} {l:List Int} (h:Dig B (d::l)):Dig B l:=fun x hx=>h x (by simp[hx])
theorem Dig.append {B:Int} {l m:List Int} (h:Dig B l) (k:Dig B m):Dig B (l++m):=fun x hx=>by
 rcases aii.1 hx with hx | hx
 ·exact h x hx
 ·exact k x hx
theorem Dig.snoc {B d:Int} {l:List Int} (h:Dig B l) (hd:0≤d∧d<B):Dig B (l++[d]):=h.append (Dig.cons hd Dig.nil)
theorem Dig.take {B:Int} {l:List Int} (h:Dig B l) (n:Nat):Dig B (l.take n):=fun x hx=>h x (List.mem_of_mem_take hx)
theorem Dig.drop {B:Int} {l:List Int} (h:Dig B l) (n:Nat):Dig B (l.drop n):=fun x hx=>h x (ais hx)
theorem Dig.get {B d:Int} {l:List Int} {i:Nat} (h:Dig B l) (hi:l[i]? =some d):0≤d∧d<B:=h d (air hi)
theorem Dig.left {B:Int} {l m:List Int} (h:Dig B (l++m)):Dig B l:=fun x hx=>h x (List.mem_append_left _ hx)
theorem Dig.right {B:Int} {l m:List Int} (h:Dig B (l++m)):Dig B m:=fun x hx=>h x (List.mem_append_right _ hx)
theorem Eu {B:Int} (hB:0<B):∀ {l:List Int},Dig B l→0≤val B l
 | [],_=>agV _
 | d::r,h=>by
  have h1:=h.head;have h2:=Eu hB h.tail
  have:0≤B*val B r:=ag1 (by omega) h2
  simp only[val];omega
theorem YI {B:Int} (hB:0<B):∀ {l:List Int},Dig B l→val B l<B ^ l.length
 | [],_=>by simp[val]
 | d::r,h=>by
  have h1:=h.head;have h2:=YI hB h.tail
  have h3:B*(val B r+1)≤B*B ^ r.length:=agZ h2 (by omega)
  rw[agX,ag2] at h3
  simp only[val,ah1]
  rw[ag8,Int.mul_comm (B ^ r.length) B]
  omega
theorem Et {B:Int}:∀ (l m:List Int),val B (l++m)=val B l+B ^ l.length*val B m
 | [],m=>by simp[val]
 | d::r,m=>by
  simp only[ahm,val,Et r m,ah1,ag8]
  rw[agX,Int.add_assoc]
  congr 2
  rw[Int.mul_comm (B ^ r.length) B,agY]
theorem YJ {B:Int} (l:List Int) (d:Int):val B (l++[d])=val B l+B ^ l.length*d:=by
 rw[Et];simp[val]
theorem P8 {B:Int} (hB:0<B):∀ n:Nat,0<B ^ n
 | 0=>by simp
 | n+1=>by rw[ag8];exact Int.mul_pos (P8 hB n) hB
def dgF (B:Nat):Nat→Nat→List Int
 | 0,_=>[]
 | f+1,n=>if n=0 then [] else ((n % B:Nat):Int)::dgF B f (n / B)
def dg (B n:Nat):List Int:=dgF B n n
theorem abX {B:Nat} (hB:2≤B):∀ (f g n:Nat),n≤f→n≤g→dgF B f n=dgF B g n
 | 0,0,_,_,_=>rfl
 | 0,g+1,n,h,_=>by have:n=0:=by omega
                   subst this;simp[dgF]
 | f+1,0,n,_,h=>by have:n=0:=by omega
                   subst this;simp[dgF]
 | f+1,g+1,n,hf,hg=>by
  by_cases hn:n=0
  ·subst hn;simp[dgF]
  ·have:n / B<n:=aiV (by omega) (by omega)
   simp only[dgF,hn,ajO]
   rw[abX hB f g (n / B) (by omega) (by omega)]
theorem Ew (B:Nat):dg B 0=[]:=rfl
theorem C7 {B:Nat} (hB:2≤B) {n:Nat} (hn:0<n):dg B n=((n % B:Nat):Int)::dg B (n / B):=by
 have:n / B<n:=aiV hn (by omega)
 obtain⟨m,rfl⟩:∃ m,n=m+1:=⟨n - 1,by omega⟩
 unfold dg
 rw[dgF,ajP (by omega),abX hB m ((m+1) / B) _ (by omega) (ai0 _)]
theorem abY {B:Nat} (hB:2≤B):∀ n,Dig B (dg B n):=by
 intro n
 induction n using Nat.strongRecOn with
 | _ n ih=>
  by_cases hn:n=0
  ·subst hn;exact Dig.nil
  ·rw[C7 hB (by omega)]
   exact Dig.cons ⟨by omega,by have:=Nat.mod_lt n (show 0<B by omega);omega⟩ (ih _ (aiV (by omega) (by omega)))
theorem adp {B:Nat} (hB:2≤B):∀ n,val B (dg B n)=n:=by
 intro n
 induction n using Nat.strongRecOn with
 | _ n ih=>
  by_cases hn:n=0
  ·subst hn;rfl
  ·rw[C7 hB (by omega),val,ih _ (aiV (by omega) (by omega))]
   have:=Nat.mod_add_div n B
   omega
theorem Gl {B:Nat} (hB:2≤B) {n:Nat} (hn:0<n):dg B n≠[]:=by rw[C7 hB hn];simp
theorem UD {B:Nat} (hB:2≤B) {n:Nat}:dg B n=[]↔n=0:=by
 constructor
 ·intro h
  rcases aiX n with h0 | h0
  ·exact h0
  ·exact absurd h (Gl hB h0)
 ·rintro rfl;rfl
theorem Ji {B:Nat} (hB:2≤B) {d n:Nat} (hd:d<B) (h:0<d+B*n):dg B (d+B*n)=(d:Int)::dg B n:=by
 rw[C7 hB h]
 have h1:(d+B*n) % B=d:=by rw[Nat.add_mul_mod_self_left,ajb hd]
 have h2:(d+B*n) / B=n:=by rw[Nat.add_mul_div_left _ _ (by omega),aiU hd];omega
 rw[h1,h2]
def trim:List Int→List Int
 | []=>[]
 | d::r=>match trim r with
  | []=>if d=0 then [] else [d]
  | t=>d::t
theorem Ul {B:Nat} (hB:2≤B):∀ {l:List Int},Dig B l→trim l=dg B (val B l).toNat
 | [],_=>rfl
 | d::r,h=>by
  have hr:=Ul hB h.tail
  have h1:=h.head
  have hB0:(0:Int)<B:=by omega
  have h2:=Eu hB0 h.tail
  obtain⟨k,rfl⟩:∃ k:Nat,d=k:=⟨d.toNat,by omega⟩
  obtain⟨n,hn⟩:∃ n:Nat,val B r=n:=⟨(val B r).toNat,by omega⟩
  have hv:(val B ((k:Int)::r)).toNat=k+B*n:=by
   simp only[val,hn]
   rw[show ((B:Int)*(n:Int))=((B*n:Nat):Int) by simp]
   omega
  rw[hv]
  rw[hn] at hr
  simp only[ahd] at hr
  unfold trim
  rw[hr]
  rcases aiX n with h0 | h0
  ·subst h0
   simp only[Ew,Nat.mul_zero,aiT]
   by_cases hk:k=0
   ·subst hk;simp[Ew]
   ·have:=Ji hB (d:=k) (n:=0) (by omega) (by omega)
    simp only[Nat.mul_zero,aiT,Ew] at this
    rw[this];simp[hk]
  ·have hpos:0<k+B*n:=by have:=Nat.mul_pos (show 0<B by omega) h0;omega
   rw[Ji hB (by omega) hpos]
   cases hd:dg B n with
   | nil=>exact absurd hd (Gl hB h0)
   | cons a t=>rfl
theorem Cr:∀ l:List Int,trim (l++[0])=trim l
 | []=>rfl
 | d::r=>by simp only[ahm,trim,Cr r]
theorem FR {d:Int} (hd:d≠0):∀ l:List Int,trim (l++[d])=l++[d]
 | []=>by simp[trim,hd]
 | e::r=>by
  simp only[ahm,trim,FR hd r]
  cases h:r++[d] with
  | nil=>simp at h
  | cons a t=>rfl
theorem Xh {B:Nat} (hB:2≤B):∀ (k n:Nat),n<B ^ k→(dg B n).length≤k
 | 0,n,h=>by have:n=0:=by simpa using h
             subst this;simp[Ew]
 | k+1,n,h=>by
  by_cases hn:n=0
  ·subst hn;simp[Ew]
  ·rw[C7 hB (by omega),ah1]
   have:=Xh hB k (n / B) (by rw[ajk] at h;exact Nat.div_lt_of_lt_mul (by rw[ajd];exact h))
   omega
theorem UE {B:Nat} (hB:2≤B) {m n:Nat} (h:(dg B m).length<(dg B n).length):m<n:=by
 rcases ai4 m n with h1 | h1
 ·exact h1
 ·exfalso
  have h2:∀ a b:Nat,b≤a→(dg B b).length≤(dg B a).length:=by
   intro a
   induction a using Nat.strongRecOn with
   | _ a ih=>
    intro b hb
    by_cases h0:b=0
    ·subst h0;simp[Ew]
    ·rw[C7 hB (by omega),C7 hB (show 0<a by omega),ah1,ah1]
     have:=ih (a / B) (aiV (by omega) (by omega)) (b / B) (Nat.div_le_div_right hb)
     omega
  have:=h2 m n h1
  omega
end Go.Md
namespace Go.Md
open Go.Dn
def v32 (l:List Int):Int:=val 4294967296 l
theorem Cs:v32 []=0:=rfl
theorem FT (d:Int) (l:List Int):v32 (d::l)=d+4294967296*v32 l:=rfl
theorem Kk (l m:List Int):v32 (l++m)=v32 l+4294967296 ^ l.length*v32 m:=Et l m
theorem Kl (l:List Int) (d:Int):v32 (l++[d])=v32 l+4294967296 ^ l.length*d:=YJ l d
abbrev Dg (l:List Int):Prop:=Dig 4294967296 l
def bu (n:Nat):List Int:=dg 4294967296 n
theorem L9:bu 0=[]:=rfl
theorem OA {n:Nat}:bu n=[]↔n=0:=UD (B:=4294967296) (by omega)
theorem OB {n:Nat} (h:0<n):bu n≠[]:=Gl (B:=4294967296) (by omega) h
theorem mZ {m n:Nat} (h:(bu m).length<(bu n).length):m<n:=UE (B:=4294967296) (by omega) h
theorem eG (n:Nat):Dg (bu n):=abY (B:=4294967296) (by omega) n
theorem dU (n:Nat):v32 (bu n)=n:=adp (B:=4294967296) (by omega) n
theorem YE {l:List Int} (h:Dg l):trim l=bu (v32 l).toNat:=Ul (B:=4294967296) (by omega) h
theorem Bz {l:List Int} (h:Dg l):0≤v32 l:=Eu (by omega) h
theorem IW {l:List Int} (h:Dg l):v32 l<4294967296 ^ l.length:=YI (by omega) h
theorem sw {k n:Nat} (h:n<4294967296 ^ k):(bu n).length≤k:=Xh (B:=4294967296) (by omega) k n h
theorem zM (l:List Int) (hl:l.length<1000000):oE l=some (trim l,()):=by
 have key:∀ n (x:nM),x.1.length<1000000→x.1.length<n→iter n x zL=some (Sum.inr (trim x.1,())):=by
  refine zX (fun x:nM=>x.1.length<1000000) (fun x=>x.1.length) (fun x r=>r=some (Sum.inr (trim x.1,()))) ?_
  rintro⟨x,u⟩ again hx ih
  simp only at hx ih ⊢
  unfold zL
  simp only
  by_cases h0:x.length=0
  ·have:x=[]:=ahx h0
   subst this;simp[trim]
  ·have e1:w64 ((x.length:Int) - 1)=((x.length - 1:Nat):Int):=by rw[aq (by omega) (by omega)];omega
   have hsp:x=x.take (x.length - 1)++[x[x.length - 1]'(by omega)]:=by
    have:=aiL (x.length - 1) x
    rw[ahr (by omega),ahu (by omega)] at this
    exact this.symm
   rw[ax (by omega),e1,aV,aM (by omega)]
   simp only[ahd,ahv,ajq]
   by_cases hz:x[x.length - 1]'(by omega)=0
   ·rw[hz] at hsp ⊢
    rw[aC (by simp only[agE,ajJ];omega)]
    simp only[ajB,ajE]
    rw[ih (List.take (x.length - 1) x,()) (by simp only[aia];omega) (by simp only[aia];omega)]
    conv=>rhs;rw[hsp,Cr]
   ·have:(x[x.length - 1]'(by omega)==0)=false:=by simp[hz]
    rw[this]
    simp only[ajD]
    conv=>rhs;rw[hsp,FR hz]
    rw[← hsp]
 unfold oE
 rw[key _ _ (by simpa using hl) (by simp)]
 rfl
def W (z:Int):aL:=(decide (z<0),bu z.natAbs)
theorem kM (b:Bool) (l:List Int) (hd:Dg l) (hl:l.length<1000000):je b l=some (W (if b then -v32 l else v32 l),()):=by
 unfold je
 rw[zM l hl,YE hd]
 have h0:=Bz hd
 simp only[ajq]
 cases b with
 | false=>simp only[ajD,W];rw[show (decide ((if false=true then -v32 l else v32 l)<0))=false by simp;omega];congr 4;simp;omega
 | true=>
  simp only[ajE,W]
  congr 3
  ·by_cases hv:v32 l=0
   ·simp[hv,L9]
   ·have hpos:0<v32 l:=by omega
    have:bu (v32 l).toNat≠[]:=OB (by omega)
    have hlen:0<(bu (v32 l).toNat).length:=by
     cases h:bu (v32 l).toNat with
     | nil=>exact absurd h this
     | cons a t=>simp
    simp;omega
  ·congr 1;simp;omega
theorem qx (n:Int) (h1: -9223372036854775808≤n) (h2:n≤9223372036854775807):qw n=some (W n,()):=by
 unfold qw
 have key:∀ u:Int,0≤u→u≤9223372036854775808→je (decide (n<0)) [mE u,mE (Int.fdiv u (2 ^ 32))]=some (W (if decide (n<0) then -u else u),()):=by
  intro u hu0 hu1
  have e:Int.fdiv u (2 ^ 32)=u / 4294967296:=by rw[agU _ (by omega)];rfl
  rw[e,Cz,Cz]
  have hd:Dg [u % 4294967296,u / 4294967296 % 4294967296]:=Dig.cons (by omega) (Dig.cons (by omega) Dig.nil)
  rw[kM _ _ hd (by simp)]
  have hv:v32 [u % 4294967296,u / 4294967296 % 4294967296]=u:=by simp only[FT,Cs];omega
  rw[hv]
 by_cases hn:n<0
 ·have e1:bR (0 - bR n)= -n:=by rw[FY,FY];omega
  rw[show decide (n<0)=true by simpa using hn] at key ⊢
  simp only[ajE,aK]
  rw[e1]
  rw[show decide (n<0)=true by simpa using hn]
  rw[key (-n) (by omega) (by omega)]
  simp
 ·have e1:bR n=n:=dF (by omega) (by omega)
  rw[show decide (n<0)=false by simpa using hn] at key ⊢
  simp only[ajD,aK]
  rw[e1]
  rw[show decide (n<0)=false by simpa using hn]
  rw[key n (by omega) (by omega)]
  simp
theorem xS (z:Int):lD (W z)=some (z.sign,()):=by
 unfold lD W
 by_cases h:z<0
 ·simp[h,ag9 h]
 ·by_cases h0:z=0
  ·subst h0;simp[L9]
  ·have hp:0<z:=by omega
   have:bu z.natAbs≠[]:=OB (by omega)
   have hlen:((bu z.natAbs).length:Int)≠0:=by
    intro h;exact this (ahx (by omega))
   have hb:(((bu z.natAbs).length:Int)==0)=false:=by simpa using hlen
   simp only[h,ajK,ajD,hb,aha hp]
theorem afO {z:Int} {k:Nat} (h:z.natAbs<4294967296 ^ k):(W z).2.length≤k:=sw h
theorem DJ (z:Int) (h:z.natAbs<4294967296 ^ 99):pX (W z)=some (W (-z),()):=by
 unfold pX
 have hl:=afO h
 rw[kM _ (W z).2 (eG _) (by omega)]
 simp only[ajq]
 congr 3
 simp only[W,dU]
 by_cases hz:z<0
 ·simp[hz];omega
 ·simp[hz];omega
theorem mD {α:Type} {l:List α} {i:Nat} {y:α} (h:l[i]? =some y):l.take (i+1)=l.take i++[y]:=by
 rw[aiK,h];rfl
theorem jd {l:List Int} {i:Nat} {y:Int} (h:l[i]? =some y):v32 (l.take (i+1))=v32 (l.take i)+4294967296 ^ i*y:=by
 have hi:=(ahQ.1 h).1
 rw[mD h,Kl,aia,aja (by omega)]
theorem KH {l:List Int} {i:Nat} (h:l.length≤i):v32 (l.take (i+1))=v32 (l.take i):=by
 rw[aiP h,aiP (by omega)]
theorem Xk {u:Int}:Int.fdiv u (2 ^ 32)=u / 4294967296:=by rw[agU _ (by omega)];rfl
theorem Uq (a b:List Int) (ha:Dg a) (hb:Dg b) (hla:a.length<100000) (hlb:b.length≤a.length) (n:Nat) (hn:a.length<n):
 ∃ out c,iter (X:=wG) (β:=wF) n (b,[],0,a,(a.length:Int),0,()) wE=some (Sum.inr (out,c,()))∧Dg out∧0≤c∧c≤1∧out.length=a.length∧v32 out+4294967296 ^ a.length*c=v32 a+v32 b:=by
 refine bf (Inv:=fun i x=>∃ out c,x=(b,out,c,a,(a.length:Int),(i:Int),())∧Dg out∧0≤c∧c≤1∧out.length=i∧v32 out+4294967296 ^ i*c=v32 (a.take i)+v32 (b.take i)) a.length
  (fun r=>∃ out c,r=some (Sum.inr (out,c,()))∧Dg out∧0≤c∧c≤1∧out.length=a.length∧v32 out+4294967296 ^ a.length*c=v32 a+v32 b) ?_ ?_ n 0 _ ⟨[],0,rfl,Dig.nil,by omega,by omega,rfl,by simp[Cs]⟩ (by omega) (by omega)
 ·rintro i _ again hi ⟨out,c,rfl,hd,hc0,hc1,hlen,hv⟩ ih
  unfold wE
  simp only
  have hy:a[i]? =some a[i]:=aM hi
  have hyd:=ha.get hy
  generalize a[i]=y at hy hyd
  rw[ax (by omega),aV,hy,ajq]
  have step:∀ z:Int,0≤z→z<4294967296→v32 (b.take (i+1))=v32 (b.take i)+4294967296 ^ i*z→
   ∃ out' c',again (b,out++[mE (bR (bR (c+bR y)+bR z))],Int.fdiv (bR (bR (c+bR y)+bR z)) (2 ^ 32),a,(a.length:Int),w64 ((i:Int)+1),())=some (Sum.inr (out',c',()))∧Dg out'∧0≤c'∧c'≤1∧out'.length=a.length∧v32 out'+4294967296 ^ a.length*c'=v32 a+v32 b:=by
   intro z hz0 hz1 hbz
   have e1:bR (bR (c+bR y)+bR z)=c+y+z:=by
    rw[dF (n:=y) (by omega) (by omega),dF (n:=z) (by omega) (by omega),dF (n:=c+y) (by omega) (by omega),dF (by omega) (by omega)]
   rw[e1,Cz,Xk,aq (by omega) (by omega)]
   refine ih _ ⟨_,_,rfl,hd.snoc (by omega),by omega,by omega,by simp[hlen], ?_⟩
   rw[Kl,hlen,jd hy,hbz,ag8]
   have hm:=Int.mul_ediv_add_emod (c+y+z) 4294967296
   have:(4294967296:Int) ^ i*((c+y+z) % 4294967296)+4294967296 ^ i*4294967296*((c+y+z) / 4294967296)=4294967296 ^ i*(c+y+z):=by
    rw[agY, ← agX];congr 1;omega
   rw[agX,agX] at this
   omega
  by_cases hib:i<b.length
  ·have hz:b[i]? =some b[i]:=aM hib
   rw[ax (by omega),aV,hz,ajq]
   simp only[aB]
   rw[aC (qU (by omega) (by omega))]
   exact step b[i] (hb.get hz).1 (hb.get hz).2 (jd hz)
  ·rw[av (by omega)]
   simp only[aB]
   rw[aC (qU (by omega) (by omega))]
   have:=step 0 (by omega) (by omega) (by rw[KH (by omega)];omega)
   have e0:bR (bR (c+bR y)+bR 0)=bR (c+bR y):=by
    rw[dF (n:=y) (by omega) (by omega),dF (n:=(0:Int)) (by omega) (by omega),dF (n:=c+y) (by omega) (by omega),dF (by omega) (by omega)];omega
   rw[e0] at this
   exact this
 ·rintro _ again ⟨out,c,rfl,hd,hc0,hc1,hlen,hv⟩
  unfold wE
  simp only
  rw[av (by omega)]
  rw[aiP (ai0 _),aiP hlb] at hv
  exact⟨out,c,rfl,hd,hc0,hc1,hlen,hv⟩
theorem M6 (a b:List Int) (ha:Dg a) (hb:Dg b) (hla:a.length<100000) (hlb:b.length<100000):
 ∃ s,DK a b=some (s,())∧Dg s∧v32 s=v32 a+v32 b∧s.length=max a.length b.length+1:=by
 have core:∀ (a b:List Int),Dg a→Dg b→a.length<100000→b.length≤a.length→∃ s,(chk (decide (0≤(0:Int))&&decide ((0:Int)≤(w64 (((List.length a:Int))+1)))&&decide ((4:Int)*(w64 (((List.length a:Int))+1))≤281474976710656)&&decide ((w64 (((List.length a:Int))+1))≤9223372036854775807)) <|
 aK (β:=((List Int)×Unit)) (γ:=((List Int)×Int×Unit)) (
  iter (X:=wG) (β:=wF) (List.length b+(List.length ([]:List Int)+(Int.natAbs (0:Int)+(List.length a+(Int.natAbs ((List.length a:Int))+(Int.natAbs (0:Int)+2)))))) (b,[],0,a,(List.length a:Int),0,()) (wE)) fun v7=>
 chk (decide (((v7.1.length)+1)*4≤140737488355328)&&decide ((v7.1.length)+1≤maxLen)) <|
 some (v7.1++[(mE v7.2.1)],()))=some (s,())∧Dg s∧v32 s=v32 a+v32 b∧s.length=a.length+1:=by
  intro a b ha hb hla hlb
  obtain⟨out,c,h1,h2,h3,h4,h5,h6⟩:=Uq a b ha hb hla hlb _ (show a.length<List.length b+(List.length ([]:List Int)+(Int.natAbs (0:Int)+(List.length a+(Int.natAbs ((List.length a:Int))+(Int.natAbs (0:Int)+2))))) by omega)
  rw[h1,aB,aq (by omega) (by omega),aC (by simp only[agE,ajJ];omega)]
  simp only
  rw[aC (qU (by omega) (by omega))]
  refine⟨_,rfl,h2.snoc ?_, ?_,by simp[h5]⟩
  ·rw[Cy (by omega) (by omega)];omega
  ·rw[Cy (by omega) (by omega),Kl,h5];exact h6
 unfold DK
 by_cases h:a.length<b.length
 ·rw[ax (by omega),aB]
  obtain⟨s,h1,h2,h3,h4⟩:=core b a hb ha hlb (by omega)
  exact⟨s,h1,h2,by omega,by omega⟩
 ·rw[av (by omega),aB]
  obtain⟨s,h1,h2,h3,h4⟩:=core a b ha hb hla (by omega)
  exact⟨s,h1,h2,by omega,by omega⟩
theorem Sm (a b:List Int) (ha:Dg a) (hb:Dg b) (hla:a.length<100000) (hlb:b.length≤a.length) (n:Nat) (hn:a.length<n):
 ∃ out c,iter (X:=zg) (β:=zf) n (b,[],0,a,(a.length:Int),0,()) ze=some (Sum.inr (out,()))∧Dg out∧0≤c∧c≤1∧out.length=a.length∧v32 out=v32 a - v32 b+4294967296 ^ a.length*c:=by
 refine bf (Inv:=fun i x=>∃ out c,x=(b,out,c,a,(a.length:Int),(i:Int),())∧Dg out∧0≤c∧c≤1∧out.length=i∧v32 out=v32 (a.take i) - v32 (b.take i)+4294967296 ^ i*c) a.length
  (fun r=>∃ out c,r=some (Sum.inr (out,()))∧Dg out∧0≤c∧c≤1∧out.length=a.length∧v32 out=v32 a - v32 b+4294967296 ^ a.length*c) ?_ ?_ n 0 _ ⟨[],0,rfl,Dig.nil,by omega,by omega,rfl,by simp[Cs]⟩ (by omega) (by omega)
 ·rintro i _ again hi ⟨out,c,rfl,hd,hc0,hc1,hlen,hv⟩ ih
  unfold ze
  simp only
  have hy:a[i]? =some a[i]:=aM hi
  have hyd:=ha.get hy
  generalize a[i]=y at hy hyd
  rw[ax (by omega),aV,hy,ajq]
  have step:∀ z:Int,0≤z→z<4294967296→v32 (b.take (i+1))=v32 (b.take i)+4294967296 ^ i*z→∀ t:Int,t=(y - c - z) % 18446744073709551616→
   ∃ out' c',again (b,out++[mE t],bR (((BitVec.ofInt (IntKind.bits .u64) (Int.fdiv t (2 ^ 32)) &&& BitVec.ofInt (IntKind.bits .u64) 1).toNat:Int)),a,(a.length:Int),w64 ((i:Int)+1),())=some (Sum.inr (out',()))∧Dg out'∧0≤c'∧c'≤1∧out'.length=a.length∧v32 out'=v32 a - v32 b+4294967296 ^ a.length*c':=by
   intro z hz0 hz1 hbz t ht
   have e2:bR (((BitVec.ofInt (IntKind.bits .u64) (Int.fdiv t (2 ^ 32)) &&& BitVec.ofInt (IntKind.bits .u64) 1).toNat:Int))=(if y - c - z<0 then 1 else 0):=by
    rw[Xk]
    have h1:t / 4294967296=(if y - c - z<0 then 4294967295 else 0):=by split<;>omega
    rw[h1]
    split<;>rfl
   rw[e2,Cz,aq (by omega) (by omega)]
   refine ih _ ⟨_,_,rfl,hd.snoc (by omega),by split<;>omega,by split<;>omega,by simp[hlen], ?_⟩
   rw[Kl,hlen,jd hy,hbz,ag8,hv]
   have e3:t % 4294967296=y - c - z+4294967296*(if y - c - z<0 then 1 else 0):=by split<;>omega
   rw[e3]
   generalize (if y - c - z<0 then (1:Int) else 0)=q
   generalize (4294967296:Int) ^ i=p
   rw[agX,Int.mul_sub,Int.mul_sub,agY]
   omega
  by_cases hib:i<b.length
  ·have hz:b[i]? =some b[i]:=aM hib
   rw[ax (by omega),aV,hz,ajq]
   simp only[aB]
   rw[aC (qU (by omega) (by omega))]
   have hz':=hb.get hz
   refine step b[i] hz'.1 hz'.2 (jd hz) _ ?_
   rw[dF (n:=y) (by omega) (by omega),dF (n:=b[i]) (by omega) (by omega),FY,FY]
   omega
  ·rw[av (by omega)]
   simp only[aB]
   rw[aC (qU (by omega) (by omega))]
   refine step 0 (by omega) (by omega) (by rw[KH (by omega)];omega) _ ?_
   rw[dF (n:=y) (by omega) (by omega),FY]
   omega
 ·rintro _ again ⟨out,c,rfl,hd,hc0,hc1,hlen,hv⟩
  unfold ze
  simp only
  rw[av (by omega)]
  rw[aiP (ai0 _),aiP hlb] at hv
  exact⟨out,c,rfl,hd,hc0,hc1,hlen,hv⟩
theorem D2 (a b:List Int) (ha:Dg a) (hb:Dg b) (hla:a.length<100000) (hlb:b.length≤a.length) (hle:v32 b≤v32 a):xC a b=some (bu (v32 a - v32 b).toNat,()):=by
 unfold xC
 obtain⟨out,c,h1,h2,h3,h4,h5,h6⟩:=Sm a b ha hb hla hlb _ (show a.length<List.length b+(List.length ([]:List Int)+(Int.natAbs (0:Int)+(List.length a+(Int.natAbs ((List.length a:Int))+(Int.natAbs (0:Int)+2))))) by omega)
 rw[h1,aB,aC (by simp only[agE,ajJ];omega)]
 simp only
 rw[zM _ (by omega),YE h2,ajq]
 have h7:=IW h2
 rw[h5] at h7
 have h8:c=0:=by
  rcases (show c=0∨c=1 by omega) with h | h
  ·exact h
  ·subst h;rw[ag2] at h6;omega
 subst h8
 rw[h6,Int.mul_zero,Int.add_zero]
theorem M5 (a b:List Int) (ha:Dg a) (hb:Dg b) (hab:a.length=b.length) (hla:a.length<100000):∀ (n k:Nat),k≤a.length→k<n→
 iter (X:=s8) (β:=s7) n (a,b,(k:Int) - 1,()) nL=if v32 (a.take k)<v32 (b.take k) then some (Sum.inl ((-1),())) else if v32 (b.take k)<v32 (a.take k) then some (Sum.inl (1,())) else some (Sum.inr ()):=by
 intro n
 induction n with
 | zero=>intro k _ h;omega
 | succ n ih=>
  intro k hk hn
  rw[aZ]
  generalize hag:(fun y=>iter n y nL)=again
  unfold nL
  simp only
  cases k with
  | zero=>simp[Cs]
  | succ k=>
   rw[ax (by omega),show ((k+1:Nat):Int) - 1=(k:Int) by omega,aV,aV]
   have hx:a[k]? =some a[k]:=aM (by omega)
   have hy:b[k]? =some b[k]:=aM (by omega)
   rw[hx,hy]
   simp only[ajq]
   rw[jd hx,jd hy]
   have h1:=IW (ha.take k)
   have h2:=IW (hb.take k)
   have h3:=Bz (ha.take k)
   have h4:=Bz (hb.take k)
   rw[aia,aja (by omega)] at h1 h2
   generalize a[k]=x
   generalize b[k]=y
   by_cases hxy:x=y
   ·subst hxy
    simp only[ajC,ajD]
    rw[aq (by omega) (by omega), ← hag]
    show iter n (a,b,(k:Int) - 1,()) nL=_
    rw[ih k (by omega) (by omega)]
    congr 1
    ·simp
    ·congr 1;simp
   ·have hne:(x != y)=true:=by simp[hxy]
    rw[hne]
    simp only[ajE]
    by_cases hlt:x<y
    ·rw[ax hlt,ajQ]
     have:(4294967296:Int) ^ k*(x+1)≤4294967296 ^ k*y:=agZ (by omega) (by omega)
     rw[agX,ag2] at this
     omega
    ·rw[av hlt]
     have:(4294967296:Int) ^ k*(y+1)≤4294967296 ^ k*x:=agZ (by omega) (by omega)
     rw[agX,ag2] at this
     rw[ajP (by omega),ajQ (by omega)]
theorem FX (m n:Nat) (hm:(bu m).length<100000) (hn:(bu n).length<100000):∃ c,tX (bu m) (bu n)=some (c,())∧(c<0↔m<n)∧(0<c↔n<m):=by
 unfold tX
 by_cases h:(bu m).length=(bu n).length
 ·have hb:(((bu m).length:Int) != ((bu n).length:Int))=false:=by simp[h]
  rw[hb]
  simp only[ajD]
  by_cases h0:(bu m).length=0
  ·have hm0:m=0:=OA.1 (ahx h0)
   have hn0:n=0:=OA.1 (ahx (by omega))
   subst hm0;subst hn0
   exact⟨0,rfl,by simp,by simp⟩
  ·have e1:w64 (((bu m).length:Int) - 1)=(((bu m).length:Nat):Int) - 1:=aq (by omega) (by omega)
   rw[e1,M5 _ _ (eG m) (eG n) h hm _ _ (ai0 _) (by omega),aiP (ai0 _),aiP (by omega),dU,dU]
   by_cases h1:m<n
   ·rw[ajQ (by omega),bO];exact⟨-1,rfl,by omega,by omega⟩
   ·by_cases h2:n<m
    ·rw[ajP (by omega),ajQ (by omega),bO];exact⟨1,rfl,by omega,by omega⟩
    ·rw[ajP (by omega),ajP (by omega),aB];exact⟨0,rfl,by omega,by omega⟩
 ·have hb:(((bu m).length:Int) != ((bu n).length:Int))=true:=by simp;omega
  rw[hb]
  simp only[ajE]
  rw[aq (by omega) (by omega)]
  refine⟨_,rfl, ?_, ?_⟩
  ·constructor
   ·intro h1;exact mZ (by omega)
   ·intro h1
    rcases ai5 h with h2 | h2
    ·omega
    ·have:=mZ (m:=n) (n:=m) h2;omega
  ·constructor
   ·intro h1;exact mZ (by omega)
   ·intro h1
    rcases ai5 h with h2 | h2
    ·have:=mZ (m:=m) (n:=n) h2;omega
    ·omega
end Go.Md
namespace Go.Md
open Go.Dn
theorem Wl (w:Nat) {a b:Nat} (ha:a<2 ^ w) (hb:b<2 ^ w):((BitVec.ofInt w (a:Int) ||| BitVec.ofInt w (b:Int)).toNat:Int)=((a ||| b:Nat):Int):=by
 rw[agC,agC,BitVec.toNat_or,agD,agD,ajb ha,ajb hb]
theorem bv_and (w:Nat) {a b:Nat} (ha:a<2 ^ w) (hb:b<2 ^ w):((BitVec.ofInt w (a:Int) &&& BitVec.ofInt w (b:Int)).toNat:Int)=((a &&& b:Nat):Int):=by
 rw[agC,agC,BitVec.toNat_and,agD,agD,ajb ha,ajb hb]
theorem Yc {a k b:Nat} (hb:b<2 ^ k):(2 ^ k*a) ||| b=2 ^ k*a+b:=(Nat.two_pow_add_eq_or_of_lt hb a).symm
theorem Un {l:List Int} (h:Dg l) {i:Nat} {y:Int} (hi:l[i]? =some y):y=v32 l / 4294967296 ^ i % 4294967296:=by
 have hlt:=(ahQ.1 hi).1
 have e:l=l.take i++(y::l.drop (i+1)):=by
  have:=aiL i l
  rw[ahr hlt,(ahQ.1 hi).2] at this
  exact this.symm
 have hd:=h.get hi
 have h1:=IW (h.take i)
 have h2:=Bz (h.take i)
 rw[aia,aja (by omega)] at h1
 have hv:v32 l=v32 (l.take i)+4294967296 ^ i*(y+4294967296*v32 (l.drop (i+1))):=by
  conv=>lhs;rw[e]
  rw[Kk,aia,aja (by omega),FT]
 rw[hv,Int.add_mul_ediv_left _ _ (by omega),Int.ediv_eq_zero_of_lt h2 h1,Int.zero_add,Int.add_mul_emod_self_left,Int.emod_eq_of_lt hd.1 hd.2]
theorem NF {l:List Int} {i:Nat} {y z:Int} (hi:l[i]? =some y):v32 (l.set i z)=v32 l+4294967296 ^ i*(z - y):=by
 have hlt:=(ahQ.1 hi).1
 have e:l=l.take i++(y::l.drop (i+1)):=by
  have:=aiL i l
  rw[ahr hlt,(ahQ.1 hi).2] at this
  exact this.symm
 have e2:l.set i z=l.take i++(z::l.drop (i+1)):=by rw[List.set_eq_take_append_cons_drop,ajQ hlt]
 rw[e2]
 conv=>rhs;rw[e]
 rw[Kk,Kk,FT,FT,aia,aja (by omega)]
 have:(4294967296:Int) ^ i*(z+4294967296*v32 (l.drop (i+1)))=4294967296 ^ i*(y+4294967296*v32 (l.drop (i+1)))+4294967296 ^ i*(z - y):=by rw[← agX];congr 1;omega
 omega
theorem Dig.set {B:Int} {l:List Int} (h:Dig B l) {i:Nat} {z:Int} (hz:0≤z∧z<B):Dig B (l.set i z):=fun x hx=>by
 rcases ait hx with hx | rfl
 ·exact h x hx
 ·exact hz
theorem aey (y:Nat) (j:Nat) (hy:y<4294967296):mE (((BitVec.ofInt (IntKind.bits .u32) (Int.fdiv (y:Int) (2 ^ (min j (IntKind.bits .u32)))) &&& BitVec.ofInt (IntKind.bits .u32) 1).toNat:Int))=((y / 2 ^ (min j 32) % 2:Nat):Int):=by
 have e1:Int.fdiv (y:Int) (2 ^ (min j (IntKind.bits .u32)))=((y / 2 ^ (min j 32):Nat):Int):=by
  have:((2:Int) ^ (min j 32))=((2 ^ (min j 32):Nat):Int):=by simp
  rw[show IntKind.bits .u32=32 from rfl,this,agU _ (Int.natCast_nonneg _)]
  simp
 rw[e1]
 have hlt:y / 2 ^ (min j 32)<2 ^ 32:=ai2 (Nat.div_le_self _ _) hy
 have:=bv_and (IntKind.bits .u32) (a:=y / 2 ^ (min j 32)) (b:=1) hlt (by decide)
 rw[show ((1:Nat):Int)=1 from rfl] at this
 rw[this,Nat.and_one_is_mod]
 exact Cy (by omega) (by omega)
theorem Wj (a b:Nat) (hb:0<b) (na:Bool) (nb:Bool) (ha:(bu a).length<1000) (hlb:(bu b).length<1000) (g1:Bool) (g2:List Int) (g3:Bool) (g4:List Int):∀ (n k:Nat) (q:List Int),k≤32*(bu a).length→k<n→Dg q→q.length=(bu a).length→v32 q=((a / 2 ^ k / b*2 ^ k:Nat):Int)→
 ∃ q',iter (X:=u6) (β:=u5) n (bu (a / 2 ^ k % b),(k:Int) - 1,na,bu a,nb,bu b,g1,g2,g3,g4,q,()) uZ=some (Sum.inr (bu (a % b),g1,g2,g3,g4,q',()))∧Dg q'∧q'.length=(bu a).length∧v32 q'=((a / b:Nat):Int):=by
 intro n
 induction n with
 | zero=>intro k q _ h;omega
 | succ n ih=>
  intro k q hk hn hq hql hqv
  rw[aZ]
  generalize hag:(fun y=>iter n y uZ)=again
  unfold uZ
  simp only
  cases k with
  | zero=>
   rw[av (by omega)]
   refine⟨q, ?_,hq,hql,by simpa using hqv⟩
   simp
  | succ k=>
   rw[ax (by omega),show ((k+1:Nat):Int) - 1=(k:Int) by omega]
   have hR:a / 2 ^ (k+1) % b<b:=Nat.mod_lt _ hb
   have hRl:(bu (a / 2 ^ (k+1) % b)).length≤(bu b).length:=by
    rcases ai4 (bu b).length (bu (a / 2 ^ (k+1) % b)).length with h | h
    ·have:=mZ h;omega
    ·exact h
   obtain⟨s,hs1,hs2,hs3,hs4⟩:=M6 _ _ (eG (a / 2 ^ (k+1) % b)) (eG (a / 2 ^ (k+1) % b)) (by omega) (by omega)
   rw[hs1]
   simp only[ajq]
   have hs0:s[0]? =some s[0]:=aM (by omega)
   have hs0d:=hs2.get hs0
   have hs0v:=Un hs2 hs0
   rw[dU] at hs3
   generalize s[0]'(by omega)=y3 at hs0 hs0d hs0v
   rw[aC (by simp only[agE,ajJ];omega),hs0]
   simp only[ajq]
   have hk32:k / 32<(bu a).length:=by omega
   have e5:w64 (Int.tdiv (k:Int) 32)=((k / 32:Nat):Int):=by
    rw[ahb (by omega),aq (by omega) (by omega)];omega
   have e6:Int.tmod (k:Int) 32=((k % 32:Nat):Int):=by rw[ahc (by omega)];omega
   have hy4:(bu a)[k / 32]? =some ((bu a)[k / 32]):=aM hk32
   have hy4d:=(eG a).get hy4
   have hy4v:=Un (eG a) hy4
   rw[dU] at hy4v
   generalize (bu a)[k / 32]=y4 at hy4 hy4d hy4v
   obtain⟨m4,rfl⟩:∃ m:Nat,y4=m:=⟨y4.toNat,by omega⟩
   rw[e5,e6,aV,hy4]
   simp only[ajq]
   rw[aC (by simp only[ajJ];omega)]
   simp only[ahd]
   rw[aey m4 (k % 32) (by omega)]
   have hbit:m4 / 2 ^ (min (k % 32) 32) % 2=a / 2 ^ k % 2:=by
    have h1:m4=a / 4294967296 ^ (k / 32) % 4294967296:=by
     have h2:((a:Int) / 4294967296 ^ (k / 32) % 4294967296)=((a / 4294967296 ^ (k / 32) % 4294967296:Nat):Int):=by simp
     rw[h2] at hy4v;omega
    have h3:(4294967296:Nat) ^ (k / 32)=2 ^ (32*(k / 32)):=by rw[Nat.pow_mul]
    rw[h1,aja (by omega),h3]
    have h4:(4294967296:Nat)=2 ^ (k % 32)*2 ^ (32 - k % 32):=by rw[← aji];rw[show k % 32+(32 - k % 32)=32 by omega]
    rw[show a / 2 ^ (32*(k / 32)) % 4294967296=a / 2 ^ (32*(k / 32)) % (2 ^ (k % 32)*2 ^ (32 - k % 32)) by rw[← h4],Nat.mod_mul_right_div_self,Nat.div_div_eq_div_mul, ← aji,show 32*(k / 32)+k % 32=k by omega]
    have h5:(2:Nat) ∣ 2 ^ (32 - k % 32):=by
     rw[show 32 - k % 32=(31 - k % 32)+1 by omega,ajk];exact Nat.dvd_mul_left _ _
    exact Nat.mod_mod_of_dvd _ h5
   rw[hbit,aC (by simp only[agE,ajJ];omega)]
   obtain⟨m3,rfl⟩:∃ m:Nat,y3=m:=⟨y3.toNat,by omega⟩
   have hev:m3 % 2=0:=by
    have h1:v32 s / 4294967296 ^ 0 % 4294967296=v32 s % 4294967296:=by simp
    rw[h1,hs3] at hs0v
    omega
   have hor:mE (((BitVec.ofInt (IntKind.bits .u32) (m3:Int) ||| BitVec.ofInt (IntKind.bits .u32) ((a / 2 ^ k % 2:Nat):Int)).toNat:Int))=((m3+a / 2 ^ k % 2:Nat):Int):=by
    rw[Wl (IntKind.bits .u32) (by show m3<2 ^ 32;omega) (by show a / 2 ^ k % 2<2 ^ 32;omega)]
    have h1:m3=2 ^ 1*(m3 / 2):=by omega
    have h2:m3 ||| (a / 2 ^ k % 2)=m3+a / 2 ^ k % 2:=by
     conv=>lhs;rw[h1]
     rw[Yc (by omega)];omega
    rw[h2];exact Cy (by omega) (by omega)
   rw[hor]
   rw[zM _ (by simp only[ah8];omega),YE (hs2.set (by omega)),NF hs0,hs3]
   simp only[ajq]
   have hr2:(((a / 2 ^ (k+1) % b:Nat):Int)+((a / 2 ^ (k+1) % b:Nat):Int)+4294967296 ^ 0*(((m3+a / 2 ^ k % 2:Nat):Int) - (m3:Int))).toNat=2*(a / 2 ^ (k+1) % b)+a / 2 ^ k % 2:=by
    rw[Int.pow_zero];omega
   rw[hr2]
   have htop:a / 2 ^ k=2*(a / 2 ^ (k+1))+a / 2 ^ k % 2:=by
    rw[ajk, ← Nat.div_div_eq_div_mul];omega
   generalize hT:a / 2 ^ (k+1)=T at*
   generalize hbt:a / 2 ^ k % 2=bt at*
   have hbt2:bt<2:=by omega
   have hr3l:(bu (2*(T % b)+bt)).length≤(bu b).length+1:=by
    rcases ai4 ((bu b).length+1) (bu (2*(T % b)+bt)).length with h | h
    ·exfalso
     have h1:bu (4294967296*b)=0::bu b:=by
      have:=Ji (B:=4294967296) (by omega) (d:=0) (n:=b) (by omega) (by omega)
      simpa [bu] using this
     have h2:(bu (4294967296*b)).length<(bu (2*(T % b)+bt)).length:=by rw[h1];simpa using h
     have:=mZ h2
     omega
    ·exact h
   obtain⟨c,hc1,hc2,hc3⟩:=FX (2*(T % b)+bt) b (by omega) (by omega)
   rw[hc1]
   simp only[ajq]
   have hdm:=Nat.div_add_mod T b
   by_cases hge:b≤2*(T % b)+bt
   ·rw[ax (by omega)]
    have hlen2:(bu b).length≤(bu (2*(T % b)+bt)).length:=by
     rcases ai4 (bu (2*(T % b)+bt)).length (bu b).length with h | h
     ·have:=mZ h;omega
     ·exact h
    rw[D2 _ _ (eG _) (eG _) (by omega) hlen2 (by rw[dU,dU];omega),dU,dU]
    simp only[ajq]
    rw[aC (by simp only[agE,ajJ];omega)]
    have hy9:q[k / 32]? =some (q[k / 32]'(by omega)):=aM (by omega)
    have hy9d:=hq.get hy9
    have hy9v:=Un hq hy9
    rw[hqv] at hy9v
    generalize q[k / 32]'(by omega)=y9 at hy9 hy9d hy9v
    obtain⟨m9,rfl⟩:∃ m:Nat,y9=m:=⟨y9.toNat,by omega⟩
    rw[hy9]
    simp only[ajq]
    rw[aC (by simp only[ajJ];omega),aC (by simp only[agE,ajJ];omega)]
    have h9:m9=T / b*2 ^ (k+1) / 4294967296 ^ (k / 32) % 4294967296:=by
     have h2:(((T / b*2 ^ (k+1):Nat):Int) / 4294967296 ^ (k / 32) % 4294967296)=((T / b*2 ^ (k+1) / 4294967296 ^ (k / 32) % 4294967296:Nat):Int):=by simp
     rw[h2] at hy9v;omega
    have h3:(4294967296:Nat) ^ (k / 32)=2 ^ (32*(k / 32)):=by rw[Nat.pow_mul]
    have h9d:2 ^ (k % 32+1) ∣ m9:=by
     rw[h9,h3]
     have e1:T / b*2 ^ (k+1) / 2 ^ (32*(k / 32))=T / b*2 ^ (k % 32+1):=by
      rw[show k+1=(k % 32+1)+32*(k / 32) by omega,aji, ← ajc,Nat.mul_div_cancel _ (Nat.pow_pos (by omega))]
     rw[e1]
     have h4:(4294967296:Nat)=2 ^ (k % 32+1)*2 ^ (31 - k % 32):=by rw[← aji];rw[show k % 32+1+(31 - k % 32)=32 by omega]
     exact (Nat.dvd_mod_iff (by rw[h4];exact Nat.dvd_mul_right _ _)).2 (Nat.dvd_mul_left _ _)
    have hsh:mE (1*2 ^ (min (k % 32) (IntKind.bits .u32)))=((2 ^ (k % 32):Nat):Int):=by
     rw[show IntKind.bits .u32=32 from rfl,aja (by omega),Int.one_mul,show ((2:Int) ^ (k % 32))=((2 ^ (k % 32):Nat):Int) by simp]
     have:2 ^ (k % 32)≤2 ^ 31:=ajj (by omega) (by omega)
     exact Cy (by omega) (by omega)
    have hp31:2 ^ (k % 32)≤2 ^ 31:=ajj (by omega) (by omega)
    obtain⟨e9,he9⟩:=h9d
    have hor2:mE (((BitVec.ofInt (IntKind.bits .u32) (m9:Int) ||| BitVec.ofInt (IntKind.bits .u32) ((2 ^ (k % 32):Nat):Int)).toNat:Int))=((m9+2 ^ (k % 32):Nat):Int):=by
     rw[Wl (IntKind.bits .u32) (by show m9<2 ^ 32;omega) (by show 2 ^ (k % 32)<2 ^ 32;omega)]
     have h2:m9 ||| 2 ^ (k % 32)=m9+2 ^ (k % 32):=by rw[he9,Yc (Nat.pow_lt_pow_right (by omega) (by omega))]
     rw[h2]
     refine Cy (by omega) ?_
     have h5:2 ^ (k % 32+1)*e9+2 ^ (k % 32)≤4294967295:=by
      have h4:(4294967296:Nat)=2 ^ (k % 32+1)*2 ^ (31 - k % 32):=by rw[← aji];rw[show k % 32+1+(31 - k % 32)=32 by omega]
      have h6:e9<2 ^ (31 - k % 32):=by
       rcases ai4 e9 (2 ^ (31 - k % 32)) with h | h
       ·exact h
       ·have:=Nat.mul_le_mul_left (2 ^ (k % 32+1)) h;omega
      have h7:=Nat.mul_le_mul_left (2 ^ (k % 32+1)) (show e9+1≤2 ^ (31 - k % 32) by omega)
      rw[Nat.mul_add,ajf, ← h4] at h7
      have h8:2 ^ (k % 32+1)=2*2 ^ (k % 32):=by rw[ajk,ajd]
      omega
     omega
    have hz9:m9+2 ^ (k % 32)<4294967296:=by
     have:=Cz (((BitVec.ofInt (IntKind.bits .u32) (m9:Int) ||| BitVec.ofInt (IntKind.bits .u32) ((2 ^ (k % 32):Nat):Int)).toNat:Int))
     rw[hor2] at this;omega
    rw[hsh,hor2,aq (by omega) (by omega), ← hag]
    have hTk:a / 2 ^ k / b=2*(T / b)+1∧a / 2 ^ k % b=2*(T % b)+bt - b:=by
     have h1:a / 2 ^ k=b*(2*(T / b)+1)+(2*(T % b)+bt - b):=by
      rw[htop,Nat.mul_add,ajf,show b*(2*(T / b))=2*(b*(T / b)) by rw[Nat.mul_left_comm]];omega
     have h2:2*(T % b)+bt - b<b:=by have:=Nat.mod_lt T hb;omega
     rw[h1]
     exact⟨by rw[Nat.mul_add_div hb,aiU h2,aiT],by rw[Nat.mul_add_mod,ajb h2]⟩
    have hih:=ih k (q.set (k / 32) ((m9+2 ^ (k % 32):Nat):Int)) (by omega) (by omega) (hq.set ⟨Int.natCast_nonneg _,Int.ofNat_lt.2 hz9⟩) (by rw[ah8];exact hql) (by
     rw[NF hy9,hqv,hTk.1]
     have e1:(((m9+2 ^ (k % 32):Nat):Int) - (m9:Int))=((2 ^ (k % 32):Nat):Int):=by omega
     have e2:((4294967296:Int) ^ (k / 32))=((2 ^ (32*(k / 32)):Nat):Int):=by rw[← h3];simp
     rw[e1,e2, ← Int.natCast_mul, ← aji,show 32*(k / 32)+k % 32=k by omega, ← Int.natCast_add]
     congr 1
     rw[ajk,aiS,ajh,ajd (2 ^ k) 2, ← ajc,ajd (T / b) 2])
    rw[hTk.2] at hih
    have e7:(((2*(T % b)+bt:Nat):Int) - (b:Int)).toNat=2*(T % b)+bt - b:=by omega
    rw[e7]
    exact hih
   ·rw[av (by omega),aq (by omega) (by omega), ← hag]
    have hTk:a / 2 ^ k / b=2*(T / b)∧a / 2 ^ k % b=2*(T % b)+bt:=by
     have h1:a / 2 ^ k=b*(2*(T / b))+(2*(T % b)+bt):=by
      rw[htop,show b*(2*(T / b))=2*(b*(T / b)) by rw[Nat.mul_left_comm]];omega
     have h2:2*(T % b)+bt<b:=by omega
     rw[h1]
     exact⟨by rw[Nat.mul_add_div hb,aiU h2,aiT],by rw[Nat.mul_add_mod,ajb h2]⟩
    have hih:=ih k q (by omega) (by omega) hq hql (by
     rw[hqv,hTk.1]
     congr 1
     rw[ajk,ajd (2 ^ k) 2, ← ajc,ajd (T / b) 2])
    rw[hTk.2] at hih
    exact hih
theorem KG (n:Nat):v32 (List.replicate n 0)=0:=by
 induction n with
 | zero=>rfl
 | succ n ih=>rw[aiD,FT,ih];rfl
theorem afX (k:Nat):(4294967296:Nat) ^ k=2 ^ (32*k):=by rw[Nat.pow_mul]
theorem Sl (x y:Int) (hx:x.natAbs<4294967296 ^ 99) (hy:y.natAbs<4294967296 ^ 99) (h0:y≠0):wA (W x) (W y)=some (W ((x.natAbs / y.natAbs:Nat):Int),W ((x.natAbs % y.natAbs:Nat):Int),()):=by
 have hlx:=sw hx
 have hly:=sw hy
 unfold wA W
 dsimp only
 rw[aC (by simp only[agE,ajJ];omega)]
 have e1:w64 (w64 (((bu x.natAbs).length:Int)*32) - 1)=((32*(bu x.natAbs).length:Nat):Int) - 1:=by
  rw[aq (n:=((bu x.natAbs).length:Int)*32) (by omega) (by omega),aq (by omega) (by omega)];omega
 rw[e1]
 have hlt:x.natAbs<2 ^ (32*(bu x.natAbs).length):=by
  have:=IW (eG x.natAbs)
  rw[dU] at this
  have h2:((4294967296:Int) ^ (bu x.natAbs).length)=((4294967296 ^ (bu x.natAbs).length:Nat):Int):=by simp
  rw[h2,afX] at this
  omega
 have hz:x.natAbs / 2 ^ (32*(bu x.natAbs).length)=0:=aiU hlt
 obtain⟨q,h1,h2,h3,h4⟩:=Wj x.natAbs y.natAbs (by omega) (decide (x<0)) (decide (y<0)) (by omega) (by omega) false [] false [] (List.length ([]:List Int)+(Int.natAbs (((32*(bu x.natAbs).length:Nat):Int) - 1)+(List.length (bu x.natAbs)+(List.length (bu y.natAbs)+(List.length ([]:List Int)+(List.length ([]:List Int)+(List.length ((List.replicate (Int.toNat ((List.length (bu x.natAbs):Int))) 0):List Int)+2)))))))
  (32*(bu x.natAbs).length) (List.replicate (Int.toNat ((List.length (bu x.natAbs):Int))) 0) (ai0 _) (by omega) (fun d hd=>by rw[List.mem_replicate] at hd;omega) (by simp) (by rw[KG,hz];simp)
 rw[hz,Nat.zero_mod,L9] at h1
 rw[h1,aB]
 simp only
 rw[kM _ _ h2 (by omega),kM _ _ (eG _) (by
  have:=sw (k:=99) (n:=x.natAbs % y.natAbs) (ai2 (Nat.mod_le _ _) hx);omega),h4,dU]
 rfl
theorem FW (z:Int) (most:Int) (h0:0≤most) (h1:most≤9223372036854775807):tW (W z) most=some (if z.natAbs≤most then (z,true,()) else (0,false,())):=by
 unfold tW W
 dsimp only
 by_cases hl:(bu z.natAbs).length>2
 ·rw[ax (by omega)]
  have:¬ (z.natAbs:Int)≤most:=by
   intro h
   have:=sw (k:=2) (n:=z.natAbs) (by omega)
   omega
  rw[ajP this]
 ·rw[av (by omega)]
  have hdig:=eG z.natAbs
  have hval:=dU z.natAbs
  have hlen:(bu z.natAbs).length≤2:=by omega
  generalize hd:bu z.natAbs=d at*
  have loop:∃ n0,iter (X:=s6) (β:=s5) (Int.natAbs most+(Int.natAbs (0:Int)+(List.length d+(Int.natAbs ((List.length d:Int))+(Int.natAbs (0:Int)+(List.length d+2)))))) (most,0,d,(List.length d:Int),0,decide (z<0),d,()) sY=some (Sum.inr (most,n0,decide (z<0),d,()))∧n0=(z.natAbs:Int):=by
   refine bf (Inv:=fun i x=>∃ u:Int,x=(most,u,d,(d.length:Int),(i:Int),decide (z<0),d,())∧u=v32 (d.take i)) d.length (fun r=>∃ n0,r=some (Sum.inr (most,n0,decide (z<0),d,()))∧n0=(z.natAbs:Int)) ?_ ?_ _ 0 _ ⟨0,rfl,by simp[Cs]⟩ (by omega) (by omega)
   ·rintro i _ again hi ⟨u,rfl,hu⟩ ih
    unfold sY
    simp only
    have hy:d[i]? =some d[i]:=aM hi
    have hyd:=hdig.get hy
    have hts:=jd hy
    have hlt:=IW (hdig.take i)
    have hnn:=Bz (hdig.take i)
    rw[aia,aja (by omega)] at hlt
    generalize d[i]=y at hy hyd hts
    rw[ax (by omega),aV,hy,ajq,aq (n:=32*(i:Int)) (by omega) (by omega),aC (by simp only[ajJ];omega),aq (n:=(i:Int)+1) (by omega) (by omega)]
    refine ih _ ⟨_,rfl, ?_⟩
    rw[hts]
    obtain⟨m,rfl⟩:∃ m:Nat,y=m:=⟨y.toNat,by omega⟩
    obtain⟨k,hk⟩:∃ k:Nat,v32 (d.take i)=k:=⟨(v32 (d.take i)).toNat,by omega⟩
    rw[hk] at hlt hu ⊢
    subst hu
    have hi2:i=0∨i=1:=by omega
    rcases hi2 with rfl | rfl
    ·simp only[Int.pow_zero] at hlt ⊢
     have:k=0:=by omega
     subst this
     have e:bR (bR (m:Int)*2 ^ (min (Int.toNat (32*((0:Nat):Int))) (IntKind.bits .u64)))=(m:Int):=by
      rw[dF (n:=(m:Int)) (by omega) (by omega)]
      simp
      exact dF (by omega) (by omega)
     rw[e,Wl (IntKind.bits .u64) (by decide) (by show m<2 ^ 64;omega),Nat.zero_or,dF (by omega) (by omega)]
     omega
    ·simp only[Int.pow_one] at hlt ⊢
     have e:bR (bR (m:Int)*2 ^ (min (Int.toNat (32*((1:Nat):Int))) (IntKind.bits .u64)))=((2 ^ 32*m:Nat):Int):=by
      rw[dF (n:=(m:Int)) (by omega) (by omega),show min (Int.toNat (32*((1:Nat):Int))) (IntKind.bits .u64)=32 from rfl]
      rw[dF (by omega) (by omega)]
      omega
     rw[e,Wl (IntKind.bits .u64) (by show k<2 ^ 64;omega) (by show 2 ^ 32*m<2 ^ 64;omega),Nat.or_comm,Yc (by omega),dF (by omega) (by omega)]
     omega
   ·rintro _ again ⟨u,rfl,hu⟩
    unfold sY
    simp only
    rw[av (by omega)]
    rw[aiP (ai0 _),hval] at hu
    exact⟨u,rfl,hu⟩
  obtain⟨n0,h2,h3⟩:=loop
  rw[h2,aB]
  subst h3
  simp only
  rw[dF (n:=most) (by omega) (by omega)]
  by_cases hm:(z.natAbs:Int)≤most
  ·rw[av (by omega),ajQ hm]
   by_cases hneg:z<0
   ·rw[ajI hneg]
    simp only[ajE]
    rw[aq (n:=(z.natAbs:Int)) (by omega) (by omega),aq (by omega) (by omega)]
    congr 2;omega
   ·rw[ajG hneg]
    simp only[ajD]
    rw[aq (by omega) (by omega)]
    congr 2;omega
  ·rw[ax (by omega),ajP hm]
end Go.Md
namespace Go.Md
open Go.Dn
def v6 (l:List Int):Int:=val 1000000 l
theorem M4:v6 []=0:=rfl
theorem Uo (d:Int) (l:List Int):v6 (d::l)=d+1000000*v6 l:=rfl
theorem Vg (l m:List Int):v6 (l++m)=v6 l+1000000 ^ l.length*v6 m:=Et l m
theorem Up (l:List Int) (d:Int):v6 (l++[d])=v6 l+1000000 ^ l.length*d:=YJ l d
abbrev Dg6 (l:List Int):Prop:=Dig 1000000 l
def dg6 (n:Nat):List Int:=dg 1000000 n
theorem EO:dg6 0=[]:=rfl
theorem Q9 {n:Nat}:dg6 n=[]↔n=0:=UD (B:=1000000) (by omega)
theorem Jh {n:Nat} (h:0<n):dg6 n≠[]:=Gl (B:=1000000) (by omega) h
theorem Av {m n:Nat} (h:(dg6 m).length<(dg6 n).length):m<n:=UE (B:=1000000) (by omega) h
theorem ud (n:Nat):Dg6 (dg6 n):=abY (B:=1000000) (by omega) n
theorem BA (n:Nat):v6 (dg6 n)=n:=adp (B:=1000000) (by omega) n
theorem af3 {l:List Int} (h:Dg6 l):trim l=dg6 (v6 l).toNat:=Ul (B:=1000000) (by omega) h
theorem rZ {l:List Int} (h:Dg6 l):0≤v6 l:=Eu (by omega) h
theorem Km {l:List Int} (h:Dg6 l):v6 l<1000000 ^ l.length:=YI (by omega) h
theorem ZV {k n:Nat} (h:n<1000000 ^ k):(dg6 n).length≤k:=Xh (B:=1000000) (by omega) k n h
theorem nK {l:List Int} {i:Nat} {y:Int} (h:l[i]? =some y):v6 (l.take (i+1))=v6 (l.take i)+1000000 ^ i*y:=by
 have hi:=(ahQ.1 h).1
 rw[mD h,Up,aia,aja (by omega)]
theorem YH {l:List Int} {i:Nat} (h:l.length≤i):v6 (l.take (i+1))=v6 (l.take i):=by
 rw[aiP h,aiP (by omega)]
theorem YG {l:List Int} {i:Nat} {y z:Int} (hi:l[i]? =some y):v6 (l.set i z)=v6 l+1000000 ^ i*(z - y):=by
 have hlt:=(ahQ.1 hi).1
 have e:l=l.take i++(y::l.drop (i+1)):=by
  have:=aiL i l
  rw[ahr hlt,(ahQ.1 hi).2] at this
  exact this.symm
 have e2:l.set i z=l.take i++(z::l.drop (i+1)):=by rw[List.set_eq_take_append_cons_drop,ajQ hlt]
 rw[e2]
 conv=>rhs;rw[e]
 rw[Vg,Vg,Uo,Uo,aia,aja (by omega)]
 have:(1000000:Int) ^ i*(z+1000000*v6 (l.drop (i+1)))=1000000 ^ i*(y+1000000*v6 (l.drop (i+1)))+1000000 ^ i*(z - y):=by rw[← agX];congr 1;omega
 omega
theorem Wa (b:Bool) (l:List Int) (hd:Dg6 l) (hl:l.length<1000000):pQ (b,l)=some ((b&&decide (0<v6 l),dg6 (v6 l).toNat),()):=by
 have key:∀ n (x:tU),x.2.1.length<1000000→x.2.1.length<n→iter n x DW=some (Sum.inr (x.1,trim x.2.1,x.2.2.1,x.2.2.2.1,())):=by
  refine zX (fun x:tU=>x.2.1.length<1000000) (fun x=>x.2.1.length) (fun x r=>r=some (Sum.inr (x.1,trim x.2.1,x.2.2.1,x.2.2.2.1,()))) ?_
  rintro⟨c,x,g,m,u⟩ again hx ih
  simp only at hx ih ⊢
  unfold DW
  simp only
  by_cases h0:x.length=0
  ·have:x=[]:=ahx h0
   subst this;simp[trim]
  ·have e1:w64 ((x.length:Int) - 1)=((x.length - 1:Nat):Int):=by rw[aq (by omega) (by omega)];omega
   have hsp:x=x.take (x.length - 1)++[x[x.length - 1]'(by omega)]:=by
    have:=aiL (x.length - 1) x
    rw[ahr (by omega),ahu (by omega)] at this
    exact this.symm
   rw[ax (by omega),e1,aV,aM (by omega)]
   simp only[ahd,ahv,ajq]
   by_cases hz:x[x.length - 1]'(by omega)=0
   ·rw[hz] at hsp ⊢
    rw[aC (by simp only[agE,ajJ];omega)]
    simp only[ajB,ajE]
    rw[ih (c,List.take (x.length - 1) x,g,m,()) (by simp only[aia];omega) (by simp only[aia];omega)]
    conv=>rhs;rw[hsp,Cr]
   ·have:(x[x.length - 1]'(by omega)==0)=false:=by simp[hz]
    rw[this]
    simp only[ajD]
    conv=>rhs;rw[hsp,FR hz]
    rw[← hsp]
 unfold pQ
 rw[key _ _ (by simpa using hl) (by simp),aB]
 simp only
 rw[af3 hd]
 have h0:=rZ hd
 by_cases hv:v6 l=0
 ·simp[hv,EO]
 ·have h1:dg6 (v6 l).toNat≠[]:=Jh (by omega)
  have h2:(((dg6 (v6 l).toNat).length:Int)==0)=false:=by
   have:(dg6 (v6 l).toNat).length≠0:=fun h=>h1 (ahx h)
   simp;omega
  rw[h2]
  have h3:decide (0<v6 l)=true:=by simp;omega
  simp[h3]
def N (z:Int):aj:=(decide (z<0),dg6 z.natAbs)
theorem Uf (b:Bool) (l:List Int) (hd:Dg6 l) (hl:l.length<1000000):pQ (b,l)=some (N (if b then -v6 l else v6 l),()):=by
 rw[Wa b l hd hl]
 have h0:=rZ hd
 cases b with
 | false=>
  simp only[N];congr 3
  ·simp;omega
  ·simp only[agI,ajO];congr 1;omega
 | true=>
  simp only[N];congr 3
  ·simp
  ·simp only[ajR];congr 1;omega
theorem aeh (x:Int):(Int.tdiv x 1000000).natAbs=x.natAbs / 1000000:=by rw[Int.natAbs_tdiv];rfl
theorem aei (x:Int):(Int.tmod x 1000000).natAbs=x.natAbs % 1000000:=by rw[Int.natAbs_tmod];rfl
theorem aeE {n:Nat} (h:0<n):dg6 n=((n % 1000000:Nat):Int)::dg6 (n / 1000000):=C7 (B:=1000000) (by omega) h
theorem Ep (ng g:Bool) (gl:List Int):∀ (k fuel:Nat) (out:List Int) (x:Int),out.length+k<1000→x.natAbs<1000000 ^ k→k<fuel→ -9223372036854775808<x→x≤9223372036854775807→
 iter (X:=Fj) (β:=Fi) fuel (x,g,gl,ng,out,()) zC=some (Sum.inr (g,gl,ng,out++dg6 x.natAbs,()))
 | k,0,_,_,_,_,h,_,_=>by omega
 | 0,fuel+1,out,x,_,hx,_,_,_=>by
  have:x=0:=by simp at hx;omega
  subst this
  rw[aZ]
  unfold zC
  simp[EO]
 | k+1,fuel+1,out,x,ho,hx,hf,h1,h2=>by
  rw[aZ]
  generalize hag:(fun y=>iter fuel y zC)=again
  unfold zC
  dsimp only
  by_cases h0:x=0
  ·subst h0;simp[EO]
  ·have hb:(x != 0)=true:=by simp[h0]
   rw[hb,ajE,aC (qU (by omega) (by omega)), ← hag]
   have e0:=aeh x
   have e1:=aei x
   have e2:(if (w64 (0 - (Int.tmod x 1000000)))>(Int.tmod x 1000000) then (w64 (0 - (Int.tmod x 1000000))) else (Int.tmod x 1000000))=((x.natAbs % 1000000:Nat):Int):=by
    rw[aq (by omega) (by omega)]
    split<;>omega
   rw[e2,aq (by omega) (by omega)]
   show iter fuel _ zC=_
   rw[Ep ng g gl k fuel _ _ (by simp;omega) (by rw[e0];rw[ajk] at hx;exact Nat.div_lt_of_lt_mul (by rw[ajd];exact hx)) (by omega) (by omega) (by omega),e0,ahk,List.singleton_append, ← aeE (by omega)]
theorem B7 (n:Int) (h1: -9223372036854775808<n) (h2:n≤9223372036854775807):GK n=some (N n,()):=by
 unfold GK
 have key:iter (X:=Fj) (β:=Fi) (Int.natAbs n+(List.length ([]:List Int)+(List.length ([]:List Int)+2))) (n,false,[],decide (n<0),[],()) zC=some (Sum.inr (false,[],decide (n<0),[]++dg6 n.natAbs,())):=by
  by_cases h0:n.natAbs<1
  ·exact Ep _ _ _ 0 _ _ _ (by simp) (by simpa using h0) (by omega) h1 h2
  ·by_cases h3:n.natAbs<1000000
   ·exact Ep _ _ _ 1 _ _ _ (by simp) (by simpa using h3) (by omega) h1 h2
   ·exact Ep _ _ _ 4 _ _ _ (by simp) (by omega) (by omega) h1 h2
 rw[key,aB]
 rfl
theorem V9 (a b:List Int) (ha:Dg6 a) (hb:Dg6 b) (hab:a.length=b.length) (hla:a.length<100000):∀ (n k:Nat),k≤a.length→k<n→
 ∃ c:Int,iter (X:=CT) (β:=CS) n (a,b,(k:Int) - 1,()) yd=(if v6 (a.take k)=v6 (b.take k) then some (Sum.inr ()) else some (Sum.inl (c,())))∧(c<0↔v6 (a.take k)<v6 (b.take k))∧(0<c↔v6 (b.take k)<v6 (a.take k)):=by
 intro n
 induction n with
 | zero=>intro k _ h;omega
 | succ n ih=>
  intro k hk hn
  rw[aZ]
  generalize hag:(fun y=>iter n y yd)=again
  unfold yd
  dsimp only
  cases k with
  | zero=>exact⟨0,by simp[M4],by simp,by simp⟩
  | succ k=>
   rw[ax (by omega),show ((k+1:Nat):Int) - 1=(k:Int) by omega,aV,aV]
   have hx:a[k]? =some a[k]:=aM (by omega)
   have hy:b[k]? =some b[k]:=aM (by omega)
   rw[hx,hy]
   simp only[ajq]
   rw[nK hx,nK hy]
   have h1:=Km (ha.take k)
   have h2:=Km (hb.take k)
   have h3:=rZ (ha.take k)
   have h4:=rZ (hb.take k)
   have h5:=ha.get hx
   have h6:=hb.get hy
   rw[aia,aja (by omega)] at h1 h2
   generalize a[k]=x at*
   generalize b[k]=y at*
   by_cases hxy:x=y
   ·subst hxy
    simp only[ajC,ajD]
    rw[aq (by omega) (by omega), ← hag]
    obtain⟨c,h7,h8,h9⟩:=ih k (by omega) (by omega)
    refine⟨c, ?_,by omega,by omega⟩
    show iter n (a,b,(k:Int) - 1,()) yd=_
    rw[h7]
    congr 1
    simp
   ·have hne:(x != y)=true:=by simp[hxy]
    rw[hne]
    simp only[ajE]
    rw[aq (by omega) (by omega)]
    refine⟨x - y, ?_, ?_, ?_⟩
    ·rw[ajP]
     intro h
     rcases Int.lt_or_gt_of_ne hxy with hlt | hlt
     ·have:(1000000:Int) ^ k*(x+1)≤1000000 ^ k*y:=agZ (by omega) (by omega)
      rw[agX,ag2] at this
      omega
     ·have:(1000000:Int) ^ k*(y+1)≤1000000 ^ k*x:=agZ (by omega) (by omega)
      rw[agX,ag2] at this
      omega
    ·rcases Int.lt_or_gt_of_ne hxy with hlt | hlt
     ·have:(1000000:Int) ^ k*(x+1)≤1000000 ^ k*y:=agZ (by omega) (by omega)
      rw[agX,ag2] at this
      omega
     ·have:(1000000:Int) ^ k*(y+1)≤1000000 ^ k*x:=agZ (by omega) (by omega)
      rw[agX,ag2] at this
      omega
    ·rcases Int.lt_or_gt_of_ne hxy with hlt | hlt
     ·have:(1000000:Int) ^ k*(x+1)≤1000000 ^ k*y:=agZ (by omega) (by omega)
      rw[agX,ag2] at this
      omega
     ·have:(1000000:Int) ^ k*(y+1)≤1000000 ^ k*x:=agZ (by omega) (by omega)
      rw[agX,ag2] at this
      omega
theorem ZF (m n:Nat) (hm:(dg6 m).length<100000) (hn:(dg6 n).length<100000):∃ c,J6 (dg6 m) (dg6 n)=some (c,())∧(c<0↔m<n)∧(0<c↔n<m):=by
 unfold J6
 by_cases h:(dg6 m).length=(dg6 n).length
 ·have hb:(((dg6 m).length:Int) != ((dg6 n).length:Int))=false:=by simp[h]
  rw[hb]
  simp only[ajD]
  by_cases h0:(dg6 m).length=0
  ·have hm0:m=0:=Q9.1 (ahx h0)
   have hn0:n=0:=Q9.1 (ahx (by omega))
   subst hm0;subst hn0
   exact⟨0,rfl,by simp,by simp⟩
  ·have e1:w64 (((dg6 m).length:Int) - 1)=(((dg6 m).length:Nat):Int) - 1:=aq (by omega) (by omega)
   obtain⟨c,h1,h2,h3⟩:=V9 _ _ (ud m) (ud n) h hm ((dg6 m).length+((dg6 n).length+(Int.natAbs ((((dg6 m).length:Nat):Int) - 1)+2))) _ (ai0 _) (by omega)
   rw[aiP (ai0 _),aiP (by omega),BA,BA] at h1 h2 h3
   rw[e1,h1]
   by_cases hmn:(m:Int)=n
   ·rw[ajQ hmn,aB];exact⟨0,rfl,by omega,by omega⟩
   ·rw[ajP hmn,bO];exact⟨c,rfl,by omega,by omega⟩
 ·have hb:(((dg6 m).length:Int) != ((dg6 n).length:Int))=true:=by simp;omega
  rw[hb]
  simp only[ajE]
  rw[aq (by omega) (by omega)]
  refine⟨_,rfl, ?_, ?_⟩
  ·constructor
   ·intro h1;exact Av (by omega)
   ·intro h1
    rcases ai5 h with h2 | h2
    ·omega
    ·have:=Av (m:=n) (n:=m) h2;omega
  ·constructor
   ·intro h1;exact Av (by omega)
   ·intro h1
    rcases ai5 h with h2 | h2
    ·have:=Av (m:=m) (n:=n) h2;omega
    ·omega
theorem Hw (l:List Int) (i:Nat):B9 l (i:Int)=some ((l[i]?).getD 0,()):=by
 unfold B9
 by_cases h:i<l.length
 ·rw[ax (by omega),aV,aM h];rfl
 ·rw[av (by omega),ahP (by omega)];rfl
theorem FU (l:List Int) (i:Nat):v6 (l.take (i+1))=v6 (l.take i)+1000000 ^ i*(l[i]?).getD 0:=by
 by_cases h:i<l.length
 ·rw[nK (aM h),aM h];rfl
 ·rw[YH (by omega),ahP (by omega)];simp
theorem PB {l:List Int} (h:Dg6 l) (i:Nat):0≤(l[i]?).getD 0∧(l[i]?).getD 0<1000000:=by
 cases hi:l[i]? with
 | none=>simp
 | some d=>exact h.get hi
theorem ZD (a b:List Int) (ha:Dg6 a) (hb:Dg6 b) (na nb g:Bool) (gl:List Int) (ng:Bool) (M:Nat) (hM:M<100000) (hlen:a.length<M∧b.length<M) (n:Nat) (hn:M<n):
 ∃ out,iter (X:=CO) (β:=CN) n (0,(M:Int),0,na,a,nb,b,g,gl,ng,[],()) CL=some (Sum.inr (g,gl,ng,out,()))∧Dg6 out∧out.length=M∧v6 out=v6 a+v6 b:=by
 refine bf (Inv:=fun i x=>∃ (out:List Int) (c:Int),x=(c,(M:Int),(i:Int),na,a,nb,b,g,gl,ng,out,())∧Dg6 out∧0≤c∧c≤1∧out.length=i∧v6 out+1000000 ^ i*c=v6 (a.take i)+v6 (b.take i)) M
  (fun r=>∃ out,r=some (Sum.inr (g,gl,ng,out,()))∧Dg6 out∧out.length=M∧v6 out=v6 a+v6 b) ?_ ?_ n 0 _ ⟨[],0,rfl,Dig.nil,by omega,by omega,rfl,by simp[M4]⟩ (by omega) (by omega)
 ·rintro i _ again hi ⟨out,c,rfl,hd,hc0,hc1,hl,hv⟩ ih
  unfold CL
  dsimp only
  rw[ax (by omega),Hw,Hw]
  have h1:=PB ha i
  have h2:=PB hb i
  have h3:=FU a i
  have h4:=FU b i
  generalize (a[i]?).getD 0=x at*
  generalize (b[i]?).getD 0=y at*
  simp only[ajq]
  rw[aC (qU (by omega) (by omega)),aq (n:=x+y) (by omega) (by omega),aq (n:=x+y+c) (by omega) (by omega),aq (n:=(i:Int)+1) (by omega) (by omega),ahc (by omega),ahb (by omega),aq (by omega) (by omega)]
  refine ih _ ⟨_,_,rfl,hd.snoc (by omega),by omega,by omega,by simp[hl], ?_⟩
  rw[Up,hl,h3,h4,ag8]
  have:(1000000:Int) ^ i*((x+y+c) % 1000000)+1000000 ^ i*1000000*((x+y+c) / 1000000)=1000000 ^ i*(x+y+c):=by
   rw[agY, ← agX];congr 1;omega
  rw[agX,agX] at this
  omega
 ·rintro _ again ⟨out,c,rfl,hd,hc0,hc1,hl,hv⟩
  unfold CL
  dsimp only
  rw[av (by omega)]
  rw[aiP (by omega),aiP (by omega)] at hv
  refine⟨out,rfl,hd,hl, ?_⟩
  have h1:=Km ha
  have h2:=Km hb
  have h3:=rZ hd
  have hp:∀ l:Nat,l<M→(1000000:Int) ^ l*1000000≤1000000 ^ M:=by
   intro l hlM
   rw[← ag8]
   have h:=ajj (n:=1000000) (by omega) (show l+1≤M by omega)
   have:=ag5.2 h
   simpa using this
  have h4:=hp _ hlen.1
  have h5:=hp _ hlen.2
  have h6:=rZ ha
  have h7:=rZ hb
  rcases (show c=0∨c=1 by omega) with h | h
  ·subst h;omega
  ·subst h;rw[ag2] at hv;omega
theorem ZE (a b:List Int) (ha:Dg6 a) (hb:Dg6 b) (na nb g:Bool) (gl:List Int) (ng:Bool) (hla:a.length<100000) (hlb:b.length≤a.length) (hle:v6 b≤v6 a) (n:Nat) (hn:a.length<n):
 ∃ out,iter (X:=Bh) (β:=Bg) n (0,(a.length:Int),0,na,a,nb,b,g,gl,ng,[],()) Bf=some (Sum.inr (g,gl,ng,out,()))∧Dg6 out∧out.length=a.length∧v6 out=v6 a - v6 b:=by
 refine bf (Inv:=fun i x=>∃ (out:List Int) (c:Int),x=(c,(a.length:Int),(i:Int),na,a,nb,b,g,gl,ng,out,())∧Dg6 out∧0≤c∧c≤1∧out.length=i∧v6 out=v6 (a.take i) - v6 (b.take i)+1000000 ^ i*c) a.length
  (fun r=>∃ out,r=some (Sum.inr (g,gl,ng,out,()))∧Dg6 out∧out.length=a.length∧v6 out=v6 a - v6 b) ?_ ?_ n 0 _ ⟨[],0,rfl,Dig.nil,by omega,by omega,rfl,by simp[M4]⟩ (by omega) (by omega)
 ·rintro i _ again hi ⟨out,c,rfl,hd,hc0,hc1,hl,hv⟩ ih
  unfold Bf
  dsimp only
  have hy:a[i]? =some a[i]:=aM hi
  rw[ax (by omega),Hw,aV,hy]
  have h1:=ha.get hy
  have h2:=PB hb i
  have h3:=nK hy
  have h4:=FU b i
  generalize a[i]=x at*
  generalize (b[i]?).getD 0=y at*
  simp only[ajq]
  rw[aq (n:=x - y) (by omega) (by omega),aq (n:=x - y - c) (by omega) (by omega)]
  have fin:∀ q:Int,(q=0∨q=1)→0≤x - y - c+1000000*q→x - y - c+1000000*q<1000000→∃ out',again (q,(a.length:Int),w64 ((i:Int)+1),na,a,nb,b,g,gl,ng,out++[x - y - c+1000000*q],())=some (Sum.inr (g,gl,ng,out',()))∧Dg6 out'∧out'.length=a.length∧v6 out'=v6 a - v6 b:=by
   intro q hq hq0 hq1
   rw[aq (by omega) (by omega)]
   refine ih _ ⟨_,q,rfl,hd.snoc (by omega),by omega,by omega,by simp[hl], ?_⟩
   rw[Up,hl,h3,h4,ag8,hv]
   generalize (1000000:Int) ^ i=p
   rw[agX,Int.mul_sub,Int.mul_sub,agY]
   omega
  by_cases hneg:x - y - c<0
  ·rw[ax hneg,aB]
   dsimp only
   rw[aC (qU (by omega) (by omega)),aq (n:=x - y - c+1000000) (by omega) (by omega)]
   exact fin 1 (.inr rfl) (by omega) (by omega)
  ·rw[av hneg,aB]
   dsimp only
   rw[aC (qU (by omega) (by omega))]
   have:=fin 0 (.inl rfl) (by omega) (by omega)
   rw[show x - y - c+1000000*0=x - y - c by omega] at this
   exact this
 ·rintro _ again ⟨out,c,rfl,hd,hc0,hc1,hl,hv⟩
  unfold Bf
  dsimp only
  rw[av (by omega)]
  rw[aiP (ai0 _),aiP hlb] at hv
  refine⟨out,rfl,hd,hl, ?_⟩
  have h3:=Km hd
  rw[hl] at h3
  rcases (show c=0∨c=1 by omega) with h | h
  ·subst h;omega
  ·subst h;rw[ag2] at hv;omega
theorem aaJ {m n:Nat} (h:m≤n):(dg6 m).length≤(dg6 n).length:=by
 rcases ai4 (dg6 n).length (dg6 m).length with h1 | h1
 ·have:=Av h1;omega
 ·exact h1
theorem xg (x y:Int) (hx:(dg6 x.natAbs).length<10000) (hy:(dg6 y.natAbs).length<10000):Ac (N x) (N y)=some (N (x+y),()):=by
 unfold Ac N
 dsimp only
 have main:∀ (a b:Nat) (na nb:Bool),(dg6 a).length<10000→(dg6 b).length<10000→b≤a→aK (β:=(aj×Unit)) (γ:=(Bool×(List Int)×Bool×(List Int)×Unit)) (
  iter (X:=Bh) (β:=Bg) (Int.natAbs (0:Int)+(Int.natAbs ((List.length (dg6 a):Int))+(Int.natAbs (0:Int)+(List.length (dg6 a)+(List.length (dg6 b)+(List.length ([]:List Int)+(List.length ([]:List Int)+2))))))) (0,(List.length (dg6 a):Int),0,na,dg6 a,nb,dg6 b,false,[],na,[],()) (Bf)) (fun v8=>
  Option.bind (pQ (v8.2.2.1,v8.2.2.2.1)) fun r9=>
  some (r9.1,()))=some (N (if na then -((a:Int) - b) else (a:Int) - b),()):=by
  intro a b na nb h1 h2 h3
  obtain⟨out,h4,h5,h6,h7⟩:=ZE (dg6 a) (dg6 b) (ud a) (ud b) na nb false [] na (by omega) (aaJ h3) (by rw[BA,BA];omega) (Int.natAbs (0:Int)+(Int.natAbs ((List.length (dg6 a):Int))+(Int.natAbs (0:Int)+(List.length (dg6 a)+(List.length (dg6 b)+(List.length ([]:List Int)+(List.length ([]:List Int)+2))))))) (by omega)
  rw[h4,aB]
  dsimp only
  rw[Uf _ _ h5 (by omega),h7,BA,BA]
  rfl
 by_cases hs:decide (x<0)=decide (y<0)
 ·rw[show (!(decide (x<0)==decide (y<0)))=false by simp[hs]]
  dsimp only[cond_false]
  have e1:w64 ((if ((dg6 y.natAbs).length:Int)>((dg6 x.natAbs).length:Int) then ((dg6 y.natAbs).length:Int) else ((dg6 x.natAbs).length:Int))+1)=((max (dg6 x.natAbs).length (dg6 y.natAbs).length+1:Nat):Int):=by
   split<;>rw[aq (by omega) (by omega)]<;>omega
  rw[e1]
  obtain⟨out,h4,h5,h6,h7⟩:=ZD (dg6 x.natAbs) (dg6 y.natAbs) (ud _) (ud _) (decide (x<0)) (decide (y<0)) false [] (decide (x<0)) (max (dg6 x.natAbs).length (dg6 y.natAbs).length+1) (by omega) ⟨by omega,by omega⟩ (Int.natAbs (0:Int)+(Int.natAbs ((max (dg6 x.natAbs).length (dg6 y.natAbs).length+1:Nat):Int)+(Int.natAbs (0:Int)+(List.length (dg6 x.natAbs)+(List.length (dg6 y.natAbs)+(List.length ([]:List Int)+(List.length ([]:List Int)+2))))))) (by omega)
  rw[h4,aB]
  dsimp only
  rw[Uf _ _ h5 (by omega),h7,BA,BA]
  rw[ajq]
  show some (N _,())=some (N (x+y),())
  congr 3
  simp only[ajF] at hs
  by_cases h:x<0
  ·simp only[h,ajL,ajR];omega
  ·simp only[h,ajK,agI,ajO];omega
 ·rw[show (!(decide (x<0)==decide (y<0)))=true by simp[hs]]
  rw[ajE]
  obtain⟨c,h1,h2,h3⟩:=ZF x.natAbs y.natAbs (by omega) (by omega)
  rw[h1,ajq]
  dsimp only
  simp only[ajF] at hs
  by_cases hc:c<0
  ·rw[ax hc,aB]
   have:=main y.natAbs x.natAbs (decide (y<0)) (decide (x<0)) hy hx (by omega)
   dsimp only
   rw[this]
   congr 3
   by_cases h:y<0
   ·simp only[h,ajL,ajR];omega
   ·simp only[h,ajK,agI,ajO];omega
  ·rw[av hc,aB]
   have:=main x.natAbs y.natAbs (decide (x<0)) (decide (y<0)) hx hy (by omega)
   dsimp only
   rw[this]
   congr 3
   by_cases h:x<0
   ·simp only[h,ajL,ajR];omega
   ·simp only[h,ajK,agI,ajO];omega
theorem ZB (x:Int):J5 (N x)=some (N (-x),()):=by
 unfold J5 N
 dsimp only
 by_cases h0:x=0
 ·subst h0;simp[EO]
 ·have h1:dg6 x.natAbs≠[]:=Jh (by omega)
  have h2:0<(dg6 x.natAbs).length:=by
   rcases aiX (dg6 x.natAbs).length with h | h
   ·exact absurd (ahx h) h1
   ·exact h
  rw[ax (by omega),Int.natAbs_neg]
  congr 3
  by_cases h:x<0
  ·simp[h];omega
  ·simp[h];omega
theorem abh (x:Int):NA (N x)=some (x.sign,()):=by
 unfold NA N
 dsimp only
 by_cases h0:x=0
 ·subst h0;simp[EO]
 ·have h1:dg6 x.natAbs≠[]:=Jh (by omega)
  have h2:(((dg6 x.natAbs).length:Int)==0)=false:=by
   have:(dg6 x.natAbs).length≠0:=fun h=>h1 (ahx h)
   simp;omega
  rw[h2,ajD]
  by_cases h:x<0
  ·simp[h,ag9 h]
  ·simp[h,aha (show 0<x by omega)]
theorem GI (x y:Int) (hx:(dg6 x.natAbs).length<10000) (hy:(dg6 y.natAbs).length<10000):A9 (N x) (N y)=some ((x - y).sign,()):=by
 unfold A9
 rw[ZB,ajq]
 dsimp only
 rw[xg x (-y) hx (by rw[Int.natAbs_neg];exact hy),ajq]
 dsimp only
 rw[abh,ajq]
 rw[show x+ -y=x - y by omega]
end Go.Md
namespace Go.Md
open Go.Dn
def Big (D:Int) (l:List Int):Prop:=∀ d,d∈l→0≤d∧d≤D
theorem Big.get {D d:Int} {l:List Int} {i:Nat} (h:Big D l) (hi:l[i]? =some d):0≤d∧d≤D:=h d (air hi)
theorem Big.set {D E:Int} {l:List Int} (h:Big D l) (hDE:D≤E) {i:Nat} {z:Int} (hz:0≤z∧z≤E):Big E (l.set i z):=fun x hx=>by
 rcases ait hx with hx | rfl
 ·have:=h x hx;omega
 ·exact hz
theorem Big.mono {D E:Int} {l:List Int} (h:Big D l) (hDE:D≤E):Big E l:=fun x hx=>by have:=h x hx;omega
theorem YF {l:List Int} {j:Nat} {y z t:Int} (hj:l[j]? =some y) (hj1:l[j+1]? =some z):v6 (((l.set j t).set (j+1) (z+t / 1000000)).set j (t % 1000000))=v6 l+1000000 ^ j*(t - y):=by
 have hl:=(ahQ.1 hj).1
 have h1:(l.set j t)[j+1]? =some z:=by rw[ahU (by omega)];exact hj1
 have h2:((l.set j t).set (j+1) (z+t / 1000000))[j]? =some t:=by rw[ahU (by omega),ahV hl]
 rw[YG h2,YG h1,YG hj,ag8]
 have e:(1000000:Int) ^ j*1000000*(z+t / 1000000 - z)+1000000 ^ j*(t % 1000000 - t)=0:=by
  rw[agY, ← agX]
  have:1000000*(z+t / 1000000 - z)+(t % 1000000 - t)=0:=by omega
  rw[this,Int.mul_zero]
 omega
theorem abq {α:Type} (l:List α) (j:Nat) (t z u:α):((l.set j t).set (j+1) z).set j u=(l.set j u).set (j+1) z:=by
 rw[aiF _ _ (show j+1≠j by omega),aiH]
theorem Uc (i:Nat) (x:Int) (g1:List Int) (g2 g3:Int) (b:List Int) (nb gb:Bool) (gl:List Int) (ng:Bool) (out:List Int) (D:Int) (hx:0≤x∧x<1000000) (hb:Dg6 b) (hbl:b.length<10000) (hil:i<10000) (ho:i+b.length<out.length) (hol:out.length<100000) (hD:Big D out) (hD0:0≤D) (hD1:D+3000000*b.length≤1000000000000) (n:Nat) (hn:b.length<n):
 ∃ out',iter (X:=yW) (β:=yU) n ((i:Int),x,g1,g2,g3,b,(b.length:Int),0,nb,b,gb,gl,ng,out,()) yS=some (Sum.inr (g1,g2,g3,nb,b,gb,gl,ng,out',()))∧out'.length=out.length∧Big (D+3000000*b.length) out'∧v6 out'=v6 out+1000000 ^ i*(x*v6 b):=by
 refine bf (Inv:=fun k s=>∃ o:List Int,s=((i:Int),x,g1,g2,g3,b,(b.length:Int),(k:Int),nb,b,gb,gl,ng,o,())∧o.length=out.length∧Big (D+3000000*k) o∧v6 o=v6 out+1000000 ^ i*(x*v6 (b.take k))) b.length
  (fun r=>∃ out',r=some (Sum.inr (g1,g2,g3,nb,b,gb,gl,ng,out',()))∧out'.length=out.length∧Big (D+3000000*b.length) out'∧v6 out'=v6 out+1000000 ^ i*(x*v6 b)) ?_ ?_ n 0 _ ⟨out,rfl,rfl,hD.mono (by omega),by simp[M4]⟩ (by omega) (by omega)
 ·rintro k _ again hk ⟨o,rfl,hol',hB,hv⟩ ih
  unfold yS
  dsimp only
  have hy:b[k]? =some b[k]:=aM hk
  have hyd:=hb.get hy
  have hts:=nK hy
  generalize b[k]=y at hy hyd hts
  have e1:w64 ((i:Int)+(k:Int))=((i+k:Nat):Int):=by rw[aq (by omega) (by omega)];omega
  have e2:w64 (((i+k:Nat):Int)+1)=((i+k+1:Nat):Int):=by rw[aq (by omega) (by omega)];omega
  rw[ax (by omega),aV,hy,ajq,e1,e2]
  simp only[ahd]
  have h3:o[i+k]? =some o[i+k]:=aM (by omega)
  have h4:o[i+k+1]? =some o[i+k+1]:=aM (by omega)
  have d3:=hB.get h3
  have d4:=hB.get h4
  generalize o[i+k]'(by omega)=y3 at h3 d3
  generalize o[i+k+1]'(by omega)=y4 at h4 d4
  have hxy:0≤x*y∧x*y≤1000000000000:=by
   constructor
   ·exact ag1 hx.1 hyd.1
   ·have h1:x*y≤1000000*y:=ag0 (by omega) hyd.1
    omega
  have e3:w64 (y3+w64 (x*y))=y3+x*y:=by rw[aq (n:=x*y) (by omega) (by omega),aq (by omega) (by omega)]
  generalize hxy':x*y=xy at*
  have h5:(o.set (i+k) (y3+xy))[i+k+1]? =some y4:=by rw[ahU (by omega)];exact h4
  have h6:(o.set (i+k) (y3+xy))[i+k]? =some (y3+xy):=ahV (by omega)
  have e4:w64 (y4+w64 (Int.tdiv (y3+xy) 1000000))=y4+(y3+xy) / 1000000:=by
   rw[ahb (by omega),aq (n:=(y3+xy) / 1000000) (by omega) (by omega),aq (by omega) (by omega)]
  have h7:((o.set (i+k) (y3+xy)).set (i+k+1) (y4+(y3+xy) / 1000000))[i+k]? =some (y3+xy):=by rw[ahU (by omega)];exact h6
  simp only[h3,ajq,e3]
  simp only[h5,h6,ajq]
  simp only[e4,h7,ajq,ah8]
  rw[aC (by simp only[agE,ajJ];omega),aC (by simp only[agE,ajJ];omega),aC (by simp only[agE,ajJ];omega),aC (by simp only[agE,ajJ];omega),aC (by simp only[agE,ajJ];omega),aC (by simp only[agE,ajJ];omega),aC (by simp only[agE,ajJ];omega)]
  rw[aq (n:=(k:Int)+1) (by omega) (by omega),ahc (by omega)]
  refine ih _ ⟨_,rfl,by simp only[ah8];exact hol', ?_, ?_⟩
  ·rw[abq]
   exact Big.set (D:=D+3000000*((k+1:Nat):Int)) (Big.set hB (by omega) (by omega)) (agV _) (by omega)
  ·rw[YF h3 h4,hv,hts]
   have e5:x*(v6 (b.take k)+1000000 ^ k*y)=x*v6 (b.take k)+1000000 ^ k*xy:=by rw[agX, ← hxy',Int.mul_left_comm]
   rw[e5,agX,ag6,show y3+xy - y3=xy by omega,agY (1000000 ^ i) (1000000 ^ k) xy]
   omega
 ·rintro _ again ⟨o,rfl,hol',hB,hv⟩
  unfold yS
  dsimp only
  rw[av (by omega)]
  rw[aiP (ai0 _)] at hv
  exact⟨o,rfl,hol',hB,hv⟩
theorem Ud (a b:List Int) (ha:Dg6 a) (hb:Dg6 b) (hal:a.length<100) (hbl:b.length<1000) (nb gb:Bool) (gl:List Int) (ng:Bool) (out:List Int) (ho:a.length+b.length<out.length) (hol:out.length<100000) (hz:Big 0 out) (hv0:v6 out=0) (n:Nat) (hn:a.length<n):
 ∃ out',iter (X:=yV) (β:=yT) n (a,(a.length:Int),0,nb,b,gb,gl,ng,out,()) yR=some (Sum.inr (gb,gl,ng,out',()))∧out'.length=out.length∧Big 1000000000000 out'∧v6 out'=v6 a*v6 b:=by
 refine bf (Inv:=fun i s=>∃ o:List Int,s=(a,(a.length:Int),(i:Int),nb,b,gb,gl,ng,o,())∧o.length=out.length∧Big (3000000*b.length*i) o∧v6 o=v6 (a.take i)*v6 b) a.length
  (fun r=>∃ out',r=some (Sum.inr (gb,gl,ng,out',()))∧out'.length=out.length∧Big 1000000000000 out'∧v6 out'=v6 a*v6 b) ?_ ?_ n 0 _ ⟨out,rfl,rfl,hz.mono (by omega),by simp[M4,hv0]⟩ (by omega) (by omega)
 ·rintro i _ again hi ⟨o,rfl,hl,hB,hv⟩ ih
  unfold yR
  dsimp only
  have hy:a[i]? =some a[i]:=aM hi
  have hyd:=ha.get hy
  have hts:=nK hy
  generalize a[i]=y at hy hyd hts
  rw[ax (by omega),aV,hy,ajq]
  have hbnd:3000000*(b.length:Int)*(i:Int)≤3000000*(b.length:Int)*99:=agZ (by omega) (by omega)
  have hnn:0≤3000000*(b.length:Int)*(i:Int):=ag1 (by omega) (by omega)
  obtain⟨o',h1,h2,h3,h4⟩:=Uc i y a (a.length:Int) (i:Int) b nb gb gl ng o (3000000*(b.length:Int)*(i:Int)) hyd hb (by omega) (by omega) (by omega) (by omega) hB hnn (by omega) (Int.natAbs (i:Int)+(Int.natAbs y+(List.length a+(Int.natAbs (a.length:Int)+(Int.natAbs (i:Int)+(List.length b+(Int.natAbs ((List.length b:Int))+(Int.natAbs (0:Int)+(List.length b+(List.length gl+(List.length o+2))))))))))) (by omega)
  rw[h1,aB]
  dsimp only
  rw[aq (by omega) (by omega)]
  refine ih _ ⟨o',rfl,by omega, ?_, ?_⟩
  ·have e:3000000*(b.length:Int)*(i:Int)+3000000*(b.length:Int)=3000000*(b.length:Int)*((i+1:Nat):Int):=by
    rw[show ((i+1:Nat):Int)=(i:Int)+1 by omega,agX,ag2]
   rw[← e];exact h3
  ·rw[h4,hv,hts,Int.add_mul,agY]
 ·rintro _ again ⟨o,rfl,hl,hB,hv⟩
  unfold yR
  dsimp only
  rw[av (by omega)]
  rw[aiP (ai0 _)] at hv
  have hbnd:3000000*(b.length:Int)*(a.length:Int)≤3000000*(b.length:Int)*99:=agZ (by omega) (by omega)
  exact⟨o,rfl,hl,hB.mono (by omega),hv⟩
theorem V8 (l:List Int) (nb g:Bool) (gl:List Int) (M:Nat) (hM:M+1=l.length) (hl:l.length<10000) (hB:Big 1000000000000 l) (n:Nat) (hn:M<n):
 ∃ l',iter (X:=xm) (β:=xk) n ((M:Int),0,g,gl,nb,l,()) xh=some (Sum.inr (g,gl,nb,l',()))∧l'.length=l.length∧Dg6 (l'.take M)∧(∀ d,l'[M]? =some d→0≤d)∧v6 l'=v6 l:=by
 refine bf (Inv:=fun i s=>∃ o:List Int,s=((M:Int),(i:Int),g,gl,nb,o,())∧o.length=l.length∧Big (1000000000000+2000000*i) o∧Dg6 (o.take i)∧v6 o=v6 l) M
  (fun r=>∃ l',r=some (Sum.inr (g,gl,nb,l',()))∧l'.length=l.length∧Dg6 (l'.take M)∧(∀ d,l'[M]? =some d→0≤d)∧v6 l'=v6 l) ?_ ?_ n 0 _ ⟨l,rfl,rfl,hB.mono (by omega),by simpa using Dig.nil,rfl⟩ (by omega) (by omega)
 ·rintro i _ again hi ⟨o,rfl,hol,hBo,hd,hv⟩ ih
  unfold xh
  dsimp only
  have e2:w64 ((i:Int)+1)=((i+1:Nat):Int):=by rw[aq (by omega) (by omega)];omega
  have h3:o[i]? =some o[i]:=aM (by omega)
  have h4:o[i+1]? =some o[i+1]:=aM (by omega)
  have d3:=hBo.get h3
  have d4:=hBo.get h4
  generalize o[i]'(by omega)=y3 at h3 d3
  generalize o[i+1]'(by omega)=y4 at h4 d4
  rw[ax (by omega),e2]
  simp only[ahd,h3,h4,ajq,ah8]
  have e4:w64 (y4+w64 (Int.tdiv y3 1000000))=y4+y3 / 1000000:=by
   rw[ahb (by omega),aq (n:=y3 / 1000000) (by omega) (by omega),aq (by omega) (by omega)]
  have h7:(o.set (i+1) (y4+y3 / 1000000))[i]? =some y3:=by rw[ahU (by omega)];exact h3
  simp only[e4,h7,ajq]
  rw[aC (by simp only[agE,ajJ];omega),aC (by simp only[agE,ajJ];omega),aC (by simp only[agE,ajJ];omega),aC (by simp only[agE,ajJ];omega),aC (by simp only[agE,ajJ];omega),ahc (by omega)]
  have hself:o.set i y3=o:=by
   apply ahy
   intro j
   by_cases hj:i=j
   ·subst hj;rw[ahV (by omega),h3]
   ·rw[ahU hj]
  refine ih _ ⟨_,rfl,by simp only[ah8];exact hol, ?_, ?_, ?_⟩
  ·exact Big.set (D:=1000000000000+2000000*((i+1:Nat):Int)) (Big.set hBo (by omega) (by omega)) (agV _) (by omega)
  ·have hg:((o.set (i+1) (y4+y3 / 1000000)).set i (y3 % 1000000))[i]? =some (y3 % 1000000):=ahV (by rw[ah8];omega)
   rw[mD hg]
   refine Dig.snoc ?_ (by omega)
   rw[List.take_set_of_le (by omega),List.take_set_of_le (by omega)]
   exact hd
  ·have:=YF h3 h4 (t:=y3)
   rw[hself] at this
   rw[this,hv];simp
 ·rintro _ again ⟨o,rfl,hol,hBo,hd,hv⟩
  unfold xh
  dsimp only
  rw[av (by omega)]
  exact⟨o,rfl,hol,hd,fun d hd'=>(hBo.get hd').1,hv⟩
theorem tT (x y:Int) (hx:(dg6 x.natAbs).length<100) (hy:(dg6 y.natAbs).length<1000):pP (N x) (N y)=some (N (x*y),()):=by
 unfold pP N
 dsimp only
 have e1:w64 (w64 (((dg6 x.natAbs).length:Int)+((dg6 y.natAbs).length:Int))+1)=(((dg6 x.natAbs).length+(dg6 y.natAbs).length+1:Nat):Int):=by
  rw[aq (n:=((dg6 x.natAbs).length:Int)+((dg6 y.natAbs).length:Int)) (by omega) (by omega),aq (by omega) (by omega)];omega
 rw[e1,ahd,aC (by simp only[agE,ajJ];omega)]
 generalize hL:(dg6 x.natAbs).length+(dg6 y.natAbs).length+1=L at*
 have hz:Big 0 (List.replicate L 0):=fun d hd=>by rw[List.mem_replicate] at hd;omega
 have hv0:v6 (List.replicate L 0)=0:=by
  generalize L=k
  induction k with
  | zero=>rfl
  | succ k ih=>rw[aiD,Uo,ih];rfl
 obtain⟨o,h1,h2,h3,h4⟩:=Ud (dg6 x.natAbs) (dg6 y.natAbs) (ud _) (ud _) hx hy (decide (y<0)) false [] (!(decide (x<0)==decide (y<0))) (List.replicate L 0) (by rw[ah7];omega) (by rw[ah7];omega) hz hv0 (List.length (dg6 x.natAbs)+(Int.natAbs ((List.length (dg6 x.natAbs):Int))+(Int.natAbs (0:Int)+(List.length (dg6 y.natAbs)+(List.length ([]:List Int)+(List.length ((List.replicate L 0):List Int)+2)))))) (by omega)
 rw[h1,aB]
 dsimp only
 rw[ah7] at h2
 have e2:w64 ((o.length:Int) - 1)=(((L - 1:Nat)):Int):=by rw[aq (by omega) (by omega)];omega
 rw[e2]
 obtain⟨o',g1,g2,g3,g4,g5⟩:=V8 o (!(decide (x<0)==decide (y<0))) false [] (L - 1) (by omega) (by omega) h3 (Int.natAbs ((((L - 1:Nat)):Int))+(Int.natAbs (0:Int)+(List.length ([]:List Int)+(List.length o+2)))) (by omega)
 rw[g1,aB]
 dsimp only
 have hm:v6 o'=(x.natAbs:Int)*(y.natAbs:Int):=by rw[g5,h4,BA,BA]
 have hlast:o'[L - 1]? =some (o'[L - 1]'(by omega)):=aM (by omega)
 have hsplit:v6 o'=v6 (o'.take (L - 1))+1000000 ^ (L - 1)*(o'[L - 1]'(by omega)):=by
  rw[← nK hlast,aiP (by omega)]
 have hlt:v6 o'<1000000 ^ (L - 1):=by
  rw[hm]
  have a1:=Km (ud x.natAbs)
  have a2:=Km (ud y.natAbs)
  rw[BA] at a1 a2
  rw[show L - 1=(dg6 x.natAbs).length+(dg6 y.natAbs).length by omega,ag6]
  have b1:(x.natAbs:Int)*(y.natAbs:Int)≤(x.natAbs:Int)*1000000 ^ (dg6 y.natAbs).length:=agZ (by omega) (by omega)
  have b2:(x.natAbs:Int)*1000000 ^ (dg6 y.natAbs).length<1000000 ^ (dg6 x.natAbs).length*1000000 ^ (dg6 y.natAbs).length:=Int.mul_lt_mul_of_pos_right a1 (by omega)
  omega
 have hl0:=g4 _ hlast
 generalize o'[L - 1]'(by omega)=dl at hlast hsplit hl0
 have hdl:dl=0:=by
  have h5:=rZ g3
  rcases (show dl=0∨1≤dl by omega) with h | h
  ·exact h
  ·have hp:(0:Int)<1000000 ^ (L - 1):=P8 (by omega) _
   have:(1000000:Int) ^ (L - 1)*1≤1000000 ^ (L - 1)*dl:=agZ h (by omega)
   omega
 have hdig:Dg6 o':=by
  have e:o'=o'.take (L - 1)++[dl]:=by
   rw[← mD hlast,aiP (by omega)]
  rw[e];exact g3.snoc (by omega)
 rw[Uf _ _ hdig (by omega),ajq,hm]
 show some (N _,())=some (N (x*y),())
 congr 3
 by_cases hxn:x<0<;>by_cases hyn:y<0
 ·simp only[hxn,hyn,ajL,ajB,agP,agI,ajO]
  rw[show (x.natAbs:Int)= -x by omega,show (y.natAbs:Int)= -y by omega,Int.neg_mul_neg]
 ·simp only[hxn,hyn,ajL,ajK,ajR,show (!(true==false))=true from rfl]
  rw[show (x.natAbs:Int)= -x by omega,show (y.natAbs:Int)=y by omega,Int.neg_mul,Int.neg_neg]
 ·simp only[hxn,hyn,ajL,ajK,ajR,show (!(false==true))=true from rfl]
  rw[show (x.natAbs:Int)=x by omega,show (y.natAbs:Int)= -y by omega,Int.mul_neg,Int.neg_neg]
 ·simp only[hxn,hyn,ajK,ajB,agP,agI,ajO]
  rw[show (x.natAbs:Int)=x by omega,show (y.natAbs:Int)=y by omega]
end Go.Md
