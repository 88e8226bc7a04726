/-
  Plain facts: loops, digits, whole numbers. No condition.
-/
import Derived.Test.YtnamfglkolhhgacGreatDoorYm
set_option linter.all false
namespace Go.Md
open Go.Dn
theorem cN {X β:Type} {f:X→(X→Option β)→Option β} (Inv:Nat→X→Prop) (N:Nat) (Q:Option β→Prop)
 (step:∀ i x again,i<N→Inv i x→(∀ y,Inv (i+1) y→Q (again y))→Q (f x again)) (fin:∀ x again,Inv N x→Q (f x again)):∀ n i x,Inv i x→i≤N→N - i<n→Q (iter n x f)
 | 0,_,_,_,_,hn=>absurd hn (Vd _)
 | n+1,i,x,hx,hi,hn=>by
  show Q (f x _)
  by_cases h:i=N
  ·subst h;exact fin x _ hx
  ·exact step i x _ (by omega) hx fun y hy=>cN Inv N Q step fin n (i+1) y hy (by omega) (by omega)
theorem vz {X β:Type} {f:X→(X→Option β)→Option β} (Inv:X→Prop) (μ:X→Nat) (Q:X→Option β→Prop)
 (step:∀ x again,Inv x→(∀ y,Inv y→μ y<μ x→Q y (again y))→Q x (f x again)):∀ n x,Inv x→μ x<n→Q x (iter n x f)
 | 0,_,_,hn=>absurd hn (Vd _)
 | n+1,x,hx,hn=>step x _ hx fun y hy h=>vz Inv μ Q step n y hy (by omega)
theorem O6:maxLen=9223372036854775807:=rfl
theorem bz {β:Type} {b:Bool} (h:b=true) (x:Option β):chk b x=x:=by rw[h];rfl
theorem tT {n k:Nat} (h:n*k≤140737488355328) (h2:n≤9223372036854775807):(decide (n*k≤140737488355328)&&decide (n≤maxLen))=true:=by
 simp only[SX,VB];rw[O6];omega
theorem aO {α:Type} {p:Prop} [Decidable p] (h:p) (x y:α):(bif decide p then x else y)=x:=by rw[VA h];rfl
theorem aX {α:Type} {p:Prop} [Decidable p] (h:¬p) (x y:α):(bif decide p then x else y)=y:=by rw[Vy h];rfl
theorem oU {β γ:Type} (r:β) (f:γ→Option β):bu (some (Sum.inl r)) f=some r:=rfl
theorem aZ {β γ:Type} (v:γ) (f:γ→Option β):bu (β:=β) (some (Sum.inr v)) f=f v:=rfl
theorem aI {α:Type} {l:List α} {i:Nat} (h:i<l.length):l[i]? =some (l[i]'h):=TS h
theorem Mf {k:IntKind} {n:Int} (h1:k.min≤n) (h2:n≤k.max):k.wrap n=n:=by
 cases k<;>simp[IntKind.wrap,IntKind.min,IntKind.max,IntKind.bits,IntKind.signed] at* <;>(try split)<;>omega
theorem aR {n:Int} (h1: -9223372036854775808≤n) (h2:n≤9223372036854775807):w64 n=n:=Mf h1 h2
theorem cK {n:Int} (h1:0≤n) (h2:n≤18446744073709551615):bK n=n:=Mf h1 h2
theorem uP {n:Int} (h1:0≤n) (h2:n≤4294967295):jf n=n:=Mf h1 h2
theorem yD (n:Int):bK n=n % 18446744073709551616:=by simp[bK,IntKind.wrap,IntKind.bits,IntKind.signed]
theorem uR (n:Int):jf n=n % 4294967296:=by simp[jf,IntKind.wrap,IntKind.bits,IntKind.signed]
theorem bL {α:Type} (l:List α) (i:Nat):idx l (i:Int)=l[i]? :=by simp[idx]
end Go.Md
namespace Go.Md
open Go.Dn
def val (B:Int):List Int→Int
 | []=>0
 | d::r=>d+B*val B r
def Dig (B:Int) (l:List Int):Prop:=∀ d,d∈l→0≤d∧d<B
theorem Dig.nil {B:Int}:Dig B []:=fun _ h=>by cases h
theorem Dig.cons {B d:Int} {l:List Int} (h:0≤d∧d<B) (hl:Dig B l):Dig B (d::l):=fun x hx=>by
 rcases Uk.1 hx with rfl | hx
 ·exact h
 ·exact hl x hx
theorem Dig.head {B d:Int} {l:List Int} (h:Dig B (d::l)):0≤d∧d<B:=h d (by simp)
theorem Dig.tail {B d:Int} {l:List Int} (h:Dig B (d::l)):Dig B l:=fun x hx=>h x (by simp[hx])
theorem Dig.append {B:Int} {l m:List Int} (h:Dig B l) (k:Dig B m):Dig B (l++m):=fun x hx=>by
 rcases Uh.1 hx with hx | hx
 ·exact h x hx
 ·exact k x hx
theorem Dig.snoc {B d:Int} {l:List Int} (h:Dig B l) (hd:0≤d∧d<B):Dig B (l++[d]):=h.append (Dig.cons hd Dig.nil)
theorem Dig.take {B:Int} {l:List Int} (h:Dig B l) (n:Nat):Dig B (l.take n):=fun x hx=>h x (Us hx)
theorem Dig.drop {B:Int} {l:List Int} (h:Dig B l) (n:Nat):Dig B (l.drop n):=fun x hx=>h x (Ur hx)
theorem Dig.get {B d:Int} {l:List Int} {i:Nat} (h:Dig B l) (hi:l[i]? =some d):0≤d∧d<B:=h d (Uq hi)
theorem Dig.left {B:Int} {l m:List Int} (h:Dig B (l++m)):Dig B l:=fun x hx=>h x (Ui _ hx)
theorem Dig.right {B:Int} {l m:List Int} (h:Dig B (l++m)):Dig B m:=fun x hx=>h x (Uj _ hx)
theorem BG {B:Int} (hB:0<B):∀ {l:List Int},Dig B l→0≤val B l
 | [],_=>Ti _
 | d::r,h=>by
  have h1:=h.head;have h2:=BG hB h.tail
  have:0≤B*val B r:=Tm (by omega) h2
  simp only[val];omega
theorem PI {B:Int} (hB:0<B):∀ {l:List Int},Dig B l→val B l<B ^ l.length
 | [],_=>by simp[val]
 | d::r,h=>by
  have h1:=h.head;have h2:=PI hB h.tail
  have h3:B*(val B r+1)≤B*B ^ r.length:=Tl h2 (by omega)
  rw[Tj,Int.mul_one] at h3
  simp only[val,T8]
  rw[Tn,Int.mul_comm (B ^ r.length) B]
  omega
theorem BF {B:Int}:∀ (l m:List Int),val B (l++m)=val B l+B ^ l.length*val B m
 | [],m=>by simp[val]
 | d::r,m=>by
  simp only[Tx,val,BF r m,T8,Tn]
  rw[Tj,Int.add_assoc]
  congr 2
  rw[Int.mul_comm (B ^ r.length) B,Tk]
theorem Qt {B:Int} (l:List Int) (d:Int):val B (l++[d])=val B l+B ^ l.length*d:=by
 rw[BF];simp[val]
theorem L0 {B:Int} (hB:0<B):∀ n:Nat,0<B ^ n
 | 0=>by simp
 | n+1=>by rw[Tn];exact Int.mul_pos (L0 hB n) hB
def dgF (B:Nat):Nat→Nat→List Int
 | 0,_=>[]
 | f+1,n=>if n=0 then [] else ((n % B:Nat):Int)::dgF B f (n / B)
def dg (B n:Nat):List Int:=dgF B n n
theorem OF {B:Nat} (hB:2≤B):∀ (f g n:Nat),n≤f→n≤g→dgF B f n=dgF B g n
 | 0,0,_,_,_=>rfl
 | 0,g+1,n,h,_=>by have:n=0:=by omega
                   subst this;simp[dgF]
 | f+1,0,n,_,h=>by have:n=0:=by omega
                   subst this;simp[dgF]
 | f+1,g+1,n,hf,hg=>by
  by_cases hn:n=0
  ·subst hn;simp[dgF]
  ·have:n / B<n:=UU (by omega) (by omega)
   simp only[dgF,hn,VF]
   rw[OF hB f g (n / B) (by omega) (by omega)]
theorem xh (B:Nat):dg B 0=[]:=rfl
theorem xM {B:Nat} (hB:2≤B) {n:Nat} (hn:0<n):dg B n=((n % B:Nat):Int)::dg B (n / B):=by
 have:n / B<n:=UU hn (by omega)
 obtain⟨m,rfl⟩:∃ m,n=m+1:=⟨n - 1,by omega⟩
 unfold dg
 rw[dgF,VG (by omega),OF hB m ((m+1) / B) _ (by omega) (U0 _)]
theorem Rx {B:Nat} (hB:2≤B):∀ n,Dig B (dg B n):=by
 intro n
 induction n using Nat.strongRecOn with
 | _ n ih=>
  by_cases hn:n=0
  ·subst hn;exact Dig.nil
  ·rw[xM hB (by omega)]
   exact Dig.cons ⟨by omega,by have:=Nat.mod_lt n (show 0<B by omega);omega⟩ (ih _ (UU (by omega) (by omega)))
theorem R2 {B:Nat} (hB:2≤B):∀ n,val B (dg B n)=n:=by
 intro n
 induction n using Nat.strongRecOn with
 | _ n ih=>
  by_cases hn:n=0
  ·subst hn;rfl
  ·rw[xM hB (by omega),val,ih _ (UU (by omega) (by omega))]
   have:=Nat.mod_add_div n B
   omega
theorem C4 {B:Nat} (hB:2≤B) {n:Nat} (hn:0<n):dg B n≠[]:=by rw[xM hB hn];simp
theorem OG {B:Nat} (hB:2≤B) {n:Nat}:dg B n=[]↔n=0:=by
 constructor
 ·intro h
  rcases UX n with h0 | h0
  ·exact h0
  ·exact absurd h (C4 hB h0)
 ·rintro rfl;rfl
theorem AX {B:Nat} (hB:2≤B) {d n:Nat} (hd:d<B) (h:0<d+B*n):dg B (d+B*n)=(d:Int)::dg B n:=by
 rw[xM hB h]
 have h1:(d+B*n) % B=d:=by rw[Nat.add_mul_mod_self_left,Va hd]
 have h2:(d+B*n) / B=n:=by rw[Nat.add_mul_div_left _ _ (by omega),UT hd];omega
 rw[h1,h2]
def trim:List Int→List Int
 | []=>[]
 | d::r=>match trim r with
  | []=>if d=0 then [] else [d]
  | t=>d::t
theorem Ns {B:Nat} (hB:2≤B):∀ {l:List Int},Dig B l→trim l=dg B (val B l).toNat
 | [],_=>rfl
 | d::r,h=>by
  have hr:=Ns hB h.tail
  have h1:=h.head
  have hB0:(0:Int)<B:=by omega
  have h2:=BG hB0 h.tail
  obtain⟨k,rfl⟩:∃ k:Nat,d=k:=⟨d.toNat,by omega⟩
  obtain⟨n,hn⟩:∃ n:Nat,val B r=n:=⟨(val B r).toNat,by omega⟩
  have hv:(val B ((k:Int)::r)).toNat=k+B*n:=by
   simp only[val,hn]
   rw[show ((B:Int)*(n:Int))=((B*n:Nat):Int) by simp]
   omega
  rw[hv]
  rw[hn] at hr
  simp only[To] at hr
  unfold trim
  rw[hr]
  rcases UX n with h0 | h0
  ·subst h0
   simp only[xh,Nat.mul_zero,US]
   by_cases hk:k=0
   ·subst hk;simp[xh]
   ·have:=AX hB (d:=k) (n:=0) (by omega) (by omega)
    simp only[Nat.mul_zero,US,xh] at this
    rw[this];simp[hk]
  ·have hpos:0<k+B*n:=by have:=Nat.mul_pos (show 0<B by omega) h0;omega
   rw[AX hB (by omega) hpos]
   cases hd:dg B n with
   | nil=>exact absurd hd (C4 hB h0)
   | cons a t=>rfl
theorem AF:∀ l:List Int,trim (l++[0])=trim l
 | []=>rfl
 | d::r=>by simp only[Tx,trim,AF r]
theorem DH {d:Int} (hd:d≠0):∀ l:List Int,trim (l++[d])=l++[d]
 | []=>by simp[trim,hd]
 | e::r=>by
  simp only[Tx,trim,DH hd r]
  cases h:r++[d] with
  | nil=>simp at h
  | cons a t=>rfl
theorem Ld {B:Nat} (hB:2≤B):∀ (k n:Nat),n<B ^ k→(dg B n).length≤k
 | 0,n,h=>by have:n=0:=by simpa using h
             subst this;simp[xh]
 | k+1,n,h=>by
  by_cases hn:n=0
  ·subst hn;simp[xh]
  ·rw[xM hB (by omega),T8]
   have:=Ld hB k (n / B) (by rw[Vh] at h;exact Nat.div_lt_of_lt_mul (by rw[Vb];exact h))
   omega
theorem OH {B:Nat} (hB:2≤B) {m n:Nat} (h:(dg B m).length<(dg B n).length):m<n:=by
 rcases U5 m n with h1 | h1
 ·exact h1
 ·exfalso
  have h2:∀ a b:Nat,b≤a→(dg B b).length≤(dg B a).length:=by
   intro a
   induction a using Nat.strongRecOn with
   | _ a ih=>
    intro b hb
    by_cases h0:b=0
    ·subst h0;simp[xh]
    ·rw[xM hB (by omega),xM hB (show 0<a by omega),T8,T8]
     have:=ih (a / B) (UU (by omega) (by omega)) (b / B) (Nat.div_le_div_right hb)
     omega
  have:=h2 m n h1
  omega
end Go.Md
namespace Go.Md
open Go.Dn
def v32 (l:List Int):Int:=val 4294967296 l
theorem uI:v32 []=0:=rfl
theorem yA (d:Int) (l:List Int):v32 (d::l)=d+4294967296*v32 l:=rfl
theorem BD (l m:List Int):v32 (l++m)=v32 l+4294967296 ^ l.length*v32 m:=BF l m
theorem BE (l:List Int) (d:Int):v32 (l++[d])=v32 l+4294967296 ^ l.length*d:=Qt l d
abbrev Dg (l:List Int):Prop:=Dig 4294967296 l
def aV (n:Nat):List Int:=dg 4294967296 n
theorem C3:aV 0=[]:=rfl
theorem ER {n:Nat}:aV n=[]↔n=0:=OG (B:=4294967296) (by omega)
theorem ES {n:Nat} (h:0<n):aV n≠[]:=C4 (B:=4294967296) (by omega) h
theorem jK {m n:Nat} (h:(aV m).length<(aV n).length):m<n:=OH (B:=4294967296) (by omega) h
theorem cV (n:Nat):Dg (aV n):=Rx (B:=4294967296) (by omega) n
theorem cT (n:Nat):v32 (aV n)=n:=R2 (B:=4294967296) (by omega) n
theorem Ma {l:List Int} (h:Dg l):trim l=aV (v32 l).toNat:=Ns (B:=4294967296) (by omega) h
theorem tq {l:List Int} (h:Dg l):0≤v32 l:=BG (by omega) h
theorem AH {l:List Int} (h:Dg l):v32 l<4294967296 ^ l.length:=PI (by omega) h
theorem mW {k n:Nat} (h:n<4294967296 ^ k):(aV n).length≤k:=Ld (B:=4294967296) (by omega) k n h
theorem rZ (l:List Int) (hl:l.length<1000000):kW l=some (trim l,()):=by
 have key:∀ n (x:kj),x.1.length<1000000→x.1.length<n→iter n x rY=some (Sum.inr (trim x.1,())):=by
  refine vz (fun x:kj=>x.1.length<1000000) (fun x=>x.1.length) (fun x r=>r=some (Sum.inr (trim x.1,()))) ?_
  rintro⟨x,u⟩ again hx ih
  simp only at hx ih ⊢
  unfold rY
  simp only
  by_cases h0:x.length=0
  ·have:x=[]:=TI h0
   subst this;simp[trim]
  ·have e1:w64 ((x.length:Int) - 1)=((x.length - 1:Nat):Int):=by rw[aR (by omega) (by omega)];omega
   have hsp:x=x.take (x.length - 1)++[x[x.length - 1]'(by omega)]:=by
    have:=UK (x.length - 1) x
    rw[TC (by omega),TE (by omega)] at this
    exact this.symm
   rw[aO (by omega),e1,bL,aI (by omega)]
   simp only[To,TG,Vl]
   by_cases hz:x[x.length - 1]'(by omega)=0
   ·rw[hz] at hsp ⊢
    rw[bz (by simp only[SX,VB];omega)]
    simp only[Vu,Vx]
    rw[ih (List.take (x.length - 1) x,()) (by simp only[Ud];omega) (by simp only[Ud];omega)]
    conv=>rhs;rw[hsp,AF]
   ·have:(x[x.length - 1]'(by omega)==0)=false:=by simp[hz]
    rw[this]
    simp only[Vw]
    conv=>rhs;rw[hsp,DH hz]
    rw[← hsp]
 unfold kW
 rw[key _ _ (by simpa using hl) (by simp)]
 rfl
def W (z:Int):au:=(decide (z<0),aV z.natAbs)
theorem gR (b:Bool) (l:List Int) (hd:Dg l) (hl:l.length<1000000):fO b l=some (W (if b then -v32 l else v32 l),()):=by
 unfold fO
 rw[rZ l hl,Ma hd]
 have h0:=tq hd
 simp only[Vl]
 cases b with
 | false=>simp only[Vw,W];rw[show (decide ((if false=true then -v32 l else v32 l)<0))=false by simp;omega];congr 4;simp;omega
 | true=>
  simp only[Vx,W]
  congr 3
  ·by_cases hv:v32 l=0
   ·simp[hv,C3]
   ·have hpos:0<v32 l:=by omega
    have:aV (v32 l).toNat≠[]:=ES (by omega)
    have hlen:0<(aV (v32 l).toNat).length:=by
     cases h:aV (v32 l).toNat with
     | nil=>exact absurd h this
     | cons a t=>simp
    simp;omega
  ·congr 1;simp;omega
theorem qT (n:Int) (h1: -9223372036854775808≤n) (h2:n≤9223372036854775807):nE n=some (W n,()):=by
 unfold nE
 have key:∀ u:Int,0≤u→u≤9223372036854775808→fO (decide (n<0)) [jf u,jf (Int.fdiv u (2 ^ 32))]=some (W (if decide (n<0) then -u else u),()):=by
  intro u hu0 hu1
  have e:Int.fdiv u (2 ^ 32)=u / 4294967296:=by rw[Th _ (by omega)];rfl
  rw[e,uR,uR]
  have hd:Dg [u % 4294967296,u / 4294967296 % 4294967296]:=Dig.cons (by omega) (Dig.cons (by omega) Dig.nil)
  rw[gR _ _ hd (by simp)]
  have hv:v32 [u % 4294967296,u / 4294967296 % 4294967296]=u:=by simp only[yA,uI];omega
  rw[hv]
 by_cases hn:n<0
 ·have e1:bK (0 - bK n)= -n:=by rw[yD,yD];omega
  rw[show decide (n<0)=true by simpa using hn] at key ⊢
  simp only[Vx,bu]
  rw[e1]
  rw[show decide (n<0)=true by simpa using hn]
  rw[key (-n) (by omega) (by omega)]
  simp
 ·have e1:bK n=n:=cK (by omega) (by omega)
  rw[show decide (n<0)=false by simpa using hn] at key ⊢
  simp only[Vw,bu]
  rw[e1]
  rw[show decide (n<0)=false by simpa using hn]
  rw[key n (by omega) (by omega)]
  simp
theorem wN (z:Int):jP (W z)=some (z.sign,()):=by
 unfold jP W
 by_cases h:z<0
 ·simp[h,Int.sign_eq_neg_one_of_neg h]
 ·by_cases h0:z=0
  ·subst h0;simp[C3]
  ·have hp:0<z:=by omega
   have:aV z.natAbs≠[]:=ES (by omega)
   have hlen:((aV z.natAbs).length:Int)≠0:=by
    intro h;exact this (TI (by omega))
   have hb:(((aV z.natAbs).length:Int)==0)=false:=by simpa using hlen
   simp only[h,decide_false,Vw,hb,Int.sign_eq_one_of_pos hp]
theorem R5 {z:Int} {k:Nat} (h:z.natAbs<4294967296 ^ k):(W z).2.length≤k:=mW h
theorem DJ (z:Int) (h:z.natAbs<4294967296 ^ 99):oJ (W z)=some (W (-z),()):=by
 unfold oJ
 have hl:=R5 h
 rw[gR _ (W z).2 (cV _) (by omega)]
 simp only[Vl]
 congr 3
 simp only[W,cT]
 by_cases hz:z<0
 ·simp[hz];omega
 ·simp[hz];omega
theorem wG {α:Type} {l:List α} {i:Nat} {y:α} (h:l[i]? =some y):l.take (i+1)=l.take i++[y]:=by
 rw[List.take_add_one,h];rfl
theorem fN {l:List Int} {i:Nat} {y:Int} (h:l[i]? =some y):v32 (l.take (i+1))=v32 (l.take i)+4294967296 ^ i*y:=by
 have hi:=(TU.1 h).1
 rw[wG h,BE,Ud,U9 (by omega)]
theorem BX {l:List Int} {i:Nat} (h:l.length≤i):v32 (l.take (i+1))=v32 (l.take i):=by
 rw[UN h,UN (by omega)]
theorem Li {u:Int}:Int.fdiv u (2 ^ 32)=u / 4294967296:=by rw[Th _ (by omega)];rfl
theorem Jb (a b:List Int) (ha:Dg a) (hb:Dg b) (hla:a.length<100000) (hlb:b.length≤a.length) (n:Nat) (hn:a.length<n):
 ∃ out c,iter (X:=pQ) (β:=pP) n (b,[],0,a,(a.length:Int),0,()) pO=some (Sum.inr (out,c,()))∧Dg out∧0≤c∧c≤1∧out.length=a.length∧v32 out+4294967296 ^ a.length*c=v32 a+v32 b:=by
 refine cN (Inv:=fun i x=>∃ out c,x=(b,out,c,a,(a.length:Int),(i:Int),())∧Dg out∧0≤c∧c≤1∧out.length=i∧v32 out+4294967296 ^ i*c=v32 (a.take i)+v32 (b.take i)) a.length
  (fun r=>∃ out c,r=some (Sum.inr (out,c,()))∧Dg out∧0≤c∧c≤1∧out.length=a.length∧v32 out+4294967296 ^ a.length*c=v32 a+v32 b) ?_ ?_ n 0 _ ⟨[],0,rfl,Dig.nil,by omega,by omega,rfl,by simp[uI]⟩ (by omega) (by omega)
 ·rintro i _ again hi ⟨out,c,rfl,hd,hc0,hc1,hlen,hv⟩ ih
  unfold pO
  simp only
  have hy:a[i]? =some a[i]:=aI hi
  have hyd:=ha.get hy
  generalize a[i]=y at hy hyd
  rw[aO (by omega),bL,hy,Vl]
  have step:∀ z:Int,0≤z→z<4294967296→v32 (b.take (i+1))=v32 (b.take i)+4294967296 ^ i*z→
   ∃ out' c',again (b,out++[jf (bK (bK (c+bK y)+bK z))],Int.fdiv (bK (bK (c+bK y)+bK z)) (2 ^ 32),a,(a.length:Int),w64 ((i:Int)+1),())=some (Sum.inr (out',c',()))∧Dg out'∧0≤c'∧c'≤1∧out'.length=a.length∧v32 out'+4294967296 ^ a.length*c'=v32 a+v32 b:=by
   intro z hz0 hz1 hbz
   have e1:bK (bK (c+bK y)+bK z)=c+y+z:=by
    rw[cK (n:=y) (by omega) (by omega),cK (n:=z) (by omega) (by omega),cK (n:=c+y) (by omega) (by omega),cK (by omega) (by omega)]
   rw[e1,uR,Li,aR (by omega) (by omega)]
   refine ih _ ⟨_,_,rfl,hd.snoc (by omega),by omega,by omega,by simp[hlen], ?_⟩
   rw[BE,hlen,fN hy,hbz,Tn]
   have hm:=Int.mul_ediv_add_emod (c+y+z) 4294967296
   have:(4294967296:Int) ^ i*((c+y+z) % 4294967296)+4294967296 ^ i*4294967296*((c+y+z) / 4294967296)=4294967296 ^ i*(c+y+z):=by
    rw[Tk, ← Tj];congr 1;omega
   rw[Tj,Tj] at this
   omega
  by_cases hib:i<b.length
  ·have hz:b[i]? =some b[i]:=aI hib
   rw[aO (by omega),bL,hz,Vl]
   simp only[aZ]
   rw[bz (tT (by omega) (by omega))]
   exact step b[i] (hb.get hz).1 (hb.get hz).2 (fN hz)
  ·rw[aX (by omega)]
   simp only[aZ]
   rw[bz (tT (by omega) (by omega))]
   have:=step 0 (by omega) (by omega) (by rw[BX (by omega)];omega)
   have e0:bK (bK (c+bK y)+bK 0)=bK (c+bK y):=by
    rw[cK (n:=y) (by omega) (by omega),cK (n:=(0:Int)) (by omega) (by omega),cK (n:=c+y) (by omega) (by omega),cK (by omega) (by omega)];omega
   rw[e0] at this
   exact this
 ·rintro _ again ⟨out,c,rfl,hd,hc0,hc1,hlen,hv⟩
  unfold pO
  simp only
  rw[aX (by omega)]
  rw[UN (U0 _),UN hlb] at hv
  exact⟨out,c,rfl,hd,hc0,hc1,hlen,hv⟩
theorem DL (a b:List Int) (ha:Dg a) (hb:Dg b) (hla:a.length<100000) (hlb:b.length<100000):
 ∃ s,vY a b=some (s,())∧Dg s∧v32 s=v32 a+v32 b∧s.length=max a.length b.length+1:=by
 have core:∀ (a b:List Int),Dg a→Dg b→a.length<100000→b.length≤a.length→∃ s,(chk (decide (0≤(0:Int))&&decide ((0:Int)≤(w64 (((List.length a:Int))+1)))&&decide ((4:Int)*(w64 (((List.length a:Int))+1))≤281474976710656)&&decide ((w64 (((List.length a:Int))+1))≤9223372036854775807)) <|
 bu (β:=((List Int)×Unit)) (γ:=((List Int)×Int×Unit)) (
  iter (X:=pQ) (β:=pP) (List.length b+(List.length ([]:List Int)+(Int.natAbs (0:Int)+(List.length a+(Int.natAbs ((List.length a:Int))+(Int.natAbs (0:Int)+2)))))) (b,[],0,a,(List.length a:Int),0,()) (pO)) fun v7=>
 chk (decide (((v7.1.length)+1)*4≤140737488355328)&&decide ((v7.1.length)+1≤maxLen)) <|
 some (v7.1++[(jf v7.2.1)],()))=some (s,())∧Dg s∧v32 s=v32 a+v32 b∧s.length=a.length+1:=by
  intro a b ha hb hla hlb
  obtain⟨out,c,h1,h2,h3,h4,h5,h6⟩:=Jb a b ha hb hla hlb _ (show a.length<List.length b+(List.length ([]:List Int)+(Int.natAbs (0:Int)+(List.length a+(Int.natAbs ((List.length a:Int))+(Int.natAbs (0:Int)+2))))) by omega)
  rw[h1,aZ,aR (by omega) (by omega),bz (by simp only[SX,VB];omega)]
  simp only
  rw[bz (tT (by omega) (by omega))]
  refine⟨_,rfl,h2.snoc ?_, ?_,by simp[h5]⟩
  ·rw[uP (by omega) (by omega)];omega
  ·rw[uP (by omega) (by omega),BE,h5];exact h6
 unfold vY
 by_cases h:a.length<b.length
 ·rw[aO (by omega),aZ]
  obtain⟨s,h1,h2,h3,h4⟩:=core b a hb ha hlb (by omega)
  exact⟨s,h1,h2,by omega,by omega⟩
 ·rw[aX (by omega),aZ]
  obtain⟨s,h1,h2,h3,h4⟩:=core a b ha hb hla (by omega)
  exact⟨s,h1,h2,by omega,by omega⟩
theorem HT (a b:List Int) (ha:Dg a) (hb:Dg b) (hla:a.length<100000) (hlb:b.length≤a.length) (n:Nat) (hn:a.length<n):
 ∃ out c,iter (X:=rB) (β:=rA) n (b,[],0,a,(a.length:Int),0,()) rz=some (Sum.inr (out,()))∧Dg out∧0≤c∧c≤1∧out.length=a.length∧v32 out=v32 a - v32 b+4294967296 ^ a.length*c:=by
 refine cN (Inv:=fun i x=>∃ out c,x=(b,out,c,a,(a.length:Int),(i:Int),())∧Dg out∧0≤c∧c≤1∧out.length=i∧v32 out=v32 (a.take i) - v32 (b.take i)+4294967296 ^ i*c) a.length
  (fun r=>∃ out c,r=some (Sum.inr (out,()))∧Dg out∧0≤c∧c≤1∧out.length=a.length∧v32 out=v32 a - v32 b+4294967296 ^ a.length*c) ?_ ?_ n 0 _ ⟨[],0,rfl,Dig.nil,by omega,by omega,rfl,by simp[uI]⟩ (by omega) (by omega)
 ·rintro i _ again hi ⟨out,c,rfl,hd,hc0,hc1,hlen,hv⟩ ih
  unfold rz
  simp only
  have hy:a[i]? =some a[i]:=aI hi
  have hyd:=ha.get hy
  generalize a[i]=y at hy hyd
  rw[aO (by omega),bL,hy,Vl]
  have step:∀ z:Int,0≤z→z<4294967296→v32 (b.take (i+1))=v32 (b.take i)+4294967296 ^ i*z→∀ t:Int,t=(y - c - z) % 18446744073709551616→
   ∃ out' c',again (b,out++[jf t],bK (((BitVec.ofInt (IntKind.bits .u64) (Int.fdiv t (2 ^ 32)) &&& BitVec.ofInt (IntKind.bits .u64) 1).toNat:Int)),a,(a.length:Int),w64 ((i:Int)+1),())=some (Sum.inr (out',()))∧Dg out'∧0≤c'∧c'≤1∧out'.length=a.length∧v32 out'=v32 a - v32 b+4294967296 ^ a.length*c':=by
   intro z hz0 hz1 hbz t ht
   have e2:bK (((BitVec.ofInt (IntKind.bits .u64) (Int.fdiv t (2 ^ 32)) &&& BitVec.ofInt (IntKind.bits .u64) 1).toNat:Int))=(if y - c - z<0 then 1 else 0):=by
    rw[Li]
    have h1:t / 4294967296=(if y - c - z<0 then 4294967295 else 0):=by split<;>omega
    rw[h1]
    split<;>rfl
   rw[e2,uR,aR (by omega) (by omega)]
   refine ih _ ⟨_,_,rfl,hd.snoc (by omega),by split<;>omega,by split<;>omega,by simp[hlen], ?_⟩
   rw[BE,hlen,fN hy,hbz,Tn,hv]
   have e3:t % 4294967296=y - c - z+4294967296*(if y - c - z<0 then 1 else 0):=by split<;>omega
   rw[e3]
   generalize (if y - c - z<0 then (1:Int) else 0)=q
   generalize (4294967296:Int) ^ i=p
   rw[Tj,Int.mul_sub,Int.mul_sub,Tk]
   omega
  by_cases hib:i<b.length
  ·have hz:b[i]? =some b[i]:=aI hib
   rw[aO (by omega),bL,hz,Vl]
   simp only[aZ]
   rw[bz (tT (by omega) (by omega))]
   have hz':=hb.get hz
   refine step b[i] hz'.1 hz'.2 (fN hz) _ ?_
   rw[cK (n:=y) (by omega) (by omega),cK (n:=b[i]) (by omega) (by omega),yD,yD]
   omega
  ·rw[aX (by omega)]
   simp only[aZ]
   rw[bz (tT (by omega) (by omega))]
   refine step 0 (by omega) (by omega) (by rw[BX (by omega)];omega) _ ?_
   rw[cK (n:=y) (by omega) (by omega),yD]
   omega
 ·rintro _ again ⟨out,c,rfl,hd,hc0,hc1,hlen,hv⟩
  unfold rz
  simp only
  rw[aX (by omega)]
  rw[UN (U0 _),UN hlb] at hv
  exact⟨out,c,rfl,hd,hc0,hc1,hlen,hv⟩
theorem wI (a b:List Int) (ha:Dg a) (hb:Dg b) (hla:a.length<100000) (hlb:b.length≤a.length) (hle:v32 b≤v32 a):qj a b=some (aV (v32 a - v32 b).toNat,()):=by
 unfold qj
 obtain⟨out,c,h1,h2,h3,h4,h5,h6⟩:=HT a b ha hb hla hlb _ (show a.length<List.length b+(List.length ([]:List Int)+(Int.natAbs (0:Int)+(List.length a+(Int.natAbs ((List.length a:Int))+(Int.natAbs (0:Int)+2))))) by omega)
 rw[h1,aZ,bz (by simp only[SX,VB];omega)]
 simp only
 rw[rZ _ (by omega),Ma h2,Vl]
 have h7:=AH h2
 rw[h5] at h7
 have h8:c=0:=by
  rcases (show c=0∨c=1 by omega) with h | h
  ·exact h
  ·subst h;rw[Int.mul_one] at h6;omega
 subst h8
 rw[h6,Int.mul_zero,Int.add_zero]
theorem DK (a b:List Int) (ha:Dg a) (hb:Dg b) (hab:a.length=b.length) (hla:a.length<100000):∀ (n k:Nat),k≤a.length→k<n→
 iter (X:=nG) (β:=nF) n (a,b,(k:Int) - 1,()) ki=if v32 (a.take k)<v32 (b.take k) then some (Sum.inl ((-1),())) else if v32 (b.take k)<v32 (a.take k) then some (Sum.inl (1,())) else some (Sum.inr ()):=by
 intro n
 induction n with
 | zero=>intro k _ h;omega
 | succ n ih=>
  intro k hk hn
  rw[fZ]
  generalize hag:(fun y=>iter n y ki)=again
  unfold ki
  simp only
  cases k with
  | zero=>simp[uI]
  | succ k=>
   rw[aO (by omega),show ((k+1:Nat):Int) - 1=(k:Int) by omega,bL,bL]
   have hx:a[k]? =some a[k]:=aI (by omega)
   have hy:b[k]? =some b[k]:=aI (by omega)
   rw[hx,hy]
   simp only[Vl]
   rw[fN hx,fN hy]
   have h1:=AH (ha.take k)
   have h2:=AH (hb.take k)
   have h3:=tq (ha.take k)
   have h4:=tq (hb.take k)
   rw[Ud,U9 (by omega)] at h1 h2
   generalize a[k]=x
   generalize b[k]=y
   by_cases hxy:x=y
   ·subst hxy
    simp only[Vv,Vw]
    rw[aR (by omega) (by omega), ← hag]
    show iter n (a,b,(k:Int) - 1,()) ki=_
    rw[ih k (by omega) (by omega)]
    congr 1
    ·simp
    ·congr 1;simp
   ·have hne:(x != y)=true:=by simp[hxy]
    rw[hne]
    simp only[Vx]
    by_cases hlt:x<y
    ·rw[aO hlt,VH]
     have:(4294967296:Int) ^ k*(x+1)≤4294967296 ^ k*y:=Tl (by omega) (by omega)
     rw[Tj,Int.mul_one] at this
     omega
    ·rw[aX hlt]
     have:(4294967296:Int) ^ k*(y+1)≤4294967296 ^ k*x:=Tl (by omega) (by omega)
     rw[Tj,Int.mul_one] at this
     rw[VG (by omega),VH (by omega)]
theorem yC (m n:Nat) (hm:(aV m).length<100000) (hn:(aV n).length<100000):∃ c,nR (aV m) (aV n)=some (c,())∧(c<0↔m<n)∧(0<c↔n<m):=by
 unfold nR
 by_cases h:(aV m).length=(aV n).length
 ·have hb:(((aV m).length:Int) != ((aV n).length:Int))=false:=by simp[h]
  rw[hb]
  simp only[Vw]
  by_cases h0:(aV m).length=0
  ·have hm0:m=0:=ER.1 (TI h0)
   have hn0:n=0:=ER.1 (TI (by omega))
   subst hm0;subst hn0
   exact⟨0,rfl,by simp,by simp⟩
  ·have e1:w64 (((aV m).length:Int) - 1)=(((aV m).length:Nat):Int) - 1:=aR (by omega) (by omega)
   rw[e1,DK _ _ (cV m) (cV n) h hm _ _ (U0 _) (by omega),UN (U0 _),UN (by omega),cT,cT]
   by_cases h1:m<n
   ·rw[VH (by omega),oU];exact⟨-1,rfl,by omega,by omega⟩
   ·by_cases h2:n<m
    ·rw[VG (by omega),VH (by omega),oU];exact⟨1,rfl,by omega,by omega⟩
    ·rw[VG (by omega),VG (by omega),aZ];exact⟨0,rfl,by omega,by omega⟩
 ·have hb:(((aV m).length:Int) != ((aV n).length:Int))=true:=by simp;omega
  rw[hb]
  simp only[Vx]
  rw[aR (by omega) (by omega)]
  refine⟨_,rfl, ?_, ?_⟩
  ·constructor
   ·intro h1;exact jK (by omega)
   ·intro h1
    rcases Nat.lt_or_gt_of_ne h with h2 | h2
    ·omega
    ·have:=jK (m:=n) (n:=m) h2;omega
  ·constructor
   ·intro h1;exact jK (by omega)
   ·intro h1
    rcases Nat.lt_or_gt_of_ne h with h2 | h2
    ·have:=jK (m:=m) (n:=n) h2;omega
    ·omega
end Go.Md
namespace Go.Md
open Go.Dn
theorem Ks (w:Nat) {a b:Nat} (ha:a<2 ^ w) (hb:b<2 ^ w):((BitVec.ofInt w (a:Int) ||| BitVec.ofInt w (b:Int)).toNat:Int)=((a ||| b:Nat):Int):=by
 rw[SS,SS,BitVec.toNat_or,SU,SU,Va ha,Va hb]
theorem bv_and (w:Nat) {a b:Nat} (ha:a<2 ^ w) (hb:b<2 ^ w):((BitVec.ofInt w (a:Int) &&& BitVec.ofInt w (b:Int)).toNat:Int)=((a &&& b:Nat):Int):=by
 rw[SS,SS,BitVec.toNat_and,SU,SU,Va ha,Va hb]
theorem LR {a k b:Nat} (hb:b<2 ^ k):(2 ^ k*a) ||| b=2 ^ k*a+b:=(Nat.two_pow_add_eq_or_of_lt hb a).symm
theorem I9 {l:List Int} (h:Dg l) {i:Nat} {y:Int} (hi:l[i]? =some y):y=v32 l / 4294967296 ^ i % 4294967296:=by
 have hlt:=(TU.1 hi).1
 have e:l=l.take i++(y::l.drop (i+1)):=by
  have:=UK i l
  rw[TC hlt,(TU.1 hi).2] at this
  exact this.symm
 have hd:=h.get hi
 have h1:=AH (h.take i)
 have h2:=tq (h.take i)
 rw[Ud,U9 (by omega)] at h1
 have hv:v32 l=v32 (l.take i)+4294967296 ^ i*(y+4294967296*v32 (l.drop (i+1))):=by
  conv=>lhs;rw[e]
  rw[BD,Ud,U9 (by omega),yA]
 rw[hv,Int.add_mul_ediv_left _ _ (by omega),Int.ediv_eq_zero_of_lt h2 h1,Int.zero_add,Int.add_mul_emod_self_left,Int.emod_eq_of_lt hd.1 hd.2]
theorem D7 {l:List Int} {i:Nat} {y z:Int} (hi:l[i]? =some y):v32 (l.set i z)=v32 l+4294967296 ^ i*(z - y):=by
 have hlt:=(TU.1 hi).1
 have e:l=l.take i++(y::l.drop (i+1)):=by
  have:=UK i l
  rw[TC hlt,(TU.1 hi).2] at this
  exact this.symm
 have e2:l.set i z=l.take i++(z::l.drop (i+1)):=by rw[List.set_eq_take_append_cons_drop,VH hlt]
 rw[e2]
 conv=>rhs;rw[e]
 rw[BD,BD,yA,yA,Ud,U9 (by omega)]
 have:(4294967296:Int) ^ i*(z+4294967296*v32 (l.drop (i+1)))=4294967296 ^ i*(y+4294967296*v32 (l.drop (i+1)))+4294967296 ^ i*(z - y):=by rw[← Tj];congr 1;omega
 omega
theorem Dig.set {B:Int} {l:List Int} (h:Dig B l) {i:Nat} {z:Int} (hz:0≤z∧z<B):Dig B (l.set i z):=fun x hx=>by
 rcases Ut hx with hx | rfl
 ·exact h x hx
 ·exact hz
theorem QJ (y:Nat) (j:Nat) (hy:y<4294967296):jf (((BitVec.ofInt (IntKind.bits .u32) (Int.fdiv (y:Int) (2 ^ (min j (IntKind.bits .u32)))) &&& BitVec.ofInt (IntKind.bits .u32) 1).toNat:Int))=((y / 2 ^ (min j 32) % 2:Nat):Int):=by
 have e1:Int.fdiv (y:Int) (2 ^ (min j (IntKind.bits .u32)))=((y / 2 ^ (min j 32):Nat):Int):=by
  have:((2:Int) ^ (min j 32))=((2 ^ (min j 32):Nat):Int):=by simp
  rw[show IntKind.bits .u32=32 from rfl,this,Th _ (Int.natCast_nonneg _)]
  simp
 rw[e1]
 have hlt:y / 2 ^ (min j 32)<2 ^ 32:=U3 (Nat.div_le_self _ _) hy
 have:=bv_and (IntKind.bits .u32) (a:=y / 2 ^ (min j 32)) (b:=1) hlt (by decide)
 rw[show ((1:Nat):Int)=1 from rfl] at this
 rw[this,Nat.and_one_is_mod]
 exact uP (by omega) (by omega)
theorem Ko (a b:Nat) (hb:0<b) (na:Bool) (nb:Bool) (ha:(aV a).length<1000) (hlb:(aV b).length<1000) (g1:Bool) (g2:List Int) (g3:Bool) (g4:List Int):∀ (n k:Nat) (q:List Int),k≤32*(aV a).length→k<n→Dg q→q.length=(aV a).length→v32 q=((a / 2 ^ k / b*2 ^ k:Nat):Int)→
 ∃ q',iter (X:=oI) (β:=oH) n (aV (a / 2 ^ k % b),(k:Int) - 1,na,aV a,nb,aV b,g1,g2,g3,g4,q,()) oG=some (Sum.inr (aV (a % b),g1,g2,g3,g4,q',()))∧Dg q'∧q'.length=(aV a).length∧v32 q'=((a / b:Nat):Int):=by
 intro n
 induction n with
 | zero=>intro k q _ h;omega
 | succ n ih=>
  intro k q hk hn hq hql hqv
  rw[fZ]
  generalize hag:(fun y=>iter n y oG)=again
  unfold oG
  simp only
  cases k with
  | zero=>
   rw[aX (by omega)]
   refine⟨q, ?_,hq,hql,by simpa using hqv⟩
   simp
  | succ k=>
   rw[aO (by omega),show ((k+1:Nat):Int) - 1=(k:Int) by omega]
   have hR:a / 2 ^ (k+1) % b<b:=Nat.mod_lt _ hb
   have hRl:(aV (a / 2 ^ (k+1) % b)).length≤(aV b).length:=by
    rcases U5 (aV b).length (aV (a / 2 ^ (k+1) % b)).length with h | h
    ·have:=jK h;omega
    ·exact h
   obtain⟨s,hs1,hs2,hs3,hs4⟩:=DL _ _ (cV (a / 2 ^ (k+1) % b)) (cV (a / 2 ^ (k+1) % b)) (by omega) (by omega)
   rw[hs1]
   simp only[Vl]
   have hs0:s[0]? =some s[0]:=aI (by omega)
   have hs0d:=hs2.get hs0
   have hs0v:=I9 hs2 hs0
   rw[cT] at hs3
   generalize s[0]'(by omega)=y3 at hs0 hs0d hs0v
   rw[bz (by simp only[SX,VB];omega),hs0]
   simp only[Vl]
   have hk32:k / 32<(aV a).length:=by omega
   have e5:w64 (Int.tdiv (k:Int) 32)=((k / 32:Nat):Int):=by
    rw[Int.tdiv_eq_ediv_of_nonneg (by omega),aR (by omega) (by omega)];omega
   have e6:Int.tmod (k:Int) 32=((k % 32:Nat):Int):=by rw[Int.tmod_eq_emod_of_nonneg (by omega)];omega
   have hy4:(aV a)[k / 32]? =some ((aV a)[k / 32]):=aI hk32
   have hy4d:=(cV a).get hy4
   have hy4v:=I9 (cV a) hy4
   rw[cT] at hy4v
   generalize (aV a)[k / 32]=y4 at hy4 hy4d hy4v
   obtain⟨m4,rfl⟩:∃ m:Nat,y4=m:=⟨y4.toNat,by omega⟩
   rw[e5,e6,bL,hy4]
   simp only[Vl]
   rw[bz (by simp only[VB];omega)]
   simp only[To]
   rw[QJ m4 (k % 32) (by omega)]
   have hbit:m4 / 2 ^ (min (k % 32) 32) % 2=a / 2 ^ k % 2:=by
    have h1:m4=a / 4294967296 ^ (k / 32) % 4294967296:=by
     have h2:((a:Int) / 4294967296 ^ (k / 32) % 4294967296)=((a / 4294967296 ^ (k / 32) % 4294967296:Nat):Int):=by simp
     rw[h2] at hy4v;omega
    have h3:(4294967296:Nat) ^ (k / 32)=2 ^ (32*(k / 32)):=by rw[Nat.pow_mul]
    rw[h1,U9 (by omega),h3]
    have h4:(4294967296:Nat)=2 ^ (k % 32)*2 ^ (32 - k % 32):=by rw[← Vf];rw[show k % 32+(32 - k % 32)=32 by omega]
    rw[show a / 2 ^ (32*(k / 32)) % 4294967296=a / 2 ^ (32*(k / 32)) % (2 ^ (k % 32)*2 ^ (32 - k % 32)) by rw[← h4],Nat.mod_mul_right_div_self,Nat.div_div_eq_div_mul, ← Vf,show 32*(k / 32)+k % 32=k by omega]
    have h5:(2:Nat) ∣ 2 ^ (32 - k % 32):=by
     rw[show 32 - k % 32=(31 - k % 32)+1 by omega,Vh];exact Nat.dvd_mul_left _ _
    exact Nat.mod_mod_of_dvd _ h5
   rw[hbit,bz (by simp only[SX,VB];omega)]
   obtain⟨m3,rfl⟩:∃ m:Nat,y3=m:=⟨y3.toNat,by omega⟩
   have hev:m3 % 2=0:=by
    have h1:v32 s / 4294967296 ^ 0 % 4294967296=v32 s % 4294967296:=by simp
    rw[h1,hs3] at hs0v
    omega
   have hor:jf (((BitVec.ofInt (IntKind.bits .u32) (m3:Int) ||| BitVec.ofInt (IntKind.bits .u32) ((a / 2 ^ k % 2:Nat):Int)).toNat:Int))=((m3+a / 2 ^ k % 2:Nat):Int):=by
    rw[Ks (IntKind.bits .u32) (by show m3<2 ^ 32;omega) (by show a / 2 ^ k % 2<2 ^ 32;omega)]
    have h1:m3=2 ^ 1*(m3 / 2):=by omega
    have h2:m3 ||| (a / 2 ^ k % 2)=m3+a / 2 ^ k % 2:=by
     conv=>lhs;rw[h1]
     rw[LR (by omega)];omega
    rw[h2];exact uP (by omega) (by omega)
   rw[hor]
   rw[rZ _ (by simp only[Uc];omega),Ma (hs2.set (by omega)),D7 hs0,hs3]
   simp only[Vl]
   have hr2:(((a / 2 ^ (k+1) % b:Nat):Int)+((a / 2 ^ (k+1) % b:Nat):Int)+4294967296 ^ 0*(((m3+a / 2 ^ k % 2:Nat):Int) - (m3:Int))).toNat=2*(a / 2 ^ (k+1) % b)+a / 2 ^ k % 2:=by
    rw[Int.pow_zero];omega
   rw[hr2]
   have htop:a / 2 ^ k=2*(a / 2 ^ (k+1))+a / 2 ^ k % 2:=by
    rw[Vh, ← Nat.div_div_eq_div_mul];omega
   generalize hT:a / 2 ^ (k+1)=T at*
   generalize hbt:a / 2 ^ k % 2=bt at*
   have hbt2:bt<2:=by omega
   have hr3l:(aV (2*(T % b)+bt)).length≤(aV b).length+1:=by
    rcases U5 ((aV b).length+1) (aV (2*(T % b)+bt)).length with h | h
    ·exfalso
     have h1:aV (4294967296*b)=0::aV b:=by
      have:=AX (B:=4294967296) (by omega) (d:=0) (n:=b) (by omega) (by omega)
      simpa [aV] using this
     have h2:(aV (4294967296*b)).length<(aV (2*(T % b)+bt)).length:=by rw[h1];simpa using h
     have:=jK h2
     omega
    ·exact h
   obtain⟨c,hc1,hc2,hc3⟩:=yC (2*(T % b)+bt) b (by omega) (by omega)
   rw[hc1]
   simp only[Vl]
   have hdm:=Nat.div_add_mod T b
   by_cases hge:b≤2*(T % b)+bt
   ·rw[aO (by omega)]
    have hlen2:(aV b).length≤(aV (2*(T % b)+bt)).length:=by
     rcases U5 (aV (2*(T % b)+bt)).length (aV b).length with h | h
     ·have:=jK h;omega
     ·exact h
    rw[wI _ _ (cV _) (cV _) (by omega) hlen2 (by rw[cT,cT];omega),cT,cT]
    simp only[Vl]
    rw[bz (by simp only[SX,VB];omega)]
    have hy9:q[k / 32]? =some (q[k / 32]'(by omega)):=aI (by omega)
    have hy9d:=hq.get hy9
    have hy9v:=I9 hq hy9
    rw[hqv] at hy9v
    generalize q[k / 32]'(by omega)=y9 at hy9 hy9d hy9v
    obtain⟨m9,rfl⟩:∃ m:Nat,y9=m:=⟨y9.toNat,by omega⟩
    rw[hy9]
    simp only[Vl]
    rw[bz (by simp only[VB];omega),bz (by simp only[SX,VB];omega)]
    have h9:m9=T / b*2 ^ (k+1) / 4294967296 ^ (k / 32) % 4294967296:=by
     have h2:(((T / b*2 ^ (k+1):Nat):Int) / 4294967296 ^ (k / 32) % 4294967296)=((T / b*2 ^ (k+1) / 4294967296 ^ (k / 32) % 4294967296:Nat):Int):=by simp
     rw[h2] at hy9v;omega
    have h3:(4294967296:Nat) ^ (k / 32)=2 ^ (32*(k / 32)):=by rw[Nat.pow_mul]
    have h9d:2 ^ (k % 32+1) ∣ m9:=by
     rw[h9,h3]
     have e1:T / b*2 ^ (k+1) / 2 ^ (32*(k / 32))=T / b*2 ^ (k % 32+1):=by
      rw[show k+1=(k % 32+1)+32*(k / 32) by omega,Vf, ← Nat.mul_assoc,Nat.mul_div_cancel _ (Nat.pow_pos (by omega))]
     rw[e1]
     have h4:(4294967296:Nat)=2 ^ (k % 32+1)*2 ^ (31 - k % 32):=by rw[← Vf];rw[show k % 32+1+(31 - k % 32)=32 by omega]
     exact (Nat.dvd_mod_iff (by rw[h4];exact Nat.dvd_mul_right _ _)).2 (Nat.dvd_mul_left _ _)
    have hsh:jf (1*2 ^ (min (k % 32) (IntKind.bits .u32)))=((2 ^ (k % 32):Nat):Int):=by
     rw[show IntKind.bits .u32=32 from rfl,U9 (by omega),Int.one_mul,show ((2:Int) ^ (k % 32))=((2 ^ (k % 32):Nat):Int) by simp]
     have:2 ^ (k % 32)≤2 ^ 31:=Vg (by omega) (by omega)
     exact uP (by omega) (by omega)
    have hp31:2 ^ (k % 32)≤2 ^ 31:=Vg (by omega) (by omega)
    obtain⟨e9,he9⟩:=h9d
    have hor2:jf (((BitVec.ofInt (IntKind.bits .u32) (m9:Int) ||| BitVec.ofInt (IntKind.bits .u32) ((2 ^ (k % 32):Nat):Int)).toNat:Int))=((m9+2 ^ (k % 32):Nat):Int):=by
     rw[Ks (IntKind.bits .u32) (by show m9<2 ^ 32;omega) (by show 2 ^ (k % 32)<2 ^ 32;omega)]
     have h2:m9 ||| 2 ^ (k % 32)=m9+2 ^ (k % 32):=by rw[he9,LR (Nat.pow_lt_pow_right (by omega) (by omega))]
     rw[h2]
     refine uP (by omega) ?_
     have h5:2 ^ (k % 32+1)*e9+2 ^ (k % 32)≤4294967295:=by
      have h4:(4294967296:Nat)=2 ^ (k % 32+1)*2 ^ (31 - k % 32):=by rw[← Vf];rw[show k % 32+1+(31 - k % 32)=32 by omega]
      have h6:e9<2 ^ (31 - k % 32):=by
       rcases U5 e9 (2 ^ (31 - k % 32)) with h | h
       ·exact h
       ·have:=Nat.mul_le_mul_left (2 ^ (k % 32+1)) h;omega
      have h7:=Nat.mul_le_mul_left (2 ^ (k % 32+1)) (show e9+1≤2 ^ (31 - k % 32) by omega)
      rw[Nat.mul_add,Nat.mul_one, ← h4] at h7
      have h8:2 ^ (k % 32+1)=2*2 ^ (k % 32):=by rw[Vh,Vb]
      omega
     omega
    have hz9:m9+2 ^ (k % 32)<4294967296:=by
     have:=uR (((BitVec.ofInt (IntKind.bits .u32) (m9:Int) ||| BitVec.ofInt (IntKind.bits .u32) ((2 ^ (k % 32):Nat):Int)).toNat:Int))
     rw[hor2] at this;omega
    rw[hsh,hor2,aR (by omega) (by omega), ← hag]
    have hTk:a / 2 ^ k / b=2*(T / b)+1∧a / 2 ^ k % b=2*(T % b)+bt - b:=by
     have h1:a / 2 ^ k=b*(2*(T / b)+1)+(2*(T % b)+bt - b):=by
      rw[htop,Nat.mul_add,Nat.mul_one,show b*(2*(T / b))=2*(b*(T / b)) by rw[Nat.mul_left_comm]];omega
     have h2:2*(T % b)+bt - b<b:=by have:=Nat.mod_lt T hb;omega
     rw[h1]
     exact⟨by rw[Nat.mul_add_div hb,UT h2,US],by rw[Nat.mul_add_mod,Va h2]⟩
    have hih:=ih k (q.set (k / 32) ((m9+2 ^ (k % 32):Nat):Int)) (by omega) (by omega) (hq.set ⟨Int.natCast_nonneg _,Int.ofNat_lt.2 hz9⟩) (by rw[Uc];exact hql) (by
     rw[D7 hy9,hqv,hTk.1]
     have e1:(((m9+2 ^ (k % 32):Nat):Int) - (m9:Int))=((2 ^ (k % 32):Nat):Int):=by omega
     have e2:((4294967296:Int) ^ (k / 32))=((2 ^ (32*(k / 32)):Nat):Int):=by rw[← h3];simp
     rw[e1,e2, ← Int.natCast_mul, ← Vf,show 32*(k / 32)+k % 32=k by omega, ← Int.natCast_add]
     congr 1
     rw[Vh,UR,Ve,Vb (2 ^ k) 2, ← Nat.mul_assoc,Vb (T / b) 2])
    rw[hTk.2] at hih
    have e7:(((2*(T % b)+bt:Nat):Int) - (b:Int)).toNat=2*(T % b)+bt - b:=by omega
    rw[e7]
    exact hih
   ·rw[aX (by omega),aR (by omega) (by omega), ← hag]
    have hTk:a / 2 ^ k / b=2*(T / b)∧a / 2 ^ k % b=2*(T % b)+bt:=by
     have h1:a / 2 ^ k=b*(2*(T / b))+(2*(T % b)+bt):=by
      rw[htop,show b*(2*(T / b))=2*(b*(T / b)) by rw[Nat.mul_left_comm]];omega
     have h2:2*(T % b)+bt<b:=by omega
     rw[h1]
     exact⟨by rw[Nat.mul_add_div hb,UT h2,US],by rw[Nat.mul_add_mod,Va h2]⟩
    have hih:=ih k q (by omega) (by omega) hq hql (by
     rw[hqv,hTk.1]
     congr 1
     rw[Vh,Vb (2 ^ k) 2, ← Nat.mul_assoc,Vb (T / b) 2])
    rw[hTk.2] at hih
    exact hih
theorem BW (n:Nat):v32 (List.replicate n 0)=0:=by
 induction n with
 | zero=>rfl
 | succ n ih=>rw[UE,yA,ih];rfl
theorem Sd (k:Nat):(4294967296:Nat) ^ k=2 ^ (32*k):=by rw[Nat.pow_mul]
theorem HS (x y:Int) (hx:x.natAbs<4294967296 ^ 99) (hy:y.natAbs<4294967296 ^ 99) (h0:y≠0):pL (W x) (W y)=some (W ((x.natAbs / y.natAbs:Nat):Int),W ((x.natAbs % y.natAbs:Nat):Int),()):=by
 have hlx:=mW hx
 have hly:=mW hy
 unfold pL W
 dsimp only
 rw[bz (by simp only[SX,VB];omega)]
 have e1:w64 (w64 (((aV x.natAbs).length:Int)*32) - 1)=((32*(aV x.natAbs).length:Nat):Int) - 1:=by
  rw[aR (n:=((aV x.natAbs).length:Int)*32) (by omega) (by omega),aR (by omega) (by omega)];omega
 rw[e1]
 have hlt:x.natAbs<2 ^ (32*(aV x.natAbs).length):=by
  have:=AH (cV x.natAbs)
  rw[cT] at this
  have h2:((4294967296:Int) ^ (aV x.natAbs).length)=((4294967296 ^ (aV x.natAbs).length:Nat):Int):=by simp
  rw[h2,Sd] at this
  omega
 have hz:x.natAbs / 2 ^ (32*(aV x.natAbs).length)=0:=UT hlt
 obtain⟨q,h1,h2,h3,h4⟩:=Ko x.natAbs y.natAbs (by omega) (decide (x<0)) (decide (y<0)) (by omega) (by omega) false [] false [] (List.length ([]:List Int)+(Int.natAbs (((32*(aV x.natAbs).length:Nat):Int) - 1)+(List.length (aV x.natAbs)+(List.length (aV y.natAbs)+(List.length ([]:List Int)+(List.length ([]:List Int)+(List.length ((List.replicate (Int.toNat ((List.length (aV x.natAbs):Int))) 0):List Int)+2)))))))
  (32*(aV x.natAbs).length) (List.replicate (Int.toNat ((List.length (aV x.natAbs):Int))) 0) (U0 _) (by omega) (fun d hd=>by rw[List.mem_replicate] at hd;omega) (by simp) (by rw[BW,hz];simp)
 rw[hz,Nat.zero_mod,C3] at h1
 rw[h1,aZ]
 simp only
 rw[gR _ _ h2 (by omega),gR _ _ (cV _) (by
  have:=mW (k:=99) (n:=x.natAbs % y.natAbs) (U3 (Nat.mod_le _ _) hx);omega),h4,cT]
 rfl
theorem Ga (z:Int) (most:Int) (h0:0≤most) (h1:most≤9223372036854775807):ry (W z) most=some (if z.natAbs≤most then (z,true,()) else (0,false,())):=by
 unfold ry W
 dsimp only
 by_cases hl:(aV z.natAbs).length>2
 ·rw[aO (by omega)]
  have:¬ (z.natAbs:Int)≤most:=by
   intro h
   have:=mW (k:=2) (n:=z.natAbs) (by omega)
   omega
  rw[VG this]
 ·rw[aX (by omega)]
  have hdig:=cV z.natAbs
  have hval:=cT z.natAbs
  have hlen:(aV z.natAbs).length≤2:=by omega
  generalize hd:aV z.natAbs=d at*
  have loop:∃ n0,iter (X:=nD) (β:=nC) (Int.natAbs most+(Int.natAbs (0:Int)+(List.length d+(Int.natAbs ((List.length d:Int))+(Int.natAbs (0:Int)+(List.length d+2)))))) (most,0,d,(List.length d:Int),0,decide (z<0),d,()) nB=some (Sum.inr (most,n0,decide (z<0),d,()))∧n0=(z.natAbs:Int):=by
   refine cN (Inv:=fun i x=>∃ u:Int,x=(most,u,d,(d.length:Int),(i:Int),decide (z<0),d,())∧u=v32 (d.take i)) d.length (fun r=>∃ n0,r=some (Sum.inr (most,n0,decide (z<0),d,()))∧n0=(z.natAbs:Int)) ?_ ?_ _ 0 _ ⟨0,rfl,by simp[uI]⟩ (by omega) (by omega)
   ·rintro i _ again hi ⟨u,rfl,hu⟩ ih
    unfold nB
    simp only
    have hy:d[i]? =some d[i]:=aI hi
    have hyd:=hdig.get hy
    have hts:=fN hy
    have hlt:=AH (hdig.take i)
    have hnn:=tq (hdig.take i)
    rw[Ud,U9 (by omega)] at hlt
    generalize d[i]=y at hy hyd hts
    rw[aO (by omega),bL,hy,Vl,aR (n:=32*(i:Int)) (by omega) (by omega),bz (by simp only[VB];omega),aR (n:=(i:Int)+1) (by omega) (by omega)]
    refine ih _ ⟨_,rfl, ?_⟩
    rw[hts]
    obtain⟨m,rfl⟩:∃ m:Nat,y=m:=⟨y.toNat,by omega⟩
    obtain⟨k,hk⟩:∃ k:Nat,v32 (d.take i)=k:=⟨(v32 (d.take i)).toNat,by omega⟩
    rw[hk] at hlt hu ⊢
    subst hu
    have hi2:i=0∨i=1:=by omega
    rcases hi2 with rfl | rfl
    ·simp only[Int.pow_zero] at hlt ⊢
     have:k=0:=by omega
     subst this
     have e:bK (bK (m:Int)*2 ^ (min (Int.toNat (32*((0:Nat):Int))) (IntKind.bits .u64)))=(m:Int):=by
      rw[cK (n:=(m:Int)) (by omega) (by omega)]
      simp
      exact cK (by omega) (by omega)
     rw[e,Ks (IntKind.bits .u64) (by decide) (by show m<2 ^ 64;omega),Nat.zero_or,cK (by omega) (by omega)]
     omega
    ·simp only[Int.pow_one] at hlt ⊢
     have e:bK (bK (m:Int)*2 ^ (min (Int.toNat (32*((1:Nat):Int))) (IntKind.bits .u64)))=((2 ^ 32*m:Nat):Int):=by
      rw[cK (n:=(m:Int)) (by omega) (by omega),show min (Int.toNat (32*((1:Nat):Int))) (IntKind.bits .u64)=32 from rfl]
      rw[cK (by omega) (by omega)]
      omega
     rw[e,Ks (IntKind.bits .u64) (by show k<2 ^ 64;omega) (by show 2 ^ 32*m<2 ^ 64;omega),Nat.or_comm,LR (by omega),cK (by omega) (by omega)]
     omega
   ·rintro _ again ⟨u,rfl,hu⟩
    unfold nB
    simp only
    rw[aX (by omega)]
    rw[UN (U0 _),hval] at hu
    exact⟨u,rfl,hu⟩
  obtain⟨n0,h2,h3⟩:=loop
  rw[h2,aZ]
  subst h3
  simp only
  rw[cK (n:=most) (by omega) (by omega)]
  by_cases hm:(z.natAbs:Int)≤most
  ·rw[aX (by omega),VH hm]
   by_cases hneg:z<0
   ·rw[VA hneg]
    simp only[Vx]
    rw[aR (n:=(z.natAbs:Int)) (by omega) (by omega),aR (by omega) (by omega)]
    congr 2;omega
   ·rw[Vy hneg]
    simp only[Vw]
    rw[aR (by omega) (by omega)]
    congr 2;omega
  ·rw[aO (by omega),VG hm]
end Go.Md
namespace Go.Md
open Go.Dn
def v6 (l:List Int):Int:=val 1000000 l
def dg6 (n:Nat):List Int:=dg 1000000 n
theorem QO {k n:Nat} (h:n<1000000 ^ k):(dg6 n).length≤k:=Ld (B:=1000000) (by omega) k n h
def N (z:Int):zS:=(decide (z<0),dg6 z.natAbs)
end Go.Md
namespace Go.Md
open Go.Dn
def Big (D:Int) (l:List Int):Prop:=∀ d,d∈l→0≤d∧d≤D
theorem Big.get {D d:Int} {l:List Int} {i:Nat} (h:Big D l) (hi:l[i]? =some d):0≤d∧d≤D:=h d (Uq hi)
theorem Big.set {D E:Int} {l:List Int} (h:Big D l) (hDE:D≤E) {i:Nat} {z:Int} (hz:0≤z∧z≤E):Big E (l.set i z):=fun x hx=>by
 rcases Ut hx with hx | rfl
 ·have:=h x hx;omega
 ·exact hz
theorem Big.mono {D E:Int} {l:List Int} (h:Big D l) (hDE:D≤E):Big E l:=fun x hx=>by have:=h x hx;omega
end Go.Md
