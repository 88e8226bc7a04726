/-
  Plain facts: loops, digits, whole numbers. No condition.
-/
import Derived.Test.YtalfglakknbjkaaGreatDoorKm
set_option linter.all false
namespace Go.Md
open Go.Dn
theorem bn {X β:Type} {f:X→(X→Option β)→Option β} (Inv:Nat→X→Prop) (N:Nat) (Q:Option β→Prop)
 (step:∀ i x again,i<N→Inv i x→(∀ y,Inv (i+1) y→Q (again y))→Q (f x again)) (fin:∀ x again,Inv N x→Q (f x again)):∀ n i x,Inv i x→i≤N→N - i<n→Q (iter n x f)
 | 0,_,_,_,_,hn=>absurd hn (agf _)
 | n+1,i,x,hx,hi,hn=>by
  show Q (f x _)
  by_cases h:i=N
  ·subst h;exact fin x _ hx
  ·exact step i x _ (by omega) hx fun y hy=>bn Inv N Q step fin n (i+1) y hy (by omega) (by omega)
theorem JA {X β:Type} {f:X→(X→Option β)→Option β} (Inv:X→Prop) (μ:X→Nat) (Q:X→Option β→Prop)
 (step:∀ x again,Inv x→(∀ y,Inv y→μ y<μ x→Q y (again y))→Q x (f x again)):∀ n x,Inv x→μ x<n→Q x (iter n x f)
 | 0,_,_,hn=>absurd hn (agf _)
 | n+1,x,hx,hn=>step x _ hx fun y hy h=>JA Inv μ Q step n y hy (by omega)
theorem Vl:maxLen=9223372036854775807:=rfl
theorem aJ {β:Type} {b:Bool} (h:b=true) (x:Option β):chk b x=x:=by rw [h];rfl
theorem fY {n k:Nat} (h:n*k≤140737488355328) (h2:n≤9223372036854775807):(decide (n*k≤140737488355328)&&decide (n≤maxLen))=true:=by
 simp only [ad5,decide_eq_true_eq];rw [Vl];omega
theorem aE {α:Type} {p:Prop} [Decidable p] (h:p) (x y:α):(bif decide p then x else y)=x:=by rw [agE h];rfl
theorem aF {α:Type} {p:Prop} [Decidable p] (h:¬p) (x y:α):(bif decide p then x else y)=y:=by rw [agD h];rfl
theorem eV {β γ:Type} (r:β) (f:γ→Option β):aP (some (Sum.inl r)) f=some r:=rfl
theorem aG {β γ:Type} (v:γ) (f:γ→Option β):aP (β:=β) (some (Sum.inr v)) f=f v:=rfl
theorem aH {α:Type} {l:List α} {i:Nat} (h:i<l.length):l[i]? =some (l[i]'h):=List.getElem?_eq_getElem h
theorem Xy {k:IntKind} {n:Int} (h1:k.min≤n) (h2:n≤k.max):k.wrap n=n:=by
 cases k<;>simp [IntKind.wrap,IntKind.min,IntKind.max,IntKind.bits,IntKind.signed] at* <;>(try split)<;>omega
theorem aA {n:Int} (h1: -9223372036854775808≤n) (h2:n≤9223372036854775807):w64 n=n:=Xy h1 h2
theorem dW {n:Int} (h1:0≤n) (h2:n≤18446744073709551615):bV n=n:=Xy h1 h2
theorem D9 {n:Int} (h1:0≤n) (h2:n≤4294967295):nW n=n:=Xy h1 h2
theorem Ir (n:Int):bV n=n % 18446744073709551616:=by simp [bV,IntKind.wrap,IntKind.bits,IntKind.signed]
theorem D8 (n:Int):nW n=n % 4294967296:=by simp [nW,IntKind.wrap,IntKind.bits,IntKind.signed]
theorem bh {α:Type} (l:List α) (i:Nat):idx l (i:Int)=l[i]? :=by simp [idx]
end Go.Md
namespace Go.Md
open Go.Dn
def val (B:Int):List Int→Int
 | []=>0
 | d::r=>d+B*val B r
def Dig (B:Int) (l:List Int):Prop:=∀ d,d∈l→0≤d∧d<B
theorem Dig.nil {B:Int}:Dig B []:=fun _ h=>by cases h
theorem Dig.cons {B d:Int} {l:List Int} (h:0≤d∧d<B) (hl:Dig B l):Dig B (d::l):=fun x hx=>by
 rcases afq.1 hx with rfl | hx
 ·exact h
 ·exact hl x hx
theorem Dig.head {B d:Int} {l:List Int} (h:Dig B (d::l)):0≤d∧d<B:=h d (by simp)
theorem Dig.tail {B d:Int} {l:List Int} (h:Dig B (d::l)):Dig B l:=fun x hx=>h x (by simp [hx])
theorem Dig.append {B:Int} {l m:List Int} (h:Dig B l) (k:Dig B m):Dig B (l++m):=fun x hx=>by
 rcases afp.1 hx with hx | hx
 ·exact h x hx
 ·exact k x hx
theorem Dig.snoc {B d:Int} {l:List Int} (h:Dig B l) (hd:0≤d∧d<B):Dig B (l++[d]):=h.append (Dig.cons hd Dig.nil)
theorem Dig.take {B:Int} {l:List Int} (h:Dig B l) (n:Nat):Dig B (l.take n):=fun x hx=>h x (afx hx)
theorem Dig.drop {B:Int} {l:List Int} (h:Dig B l) (n:Nat):Dig B (l.drop n):=fun x hx=>h x (List.mem_of_mem_drop hx)
theorem Dig.get {B d:Int} {l:List Int} {i:Nat} (h:Dig B l) (hi:l[i]? =some d):0≤d∧d<B:=h d (List.mem_of_getElem? hi)
theorem Dig.left {B:Int} {l m:List Int} (h:Dig B (l++m)):Dig B l:=fun x hx=>h x (List.mem_append_left _ hx)
theorem Dig.right {B:Int} {l m:List Int} (h:Dig B (l++m)):Dig B m:=fun x hx=>h x (List.mem_append_right _ hx)
theorem B7 {B:Int} (hB:0<B):∀ {l:List Int},Dig B l→0≤val B l
 | [],_=>Int.le_refl _
 | d::r,h=>by
  have h1:=h.head;have h2:=B7 hB h.tail
  have:0≤B*val B r:=aer (by omega) h2
  simp only [val];omega
theorem W1 {B:Int} (hB:0<B):∀ {l:List Int},Dig B l→val B l<B ^ l.length
 | [],_=>by simp [val]
 | d::r,h=>by
  have h1:=h.head;have h2:=W1 hB h.tail
  have h3:B*(val B r+1)≤B*B ^ r.length:=aep h2 (by omega)
  rw [aen,aes] at h3
  simp only [val,afd]
  rw [aey,Int.mul_comm (B ^ r.length) B]
  omega
theorem CM {B:Int}:∀ (l m:List Int),val B (l++m)=val B l+B ^ l.length*val B m
 | [],m=>by simp [val]
 | d::r,m=>by
  simp only [aeN,val,CM r m,afd,aey]
  rw [aen,Int.add_assoc]
  congr 2
  rw [Int.mul_comm (B ^ r.length) B,aeo]
theorem XI {B:Int} (l:List Int) (d:Int):val B (l++[d])=val B l+B ^ l.length*d:=by
 rw [CM];simp [val]
theorem Il {B:Int} (hB:0<B):∀ n:Nat,0<B ^ n
 | 0=>by simp
 | n+1=>by rw [aey];exact Int.mul_pos (Il hB n) hB
def dgF (B:Nat):Nat→Nat→List Int
 | 0,_=>[]
 | f+1,n=>if n=0 then [] else ((n % B:Nat):Int)::dgF B f (n / B)
def dg (B n:Nat):List Int:=dgF B n n
theorem abK {B:Nat} (hB:2≤B):∀ (f g n:Nat),n≤f→n≤g→dgF B f n=dgF B g n
 | 0,0,_,_,_=>rfl
 | 0,g+1,n,h,_=>by have:n=0:=by omega
                   subst this;simp [dgF]
 | f+1,0,n,_,h=>by have:n=0:=by omega
                   subst this;simp [dgF]
 | f+1,g+1,n,hf,hg=>by
  by_cases hn:n=0
  ·subst hn;simp [dgF]
  ·have:n / B<n:=afW (by omega) (by omega)
   simp only [dgF,hn,agK]
   rw [abK hB f g (n / B) (by omega) (by omega)]
theorem BH (B:Nat):dg B 0=[]:=rfl
theorem zO {B:Nat} (hB:2≤B) {n:Nat} (hn:0<n):dg B n=((n % B:Nat):Int)::dg B (n / B):=by
 have:n / B<n:=afW hn (by omega)
 obtain ⟨m,rfl⟩:∃ m,n=m+1:=⟨n - 1,by omega⟩
 unfold dg
 rw [dgF,if_neg (by omega),abK hB m ((m+1) / B) _ (by omega) (af0 _)]
theorem XQ {B:Nat} (hB:2≤B):∀ n,Dig B (dg B n):=by
 intro n
 induction n using Nat.strongRecOn with
 | _ n ih=>
  by_cases hn:n=0
  ·subst hn;exact Dig.nil
  ·rw [zO hB (by omega)]
   exact Dig.cons ⟨by omega,by have:=agb n (show 0<B by omega);omega⟩ (ih _ (afW (by omega) (by omega)))
theorem Yx {B:Nat} (hB:2≤B):∀ n,val B (dg B n)=n:=by
 intro n
 induction n using Nat.strongRecOn with
 | _ n ih=>
  by_cases hn:n=0
  ·subst hn;rfl
  ·rw [zO hB (by omega),val,ih _ (afW (by omega) (by omega))]
   have:=Nat.mod_add_div n B
   omega
theorem JR {B:Nat} (hB:2≤B) {n:Nat} (hn:0<n):dg B n≠[]:=by rw [zO hB hn];simp
theorem Vx {B:Nat} (hB:2≤B) {n:Nat}:dg B n=[]↔n=0:=by
 constructor
 ·intro h
  rcases afY n with h0 | h0
  ·exact h0
  ·exact absurd h (JR hB h0)
 ·rintro rfl;rfl
theorem MX {B:Nat} (hB:2≤B) {d n:Nat} (hd:d<B) (h:0<d+B*n):dg B (d+B*n)=(d:Int)::dg B n:=by
 rw [zO hB h]
 have h1:(d+B*n) % B=d:=by rw [Nat.add_mul_mod_self_left,aga hd]
 have h2:(d+B*n) / B=n:=by rw [Nat.add_mul_div_left _ _ (by omega),afU hd];omega
 rw [h1,h2]
def trim:List Int→List Int
 | []=>[]
 | d::r=>match trim r with
  | []=>if d=0 then [] else [d]
  | t=>d::t
theorem UP {B:Nat} (hB:2≤B):∀ {l:List Int},Dig B l→trim l=dg B (val B l).toNat
 | [],_=>rfl
 | d::r,h=>by
  have hr:=UP hB h.tail
  have h1:=h.head
  have hB0:(0:Int)<B:=by omega
  have h2:=B7 hB0 h.tail
  obtain ⟨k,rfl⟩:∃ k:Nat,d=k:=⟨d.toNat,by omega⟩
  obtain ⟨n,hn⟩:∃ n:Nat,val B r=n:=⟨(val B r).toNat,by omega⟩
  have hv:(val B ((k:Int)::r)).toNat=k+B*n:=by
   simp only [val,hn]
   rw [show ((B:Int)*(n:Int))=((B*n:Nat):Int) by simp]
   omega
  rw [hv]
  rw [hn] at hr
  simp only [aeF] at hr
  unfold trim
  rw [hr]
  rcases afY n with h0 | h0
  ·subst h0
   simp only [BH,Nat.mul_zero,afT]
   by_cases hk:k=0
   ·subst hk;simp [BH]
   ·have:=MX hB (d:=k) (n:=0) (by omega) (by omega)
    simp only [Nat.mul_zero,afT,BH] at this
    rw [this];simp [hk]
  ·have hpos:0<k+B*n:=by have:=Nat.mul_pos (show 0<B by omega) h0;omega
   rw [MX hB (by omega) hpos]
   cases hd:dg B n with
   | nil=>exact absurd hd (JR hB h0)
   | cons a t=>rfl
theorem Eh:∀ l:List Int,trim (l++[0])=trim l
 | []=>rfl
 | d::r=>by simp only [aeN,trim,Eh r]
theorem HL {d:Int} (hd:d≠0):∀ l:List Int,trim (l++[d])=l++[d]
 | []=>by simp [trim,hd]
 | e::r=>by
  simp only [aeN,trim,HL hd r]
  cases h:r++[d] with
  | nil=>simp at h
  | cons a t=>rfl
theorem Ua {B:Nat} (hB:2≤B):∀ (k n:Nat),n<B ^ k→(dg B n).length≤k
 | 0,n,h=>by have:n=0:=by simpa using h
             subst this;simp [BH]
 | k+1,n,h=>by
  by_cases hn:n=0
  ·subst hn;simp [BH]
  ·rw [zO hB (by omega),afd]
   have:=Ua hB k (n / B) (by rw [agl] at h;exact Nat.div_lt_of_lt_mul (by rw [agc];exact h))
   omega
theorem Vz {B:Nat} (hB:2≤B) {m n:Nat} (h:(dg B m).length<(dg B n).length):m<n:=by
 rcases af4 m n with h1 | h1
 ·exact h1
 ·exfalso
  have h2:∀ a b:Nat,b≤a→(dg B b).length≤(dg B a).length:=by
   intro a
   induction a using Nat.strongRecOn with
   | _ a ih=>
    intro b hb
    by_cases h0:b=0
    ·subst h0;simp [BH]
    ·rw [zO hB (by omega),zO hB (show 0<a by omega),afd,afd]
     have:=ih (a / B) (afW (by omega) (by omega)) (b / B) (Nat.div_le_div_right hb)
     omega
  have:=h2 m n h1
  omega
end Go.Md
namespace Go.Md
open Go.Dn
def v32 (l:List Int):Int:=val 4294967296 l
theorem DV:v32 []=0:=rfl
theorem I6 (d:Int) (l:List Int):v32 (d::l)=d+4294967296*v32 l:=rfl
theorem Mf (l m:List Int):v32 (l++m)=v32 l+4294967296 ^ l.length*v32 m:=CM l m
theorem Mq (l:List Int) (d:Int):v32 (l++[d])=v32 l+4294967296 ^ l.length*d:=XI l d
abbrev Dg (l:List Int):Prop:=Dig 4294967296 l
def bE (n:Nat):List Int:=dg 4294967296 n
theorem Qf:bE 0=[]:=rfl
theorem RY {n:Nat}:bE n=[]↔n=0:=Vx (B:=4294967296) (by omega)
theorem R4 {n:Nat} (h:0<n):bE n≠[]:=JR (B:=4294967296) (by omega) h
theorem pn {m n:Nat} (h:(bE m).length<(bE n).length):m<n:=Vz (B:=4294967296) (by omega) h
theorem eF (n:Nat):Dg (bE n):=XQ (B:=4294967296) (by omega) n
theorem eI (n:Nat):v32 (bE n)=n:=Yx (B:=4294967296) (by omega) n
theorem WQ {l:List Int} (h:Dg l):trim l=bE (v32 l).toNat:=UP (B:=4294967296) (by omega) h
theorem CQ {l:List Int} (h:Dg l):0≤v32 l:=B7 (by omega) h
theorem Li {l:List Int} (h:Dg l):v32 l<4294967296 ^ l.length:=W1 (by omega) h
theorem uC {k n:Nat} (h:n<4294967296 ^ k):(bE n).length≤k:=Ua (B:=4294967296) (by omega) k n h
theorem Bc (l:List Int) (hl:l.length<1000000):qQ l=some (trim l,()):=by
 have key:∀ n (x:qc),x.1.length<1000000→x.1.length<n→iter n x Be=some (Sum.inr (trim x.1,())):=by
  refine JA (fun x:qc=>x.1.length<1000000) (fun x=>x.1.length) (fun x r=>r=some (Sum.inr (trim x.1,()))) ?_
  rintro ⟨x,u⟩ again hx ih
  simp only at hx ih ⊢
  unfold Be
  simp only
  by_cases h0:x.length=0
  ·have:x=[]:=aeV h0
   subst this;simp [trim]
  ·have e1:w64 ((x.length:Int) - 1)=((x.length - 1:Nat):Int):=by rw [aA (by omega) (by omega)];omega
   have hsp:x=x.take (x.length - 1)++[x[x.length - 1]'(by omega)]:=by
    have:=afN (x.length - 1) x
    rw [aeR (by omega),aeT (by omega)] at this
    exact this.symm
   rw [aE (by omega),e1,bh,aH (by omega)]
   simp only [aeF,aeU,Option.bind_some]
   by_cases hz:x[x.length - 1]'(by omega)=0
   ·rw [hz] at hsp ⊢
    rw [aJ (by simp only [ad5,decide_eq_true_eq];omega)]
    simp only [agA,cond_true]
    rw [ih (List.take (x.length - 1) x,()) (by simp only [afk];omega) (by simp only [afk];omega)]
    conv=>rhs;rw [hsp,Eh]
   ·have:(x[x.length - 1]'(by omega)==0)=false:=by simp [hz]
    rw [this]
    simp only [cond_false]
    conv=>rhs;rw [hsp,HL hz]
    rw [← hsp]
 unfold qQ
 rw [key _ _ (by simpa using hl) (by simp)]
 rfl
def W (z:Int):aa:=(decide (z<0),bE z.natAbs)
theorem ki (b:Bool) (l:List Int) (hd:Dg l) (hl:l.length<1000000):ji b l=some (W (if b then -v32 l else v32 l),()):=by
 unfold ji
 rw [Bc l hl,WQ hd]
 have h0:=CQ hd
 simp only [Option.bind_some]
 cases b with
 | false=>simp only [cond_false,W];rw [show (decide ((if false=true then -v32 l else v32 l)<0))=false by simp;omega];congr 4;simp;omega
 | true=>
  simp only [cond_true,W]
  congr 3
  ·by_cases hv:v32 l=0
   ·simp [hv,Qf]
   ·have hpos:0<v32 l:=by omega
    have:bE (v32 l).toNat≠[]:=R4 (by omega)
    have hlen:0<(bE (v32 l).toNat).length:=by
     cases h:bE (v32 l).toNat with
     | nil=>exact absurd h this
     | cons a t=>simp
    simp;omega
  ·congr 1;simp;omega
theorem fX (n:Int) (h1: -9223372036854775808≤n) (h2:n≤9223372036854775807):bH n=some (W n,()):=by
 unfold bH
 have key:∀ u:Int,0≤u→u≤9223372036854775808→ji (decide (n<0)) [nW u,nW (Int.fdiv u (2 ^ 32))]=some (W (if decide (n<0) then -u else u),()):=by
  intro u hu0 hu1
  have e:Int.fdiv u (2 ^ 32)=u / 4294967296:=by rw [aem _ (by omega)];rfl
  rw [e,D8,D8]
  have hd:Dg [u % 4294967296,u / 4294967296 % 4294967296]:=Dig.cons (by omega) (Dig.cons (by omega) Dig.nil)
  rw [ki _ _ hd (by simp)]
  have hv:v32 [u % 4294967296,u / 4294967296 % 4294967296]=u:=by simp only [I6,DV];omega
  rw [hv]
 by_cases hn:n<0
 ·have e1:bV (0 - bV n)= -n:=by rw [Ir,Ir];omega
  rw [show decide (n<0)=true by simpa using hn] at key ⊢
  simp only [cond_true,aP]
  rw [e1]
  rw [show decide (n<0)=true by simpa using hn]
  rw [key (-n) (by omega) (by omega)]
  simp
 ·have e1:bV n=n:=dW (by omega) (by omega)
  rw [show decide (n<0)=false by simpa using hn] at key ⊢
  simp only [cond_false,aP]
  rw [e1]
  rw [show decide (n<0)=false by simpa using hn]
  rw [key n (by omega) (by omega)]
  simp
theorem sF (z:Int):aM (W z)=some (z.sign,()):=by
 unfold aM W
 by_cases h:z<0
 ·simp [h,aez h]
 ·by_cases h0:z=0
  ·subst h0;simp [Qf]
  ·have hp:0<z:=by omega
   have:bE z.natAbs≠[]:=R4 (by omega)
   have hlen:((bE z.natAbs).length:Int)≠0:=by
    intro h;exact this (aeV (by omega))
   have hb:(((bE z.natAbs).length:Int)==0)=false:=by simpa using hlen
   simp only [h,agF,cond_false,hb,aeA hp]
theorem acI {z:Int} {k:Nat} (h:z.natAbs<4294967296 ^ k):(W z).2.length≤k:=uC h
theorem F3 (z:Int) (h:z.natAbs<4294967296 ^ 99):aL (W z)=some (W (-z),()):=by
 unfold aL
 have hl:=acI h
 rw [ki _ (W z).2 (eF _) (by omega)]
 simp only [Option.bind_some]
 congr 3
 simp only [W,eI]
 by_cases hz:z<0
 ·simp [hz];omega
 ·simp [hz];omega
theorem Ak {α:Type} {l:List α} {i:Nat} {y:α} (h:l[i]? =some y):l.take (i+1)=l.take i++[y]:=by
 rw [afM,h];rfl
theorem kr {l:List Int} {i:Nat} {y:Int} (h:l[i]? =some y):v32 (l.take (i+1))=v32 (l.take i)+4294967296 ^ i*y:=by
 have hi:=(List.getElem?_eq_some_iff.1 h).1
 rw [Ak h,Mq,afk,af9 (by omega)]
theorem NZ {l:List Int} {i:Nat} (h:l.length≤i):v32 (l.take (i+1))=v32 (l.take i):=by
 rw [afP h,afP (by omega)]
theorem Yg {u:Int}:Int.fdiv u (2 ^ 32)=u / 4294967296:=by rw [aem _ (by omega)];rfl
theorem Ve (a b:List Int) (ha:Dg a) (hb:Dg b) (hla:a.length<100000) (hlb:b.length≤a.length) (n:Nat) (hn:a.length<n):
 ∃ out c,iter (X:=xF) (β:=x3) n (b,[],0,a,(a.length:Int),0,()) xP=some (Sum.inr (out,c,()))∧Dg out∧0≤c∧c≤1∧out.length=a.length∧v32 out+4294967296 ^ a.length*c=v32 a+v32 b:=by
 refine bn (Inv:=fun i x=>∃ out c,x=(b,out,c,a,(a.length:Int),(i:Int),())∧Dg out∧0≤c∧c≤1∧out.length=i∧v32 out+4294967296 ^ i*c=v32 (a.take i)+v32 (b.take i)) a.length
  (fun r=>∃ out c,r=some (Sum.inr (out,c,()))∧Dg out∧0≤c∧c≤1∧out.length=a.length∧v32 out+4294967296 ^ a.length*c=v32 a+v32 b) ?_ ?_ n 0 _ ⟨[],0,rfl,Dig.nil,by omega,by omega,rfl,by simp [DV]⟩ (by omega) (by omega)
 ·rintro i _ again hi ⟨out,c,rfl,hd,hc0,hc1,hlen,hv⟩ ih
  unfold xP
  simp only
  have hy:a[i]? =some a[i]:=aH hi
  have hyd:=ha.get hy
  generalize a[i]=y at hy hyd
  rw [aE (by omega),bh,hy,Option.bind_some]
  have step:∀ z:Int,0≤z→z<4294967296→v32 (b.take (i+1))=v32 (b.take i)+4294967296 ^ i*z→
   ∃ out' c',again (b,out++[nW (bV (bV (c+bV y)+bV z))],Int.fdiv (bV (bV (c+bV y)+bV z)) (2 ^ 32),a,(a.length:Int),w64 ((i:Int)+1),())=some (Sum.inr (out',c',()))∧Dg out'∧0≤c'∧c'≤1∧out'.length=a.length∧v32 out'+4294967296 ^ a.length*c'=v32 a+v32 b:=by
   intro z hz0 hz1 hbz
   have e1:bV (bV (c+bV y)+bV z)=c+y+z:=by
    rw [dW (n:=y) (by omega) (by omega),dW (n:=z) (by omega) (by omega),dW (n:=c+y) (by omega) (by omega),dW (by omega) (by omega)]
   rw [e1,D8,Yg,aA (by omega) (by omega)]
   refine ih _ ⟨_,_,rfl,hd.snoc (by omega),by omega,by omega,by simp [hlen], ?_⟩
   rw [Mq,hlen,kr hy,hbz,aey]
   have hm:=Int.mul_ediv_add_emod (c+y+z) 4294967296
   have:(4294967296:Int) ^ i*((c+y+z) % 4294967296)+4294967296 ^ i*4294967296*((c+y+z) / 4294967296)=4294967296 ^ i*(c+y+z):=by
    rw [aeo, ← aen];congr 1;omega
   rw [aen,aen] at this
   omega
  by_cases hib:i<b.length
  ·have hz:b[i]? =some b[i]:=aH hib
   rw [aE (by omega),bh,hz,Option.bind_some]
   simp only [aG]
   rw [aJ (fY (by omega) (by omega))]
   exact step b[i] (hb.get hz).1 (hb.get hz).2 (kr hz)
  ·rw [aF (by omega)]
   simp only [aG]
   rw [aJ (fY (by omega) (by omega))]
   have:=step 0 (by omega) (by omega) (by rw [NZ (by omega)];omega)
   have e0:bV (bV (c+bV y)+bV 0)=bV (c+bV y):=by
    rw [dW (n:=y) (by omega) (by omega),dW (n:=(0:Int)) (by omega) (by omega),dW (n:=c+y) (by omega) (by omega),dW (by omega) (by omega)];omega
   rw [e0] at this
   exact this
 ·rintro _ again ⟨out,c,rfl,hd,hc0,hc1,hlen,hv⟩
  unfold xP
  simp only
  rw [aF (by omega)]
  rw [afP (af0 _),afP hlb] at hv
  exact ⟨out,c,rfl,hd,hc0,hc1,hlen,hv⟩
theorem OR (a b:List Int) (ha:Dg a) (hb:Dg b) (hla:a.length<100000) (hlb:b.length<100000):
 ∃ s,Fk a b=some (s,())∧Dg s∧v32 s=v32 a+v32 b∧s.length=max a.length b.length+1:=by
 have core:∀ (a b:List Int),Dg a→Dg b→a.length<100000→b.length≤a.length→∃ s,(chk (decide (0≤(0:Int))&&decide ((0:Int)≤(w64 (((List.length a:Int))+1)))&&decide ((4:Int)*(w64 (((List.length a:Int))+1))≤281474976710656)&&decide ((w64 (((List.length a:Int))+1))≤9223372036854775807)) <|
 aP (β:=((List Int)×Unit)) (γ:=((List Int)×Int×Unit)) (
  iter (X:=xF) (β:=x3) (List.length b+(List.length ([]:List Int)+(Int.natAbs (0:Int)+(List.length a+(Int.natAbs ((List.length a:Int))+(Int.natAbs (0:Int)+2)))))) (b,[],0,a,(List.length a:Int),0,()) (xP)) fun v7=>
 chk (decide (((v7.1.length)+1)*4≤140737488355328)&&decide ((v7.1.length)+1≤maxLen)) <|
 some (v7.1++[(nW v7.2.1)],()))=some (s,())∧Dg s∧v32 s=v32 a+v32 b∧s.length=a.length+1:=by
  intro a b ha hb hla hlb
  obtain ⟨out,c,h1,h2,h3,h4,h5,h6⟩:=Ve a b ha hb hla hlb _ (show a.length<List.length b+(List.length ([]:List Int)+(Int.natAbs (0:Int)+(List.length a+(Int.natAbs ((List.length a:Int))+(Int.natAbs (0:Int)+2))))) by omega)
  rw [h1,aG,aA (by omega) (by omega),aJ (by simp only [ad5,decide_eq_true_eq];omega)]
  simp only
  rw [aJ (fY (by omega) (by omega))]
  refine ⟨_,rfl,h2.snoc ?_, ?_,by simp [h5]⟩
  ·rw [D9 (by omega) (by omega)];omega
  ·rw [D9 (by omega) (by omega),Mq,h5];exact h6
 unfold Fk
 by_cases h:a.length<b.length
 ·rw [aE (by omega),aG]
  obtain ⟨s,h1,h2,h3,h4⟩:=core b a hb ha hlb (by omega)
  exact ⟨s,h1,h2,by omega,by omega⟩
 ·rw [aF (by omega),aG]
  obtain ⟨s,h1,h2,h3,h4⟩:=core a b ha hb hla (by omega)
  exact ⟨s,h1,h2,by omega,by omega⟩
theorem S5 (a b:List Int) (ha:Dg a) (hb:Dg b) (hla:a.length<100000) (hlb:b.length≤a.length) (n:Nat) (hn:a.length<n):
 ∃ out c,iter (X:=AL) (β:=Ai) n (b,[],0,a,(a.length:Int),0,()) AI=some (Sum.inr (out,()))∧Dg out∧0≤c∧c≤1∧out.length=a.length∧v32 out=v32 a - v32 b+4294967296 ^ a.length*c:=by
 refine bn (Inv:=fun i x=>∃ out c,x=(b,out,c,a,(a.length:Int),(i:Int),())∧Dg out∧0≤c∧c≤1∧out.length=i∧v32 out=v32 (a.take i) - v32 (b.take i)+4294967296 ^ i*c) a.length
  (fun r=>∃ out c,r=some (Sum.inr (out,()))∧Dg out∧0≤c∧c≤1∧out.length=a.length∧v32 out=v32 a - v32 b+4294967296 ^ a.length*c) ?_ ?_ n 0 _ ⟨[],0,rfl,Dig.nil,by omega,by omega,rfl,by simp [DV]⟩ (by omega) (by omega)
 ·rintro i _ again hi ⟨out,c,rfl,hd,hc0,hc1,hlen,hv⟩ ih
  unfold AI
  simp only
  have hy:a[i]? =some a[i]:=aH hi
  have hyd:=ha.get hy
  generalize a[i]=y at hy hyd
  rw [aE (by omega),bh,hy,Option.bind_some]
  have step:∀ z:Int,0≤z→z<4294967296→v32 (b.take (i+1))=v32 (b.take i)+4294967296 ^ i*z→∀ t:Int,t=(y - c - z) % 18446744073709551616→
   ∃ out' c',again (b,out++[nW t],bV (((BitVec.ofInt (IntKind.bits .u64) (Int.fdiv t (2 ^ 32)) &&& BitVec.ofInt (IntKind.bits .u64) 1).toNat:Int)),a,(a.length:Int),w64 ((i:Int)+1),())=some (Sum.inr (out',()))∧Dg out'∧0≤c'∧c'≤1∧out'.length=a.length∧v32 out'=v32 a - v32 b+4294967296 ^ a.length*c':=by
   intro z hz0 hz1 hbz t ht
   have e2:bV (((BitVec.ofInt (IntKind.bits .u64) (Int.fdiv t (2 ^ 32)) &&& BitVec.ofInt (IntKind.bits .u64) 1).toNat:Int))=(if y - c - z<0 then 1 else 0):=by
    rw [Yg]
    have h1:t / 4294967296=(if y - c - z<0 then 4294967295 else 0):=by split<;>omega
    rw [h1]
    split<;>rfl
   rw [e2,D8,aA (by omega) (by omega)]
   refine ih _ ⟨_,_,rfl,hd.snoc (by omega),by split<;>omega,by split<;>omega,by simp [hlen], ?_⟩
   rw [Mq,hlen,kr hy,hbz,aey,hv]
   have e3:t % 4294967296=y - c - z+4294967296*(if y - c - z<0 then 1 else 0):=by split<;>omega
   rw [e3]
   generalize (if y - c - z<0 then (1:Int) else 0)=q
   generalize (4294967296:Int) ^ i=p
   rw [aen,aet,aet,aeo]
   omega
  by_cases hib:i<b.length
  ·have hz:b[i]? =some b[i]:=aH hib
   rw [aE (by omega),bh,hz,Option.bind_some]
   simp only [aG]
   rw [aJ (fY (by omega) (by omega))]
   have hz':=hb.get hz
   refine step b[i] hz'.1 hz'.2 (kr hz) _ ?_
   rw [dW (n:=y) (by omega) (by omega),dW (n:=b[i]) (by omega) (by omega),Ir,Ir]
   omega
  ·rw [aF (by omega)]
   simp only [aG]
   rw [aJ (fY (by omega) (by omega))]
   refine step 0 (by omega) (by omega) (by rw [NZ (by omega)];omega) _ ?_
   rw [dW (n:=y) (by omega) (by omega),Ir]
   omega
 ·rintro _ again ⟨out,c,rfl,hd,hc0,hc1,hlen,hv⟩
  unfold AI
  simp only
  rw [aF (by omega)]
  rw [afP (af0 _),afP hlb] at hv
  exact ⟨out,c,rfl,hd,hc0,hc1,hlen,hv⟩
theorem Gn (a b:List Int) (ha:Dg a) (hb:Dg b) (hla:a.length<100000) (hlb:b.length≤a.length) (hle:v32 b≤v32 a):yj a b=some (bE (v32 a - v32 b).toNat,()):=by
 unfold yj
 obtain ⟨out,c,h1,h2,h3,h4,h5,h6⟩:=S5 a b ha hb hla hlb _ (show a.length<List.length b+(List.length ([]:List Int)+(Int.natAbs (0:Int)+(List.length a+(Int.natAbs ((List.length a:Int))+(Int.natAbs (0:Int)+2))))) by omega)
 rw [h1,aG,aJ (by simp only [ad5,decide_eq_true_eq];omega)]
 simp only
 rw [Bc _ (by omega),WQ h2,Option.bind_some]
 have h7:=Li h2
 rw [h5] at h7
 have h8:c=0:=by
  rcases (show c=0∨c=1 by omega) with h | h
  ·exact h
  ·subst h;rw [aes] at h6;omega
 subst h8
 rw [h6,Int.mul_zero,ael]
theorem Pr (a b:List Int) (ha:Dg a) (hb:Dg b) (hab:a.length=b.length) (hla:a.length<100000):∀ (n k:Nat),k≤a.length→k<n→
 iter (X:=uF) (β:=uP) n (a,b,(k:Int) - 1,()) pV=if v32 (a.take k)<v32 (b.take k) then some (Sum.inl ((-1),())) else if v32 (b.take k)<v32 (a.take k) then some (Sum.inl (1,())) else some (Sum.inr ()):=by
 intro n
 induction n with
 | zero=>intro k _ h;omega
 | succ n ih=>
  intro k hk hn
  rw [eS]
  generalize hag:(fun y=>iter n y pV)=again
  unfold pV
  simp only
  cases k with
  | zero=>simp [DV]
  | succ k=>
   rw [aE (by omega),show ((k+1:Nat):Int) - 1=(k:Int) by omega,bh,bh]
   have hx:a[k]? =some a[k]:=aH (by omega)
   have hy:b[k]? =some b[k]:=aH (by omega)
   rw [hx,hy]
   simp only [Option.bind_some]
   rw [kr hx,kr hy]
   have h1:=Li (ha.take k)
   have h2:=Li (hb.take k)
   have h3:=CQ (ha.take k)
   have h4:=CQ (hb.take k)
   rw [afk,af9 (by omega)] at h1 h2
   generalize a[k]=x
   generalize b[k]=y
   by_cases hxy:x=y
   ·subst hxy
    simp only [agB,cond_false]
    rw [aA (by omega) (by omega), ← hag]
    show iter n (a,b,(k:Int) - 1,()) pV=_
    rw [ih k (by omega) (by omega)]
    congr 1
    ·simp
    ·congr 1;simp
   ·have hne:(x != y)=true:=by simp [hxy]
    rw [hne]
    simp only [cond_true]
    by_cases hlt:x<y
    ·rw [aE hlt,if_pos]
     have:(4294967296:Int) ^ k*(x+1)≤4294967296 ^ k*y:=aep (by omega) (by omega)
     rw [aen,aes] at this
     omega
    ·rw [aF hlt]
     have:(4294967296:Int) ^ k*(y+1)≤4294967296 ^ k*x:=aep (by omega) (by omega)
     rw [aen,aes] at this
     rw [if_neg (by omega),if_pos (by omega)]
theorem IN (m n:Nat) (hm:(bE m).length<100000) (hn:(bE n).length<100000):∃ c,vj (bE m) (bE n)=some (c,())∧(c<0↔m<n)∧(0<c↔n<m):=by
 unfold vj
 by_cases h:(bE m).length=(bE n).length
 ·have hb:(((bE m).length:Int) != ((bE n).length:Int))=false:=by simp [h]
  rw [hb]
  simp only [cond_false]
  by_cases h0:(bE m).length=0
  ·have hm0:m=0:=RY.1 (aeV h0)
   have hn0:n=0:=RY.1 (aeV (by omega))
   subst hm0;subst hn0
   exact ⟨0,rfl,by simp,by simp⟩
  ·have e1:w64 (((bE m).length:Int) - 1)=(((bE m).length:Nat):Int) - 1:=aA (by omega) (by omega)
   rw [e1,Pr _ _ (eF m) (eF n) h hm _ _ (af0 _) (by omega),afP (af0 _),afP (by omega),eI,eI]
   by_cases h1:m<n
   ·rw [if_pos (by omega),eV];exact ⟨-1,rfl,by omega,by omega⟩
   ·by_cases h2:n<m
    ·rw [if_neg (by omega),if_pos (by omega),eV];exact ⟨1,rfl,by omega,by omega⟩
    ·rw [if_neg (by omega),if_neg (by omega),aG];exact ⟨0,rfl,by omega,by omega⟩
 ·have hb:(((bE m).length:Int) != ((bE n).length:Int))=true:=by simp;omega
  rw [hb]
  simp only [cond_true]
  rw [aA (by omega) (by omega)]
  refine ⟨_,rfl, ?_, ?_⟩
  ·constructor
   ·intro h1;exact pn (by omega)
   ·intro h1
    rcases af5 h with h2 | h2
    ·omega
    ·have:=pn (m:=n) (n:=m) h2;omega
  ·constructor
   ·intro h1;exact pn (by omega)
   ·intro h1
    rcases af5 h with h2 | h2
    ·have:=pn (m:=m) (n:=n) h2;omega
    ·omega
end Go.Md
namespace Go.Md
open Go.Dn
theorem WJ (w:Nat) {a b:Nat} (ha:a<2 ^ w) (hb:b<2 ^ w):((BitVec.ofInt w (a:Int) ||| BitVec.ofInt w (b:Int)).toNat:Int)=((a ||| b:Nat):Int):=by
 rw [ad3,ad3,BitVec.toNat_or,ad4,ad4,aga ha,aga hb]
theorem bv_and (w:Nat) {a b:Nat} (ha:a<2 ^ w) (hb:b<2 ^ w):((BitVec.ofInt w (a:Int) &&& BitVec.ofInt w (b:Int)).toNat:Int)=((a &&& b:Nat):Int):=by
 rw [ad3,ad3,BitVec.toNat_and,ad4,ad4,aga ha,aga hb]
theorem Xh {a k b:Nat} (hb:b<2 ^ k):(2 ^ k*a) ||| b=2 ^ k*a+b:=(Nat.two_pow_add_eq_or_of_lt hb a).symm
theorem Uw {l:List Int} (h:Dg l) {i:Nat} {y:Int} (hi:l[i]? =some y):y=v32 l / 4294967296 ^ i % 4294967296:=by
 have hlt:=(List.getElem?_eq_some_iff.1 hi).1
 have e:l=l.take i++(y::l.drop (i+1)):=by
  have:=afN i l
  rw [aeR hlt,(List.getElem?_eq_some_iff.1 hi).2] at this
  exact this.symm
 have hd:=h.get hi
 have h1:=Li (h.take i)
 have h2:=CQ (h.take i)
 rw [afk,af9 (by omega)] at h1
 have hv:v32 l=v32 (l.take i)+4294967296 ^ i*(y+4294967296*v32 (l.drop (i+1))):=by
  conv=>lhs;rw [e]
  rw [Mf,afk,af9 (by omega),I6]
 rw [hv,Int.add_mul_ediv_left _ _ (by omega),Int.ediv_eq_zero_of_lt h2 h1,Int.zero_add,Int.add_mul_emod_self_left,Int.emod_eq_of_lt hd.1 hd.2]
theorem Qm {l:List Int} {i:Nat} {y z:Int} (hi:l[i]? =some y):v32 (l.set i z)=v32 l+4294967296 ^ i*(z - y):=by
 have hlt:=(List.getElem?_eq_some_iff.1 hi).1
 have e:l=l.take i++(y::l.drop (i+1)):=by
  have:=afN i l
  rw [aeR hlt,(List.getElem?_eq_some_iff.1 hi).2] at this
  exact this.symm
 have e2:l.set i z=l.take i++(z::l.drop (i+1)):=by rw [List.set_eq_take_append_cons_drop,if_pos hlt]
 rw [e2]
 conv=>rhs;rw [e]
 rw [Mf,Mf,I6,I6,afk,af9 (by omega)]
 have:(4294967296:Int) ^ i*(z+4294967296*v32 (l.drop (i+1)))=4294967296 ^ i*(y+4294967296*v32 (l.drop (i+1)))+4294967296 ^ i*(z - y):=by rw [← aen];congr 1;omega
 omega
theorem Dig.set {B:Int} {l:List Int} (h:Dig B l) {i:Nat} {z:Int} (hz:0≤z∧z<B):Dig B (l.set i z):=fun x hx=>by
 rcases afy hx with hx | rfl
 ·exact h x hx
 ·exact hz
theorem ZR (y:Nat) (j:Nat) (hy:y<4294967296):nW (((BitVec.ofInt (IntKind.bits .u32) (Int.fdiv (y:Int) (2 ^ (min j (IntKind.bits .u32)))) &&& BitVec.ofInt (IntKind.bits .u32) 1).toNat:Int))=((y / 2 ^ (min j 32) % 2:Nat):Int):=by
 have e1:Int.fdiv (y:Int) (2 ^ (min j (IntKind.bits .u32)))=((y / 2 ^ (min j 32):Nat):Int):=by
  have:((2:Int) ^ (min j 32))=((2 ^ (min j 32):Nat):Int):=by simp
  rw [show IntKind.bits .u32=32 from rfl,this,aem _ (aew _)]
  simp
 rw [e1]
 have hlt:y / 2 ^ (min j 32)<2 ^ 32:=af2 (afV _ _) hy
 have:=bv_and (IntKind.bits .u32) (a:=y / 2 ^ (min j 32)) (b:=1) hlt (by decide)
 rw [show ((1:Nat):Int)=1 from rfl] at this
 rw [this,Nat.and_one_is_mod]
 exact D9 (by omega) (by omega)
theorem Wh (a b:Nat) (hb:0<b) (na:Bool) (nb:Bool) (ha:(bE a).length<1000) (hlb:(bE b).length<1000) (g1:Bool) (g2:List Int) (g3:Bool) (g4:List Int):∀ (n k:Nat) (q:List Int),k≤32*(bE a).length→k<n→Dg q→q.length=(bE a).length→v32 q=((a / 2 ^ k / b*2 ^ k:Nat):Int)→
 ∃ q',iter (X:=vS) (β:=vX) n (bE (a / 2 ^ k % b),(k:Int) - 1,na,bE a,nb,bE b,g1,g2,g3,g4,q,()) wu=some (Sum.inr (bE (a % b),g1,g2,g3,g4,q',()))∧Dg q'∧q'.length=(bE a).length∧v32 q'=((a / b:Nat):Int):=by
 intro n
 induction n with
 | zero=>intro k q _ h;omega
 | succ n ih=>
  intro k q hk hn hq hql hqv
  rw [eS]
  generalize hag:(fun y=>iter n y wu)=again
  unfold wu
  simp only
  cases k with
  | zero=>
   rw [aF (by omega)]
   refine ⟨q, ?_,hq,hql,by simpa using hqv⟩
   simp
  | succ k=>
   rw [aE (by omega),show ((k+1:Nat):Int) - 1=(k:Int) by omega]
   have hR:a / 2 ^ (k+1) % b<b:=agb _ hb
   have hRl:(bE (a / 2 ^ (k+1) % b)).length≤(bE b).length:=by
    rcases af4 (bE b).length (bE (a / 2 ^ (k+1) % b)).length with h | h
    ·have:=pn h;omega
    ·exact h
   obtain ⟨s,hs1,hs2,hs3,hs4⟩:=OR _ _ (eF (a / 2 ^ (k+1) % b)) (eF (a / 2 ^ (k+1) % b)) (by omega) (by omega)
   rw [hs1]
   simp only [Option.bind_some]
   have hs0:s[0]? =some s[0]:=aH (by omega)
   have hs0d:=hs2.get hs0
   have hs0v:=Uw hs2 hs0
   rw [eI] at hs3
   generalize s[0]'(by omega)=y3 at hs0 hs0d hs0v
   rw [aJ (by simp only [ad5,decide_eq_true_eq];omega),hs0]
   simp only [Option.bind_some]
   have hk32:k / 32<(bE a).length:=by omega
   have e5:w64 (Int.tdiv (k:Int) 32)=((k / 32:Nat):Int):=by
    rw [aeD (by omega),aA (by omega) (by omega)];omega
   have e6:Int.tmod (k:Int) 32=((k % 32:Nat):Int):=by rw [aeE (by omega)];omega
   have hy4:(bE a)[k / 32]? =some ((bE a)[k / 32]):=aH hk32
   have hy4d:=(eF a).get hy4
   have hy4v:=Uw (eF a) hy4
   rw [eI] at hy4v
   generalize (bE a)[k / 32]=y4 at hy4 hy4d hy4v
   obtain ⟨m4,rfl⟩:∃ m:Nat,y4=m:=⟨y4.toNat,by omega⟩
   rw [e5,e6,bh,hy4]
   simp only [Option.bind_some]
   rw [aJ (by simp only [decide_eq_true_eq];omega)]
   simp only [aeF]
   rw [ZR m4 (k % 32) (by omega)]
   have hbit:m4 / 2 ^ (min (k % 32) 32) % 2=a / 2 ^ k % 2:=by
    have h1:m4=a / 4294967296 ^ (k / 32) % 4294967296:=by
     have h2:((a:Int) / 4294967296 ^ (k / 32) % 4294967296)=((a / 4294967296 ^ (k / 32) % 4294967296:Nat):Int):=by simp
     rw [h2] at hy4v;omega
    have h3:(4294967296:Nat) ^ (k / 32)=2 ^ (32*(k / 32)):=by rw [Nat.pow_mul]
    rw [h1,af9 (by omega),h3]
    have h4:(4294967296:Nat)=2 ^ (k % 32)*2 ^ (32 - k % 32):=by rw [← agi];rw [show k % 32+(32 - k % 32)=32 by omega]
    rw [show a / 2 ^ (32*(k / 32)) % 4294967296=a / 2 ^ (32*(k / 32)) % (2 ^ (k % 32)*2 ^ (32 - k % 32)) by rw [← h4],Nat.mod_mul_right_div_self,Nat.div_div_eq_div_mul, ← agi,show 32*(k / 32)+k % 32=k by omega]
    have h5:(2:Nat) ∣ 2 ^ (32 - k % 32):=by
     rw [show 32 - k % 32=(31 - k % 32)+1 by omega,agl];exact Nat.dvd_mul_left _ _
    exact Nat.mod_mod_of_dvd _ h5
   rw [hbit,aJ (by simp only [ad5,decide_eq_true_eq];omega)]
   obtain ⟨m3,rfl⟩:∃ m:Nat,y3=m:=⟨y3.toNat,by omega⟩
   have hev:m3 % 2=0:=by
    have h1:v32 s / 4294967296 ^ 0 % 4294967296=v32 s % 4294967296:=by simp
    rw [h1,hs3] at hs0v
    omega
   have hor:nW (((BitVec.ofInt (IntKind.bits .u32) (m3:Int) ||| BitVec.ofInt (IntKind.bits .u32) ((a / 2 ^ k % 2:Nat):Int)).toNat:Int))=((m3+a / 2 ^ k % 2:Nat):Int):=by
    rw [WJ (IntKind.bits .u32) (by show m3<2 ^ 32;omega) (by show a / 2 ^ k % 2<2 ^ 32;omega)]
    have h1:m3=2 ^ 1*(m3 / 2):=by omega
    have h2:m3 ||| (a / 2 ^ k % 2)=m3+a / 2 ^ k % 2:=by
     conv=>lhs;rw [h1]
     rw [Xh (by omega)];omega
    rw [h2];exact D9 (by omega) (by omega)
   rw [hor]
   rw [Bc _ (by simp only [afj];omega),WQ (hs2.set (by omega)),Qm hs0,hs3]
   simp only [Option.bind_some]
   have hr2:(((a / 2 ^ (k+1) % b:Nat):Int)+((a / 2 ^ (k+1) % b:Nat):Int)+4294967296 ^ 0*(((m3+a / 2 ^ k % 2:Nat):Int) - (m3:Int))).toNat=2*(a / 2 ^ (k+1) % b)+a / 2 ^ k % 2:=by
    rw [Int.pow_zero];omega
   rw [hr2]
   have htop:a / 2 ^ k=2*(a / 2 ^ (k+1))+a / 2 ^ k % 2:=by
    rw [agl, ← Nat.div_div_eq_div_mul];omega
   generalize hT:a / 2 ^ (k+1)=T at*
   generalize hbt:a / 2 ^ k % 2=bt at*
   have hbt2:bt<2:=by omega
   have hr3l:(bE (2*(T % b)+bt)).length≤(bE b).length+1:=by
    rcases af4 ((bE b).length+1) (bE (2*(T % b)+bt)).length with h | h
    ·exfalso
     have h1:bE (4294967296*b)=0::bE b:=by
      have:=MX (B:=4294967296) (by omega) (d:=0) (n:=b) (by omega) (by omega)
      simpa [bE] using this
     have h2:(bE (4294967296*b)).length<(bE (2*(T % b)+bt)).length:=by rw [h1];simpa using h
     have:=pn h2
     omega
    ·exact h
   obtain ⟨c,hc1,hc2,hc3⟩:=IN (2*(T % b)+bt) b (by omega) (by omega)
   rw [hc1]
   simp only [Option.bind_some]
   have hdm:=Nat.div_add_mod T b
   by_cases hge:b≤2*(T % b)+bt
   ·rw [aE (by omega)]
    have hlen2:(bE b).length≤(bE (2*(T % b)+bt)).length:=by
     rcases af4 (bE (2*(T % b)+bt)).length (bE b).length with h | h
     ·have:=pn h;omega
     ·exact h
    rw [Gn _ _ (eF _) (eF _) (by omega) hlen2 (by rw [eI,eI];omega),eI,eI]
    simp only [Option.bind_some]
    rw [aJ (by simp only [ad5,decide_eq_true_eq];omega)]
    have hy9:q[k / 32]? =some (q[k / 32]'(by omega)):=aH (by omega)
    have hy9d:=hq.get hy9
    have hy9v:=Uw hq hy9
    rw [hqv] at hy9v
    generalize q[k / 32]'(by omega)=y9 at hy9 hy9d hy9v
    obtain ⟨m9,rfl⟩:∃ m:Nat,y9=m:=⟨y9.toNat,by omega⟩
    rw [hy9]
    simp only [Option.bind_some]
    rw [aJ (by simp only [decide_eq_true_eq];omega),aJ (by simp only [ad5,decide_eq_true_eq];omega)]
    have h9:m9=T / b*2 ^ (k+1) / 4294967296 ^ (k / 32) % 4294967296:=by
     have h2:(((T / b*2 ^ (k+1):Nat):Int) / 4294967296 ^ (k / 32) % 4294967296)=((T / b*2 ^ (k+1) / 4294967296 ^ (k / 32) % 4294967296:Nat):Int):=by simp
     rw [h2] at hy9v;omega
    have h3:(4294967296:Nat) ^ (k / 32)=2 ^ (32*(k / 32)):=by rw [Nat.pow_mul]
    have h9d:2 ^ (k % 32+1) ∣ m9:=by
     rw [h9,h3]
     have e1:T / b*2 ^ (k+1) / 2 ^ (32*(k / 32))=T / b*2 ^ (k % 32+1):=by
      rw [show k+1=(k % 32+1)+32*(k / 32) by omega,agi, ← Nat.mul_assoc,Nat.mul_div_cancel _ (agk (by omega))]
     rw [e1]
     have h4:(4294967296:Nat)=2 ^ (k % 32+1)*2 ^ (31 - k % 32):=by rw [← agi];rw [show k % 32+1+(31 - k % 32)=32 by omega]
     exact (Nat.dvd_mod_iff (by rw [h4];exact Nat.dvd_mul_right _ _)).2 (Nat.dvd_mul_left _ _)
    have hsh:nW (1*2 ^ (min (k % 32) (IntKind.bits .u32)))=((2 ^ (k % 32):Nat):Int):=by
     rw [show IntKind.bits .u32=32 from rfl,af9 (by omega),Int.one_mul,show ((2:Int) ^ (k % 32))=((2 ^ (k % 32):Nat):Int) by simp]
     have:2 ^ (k % 32)≤2 ^ 31:=agj (by omega) (by omega)
     exact D9 (by omega) (by omega)
    have hp31:2 ^ (k % 32)≤2 ^ 31:=agj (by omega) (by omega)
    obtain ⟨e9,he9⟩:=h9d
    have hor2:nW (((BitVec.ofInt (IntKind.bits .u32) (m9:Int) ||| BitVec.ofInt (IntKind.bits .u32) ((2 ^ (k % 32):Nat):Int)).toNat:Int))=((m9+2 ^ (k % 32):Nat):Int):=by
     rw [WJ (IntKind.bits .u32) (by show m9<2 ^ 32;omega) (by show 2 ^ (k % 32)<2 ^ 32;omega)]
     have h2:m9 ||| 2 ^ (k % 32)=m9+2 ^ (k % 32):=by rw [he9,Xh (Nat.pow_lt_pow_right (by omega) (by omega))]
     rw [h2]
     refine D9 (by omega) ?_
     have h5:2 ^ (k % 32+1)*e9+2 ^ (k % 32)≤4294967295:=by
      have h4:(4294967296:Nat)=2 ^ (k % 32+1)*2 ^ (31 - k % 32):=by rw [← agi];rw [show k % 32+1+(31 - k % 32)=32 by omega]
      have h6:e9<2 ^ (31 - k % 32):=by
       rcases af4 e9 (2 ^ (31 - k % 32)) with h | h
       ·exact h
       ·have:=agd (2 ^ (k % 32+1)) h;omega
      have h7:=agd (2 ^ (k % 32+1)) (show e9+1≤2 ^ (31 - k % 32) by omega)
      rw [Nat.mul_add,Nat.mul_one, ← h4] at h7
      have h8:2 ^ (k % 32+1)=2*2 ^ (k % 32):=by rw [agl,agc]
      omega
     omega
    have hz9:m9+2 ^ (k % 32)<4294967296:=by
     have:=D8 (((BitVec.ofInt (IntKind.bits .u32) (m9:Int) ||| BitVec.ofInt (IntKind.bits .u32) ((2 ^ (k % 32):Nat):Int)).toNat:Int))
     rw [hor2] at this;omega
    rw [hsh,hor2,aA (by omega) (by omega), ← hag]
    have hTk:a / 2 ^ k / b=2*(T / b)+1∧a / 2 ^ k % b=2*(T % b)+bt - b:=by
     have h1:a / 2 ^ k=b*(2*(T / b)+1)+(2*(T % b)+bt - b):=by
      rw [htop,Nat.mul_add,Nat.mul_one,show b*(2*(T / b))=2*(b*(T / b)) by rw [Nat.mul_left_comm]];omega
     have h2:2*(T % b)+bt - b<b:=by have:=agb T hb;omega
     rw [h1]
     exact ⟨by rw [Nat.mul_add_div hb,afU h2,afT],by rw [Nat.mul_add_mod,aga h2]⟩
    have hih:=ih k (q.set (k / 32) ((m9+2 ^ (k % 32):Nat):Int)) (by omega) (by omega) (hq.set ⟨aew _,Int.ofNat_lt.2 hz9⟩) (by rw [afj];exact hql) (by
     rw [Qm hy9,hqv,hTk.1]
     have e1:(((m9+2 ^ (k % 32):Nat):Int) - (m9:Int))=((2 ^ (k % 32):Nat):Int):=by omega
     have e2:((4294967296:Int) ^ (k / 32))=((2 ^ (32*(k / 32)):Nat):Int):=by rw [← h3];simp
     rw [e1,e2, ← aev, ← agi,show 32*(k / 32)+k % 32=k by omega, ← Int.natCast_add]
     congr 1
     rw [agl,afS,agh,agc (2 ^ k) 2, ← Nat.mul_assoc,agc (T / b) 2])
    rw [hTk.2] at hih
    have e7:(((2*(T % b)+bt:Nat):Int) - (b:Int)).toNat=2*(T % b)+bt - b:=by omega
    rw [e7]
    exact hih
   ·rw [aF (by omega),aA (by omega) (by omega), ← hag]
    have hTk:a / 2 ^ k / b=2*(T / b)∧a / 2 ^ k % b=2*(T % b)+bt:=by
     have h1:a / 2 ^ k=b*(2*(T / b))+(2*(T % b)+bt):=by
      rw [htop,show b*(2*(T / b))=2*(b*(T / b)) by rw [Nat.mul_left_comm]];omega
     have h2:2*(T % b)+bt<b:=by omega
     rw [h1]
     exact ⟨by rw [Nat.mul_add_div hb,afU h2,afT],by rw [Nat.mul_add_mod,aga h2]⟩
    have hih:=ih k q (by omega) (by omega) hq hql (by
     rw [hqv,hTk.1]
     congr 1
     rw [agl,agc (2 ^ k) 2, ← Nat.mul_assoc,agc (T / b) 2])
    rw [hTk.2] at hih
    exact hih
theorem Nn (n:Nat):v32 (List.replicate n 0)=0:=by
 induction n with
 | zero=>rfl
 | succ n ih=>rw [afI,I6,ih];rfl
theorem adK (k:Nat):(4294967296:Nat) ^ k=2 ^ (32*k):=by rw [Nat.pow_mul]
theorem JC (x y:Int) (hx:x.natAbs<4294967296 ^ 99) (hy:y.natAbs<4294967296 ^ 99) (h0:y≠0):td (W x) (W y)=some (W ((x.natAbs / y.natAbs:Nat):Int),W ((x.natAbs % y.natAbs:Nat):Int),()):=by
 have hlx:=uC hx
 have hly:=uC hy
 unfold td W
 dsimp only
 rw [aJ (by simp only [ad5,decide_eq_true_eq];omega)]
 have e1:w64 (w64 (((bE x.natAbs).length:Int)*32) - 1)=((32*(bE x.natAbs).length:Nat):Int) - 1:=by
  rw [aA (n:=((bE x.natAbs).length:Int)*32) (by omega) (by omega),aA (by omega) (by omega)];omega
 rw [e1]
 have hlt:x.natAbs<2 ^ (32*(bE x.natAbs).length):=by
  have:=Li (eF x.natAbs)
  rw [eI] at this
  have h2:((4294967296:Int) ^ (bE x.natAbs).length)=((4294967296 ^ (bE x.natAbs).length:Nat):Int):=by simp
  rw [h2,adK] at this
  omega
 have hz:x.natAbs / 2 ^ (32*(bE x.natAbs).length)=0:=afU hlt
 obtain ⟨q,h1,h2,h3,h4⟩:=Wh x.natAbs y.natAbs (by omega) (decide (x<0)) (decide (y<0)) (by omega) (by omega) false [] false [] (List.length ([]:List Int)+(Int.natAbs (((32*(bE x.natAbs).length:Nat):Int) - 1)+(List.length (bE x.natAbs)+(List.length (bE y.natAbs)+(List.length ([]:List Int)+(List.length ([]:List Int)+(List.length ((List.replicate (Int.toNat ((List.length (bE x.natAbs):Int))) 0):List Int)+2)))))))
  (32*(bE x.natAbs).length) (List.replicate (Int.toNat ((List.length (bE x.natAbs):Int))) 0) (af0 _) (by omega) (fun d hd=>by rw [afA] at hd;omega) (by simp) (by rw [Nn,hz];simp)
 rw [hz,Nat.zero_mod,Qf] at h1
 rw [h1,aG]
 simp only
 rw [ki _ _ h2 (by omega),ki _ _ (eF _) (by
  have:=uC (k:=99) (n:=x.natAbs % y.natAbs) (af2 (Nat.mod_le _ _) hx);omega),h4,eI]
 rfl
theorem ur (z:Int) (most:Int) (h0:0≤most) (h1:most≤9223372036854775807):oD (W z) most=some (if z.natAbs≤most then (z,true,()) else (0,false,())):=by
 unfold oD W
 dsimp only
 by_cases hl:(bE z.natAbs).length>2
 ·rw [aE (by omega)]
  have:¬ (z.natAbs:Int)≤most:=by
   intro h
   have:=uC (k:=2) (n:=z.natAbs) (by omega)
   omega
  rw [if_neg this]
 ·rw [aF (by omega)]
  have hdig:=eF z.natAbs
  have hval:=eI z.natAbs
  have hlen:(bE z.natAbs).length≤2:=by omega
  generalize hd:bE z.natAbs=d at*
  have loop:∃ n0,iter (X:=uq) (β:=uS) (Int.natAbs most+(Int.natAbs (0:Int)+(List.length d+(Int.natAbs ((List.length d:Int))+(Int.natAbs (0:Int)+(List.length d+2)))))) (most,0,d,(List.length d:Int),0,decide (z<0),d,()) uE=some (Sum.inr (most,n0,decide (z<0),d,()))∧n0=(z.natAbs:Int):=by
   refine bn (Inv:=fun i x=>∃ u:Int,x=(most,u,d,(d.length:Int),(i:Int),decide (z<0),d,())∧u=v32 (d.take i)) d.length (fun r=>∃ n0,r=some (Sum.inr (most,n0,decide (z<0),d,()))∧n0=(z.natAbs:Int)) ?_ ?_ _ 0 _ ⟨0,rfl,by simp [DV]⟩ (by omega) (by omega)
   ·rintro i _ again hi ⟨u,rfl,hu⟩ ih
    unfold uE
    simp only
    have hy:d[i]? =some d[i]:=aH hi
    have hyd:=hdig.get hy
    have hts:=kr hy
    have hlt:=Li (hdig.take i)
    have hnn:=CQ (hdig.take i)
    rw [afk,af9 (by omega)] at hlt
    generalize d[i]=y at hy hyd hts
    rw [aE (by omega),bh,hy,Option.bind_some,aA (n:=32*(i:Int)) (by omega) (by omega),aJ (by simp only [decide_eq_true_eq];omega),aA (n:=(i:Int)+1) (by omega) (by omega)]
    refine ih _ ⟨_,rfl, ?_⟩
    rw [hts]
    obtain ⟨m,rfl⟩:∃ m:Nat,y=m:=⟨y.toNat,by omega⟩
    obtain ⟨k,hk⟩:∃ k:Nat,v32 (d.take i)=k:=⟨(v32 (d.take i)).toNat,by omega⟩
    rw [hk] at hlt hu ⊢
    subst hu
    have hi2:i=0∨i=1:=by omega
    rcases hi2 with rfl | rfl
    ·simp only [Int.pow_zero] at hlt ⊢
     have:k=0:=by omega
     subst this
     have e:bV (bV (m:Int)*2 ^ (min (Int.toNat (32*((0:Nat):Int))) (IntKind.bits .u64)))=(m:Int):=by
      rw [dW (n:=(m:Int)) (by omega) (by omega)]
      simp
      exact dW (by omega) (by omega)
     rw [e,WJ (IntKind.bits .u64) (by decide) (by show m<2 ^ 64;omega),Nat.zero_or,dW (by omega) (by omega)]
     omega
    ·simp only [Int.pow_one] at hlt ⊢
     have e:bV (bV (m:Int)*2 ^ (min (Int.toNat (32*((1:Nat):Int))) (IntKind.bits .u64)))=((2 ^ 32*m:Nat):Int):=by
      rw [dW (n:=(m:Int)) (by omega) (by omega),show min (Int.toNat (32*((1:Nat):Int))) (IntKind.bits .u64)=32 from rfl]
      rw [dW (by omega) (by omega)]
      omega
     rw [e,WJ (IntKind.bits .u64) (by show k<2 ^ 64;omega) (by show 2 ^ 32*m<2 ^ 64;omega),Nat.or_comm,Xh (by omega),dW (by omega) (by omega)]
     omega
   ·rintro _ again ⟨u,rfl,hu⟩
    unfold uE
    simp only
    rw [aF (by omega)]
    rw [afP (af0 _),hval] at hu
    exact ⟨u,rfl,hu⟩
  obtain ⟨n0,h2,h3⟩:=loop
  rw [h2,aG]
  subst h3
  simp only
  rw [dW (n:=most) (by omega) (by omega)]
  by_cases hm:(z.natAbs:Int)≤most
  ·rw [aF (by omega),if_pos hm]
   by_cases hneg:z<0
   ·rw [agE hneg]
    simp only [cond_true]
    rw [aA (n:=(z.natAbs:Int)) (by omega) (by omega),aA (by omega) (by omega)]
    congr 2;omega
   ·rw [agD hneg]
    simp only [cond_false]
    rw [aA (by omega) (by omega)]
    congr 2;omega
  ·rw [aE (by omega),if_neg hm]
end Go.Md
namespace Go.Md
open Go.Dn
def v6 (l:List Int):Int:=val 1000000 l
theorem Fe:v6 []=0:=rfl
theorem DY (d:Int) (l:List Int):v6 (d::l)=d+1000000*v6 l:=rfl
theorem Oz (l m:List Int):v6 (l++m)=v6 l+1000000 ^ l.length*v6 m:=CM l m
theorem UW (l:List Int) (d:Int):v6 (l++[d])=v6 l+1000000 ^ l.length*d:=XI l d
abbrev Dg6 (l:List Int):Prop:=Dig 1000000 l
def dg6 (n:Nat):List Int:=dg 1000000 n
theorem IY:dg6 0=[]:=rfl
theorem Tt {n:Nat}:dg6 n=[]↔n=0:=Vx (B:=1000000) (by omega)
theorem MK {n:Nat} (h:0<n):dg6 n≠[]:=JR (B:=1000000) (by omega) h
theorem C9 {m n:Nat} (h:(dg6 m).length<(dg6 n).length):m<n:=Vz (B:=1000000) (by omega) h
theorem pL (n:Nat):Dg6 (dg6 n):=XQ (B:=1000000) (by omega) n
theorem wh (n:Nat):v6 (dg6 n)=n:=Yx (B:=1000000) (by omega) n
theorem adH {l:List Int} (h:Dg6 l):trim l=dg6 (v6 l).toNat:=UP (B:=1000000) (by omega) h
theorem nx {l:List Int} (h:Dg6 l):0≤v6 l:=B7 (by omega) h
theorem JI {l:List Int} (h:Dg6 l):v6 l<1000000 ^ l.length:=W1 (by omega) h
theorem ZF {k n:Nat} (h:n<1000000 ^ k):(dg6 n).length≤k:=Ua (B:=1000000) (by omega) k n h
theorem qa {l:List Int} {i:Nat} {y:Int} (h:l[i]? =some y):v6 (l.take (i+1))=v6 (l.take i)+1000000 ^ i*y:=by
 have hi:=(List.getElem?_eq_some_iff.1 h).1
 rw [Ak h,UW,afk,af9 (by omega)]
theorem WT {l:List Int} {i:Nat} (h:l.length≤i):v6 (l.take (i+1))=v6 (l.take i):=by
 rw [afP h,afP (by omega)]
theorem S4 {l:List Int} {i:Nat} {y z:Int} (hi:l[i]? =some y):v6 (l.set i z)=v6 l+1000000 ^ i*(z - y):=by
 have hlt:=(List.getElem?_eq_some_iff.1 hi).1
 have e:l=l.take i++(y::l.drop (i+1)):=by
  have:=afN i l
  rw [aeR hlt,(List.getElem?_eq_some_iff.1 hi).2] at this
  exact this.symm
 have e2:l.set i z=l.take i++(z::l.drop (i+1)):=by rw [List.set_eq_take_append_cons_drop,if_pos hlt]
 rw [e2]
 conv=>rhs;rw [e]
 rw [Oz,Oz,DY,DY,afk,af9 (by omega)]
 have:(1000000:Int) ^ i*(z+1000000*v6 (l.drop (i+1)))=1000000 ^ i*(y+1000000*v6 (l.drop (i+1)))+1000000 ^ i*(z - y):=by rw [← aen];congr 1;omega
 omega
theorem VQ (b:Bool) (l:List Int) (hd:Dg6 l) (hl:l.length<1000000):oZ (b,l)=some ((b&&decide (0<v6 l),dg6 (v6 l).toNat),()):=by
 have key:∀ n (x:vt),x.2.1.length<1000000→x.2.1.length<n→iter n x Gd=some (Sum.inr (x.1,trim x.2.1,x.2.2.1,x.2.2.2.1,())):=by
  refine JA (fun x:vt=>x.2.1.length<1000000) (fun x=>x.2.1.length) (fun x r=>r=some (Sum.inr (x.1,trim x.2.1,x.2.2.1,x.2.2.2.1,()))) ?_
  rintro ⟨c,x,g,m,u⟩ again hx ih
  simp only at hx ih ⊢
  unfold Gd
  simp only
  by_cases h0:x.length=0
  ·have:x=[]:=aeV h0
   subst this;simp [trim]
  ·have e1:w64 ((x.length:Int) - 1)=((x.length - 1:Nat):Int):=by rw [aA (by omega) (by omega)];omega
   have hsp:x=x.take (x.length - 1)++[x[x.length - 1]'(by omega)]:=by
    have:=afN (x.length - 1) x
    rw [aeR (by omega),aeT (by omega)] at this
    exact this.symm
   rw [aE (by omega),e1,bh,aH (by omega)]
   simp only [aeF,aeU,Option.bind_some]
   by_cases hz:x[x.length - 1]'(by omega)=0
   ·rw [hz] at hsp ⊢
    rw [aJ (by simp only [ad5,decide_eq_true_eq];omega)]
    simp only [agA,cond_true]
    rw [ih (c,List.take (x.length - 1) x,g,m,()) (by simp only [afk];omega) (by simp only [afk];omega)]
    conv=>rhs;rw [hsp,Eh]
   ·have:(x[x.length - 1]'(by omega)==0)=false:=by simp [hz]
    rw [this]
    simp only [cond_false]
    conv=>rhs;rw [hsp,HL hz]
    rw [← hsp]
 unfold oZ
 rw [key _ _ (by simpa using hl) (by simp),aG]
 simp only
 rw [adH hd]
 have h0:=nx hd
 by_cases hv:v6 l=0
 ·simp [hv,IY]
 ·have h1:dg6 (v6 l).toNat≠[]:=MK (by omega)
  have h2:(((dg6 (v6 l).toNat).length:Int)==0)=false:=by
   have:(dg6 (v6 l).toNat).length≠0:=fun h=>h1 (aeV h)
   simp;omega
  rw [h2]
  have h3:decide (0<v6 l)=true:=by simp;omega
  simp [h3]
def N (z:Int):ay:=(decide (z<0),dg6 z.natAbs)
theorem Qy (b:Bool) (l:List Int) (hd:Dg6 l) (hl:l.length<1000000):oZ (b,l)=some (N (if b then -v6 l else v6 l),()):=by
 rw [VQ b l hd hl]
 have h0:=nx hd
 cases b with
 | false=>simp only [N];congr 3
          ·simp;omega
          ·simp only [ad8,agK];congr 1;omega
 | true=>simp only [N];congr 3
         ·simp
         ·simp only [agL];congr 1;omega
theorem acv (x:Int):(Int.tdiv x 1000000).natAbs=x.natAbs / 1000000:=by rw [Int.natAbs_tdiv];rfl
theorem acr (x:Int):(Int.tmod x 1000000).natAbs=x.natAbs % 1000000:=by rw [Int.natAbs_tmod];rfl
theorem ZO {n:Nat} (h:0<n):dg6 n=((n % 1000000:Nat):Int)::dg6 (n / 1000000):=zO (B:=1000000) (by omega) h
theorem Hi (ng g:Bool) (gl:List Int):∀ (k fuel:Nat) (out:List Int) (x:Int),out.length+k<1000→x.natAbs<1000000 ^ k→k<fuel→ -9223372036854775808<x→x≤9223372036854775807→
 iter (X:=H9) (β:=IX) fuel (x,g,gl,ng,out,()) Bf=some (Sum.inr (g,gl,ng,out++dg6 x.natAbs,()))
 | k,0,_,_,_,_,h,_,_=>by omega
 | 0,fuel+1,out,x,_,hx,_,_,_=>by
  have:x=0:=by simp at hx;omega
  subst this
  rw [eS]
  unfold Bf
  simp [IY]
 | k+1,fuel+1,out,x,ho,hx,hf,h1,h2=>by
  rw [eS]
  generalize hag:(fun y=>iter fuel y Bf)=again
  unfold Bf
  dsimp only
  by_cases h0:x=0
  ·subst h0;simp [IY]
  ·have hb:(x != 0)=true:=by simp [h0]
   rw [hb,cond_true,aJ (fY (by omega) (by omega)), ← hag]
   have e0:=acv x
   have e1:=acr x
   have e2:(if (w64 (0 - (Int.tmod x 1000000)))>(Int.tmod x 1000000) then (w64 (0 - (Int.tmod x 1000000))) else (Int.tmod x 1000000))=((x.natAbs % 1000000:Nat):Int):=by
    rw [aA (by omega) (by omega)]
    split<;>omega
   rw [e2,aA (by omega) (by omega)]
   show iter fuel _ Bf=_
   rw [Hi ng g gl k fuel _ _ (by simp;omega) (by rw [e0];rw [agl] at hx;exact Nat.div_lt_of_lt_mul (by rw [agc];exact hx)) (by omega) (by omega) (by omega),e0,aeL,List.singleton_append, ← ZO (by omega)]
theorem gQ (n:Int) (h1: -9223372036854775808<n) (h2:n≤9223372036854775807):mg n=some (N n,()):=by
 unfold mg
 have key:iter (X:=H9) (β:=IX) (Int.natAbs n+(List.length ([]:List Int)+(List.length ([]:List Int)+2))) (n,false,[],decide (n<0),[],()) Bf=some (Sum.inr (false,[],decide (n<0),[]++dg6 n.natAbs,())):=by
  by_cases h0:n.natAbs<1
  ·exact Hi _ _ _ 0 _ _ _ (by simp) (by simpa using h0) (by omega) h1 h2
  ·by_cases h3:n.natAbs<1000000
   ·exact Hi _ _ _ 1 _ _ _ (by simp) (by simpa using h3) (by omega) h1 h2
   ·exact Hi _ _ _ 4 _ _ _ (by simp) (by omega) (by omega) h1 h2
 rw [key,aG]
 rfl
theorem Wo (a b:List Int) (ha:Dg6 a) (hb:Dg6 b) (hab:a.length=b.length) (hla:a.length<100000):∀ (n k:Nat),k≤a.length→k<n→
 ∃ c:Int,iter (X:=EU) (β:=EW) n (a,b,(k:Int) - 1,()) zB=(if v6 (a.take k)=v6 (b.take k) then some (Sum.inr ()) else some (Sum.inl (c,())))∧(c<0↔v6 (a.take k)<v6 (b.take k))∧(0<c↔v6 (b.take k)<v6 (a.take k)):=by
 intro n
 induction n with
 | zero=>intro k _ h;omega
 | succ n ih=>
  intro k hk hn
  rw [eS]
  generalize hag:(fun y=>iter n y zB)=again
  unfold zB
  dsimp only
  cases k with
  | zero=>exact ⟨0,by simp [Fe],by simp,by simp⟩
  | succ k=>
   rw [aE (by omega),show ((k+1:Nat):Int) - 1=(k:Int) by omega,bh,bh]
   have hx:a[k]? =some a[k]:=aH (by omega)
   have hy:b[k]? =some b[k]:=aH (by omega)
   rw [hx,hy]
   simp only [Option.bind_some]
   rw [qa hx,qa hy]
   have h1:=JI (ha.take k)
   have h2:=JI (hb.take k)
   have h3:=nx (ha.take k)
   have h4:=nx (hb.take k)
   have h5:=ha.get hx
   have h6:=hb.get hy
   rw [afk,af9 (by omega)] at h1 h2
   generalize a[k]=x at*
   generalize b[k]=y at*
   by_cases hxy:x=y
   ·subst hxy
    simp only [agB,cond_false]
    rw [aA (by omega) (by omega), ← hag]
    obtain ⟨c,h7,h8,h9⟩:=ih k (by omega) (by omega)
    refine ⟨c, ?_,by omega,by omega⟩
    show iter n (a,b,(k:Int) - 1,()) zB=_
    rw [h7]
    congr 1
    simp
   ·have hne:(x != y)=true:=by simp [hxy]
    rw [hne]
    simp only [cond_true]
    rw [aA (by omega) (by omega)]
    refine ⟨x - y, ?_, ?_, ?_⟩
    ·rw [if_neg]
     intro h
     rcases Int.lt_or_gt_of_ne hxy with hlt | hlt
     ·have:(1000000:Int) ^ k*(x+1)≤1000000 ^ k*y:=aep (by omega) (by omega)
      rw [aen,aes] at this
      omega
     ·have:(1000000:Int) ^ k*(y+1)≤1000000 ^ k*x:=aep (by omega) (by omega)
      rw [aen,aes] at this
      omega
    ·rcases Int.lt_or_gt_of_ne hxy with hlt | hlt
     ·have:(1000000:Int) ^ k*(x+1)≤1000000 ^ k*y:=aep (by omega) (by omega)
      rw [aen,aes] at this
      omega
     ·have:(1000000:Int) ^ k*(y+1)≤1000000 ^ k*x:=aep (by omega) (by omega)
      rw [aen,aes] at this
      omega
    ·rcases Int.lt_or_gt_of_ne hxy with hlt | hlt
     ·have:(1000000:Int) ^ k*(x+1)≤1000000 ^ k*y:=aep (by omega) (by omega)
      rw [aen,aes] at this
      omega
     ·have:(1000000:Int) ^ k*(y+1)≤1000000 ^ k*x:=aep (by omega) (by omega)
      rw [aen,aes] at this
      omega
theorem Rz (m n:Nat) (hm:(dg6 m).length<100000) (hn:(dg6 n).length<100000):∃ c,Ei (dg6 m) (dg6 n)=some (c,())∧(c<0↔m<n)∧(0<c↔n<m):=by
 unfold Ei
 by_cases h:(dg6 m).length=(dg6 n).length
 ·have hb:(((dg6 m).length:Int) != ((dg6 n).length:Int))=false:=by simp [h]
  rw [hb]
  simp only [cond_false]
  by_cases h0:(dg6 m).length=0
  ·have hm0:m=0:=Tt.1 (aeV h0)
   have hn0:n=0:=Tt.1 (aeV (by omega))
   subst hm0;subst hn0
   exact ⟨0,rfl,by simp,by simp⟩
  ·have e1:w64 (((dg6 m).length:Int) - 1)=(((dg6 m).length:Nat):Int) - 1:=aA (by omega) (by omega)
   obtain ⟨c,h1,h2,h3⟩:=Wo _ _ (pL m) (pL n) h hm ((dg6 m).length+((dg6 n).length+(Int.natAbs ((((dg6 m).length:Nat):Int) - 1)+2))) _ (af0 _) (by omega)
   rw [afP (af0 _),afP (by omega),wh,wh] at h1 h2 h3
   rw [e1,h1]
   by_cases hmn:(m:Int)=n
   ·rw [if_pos hmn,aG];exact ⟨0,rfl,by omega,by omega⟩
   ·rw [if_neg hmn,eV];exact ⟨c,rfl,by omega,by omega⟩
 ·have hb:(((dg6 m).length:Int) != ((dg6 n).length:Int))=true:=by simp;omega
  rw [hb]
  simp only [cond_true]
  rw [aA (by omega) (by omega)]
  refine ⟨_,rfl, ?_, ?_⟩
  ·constructor
   ·intro h1;exact C9 (by omega)
   ·intro h1
    rcases af5 h with h2 | h2
    ·omega
    ·have:=C9 (m:=n) (n:=m) h2;omega
  ·constructor
   ·intro h1;exact C9 (by omega)
   ·intro h1
    rcases af5 h with h2 | h2
    ·have:=C9 (m:=m) (n:=n) h2;omega
    ·omega
theorem EV (l:List Int) (i:Nat):xQ l (i:Int)=some ((l[i]?).getD 0,()):=by
 unfold xQ
 by_cases h:i<l.length
 ·rw [aE (by omega),bh,aH h];rfl
 ·rw [aF (by omega),ae3 (by omega)];rfl
theorem Ia (l:List Int) (i:Nat):v6 (l.take (i+1))=v6 (l.take i)+1000000 ^ i*(l[i]?).getD 0:=by
 by_cases h:i<l.length
 ·rw [qa (aH h),aH h];rfl
 ·rw [WT (by omega),ae3 (by omega)];simp
theorem SE {l:List Int} (h:Dg6 l) (i:Nat):0≤(l[i]?).getD 0∧(l[i]?).getD 0<1000000:=by
 cases hi:l[i]? with
 | none=>simp
 | some d=>exact h.get hi
theorem YS (a b:List Int) (ha:Dg6 a) (hb:Dg6 b) (na nb g:Bool) (gl:List Int) (ng:Bool) (M:Nat) (hM:M<100000) (hlen:a.length<M∧b.length<M) (n:Nat) (hn:M<n):
 ∃ out,iter (X:=EA) (β:=EC) n (0,(M:Int),0,na,a,nb,b,g,gl,ng,[],()) Ey=some (Sum.inr (g,gl,ng,out,()))∧Dg6 out∧out.length=M∧v6 out=v6 a+v6 b:=by
 refine bn (Inv:=fun i x=>∃ (out:List Int) (c:Int),x=(c,(M:Int),(i:Int),na,a,nb,b,g,gl,ng,out,())∧Dg6 out∧0≤c∧c≤1∧out.length=i∧v6 out+1000000 ^ i*c=v6 (a.take i)+v6 (b.take i)) M
  (fun r=>∃ out,r=some (Sum.inr (g,gl,ng,out,()))∧Dg6 out∧out.length=M∧v6 out=v6 a+v6 b) ?_ ?_ n 0 _ ⟨[],0,rfl,Dig.nil,by omega,by omega,rfl,by simp [Fe]⟩ (by omega) (by omega)
 ·rintro i _ again hi ⟨out,c,rfl,hd,hc0,hc1,hl,hv⟩ ih
  unfold Ey
  dsimp only
  rw [aE (by omega),EV,EV]
  have h1:=SE ha i
  have h2:=SE hb i
  have h3:=Ia a i
  have h4:=Ia b i
  generalize (a[i]?).getD 0=x at*
  generalize (b[i]?).getD 0=y at*
  simp only [Option.bind_some]
  rw [aJ (fY (by omega) (by omega)),aA (n:=x+y) (by omega) (by omega),aA (n:=x+y+c) (by omega) (by omega),aA (n:=(i:Int)+1) (by omega) (by omega),aeE (by omega),aeD (by omega),aA (by omega) (by omega)]
  refine ih _ ⟨_,_,rfl,hd.snoc (by omega),by omega,by omega,by simp [hl], ?_⟩
  rw [UW,hl,h3,h4,aey]
  have:(1000000:Int) ^ i*((x+y+c) % 1000000)+1000000 ^ i*1000000*((x+y+c) / 1000000)=1000000 ^ i*(x+y+c):=by
   rw [aeo, ← aen];congr 1;omega
  rw [aen,aen] at this
  omega
 ·rintro _ again ⟨out,c,rfl,hd,hc0,hc1,hl,hv⟩
  unfold Ey
  dsimp only
  rw [aF (by omega)]
  rw [afP (by omega),afP (by omega)] at hv
  refine ⟨out,rfl,hd,hl, ?_⟩
  have h1:=JI ha
  have h2:=JI hb
  have h3:=nx hd
  have hp:∀ l:Nat,l<M→(1000000:Int) ^ l*1000000≤1000000 ^ M:=by
   intro l hlM
   rw [← aey]
   have h:=agj (n:=1000000) (by omega) (show l+1≤M by omega)
   have:=Int.ofNat_le.2 h
   simpa using this
  have h4:=hp _ hlen.1
  have h5:=hp _ hlen.2
  have h6:=nx ha
  have h7:=nx hb
  rcases (show c=0∨c=1 by omega) with h | h
  ·subst h;omega
  ·subst h;rw [aes] at hv;omega
theorem Zy (a b:List Int) (ha:Dg6 a) (hb:Dg6 b) (na nb g:Bool) (gl:List Int) (ng:Bool) (hla:a.length<100000) (hlb:b.length≤a.length) (hle:v6 b≤v6 a) (n:Nat) (hn:a.length<n):
 ∃ out,iter (X:=CF) (β:=Cz) n (0,(a.length:Int),0,na,a,nb,b,g,gl,ng,[],()) CE=some (Sum.inr (g,gl,ng,out,()))∧Dg6 out∧out.length=a.length∧v6 out=v6 a - v6 b:=by
 refine bn (Inv:=fun i x=>∃ (out:List Int) (c:Int),x=(c,(a.length:Int),(i:Int),na,a,nb,b,g,gl,ng,out,())∧Dg6 out∧0≤c∧c≤1∧out.length=i∧v6 out=v6 (a.take i) - v6 (b.take i)+1000000 ^ i*c) a.length
  (fun r=>∃ out,r=some (Sum.inr (g,gl,ng,out,()))∧Dg6 out∧out.length=a.length∧v6 out=v6 a - v6 b) ?_ ?_ n 0 _ ⟨[],0,rfl,Dig.nil,by omega,by omega,rfl,by simp [Fe]⟩ (by omega) (by omega)
 ·rintro i _ again hi ⟨out,c,rfl,hd,hc0,hc1,hl,hv⟩ ih
  unfold CE
  dsimp only
  have hy:a[i]? =some a[i]:=aH hi
  rw [aE (by omega),EV,bh,hy]
  have h1:=ha.get hy
  have h2:=SE hb i
  have h3:=qa hy
  have h4:=Ia b i
  generalize a[i]=x at*
  generalize (b[i]?).getD 0=y at*
  simp only [Option.bind_some]
  rw [aA (n:=x - y) (by omega) (by omega),aA (n:=x - y - c) (by omega) (by omega)]
  have fin:∀ q:Int,(q=0∨q=1)→0≤x - y - c+1000000*q→x - y - c+1000000*q<1000000→∃ out',again (q,(a.length:Int),w64 ((i:Int)+1),na,a,nb,b,g,gl,ng,out++[x - y - c+1000000*q],())=some (Sum.inr (g,gl,ng,out',()))∧Dg6 out'∧out'.length=a.length∧v6 out'=v6 a - v6 b:=by
   intro q hq hq0 hq1
   rw [aA (by omega) (by omega)]
   refine ih _ ⟨_,q,rfl,hd.snoc (by omega),by omega,by omega,by simp [hl], ?_⟩
   rw [UW,hl,h3,h4,aey,hv]
   generalize (1000000:Int) ^ i=p
   rw [aen,aet,aet,aeo]
   omega
  by_cases hneg:x - y - c<0
  ·rw [aE hneg,aG]
   dsimp only
   rw [aJ (fY (by omega) (by omega)),aA (n:=x - y - c+1000000) (by omega) (by omega)]
   exact fin 1 (.inr rfl) (by omega) (by omega)
  ·rw [aF hneg,aG]
   dsimp only
   rw [aJ (fY (by omega) (by omega))]
   have:=fin 0 (.inl rfl) (by omega) (by omega)
   rw [show x - y - c+1000000*0=x - y - c by omega] at this
   exact this
 ·rintro _ again ⟨out,c,rfl,hd,hc0,hc1,hl,hv⟩
  unfold CE
  dsimp only
  rw [aF (by omega)]
  rw [afP (af0 _),afP hlb] at hv
  refine ⟨out,rfl,hd,hl, ?_⟩
  have h3:=JI hd
  rw [hl] at h3
  rcases (show c=0∨c=1 by omega) with h | h
  ·subst h;omega
  ·subst h;rw [aes] at hv;omega
theorem SY {m n:Nat} (h:m≤n):(dg6 m).length≤(dg6 n).length:=by
 rcases af4 (dg6 n).length (dg6 m).length with h1 | h1
 ·have:=C9 h1;omega
 ·exact h1
theorem Ca (x y:Int) (hx:(dg6 x.natAbs).length<10000) (hy:(dg6 y.natAbs).length<10000):yx (N x) (N y)=some (N (x+y),()):=by
 unfold yx N
 dsimp only
 have main:∀ (a b:Nat) (na nb:Bool),(dg6 a).length<10000→(dg6 b).length<10000→b≤a→aP (β:=(ay×Unit)) (γ:=(Bool×(List Int)×Bool×(List Int)×Unit)) (
  iter (X:=CF) (β:=Cz) (Int.natAbs (0:Int)+(Int.natAbs ((List.length (dg6 a):Int))+(Int.natAbs (0:Int)+(List.length (dg6 a)+(List.length (dg6 b)+(List.length ([]:List Int)+(List.length ([]:List Int)+2))))))) (0,(List.length (dg6 a):Int),0,na,dg6 a,nb,dg6 b,false,[],na,[],()) (CE)) (fun v8=>
  Option.bind (oZ (v8.2.2.1,v8.2.2.2.1)) fun r9=>
  some (r9.1,()))=some (N (if na then -((a:Int) - b) else (a:Int) - b),()):=by
  intro a b na nb h1 h2 h3
  obtain ⟨out,h4,h5,h6,h7⟩:=Zy (dg6 a) (dg6 b) (pL a) (pL b) na nb false [] na (by omega) (SY h3) (by rw [wh,wh];omega) (Int.natAbs (0:Int)+(Int.natAbs ((List.length (dg6 a):Int))+(Int.natAbs (0:Int)+(List.length (dg6 a)+(List.length (dg6 b)+(List.length ([]:List Int)+(List.length ([]:List Int)+2))))))) (by omega)
  rw [h4,aG]
  dsimp only
  rw [Qy _ _ h5 (by omega),h7,wh,wh]
  rfl
 by_cases hs:decide (x<0)=decide (y<0)
 ·rw [show (!(decide (x<0)==decide (y<0)))=false by simp [hs]]
  dsimp only [cond_false]
  have e1:w64 ((if ((dg6 y.natAbs).length:Int)>((dg6 x.natAbs).length:Int) then ((dg6 y.natAbs).length:Int) else ((dg6 x.natAbs).length:Int))+1)=((max (dg6 x.natAbs).length (dg6 y.natAbs).length+1:Nat):Int):=by
   split<;>rw [aA (by omega) (by omega)]<;>omega
  rw [e1]
  obtain ⟨out,h4,h5,h6,h7⟩:=YS (dg6 x.natAbs) (dg6 y.natAbs) (pL _) (pL _) (decide (x<0)) (decide (y<0)) false [] (decide (x<0)) (max (dg6 x.natAbs).length (dg6 y.natAbs).length+1) (by omega) ⟨by omega,by omega⟩ (Int.natAbs (0:Int)+(Int.natAbs ((max (dg6 x.natAbs).length (dg6 y.natAbs).length+1:Nat):Int)+(Int.natAbs (0:Int)+(List.length (dg6 x.natAbs)+(List.length (dg6 y.natAbs)+(List.length ([]:List Int)+(List.length ([]:List Int)+2))))))) (by omega)
  rw [h4,aG]
  dsimp only
  rw [Qy _ _ h5 (by omega),h7,wh,wh]
  rw [Option.bind_some]
  show some (N _,())=some (N (x+y),())
  congr 3
  simp only [agC] at hs
  by_cases h:x<0
  ·simp only [h,agG,agL];omega
  ·simp only [h,agF,ad8,agK];omega
 ·rw [show (!(decide (x<0)==decide (y<0)))=true by simp [hs]]
  rw [cond_true]
  obtain ⟨c,h1,h2,h3⟩:=Rz x.natAbs y.natAbs (by omega) (by omega)
  rw [h1,Option.bind_some]
  dsimp only
  simp only [agC] at hs
  by_cases hc:c<0
  ·rw [aE hc,aG]
   have:=main y.natAbs x.natAbs (decide (y<0)) (decide (x<0)) hy hx (by omega)
   dsimp only
   rw [this]
   congr 3
   by_cases h:y<0
   ·simp only [h,agG,agL];omega
   ·simp only [h,agF,ad8,agK];omega
  ·rw [aF hc,aG]
   have:=main x.natAbs y.natAbs (decide (x<0)) (decide (y<0)) hx hy (by omega)
   dsimp only
   rw [this]
   congr 3
   by_cases h:x<0
   ·simp only [h,agG,agL];omega
   ·simp only [h,agF,ad8,agK];omega
theorem EL (x:Int):uJ (N x)=some (N (-x),()):=by
 unfold uJ N
 dsimp only
 by_cases h0:x=0
 ·subst h0;simp [IY]
 ·have h1:dg6 x.natAbs≠[]:=MK (by omega)
  have h2:0<(dg6 x.natAbs).length:=by
   rcases afY (dg6 x.natAbs).length with h | h
   ·exact absurd (aeV h) h1
   ·exact h
  rw [aE (by omega),Int.natAbs_neg]
  congr 3
  by_cases h:x<0
  ·simp [h];omega
  ·simp [h];omega
theorem G7 (x:Int):Bm (N x)=some (x.sign,()):=by
 unfold Bm N
 dsimp only
 by_cases h0:x=0
 ·subst h0;simp [IY]
 ·have h1:dg6 x.natAbs≠[]:=MK (by omega)
  have h2:(((dg6 x.natAbs).length:Int)==0)=false:=by
   have:(dg6 x.natAbs).length≠0:=fun h=>h1 (aeV h)
   simp;omega
  rw [h2,cond_false]
  by_cases h:x<0
  ·simp [h,aez h]
  ·simp [h,aeA (show 0<x by omega)]
theorem O8 (x y:Int) (hx:(dg6 x.natAbs).length<10000) (hy:(dg6 y.natAbs).length<10000):Ma (N x) (N y)=some ((x - y).sign,()):=by
 unfold Ma
 rw [EL,Option.bind_some]
 dsimp only
 rw [Ca x (-y) hx (by rw [Int.natAbs_neg];exact hy),Option.bind_some]
 dsimp only
 rw [G7,Option.bind_some]
 rw [show x+ -y=x - y by omega]
end Go.Md
namespace Go.Md
open Go.Dn
def Big (D:Int) (l:List Int):Prop:=∀ d,d∈l→0≤d∧d≤D
theorem Big.get {D d:Int} {l:List Int} {i:Nat} (h:Big D l) (hi:l[i]? =some d):0≤d∧d≤D:=h d (List.mem_of_getElem? hi)
theorem Big.set {D E:Int} {l:List Int} (h:Big D l) (hDE:D≤E) {i:Nat} {z:Int} (hz:0≤z∧z≤E):Big E (l.set i z):=fun x hx=>by
 rcases afy hx with hx | rfl
 ·have:=h x hx;omega
 ·exact hz
theorem Big.mono {D E:Int} {l:List Int} (h:Big D l) (hDE:D≤E):Big E l:=fun x hx=>by have:=h x hx;omega
theorem XA {l:List Int} {j:Nat} {y z t:Int} (hj:l[j]? =some y) (hj1:l[j+1]? =some z):v6 (((l.set j t).set (j+1) (z+t / 1000000)).set j (t % 1000000))=v6 l+1000000 ^ j*(t - y):=by
 have hl:=(List.getElem?_eq_some_iff.1 hj).1
 have h1:(l.set j t)[j+1]? =some z:=by rw [ae7 (by omega)];exact hj1
 have h2:((l.set j t).set (j+1) (z+t / 1000000))[j]? =some t:=by rw [ae7 (by omega),ae8 hl]
 rw [S4 h2,S4 h1,S4 hj,aey]
 have e:(1000000:Int) ^ j*1000000*(z+t / 1000000 - z)+1000000 ^ j*(t % 1000000 - t)=0:=by
  rw [aeo, ← aen]
  have:1000000*(z+t / 1000000 - z)+(t % 1000000 - t)=0:=by omega
  rw [this,Int.mul_zero]
 omega
theorem aah {α:Type} (l:List α) (j:Nat) (t z u:α):((l.set j t).set (j+1) z).set j u=(l.set j u).set (j+1) z:=by
 rw [List.set_comm _ _ (show j+1≠j by omega),List.set_set]
theorem UN (i:Nat) (x:Int) (g1:List Int) (g2 g3:Int) (b:List Int) (nb gb:Bool) (gl:List Int) (ng:Bool) (out:List Int) (D:Int) (hx:0≤x∧x<1000000) (hb:Dg6 b) (hbl:b.length<10000) (hil:i<10000) (ho:i+b.length<out.length) (hol:out.length<100000) (hD:Big D out) (hD0:0≤D) (hD1:D+3000000*b.length≤1000000000000) (n:Nat) (hn:b.length<n):
 ∃ out',iter (X:=AA) (β:=AK) n ((i:Int),x,g1,g2,g3,b,(b.length:Int),0,nb,b,gb,gl,ng,out,()) Am=some (Sum.inr (g1,g2,g3,nb,b,gb,gl,ng,out',()))∧out'.length=out.length∧Big (D+3000000*b.length) out'∧v6 out'=v6 out+1000000 ^ i*(x*v6 b):=by
 refine bn (Inv:=fun k s=>∃ o:List Int,s=((i:Int),x,g1,g2,g3,b,(b.length:Int),(k:Int),nb,b,gb,gl,ng,o,())∧o.length=out.length∧Big (D+3000000*k) o∧v6 o=v6 out+1000000 ^ i*(x*v6 (b.take k))) b.length
  (fun r=>∃ out',r=some (Sum.inr (g1,g2,g3,nb,b,gb,gl,ng,out',()))∧out'.length=out.length∧Big (D+3000000*b.length) out'∧v6 out'=v6 out+1000000 ^ i*(x*v6 b)) ?_ ?_ n 0 _ ⟨out,rfl,rfl,hD.mono (by omega),by simp [Fe]⟩ (by omega) (by omega)
 ·rintro k _ again hk ⟨o,rfl,hol',hB,hv⟩ ih
  unfold Am
  dsimp only
  have hy:b[k]? =some b[k]:=aH hk
  have hyd:=hb.get hy
  have hts:=qa hy
  generalize b[k]=y at hy hyd hts
  have e1:w64 ((i:Int)+(k:Int))=((i+k:Nat):Int):=by rw [aA (by omega) (by omega)];omega
  have e2:w64 (((i+k:Nat):Int)+1)=((i+k+1:Nat):Int):=by rw [aA (by omega) (by omega)];omega
  rw [aE (by omega),bh,hy,Option.bind_some,e1,e2]
  simp only [aeF]
  have h3:o[i+k]? =some o[i+k]:=aH (by omega)
  have h4:o[i+k+1]? =some o[i+k+1]:=aH (by omega)
  have d3:=hB.get h3
  have d4:=hB.get h4
  generalize o[i+k]'(by omega)=y3 at h3 d3
  generalize o[i+k+1]'(by omega)=y4 at h4 d4
  have hxy:0≤x*y∧x*y≤1000000000000:=by
   constructor
   ·exact aer hx.1 hyd.1
   ·have h1:x*y≤1000000*y:=aeq (by omega) hyd.1
    omega
  have e3:w64 (y3+w64 (x*y))=y3+x*y:=by rw [aA (n:=x*y) (by omega) (by omega),aA (by omega) (by omega)]
  generalize hxy':x*y=xy at*
  have h5:(o.set (i+k) (y3+xy))[i+k+1]? =some y4:=by rw [ae7 (by omega)];exact h4
  have h6:(o.set (i+k) (y3+xy))[i+k]? =some (y3+xy):=ae8 (by omega)
  have e4:w64 (y4+w64 (Int.tdiv (y3+xy) 1000000))=y4+(y3+xy) / 1000000:=by
   rw [aeD (by omega),aA (n:=(y3+xy) / 1000000) (by omega) (by omega),aA (by omega) (by omega)]
  have h7:((o.set (i+k) (y3+xy)).set (i+k+1) (y4+(y3+xy) / 1000000))[i+k]? =some (y3+xy):=by rw [ae7 (by omega)];exact h6
  simp only [h3,Option.bind_some,e3]
  simp only [h5,h6,Option.bind_some]
  simp only [e4,h7,Option.bind_some,afj]
  rw [aJ (by simp only [ad5,decide_eq_true_eq];omega),aJ (by simp only [ad5,decide_eq_true_eq];omega),aJ (by simp only [ad5,decide_eq_true_eq];omega),aJ (by simp only [ad5,decide_eq_true_eq];omega),aJ (by simp only [ad5,decide_eq_true_eq];omega),aJ (by simp only [ad5,decide_eq_true_eq];omega),aJ (by simp only [ad5,decide_eq_true_eq];omega)]
  rw [aA (n:=(k:Int)+1) (by omega) (by omega),aeE (by omega)]
  refine ih _ ⟨_,rfl,by simp only [afj];exact hol', ?_, ?_⟩
  ·rw [aah]
   exact Big.set (D:=D+3000000*((k+1:Nat):Int)) (Big.set hB (by omega) (by omega)) (Int.le_refl _) (by omega)
  ·rw [XA h3 h4,hv,hts]
   have e5:x*(v6 (b.take k)+1000000 ^ k*y)=x*v6 (b.take k)+1000000 ^ k*xy:=by rw [aen, ← hxy',Int.mul_left_comm]
   rw [e5,aen,aex,show y3+xy - y3=xy by omega,aeo (1000000 ^ i) (1000000 ^ k) xy]
   omega
 ·rintro _ again ⟨o,rfl,hol',hB,hv⟩
  unfold Am
  dsimp only
  rw [aF (by omega)]
  rw [afP (af0 _)] at hv
  exact ⟨o,rfl,hol',hB,hv⟩
theorem U6 (a b:List Int) (ha:Dg6 a) (hb:Dg6 b) (hal:a.length<100) (hbl:b.length<1000) (nb gb:Bool) (gl:List Int) (ng:Bool) (out:List Int) (ho:a.length+b.length<out.length) (hol:out.length<100000) (hz:Big 0 out) (hv0:v6 out=0) (n:Nat) (hn:a.length<n):
 ∃ out',iter (X:=At) (β:=Ar) n (a,(a.length:Int),0,nb,b,gb,gl,ng,out,()) AE=some (Sum.inr (gb,gl,ng,out',()))∧out'.length=out.length∧Big 1000000000000 out'∧v6 out'=v6 a*v6 b:=by
 refine bn (Inv:=fun i s=>∃ o:List Int,s=(a,(a.length:Int),(i:Int),nb,b,gb,gl,ng,o,())∧o.length=out.length∧Big (3000000*b.length*i) o∧v6 o=v6 (a.take i)*v6 b) a.length
  (fun r=>∃ out',r=some (Sum.inr (gb,gl,ng,out',()))∧out'.length=out.length∧Big 1000000000000 out'∧v6 out'=v6 a*v6 b) ?_ ?_ n 0 _ ⟨out,rfl,rfl,hz.mono (by omega),by simp [Fe,hv0]⟩ (by omega) (by omega)
 ·rintro i _ again hi ⟨o,rfl,hl,hB,hv⟩ ih
  unfold AE
  dsimp only
  have hy:a[i]? =some a[i]:=aH hi
  have hyd:=ha.get hy
  have hts:=qa hy
  generalize a[i]=y at hy hyd hts
  rw [aE (by omega),bh,hy,Option.bind_some]
  have hbnd:3000000*(b.length:Int)*(i:Int)≤3000000*(b.length:Int)*99:=aep (by omega) (by omega)
  have hnn:0≤3000000*(b.length:Int)*(i:Int):=aer (by omega) (by omega)
  obtain ⟨o',h1,h2,h3,h4⟩:=UN i y a (a.length:Int) (i:Int) b nb gb gl ng o (3000000*(b.length:Int)*(i:Int)) hyd hb (by omega) (by omega) (by omega) (by omega) hB hnn (by omega) (Int.natAbs (i:Int)+(Int.natAbs y+(List.length a+(Int.natAbs (a.length:Int)+(Int.natAbs (i:Int)+(List.length b+(Int.natAbs ((List.length b:Int))+(Int.natAbs (0:Int)+(List.length b+(List.length gl+(List.length o+2))))))))))) (by omega)
  rw [h1,aG]
  dsimp only
  rw [aA (by omega) (by omega)]
  refine ih _ ⟨o',rfl,by omega, ?_, ?_⟩
  ·have e:3000000*(b.length:Int)*(i:Int)+3000000*(b.length:Int)=3000000*(b.length:Int)*((i+1:Nat):Int):=by
    rw [show ((i+1:Nat):Int)=(i:Int)+1 by omega,aen,aes]
   rw [← e];exact h3
  ·rw [h4,hv,hts,Int.add_mul,aeo]
 ·rintro _ again ⟨o,rfl,hl,hB,hv⟩
  unfold AE
  dsimp only
  rw [aF (by omega)]
  rw [afP (af0 _)] at hv
  have hbnd:3000000*(b.length:Int)*(a.length:Int)≤3000000*(b.length:Int)*99:=aep (by omega) (by omega)
  exact ⟨o,rfl,hl,hB.mono (by omega),hv⟩
theorem Wg (l:List Int) (nb g:Bool) (gl:List Int) (M:Nat) (hM:M+1=l.length) (hl:l.length<10000) (hB:Big 1000000000000 l) (n:Nat) (hn:M<n):
 ∃ l',iter (X:=yb) (β:=ye) n ((M:Int),0,g,gl,nb,l,()) yE=some (Sum.inr (g,gl,nb,l',()))∧l'.length=l.length∧Dg6 (l'.take M)∧(∀ d,l'[M]? =some d→0≤d)∧v6 l'=v6 l:=by
 refine bn (Inv:=fun i s=>∃ o:List Int,s=((M:Int),(i:Int),g,gl,nb,o,())∧o.length=l.length∧Big (1000000000000+2000000*i) o∧Dg6 (o.take i)∧v6 o=v6 l) M
  (fun r=>∃ l',r=some (Sum.inr (g,gl,nb,l',()))∧l'.length=l.length∧Dg6 (l'.take M)∧(∀ d,l'[M]? =some d→0≤d)∧v6 l'=v6 l) ?_ ?_ n 0 _ ⟨l,rfl,rfl,hB.mono (by omega),by simpa using Dig.nil,rfl⟩ (by omega) (by omega)
 ·rintro i _ again hi ⟨o,rfl,hol,hBo,hd,hv⟩ ih
  unfold yE
  dsimp only
  have e2:w64 ((i:Int)+1)=((i+1:Nat):Int):=by rw [aA (by omega) (by omega)];omega
  have h3:o[i]? =some o[i]:=aH (by omega)
  have h4:o[i+1]? =some o[i+1]:=aH (by omega)
  have d3:=hBo.get h3
  have d4:=hBo.get h4
  generalize o[i]'(by omega)=y3 at h3 d3
  generalize o[i+1]'(by omega)=y4 at h4 d4
  rw [aE (by omega),e2]
  simp only [aeF,h3,h4,Option.bind_some,afj]
  have e4:w64 (y4+w64 (Int.tdiv y3 1000000))=y4+y3 / 1000000:=by
   rw [aeD (by omega),aA (n:=y3 / 1000000) (by omega) (by omega),aA (by omega) (by omega)]
  have h7:(o.set (i+1) (y4+y3 / 1000000))[i]? =some y3:=by rw [ae7 (by omega)];exact h3
  simp only [e4,h7,Option.bind_some]
  rw [aJ (by simp only [ad5,decide_eq_true_eq];omega),aJ (by simp only [ad5,decide_eq_true_eq];omega),aJ (by simp only [ad5,decide_eq_true_eq];omega),aJ (by simp only [ad5,decide_eq_true_eq];omega),aJ (by simp only [ad5,decide_eq_true_eq];omega),aeE (by omega)]
  have hself:o.set i y3=o:=by
   apply aeW
   intro j
   by_cases hj:i=j
   ·subst hj;rw [ae8 (by omega),h3]
   ·rw [ae7 hj]
  refine ih _ ⟨_,rfl,by simp only [afj];exact hol, ?_, ?_, ?_⟩
  ·exact Big.set (D:=1000000000000+2000000*((i+1:Nat):Int)) (Big.set hBo (by omega) (by omega)) (Int.le_refl _) (by omega)
  ·have hg:((o.set (i+1) (y4+y3 / 1000000)).set i (y3 % 1000000))[i]? =some (y3 % 1000000):=ae8 (by rw [afj];omega)
   rw [Ak hg]
   refine Dig.snoc ?_ (by omega)
   rw [List.take_set_of_le (by omega),List.take_set_of_le (by omega)]
   exact hd
  ·have:=XA h3 h4 (t:=y3)
   rw [hself] at this
   rw [this,hv];simp
 ·rintro _ again ⟨o,rfl,hol,hBo,hd,hv⟩
  unfold yE
  dsimp only
  rw [aF (by omega)]
  exact ⟨o,rfl,hol,hd,fun d hd'=>(hBo.get hd').1,hv⟩
theorem gw (x y:Int) (hx:(dg6 x.natAbs).length<100) (hy:(dg6 y.natAbs).length<1000):gO (N x) (N y)=some (N (x*y),()):=by
 unfold gO N
 dsimp only
 have e1:w64 (w64 (((dg6 x.natAbs).length:Int)+((dg6 y.natAbs).length:Int))+1)=(((dg6 x.natAbs).length+(dg6 y.natAbs).length+1:Nat):Int):=by
  rw [aA (n:=((dg6 x.natAbs).length:Int)+((dg6 y.natAbs).length:Int)) (by omega) (by omega),aA (by omega) (by omega)];omega
 rw [e1,aeF,aJ (by simp only [ad5,decide_eq_true_eq];omega)]
 generalize hL:(dg6 x.natAbs).length+(dg6 y.natAbs).length+1=L at*
 have hz:Big 0 (List.replicate L 0):=fun d hd=>by rw [afA] at hd;omega
 have hv0:v6 (List.replicate L 0)=0:=by
  generalize L=k
  induction k with
  | zero=>rfl
  | succ k ih=>rw [afI,DY,ih];rfl
 obtain ⟨o,h1,h2,h3,h4⟩:=U6 (dg6 x.natAbs) (dg6 y.natAbs) (pL _) (pL _) hx hy (decide (y<0)) false [] (!(decide (x<0)==decide (y<0))) (List.replicate L 0) (by rw [afi];omega) (by rw [afi];omega) hz hv0 (List.length (dg6 x.natAbs)+(Int.natAbs ((List.length (dg6 x.natAbs):Int))+(Int.natAbs (0:Int)+(List.length (dg6 y.natAbs)+(List.length ([]:List Int)+(List.length ((List.replicate L 0):List Int)+2)))))) (by omega)
 rw [h1,aG]
 dsimp only
 rw [afi] at h2
 have e2:w64 ((o.length:Int) - 1)=(((L - 1:Nat)):Int):=by rw [aA (by omega) (by omega)];omega
 rw [e2]
 obtain ⟨o',g1,g2,g3,g4,g5⟩:=Wg o (!(decide (x<0)==decide (y<0))) false [] (L - 1) (by omega) (by omega) h3 (Int.natAbs ((((L - 1:Nat)):Int))+(Int.natAbs (0:Int)+(List.length ([]:List Int)+(List.length o+2)))) (by omega)
 rw [g1,aG]
 dsimp only
 have hm:v6 o'=(x.natAbs:Int)*(y.natAbs:Int):=by rw [g5,h4,wh,wh]
 have hlast:o'[L - 1]? =some (o'[L - 1]'(by omega)):=aH (by omega)
 have hsplit:v6 o'=v6 (o'.take (L - 1))+1000000 ^ (L - 1)*(o'[L - 1]'(by omega)):=by
  rw [← qa hlast,afP (by omega)]
 have hlt:v6 o'<1000000 ^ (L - 1):=by
  rw [hm]
  have a1:=JI (pL x.natAbs)
  have a2:=JI (pL y.natAbs)
  rw [wh] at a1 a2
  rw [show L - 1=(dg6 x.natAbs).length+(dg6 y.natAbs).length by omega,aex]
  have b1:(x.natAbs:Int)*(y.natAbs:Int)≤(x.natAbs:Int)*1000000 ^ (dg6 y.natAbs).length:=aep (by omega) (by omega)
  have b2:(x.natAbs:Int)*1000000 ^ (dg6 y.natAbs).length<1000000 ^ (dg6 x.natAbs).length*1000000 ^ (dg6 y.natAbs).length:=Int.mul_lt_mul_of_pos_right a1 (by omega)
  omega
 have hl0:=g4 _ hlast
 generalize o'[L - 1]'(by omega)=dl at hlast hsplit hl0
 have hdl:dl=0:=by
  have h5:=nx g3
  rcases (show dl=0∨1≤dl by omega) with h | h
  ·exact h
  ·have hp:(0:Int)<1000000 ^ (L - 1):=Il (by omega) _
   have:(1000000:Int) ^ (L - 1)*1≤1000000 ^ (L - 1)*dl:=aep h (by omega)
   omega
 have hdig:Dg6 o':=by
  have e:o'=o'.take (L - 1)++[dl]:=by
   rw [← Ak hlast,afP (by omega)]
  rw [e];exact g3.snoc (by omega)
 rw [Qy _ _ hdig (by omega),Option.bind_some,hm]
 show some (N _,())=some (N (x*y),())
 congr 3
 by_cases hxn:x<0<;>by_cases hyn:y<0
 ·simp only [hxn,hyn,agG,agA,Bool.not_true,ad8,agK]
  rw [show (x.natAbs:Int)= -x by omega,show (y.natAbs:Int)= -y by omega,Int.neg_mul_neg]
 ·simp only [hxn,hyn,agG,agF,agL,show (!(true==false))=true from rfl]
  rw [show (x.natAbs:Int)= -x by omega,show (y.natAbs:Int)=y by omega,Int.neg_mul,Int.neg_neg]
 ·simp only [hxn,hyn,agG,agF,agL,show (!(false==true))=true from rfl]
  rw [show (x.natAbs:Int)=x by omega,show (y.natAbs:Int)= -y by omega,Int.mul_neg,Int.neg_neg]
 ·simp only [hxn,hyn,agF,agA,Bool.not_true,ad8,agK]
  rw [show (x.natAbs:Int)=x by omega,show (y.natAbs:Int)=y by omega]
end Go.Md
