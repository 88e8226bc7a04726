/-
  Plain facts: loops, digits, whole numbers. No condition.
-/
import Derived.Test.YtjlkkapojeldlabGreatDoorYm
set_option linter.all false
namespace Go.Md
open Go.Dn
theorem dG {X β:Type} {f:X->(X->Option β)->Option β} (Inv:Nat->X->Prop) (N:Nat) (Q:Option β->Prop) (step:∀ i x again,i<N->Inv i x->(∀ y,Inv (i+1) y->Q (again y))->Q (f x again)) (fin:∀ x again,Inv N x->Q (f x again)):∀ n i x,Inv i x->i<=N->N - i<n->Q (iter n x f)
 | 0,_,_,_,_,hn=>absurd hn (afE _)
 | n+1,i,x,hx,hi,hn=>by
  show Q (f x _)
  by_cases h:i=N
  ·subst h;exact fin x _ hx
  ·exact step i x _ (by omega) hx fun y hy=>dG Inv N Q step fin n (i+1) y hy (by omega) (by omega)
theorem CN {X β:Type} {f:X->(X->Option β)->Option β} (Inv:X->Prop) (μ:X->Nat) (Q:X->Option β->Prop) (step:∀ x again,Inv x->(∀ y,Inv y->μ y<μ x->Q y (again y))->Q x (f x again)):∀ n x,Inv x->μ x<n->Q x (iter n x f)
 | 0,_,_,hn=>absurd hn (afE _)
 | n+1,x,hx,hn=>step x _ hx fun y hy h=>CN Inv μ Q step n y hy (by omega)
theorem fo:maxLen=9223372036854775807:=rfl
theorem aC {β:Type} {b:Bool} (h:b=true) (x:Option β):chk b x=x:=by rw[h];rfl
theorem si {n k:Nat} (h:n*k<=140737488355328) (h2:n<=9223372036854775807):(decide (n*k<=140737488355328)&&decide (n<=maxLen))=true:=by
 simp only[adj,af1];rw[fo];omega
theorem aI {α:Type} {p:Prop} [Decidable p] (h:p) (x y:α):(bif decide p then x else y)=x:=by rw[af0 h];rfl
theorem aM {α:Type} {p:Prop} [Decidable p] (h:¬p) (x y:α):(bif decide p then x else y)=y:=by rw[afZ h];rfl
theorem zy {β γ:Type} (r:β) (f:γ->Option β):aJ (some (Sum.inl r)) f=some r:=rfl
theorem aU {β γ:Type} (v:γ) (f:γ->Option β):aJ (β:=β) (some (Sum.inr v)) f=f v:=rfl
theorem aP {α:Type} {l:List α} {i:Nat} (h:i<l.length):l[i]? =some (l[i]'h):=ael h
theorem EM {k:IntKind} {n:Int} (h1:k.min<=n) (h2:n<=k.max):k.wrap n=n:=by
 cases k<;>simp[IntKind.wrap,IntKind.min,IntKind.max,IntKind.bits,IntKind.signed] at* <;>(try split)<;>omega
theorem aK {n:Int} (h1: -9223372036854775808<=n) (h2:n<=9223372036854775807):w64 n=n:=EM h1 h2
theorem cQ {n:Int} (h1:0<=n) (h2:n<=18446744073709551615):bB n=n:=EM h1 h2
theorem EN {n:Int} (h1:0<=n) (h2:n<=4294967295):lz n=n:=EM h1 h2
theorem Co (n:Int):bB n=n % 18446744073709551616:=by simp[bB,IntKind.wrap,IntKind.bits,IntKind.signed]
theorem Cn (n:Int):lz n=n % 4294967296:=by simp[lz,IntKind.wrap,IntKind.bits,IntKind.signed]
theorem cr {α:Type} (l:List α) (i:Nat):idx l (i:Int)=l[i]? :=by simp[idx]
end Go.Md
namespace Go.Md
open Go.Dn
def val (B:Int):List Int->Int
 | []=>0
 | d::r=>d+B*val B r
def Dig (B:Int) (l:List Int):Prop:=∀ d,d∈l->0<=d/\d<B
theorem Dig.nil {B:Int}:Dig B []:=fun _ h=>by cases h
theorem Dig.cons {B d:Int} {l:List Int} (h:0<=d/\d<B) (hl:Dig B l):Dig B (d::l):=fun x hx=>by
 rcases aeO.1 hx with rfl | hx
 ·exact h
 ·exact hl x hx
theorem Dig.head {B d:Int} {l:List Int} (h:Dig B (d::l)):0<=d/\d<B:=h d (by simp)
theorem Dig.tail {B d:Int} {l:List Int} (h:Dig B (d::l)):Dig B l:=fun x hx=>h x (by simp[hx])
theorem Dig.append {B:Int} {l m:List Int} (h:Dig B l) (k:Dig B m):Dig B (l++m):=fun x hx=>by
 rcases aeN.1 hx with hx | hx
 ·exact h x hx
 ·exact k x hx
theorem Dig.snoc {B d:Int} {l:List Int} (h:Dig B l) (hd:0<=d/\d<B):Dig B (l++[d]):=h.append (Dig.cons hd Dig.nil)
theorem Dig.take {B:Int} {l:List Int} (h:Dig B l) (n:Nat):Dig B (l.take n):=fun x hx=>h x (aeV hx)
theorem Dig.drop {B:Int} {l:List Int} (h:Dig B l) (n:Nat):Dig B (l.drop n):=fun x hx=>h x (List.mem_of_mem_drop hx)
theorem Dig.get {B d:Int} {l:List Int} {i:Nat} (h:Dig B l) (hi:l[i]? =some d):0<=d/\d<B:=h d (aeU hi)
theorem Dig.left {B:Int} {l m:List Int} (h:Dig B (l++m)):Dig B l:=fun x hx=>h x (List.mem_append_left _ hx)
theorem Dig.right {B:Int} {l m:List Int} (h:Dig B (l++m)):Dig B m:=fun x hx=>h x (List.mem_append_right _ hx)
theorem AZ {B:Int} (hB:0<B):∀ {l:List Int},Dig B l->0<=val B l
 | [],_=>Int.le_refl _
 | d::r,h=>by
  have h1:=h.head;have h2:=AZ hB h.tail
  have:0<=B*val B r:=adG (by omega) h2
  simp only[val];omega
theorem TR {B:Int} (hB:0<B):∀ {l:List Int},Dig B l->val B l<B ^ l.length
 | [],_=>by simp[val]
 | d::r,h=>by
  have h1:=h.head;have h2:=TR hB h.tail
  have h3:B*(val B r+1)<=B*B ^ r.length:=adE h2 (by omega)
  rw[adC,adH] at h3
  simp only[val,aez]
  rw[adK,Int.mul_comm (B ^ r.length) B]
  omega
theorem AY {B:Int}:∀ (l m:List Int),val B (l++m)=val B l+B ^ l.length*val B m
 | [],m=>by simp[val]
 | d::r,m=>by
  simp only[adV,val,AY r m,aez,adK]
  rw[adC,Int.add_assoc]
  congr 2
  rw[Int.mul_comm (B ^ r.length) B,adD]
theorem TS {B:Int} (l:List Int) (d:Int):val B (l++[d])=val B l+B ^ l.length*d:=by
 rw[AY];simp[val]
theorem Ma {B:Int} (hB:0<B):∀ n:Nat,0<B ^ n
 | 0=>by simp
 | n+1=>by rw[adK];exact Int.mul_pos (Ma hB n) hB
def dgF (B:Nat):Nat->Nat->List Int
 | 0,_=>[]
 | f+1,n=>if n=0 then [] else ((n % B:Nat):Int)::dgF B f (n / B)
def dg (B n:Nat):List Int:=dgF B n n
theorem Yk {B:Nat} (hB:2<=B):∀ (f g n:Nat),n<=f->n<=g->dgF B f n=dgF B g n
 | 0,0,_,_,_=>rfl
 | 0,g+1,n,h,_=>by have:n=0:=by omega
                   subst this;simp[dgF]
 | f+1,0,n,_,h=>by have:n=0:=by omega
                   subst this;simp[dgF]
 | f+1,g+1,n,hf,hg=>by
  by_cases hn:n=0
  ·subst hn;simp[dgF]
  ·have:n / B<n:=afl (by omega) (by omega)
   simp only[dgF,hn,af7]
   rw[Yk hB f g (n / B) (by omega) (by omega)]
theorem A7 (B:Nat):dg B 0=[]:=rfl
theorem zl {B:Nat} (hB:2<=B) {n:Nat} (hn:0<n):dg B n=((n % B:Nat):Int)::dg B (n / B):=by
 have:n / B<n:=afl hn (by omega)
 obtain⟨m,rfl⟩:∃ m,n=m+1:=⟨n - 1,by omega⟩
 unfold dg
 rw[dgF,af8 (by omega),Yk hB m ((m+1) / B) _ (by omega) (afq _)]
theorem Yl {B:Nat} (hB:2<=B):∀ n,Dig B (dg B n):=by
 intro n
 induction n using Nat.strongRecOn with
 | _ n ih=>
  by_cases hn:n=0
  ·subst hn;exact Dig.nil
  ·rw[zl hB (by omega)]
   exact Dig.cons ⟨by omega,by have:=Nat.mod_lt n (show 0<B by omega);omega⟩ (ih _ (afl (by omega) (by omega)))
theorem ZN {B:Nat} (hB:2<=B):∀ n,val B (dg B n)=n:=by
 intro n
 induction n using Nat.strongRecOn with
 | _ n ih=>
  by_cases hn:n=0
  ·subst hn;rfl
  ·rw[zl hB (by omega),val,ih _ (afl (by omega) (by omega))]
   have:=Nat.mod_add_div n B
   omega
theorem CC {B:Nat} (hB:2<=B) {n:Nat} (hn:0<n):dg B n≠[]:=by rw[zl hB hn];simp
theorem PZ {B:Nat} (hB:2<=B) {n:Nat}:dg B n=[]↔n=0:=by
 constructor
 ·intro h
  rcases afn n with h0 | h0
  ·exact h0
  ·exact absurd h (CC hB h0)
 ·rintro rfl;rfl
theorem MT {B:Nat} (hB:2<=B) {d n:Nat} (hd:d<B) (h:0<d+B*n):dg B (d+B*n)=(d:Int)::dg B n:=by
 rw[zl hB h]
 have h1:(d+B*n) % B=d:=by rw[Nat.add_mul_mod_self_left,Nat.mod_eq_of_lt hd]
 have h2:(d+B*n) / B=n:=by rw[Nat.add_mul_div_left _ _ (by omega),Nat.div_eq_of_lt hd];omega
 rw[h1,h2]
def trim:List Int->List Int
 | []=>[]
 | d::r=>match trim r with
  | []=>if d=0 then [] else [d]
  | t=>d::t
theorem PD {B:Nat} (hB:2<=B):∀ {l:List Int},Dig B l->trim l=dg B (val B l).toNat
 | [],_=>rfl
 | d::r,h=>by
  have hr:=PD hB h.tail
  have h1:=h.head
  have hB0:(0:Int)<B:=by omega
  have h2:=AZ hB0 h.tail
  obtain⟨k,rfl⟩:∃ k:Nat,d=k:=⟨d.toNat,by omega⟩
  obtain⟨n,hn⟩:∃ n:Nat,val B r=n:=⟨(val B r).toNat,by omega⟩
  have hv:(val B ((k:Int)::r)).toNat=k+B*n:=by
   simp only[val,hn]
   rw[show ((B:Int)*(n:Int))=((B*n:Nat):Int) by simp]
   omega
  rw[hv]
  rw[hn] at hr
  simp only[adN] at hr
  unfold trim
  rw[hr]
  rcases afn n with h0 | h0
  ·subst h0
   simp only[A7,Nat.mul_zero,afj]
   by_cases hk:k=0
   ·subst hk;simp[A7]
   ·have:=MT hB (d:=k) (n:=0) (by omega) (by omega)
    simp only[Nat.mul_zero,afj,A7] at this
    rw[this];simp[hk]
  ·have hpos:0<k+B*n:=by have:=Nat.mul_pos (show 0<B by omega) h0;omega
   rw[MT hB (by omega) hpos]
   cases hd:dg B n with
   | nil=>exact absurd hd (CC hB h0)
   | cons a t=>rfl
theorem sN:∀ l:List Int,trim (l++[0])=trim l
 | []=>rfl
 | d::r=>by simp only[adV,trim,sN r]
theorem Cj {d:Int} (hd:d≠0):∀ l:List Int,trim (l++[d])=l++[d]
 | []=>by simp[trim,hd]
 | e::r=>by
  simp only[adV,trim,Cj hd r]
  cases h:r++[d] with
  | nil=>simp at h
  | cons a t=>rfl
theorem Sx {B:Nat} (hB:2<=B):∀ (k n:Nat),n<B ^ k->(dg B n).length<=k
 | 0,n,h=>by have:n=0:=by simpa using h
             subst this;simp[A7]
 | k+1,n,h=>by
  by_cases hn:n=0
  ·subst hn;simp[A7]
  ·rw[zl hB (by omega),aez]
   have:=Sx hB k (n / B) (by rw[afG] at h;exact Nat.div_lt_of_lt_mul (by rw[Nat.mul_comm];exact h))
   omega
theorem P6 {B:Nat} (hB:2<=B) {m n:Nat} (h:(dg B m).length<(dg B n).length):m<n:=by
 rcases afu m n with h1 | h1
 ·exact h1
 ·exfalso
  have h2:∀ a b:Nat,b<=a->(dg B b).length<=(dg B a).length:=by
   intro a
   induction a using Nat.strongRecOn with
   | _ a ih=>
    intro b hb
    by_cases h0:b=0
    ·subst h0;simp[A7]
    ·rw[zl hB (by omega),zl hB (show 0<a by omega),aez,aez]
     have:=ih (a / B) (afl (by omega) (by omega)) (b / B) (Nat.div_le_div_right hb)
     omega
  have:=h2 m n h1
  omega
end Go.Md
namespace Go.Md
open Go.Dn
def v32 (l:List Int):Int:=val 4294967296 l
theorem vP:v32 []=0:=rfl
theorem Ge (d:Int) (l:List Int):v32 (d::l)=d+4294967296*v32 l:=rfl
theorem Ob (l m:List Int):v32 (l++m)=v32 l+4294967296 ^ l.length*v32 m:=AY l m
theorem Gf (l:List Int) (d:Int):v32 (l++[d])=v32 l+4294967296 ^ l.length*d:=TS l d
abbrev Dg (l:List Int):Prop:=Dig 4294967296 l
def bX (n:Nat):List Int:=dg 4294967296 n
theorem CB:bX 0=[]:=rfl
theorem KC {n:Nat}:bX n=[]↔n=0:=PZ (B:=4294967296) (by omega)
theorem yG {n:Nat} (h:0<n):bX n≠[]:=CC (B:=4294967296) (by omega) h
theorem tN {m n:Nat} (h:(bX m).length<(bX n).length):m<n:=P6 (B:=4294967296) (by omega) h
theorem gq (n:Nat):Dg (bX n):=Yl (B:=4294967296) (by omega) n
theorem fC (n:Nat):v32 (bX n)=n:=ZN (B:=4294967296) (by omega) n
theorem TJ {l:List Int} (h:Dg l):trim l=bX (v32 l).toNat:=PD (B:=4294967296) (by omega) h
theorem xg {l:List Int} (h:Dg l):0<=v32 l:=AZ (by omega) h
theorem Oc {l:List Int} (h:Dg l):v32 l<4294967296 ^ l.length:=TR (by omega) h
theorem qG {k n:Nat} (h:n<4294967296 ^ k):(bX n).length<=k:=Sx (B:=4294967296) (by omega) k n h
theorem Cm (l:List Int) (hl:l.length<1000000):lX l=some (trim l,()):=by
 have key:∀ n (x:lu),x.1.length<1000000->x.1.length<n->iter n x vn=some (Sum.inr (trim x.1,())):=by
  refine CN (fun x:lu=>x.1.length<1000000) (fun x=>x.1.length) (fun x r=>r=some (Sum.inr (trim x.1,()))) ?_
  rintro⟨x,u⟩ again hx ih
  simp only at hx ih ⊢
  unfold vn
  simp only
  by_cases h0:x.length=0
  ·have:x=[]:=ad8 h0
   subst this;simp[trim]
  ·have e1:w64 ((x.length:Int) - 1)=((x.length - 1:Nat):Int):=by rw[aK (by omega) (by omega)];omega
   have hsp:x=x.take (x.length - 1)++[x[x.length - 1]'(by omega)]:=by
    have:=afa (x.length - 1) x
    rw[ad1 (by omega),ad4 (by omega)] at this
    exact this.symm
   rw[aI (by omega),e1,cr,aP (by omega)]
   simp only[adN,ad6,afJ]
   by_cases hz:x[x.length - 1]'(by omega)=0
   ·rw[hz] at hsp ⊢
    rw[aC (by simp only[adj,af1];omega)]
    simp only[afU,afX]
    rw[ih (List.take (x.length - 1) x,()) (by simp only[aeH];omega) (by simp only[aeH];omega)]
    conv=>rhs;rw[hsp,sN]
   ·have:(x[x.length - 1]'(by omega)==0)=false:=by simp[hz]
    rw[this]
    simp only[afW]
    conv=>rhs;rw[hsp,Cj hz]
    rw[<- hsp]
 unfold lX
 rw[key _ _ (by simpa using hl) (by simp)]
 rfl
def W (z:Int):bN:=(decide (z<0),bX z.natAbs)
theorem jW (b:Bool) (l:List Int) (hd:Dg l) (hl:l.length<1000000):fZ b l=some (W (if b then -v32 l else v32 l),()):=by
 unfold fZ
 rw[Cm l hl,TJ hd]
 have h0:=xg hd
 simp only[afJ]
 cases b with
 | false=>simp only[afW,W];rw[show (decide ((if false=true then -v32 l else v32 l)<0))=false by simp;omega];congr 4;simp;omega
 | true=>
  simp only[afX,W]
  congr 3
  ·by_cases hv:v32 l=0
   ·simp[hv,CB]
   ·have hpos:0<v32 l:=by omega
    have:bX (v32 l).toNat≠[]:=yG (by omega)
    have hlen:0<(bX (v32 l).toNat).length:=by
     cases h:bX (v32 l).toNat with
     | nil=>exact absurd h this
     | cons a t=>simp
    simp;omega
  ·congr 1;simp;omega
theorem yZ (n:Int) (h1: -9223372036854775808<=n) (h2:n<=9223372036854775807):oX n=some (W n,()):=by
 unfold oX
 have key:∀ u:Int,0<=u->u<=9223372036854775808->fZ (decide (n<0)) [lz u,lz (Int.fdiv u (2 ^ 32))]=some (W (if decide (n<0) then -u else u),()):=by
  intro u hu0 hu1
  have e:Int.fdiv u (2 ^ 32)=u / 4294967296:=by rw[adB _ (by omega)];rfl
  rw[e,Cn,Cn]
  have hd:Dg [u % 4294967296,u / 4294967296 % 4294967296]:=Dig.cons (by omega) (Dig.cons (by omega) Dig.nil)
  rw[jW _ _ hd (by simp)]
  have hv:v32 [u % 4294967296,u / 4294967296 % 4294967296]=u:=by simp only[Ge,vP];omega
  rw[hv]
 by_cases hn:n<0
 ·have e1:bB (0 - bB n)= -n:=by rw[Co,Co];omega
  rw[show decide (n<0)=true by simpa using hn] at key ⊢
  simp only[afX,aJ]
  rw[e1]
  rw[show decide (n<0)=true by simpa using hn]
  rw[key (-n) (by omega) (by omega)]
  simp
 ·have e1:bB n=n:=cQ (by omega) (by omega)
  rw[show decide (n<0)=false by simpa using hn] at key ⊢
  simp only[afW,aJ]
  rw[e1]
  rw[show decide (n<0)=false by simpa using hn]
  rw[key n (by omega) (by omega)]
  simp
theorem Ku (z:Int):jf (W z)=some (z.sign,()):=by
 unfold jf W
 by_cases h:z<0
 ·simp[h,Int.sign_eq_neg_one_of_neg h]
 ·by_cases h0:z=0
  ·subst h0;simp[CB]
  ·have hp:0<z:=by omega
   have:bX z.natAbs≠[]:=yG (by omega)
   have hlen:((bX z.natAbs).length:Int)≠0:=by
    intro h;exact this (ad8 (by omega))
   have hb:(((bX z.natAbs).length:Int)==0)=false:=by simpa using hlen
   simp only[h,af2,afW,hb,Int.sign_eq_one_of_pos hp]
theorem acB {z:Int} {k:Nat} (h:z.natAbs<4294967296 ^ k):(W z).2.length<=k:=qG h
theorem Jp (z:Int) (h:z.natAbs<4294967296 ^ 99):jQ (W z)=some (W (-z),()):=by
 unfold jQ
 have hl:=acB h
 rw[jW _ (W z).2 (gq _) (by omega)]
 simp only[afJ]
 congr 3
 simp only[W,fC]
 by_cases hz:z<0
 ·simp[hz];omega
 ·simp[hz];omega
theorem jV {α:Type} {l:List α} {i:Nat} {y:α} (h:l[i]? =some y):l.take (i+1)=l.take i++[y]:=by
 rw[List.take_add_one,h];rfl
theorem ff {l:List Int} {i:Nat} {y:Int} (h:l[i]? =some y):v32 (l.take (i+1))=v32 (l.take i)+4294967296 ^ i*y:=by
 have hi:=(aen.1 h).1
 rw[jV h,Gf,aeH,afA (by omega)]
theorem GL {l:List Int} {i:Nat} (h:l.length<=i):v32 (l.take (i+1))=v32 (l.take i):=by
 rw[afd h,afd (by omega)]
theorem SE {u:Int}:Int.fdiv u (2 ^ 32)=u / 4294967296:=by rw[adB _ (by omega)];rfl
theorem PI (a b:List Int) (ha:Dg a) (hb:Dg b) (hla:a.length<100000) (hlb:b.length<=a.length) (n:Nat) (hn:a.length<n): ∃ out c,iter (X:=rP) (β:=rO) n (b,[],0,a,(a.length:Int),0,()) rN=some (Sum.inr (out,c,()))/\Dg out/\0<=c/\c<=1/\out.length=a.length/\v32 out+4294967296 ^ a.length*c=v32 a+v32 b:=by
 refine dG (Inv:=fun i x=>∃ out c,x=(b,out,c,a,(a.length:Int),(i:Int),())/\Dg out/\0<=c/\c<=1/\out.length=i/\v32 out+4294967296 ^ i*c=v32 (a.take i)+v32 (b.take i)) a.length
  (fun r=>∃ out c,r=some (Sum.inr (out,c,()))/\Dg out/\0<=c/\c<=1/\out.length=a.length/\v32 out+4294967296 ^ a.length*c=v32 a+v32 b) ?_ ?_ n 0 _ ⟨[],0,rfl,Dig.nil,by omega,by omega,rfl,by simp[vP]⟩ (by omega) (by omega)
 ·rintro i _ again hi ⟨out,c,rfl,hd,hc0,hc1,hlen,hv⟩ ih
  unfold rN
  simp only
  have hy:a[i]? =some a[i]:=aP hi
  have hyd:=ha.get hy
  generalize a[i]=y at hy hyd
  rw[aI (by omega),cr,hy,afJ]
  have step:∀ z:Int,0<=z->z<4294967296->v32 (b.take (i+1))=v32 (b.take i)+4294967296 ^ i*z->
   ∃ out' c',again (b,out++[lz (bB (bB (c+bB y)+bB z))],Int.fdiv (bB (bB (c+bB y)+bB z)) (2 ^ 32),a,(a.length:Int),w64 ((i:Int)+1),())=some (Sum.inr (out',c',()))/\Dg out'/\0<=c'/\c'<=1/\out'.length=a.length/\v32 out'+4294967296 ^ a.length*c'=v32 a+v32 b:=by
   intro z hz0 hz1 hbz
   have e1:bB (bB (c+bB y)+bB z)=c+y+z:=by
    rw[cQ (n:=y) (by omega) (by omega),cQ (n:=z) (by omega) (by omega),cQ (n:=c+y) (by omega) (by omega),cQ (by omega) (by omega)]
   rw[e1,Cn,SE,aK (by omega) (by omega)]
   refine ih _ ⟨_,_,rfl,hd.snoc (by omega),by omega,by omega,by simp[hlen], ?_⟩
   rw[Gf,hlen,ff hy,hbz,adK]
   have hm:=Int.mul_ediv_add_emod (c+y+z) 4294967296
   have:(4294967296:Int) ^ i*((c+y+z) % 4294967296)+4294967296 ^ i*4294967296*((c+y+z) / 4294967296)=4294967296 ^ i*(c+y+z):=by
    rw[adD, <- adC];congr 1;omega
   rw[adC,adC] at this
   omega
  by_cases hib:i<b.length
  ·have hz:b[i]? =some b[i]:=aP hib
   rw[aI (by omega),cr,hz,afJ]
   simp only[aU]
   rw[aC (si (by omega) (by omega))]
   exact step b[i] (hb.get hz).1 (hb.get hz).2 (ff hz)
  ·rw[aM (by omega)]
   simp only[aU]
   rw[aC (si (by omega) (by omega))]
   have:=step 0 (by omega) (by omega) (by rw[GL (by omega)];omega)
   have e0:bB (bB (c+bB y)+bB 0)=bB (c+bB y):=by
    rw[cQ (n:=y) (by omega) (by omega),cQ (n:=(0:Int)) (by omega) (by omega),cQ (n:=c+y) (by omega) (by omega),cQ (by omega) (by omega)];omega
   rw[e0] at this
   exact this
 ·rintro _ again ⟨out,c,rfl,hd,hc0,hc1,hlen,hv⟩
  unfold rN
  simp only
  rw[aM (by omega)]
  rw[afd (afq _),afd hlb] at hv
  exact⟨out,c,rfl,hd,hc0,hc1,hlen,hv⟩
theorem TT (a b:List Int) (ha:Dg a) (hb:Dg b) (hla:a.length<100000) (hlb:b.length<100000): ∃ s,zW a b=some (s,())/\Dg s/\v32 s=v32 a+v32 b/\s.length=max a.length b.length+1:=by
 have core:∀ (a b:List Int),Dg a->Dg b->a.length<100000->b.length<=a.length->∃ s,(chk (decide (0<=(0:Int))&&decide ((0:Int)<=(w64 (((List.length a:Int))+1)))&&decide ((4:Int)*(w64 (((List.length a:Int))+1))<=281474976710656)&&decide ((w64 (((List.length a:Int))+1))<=9223372036854775807)) <|
 aJ (β:=((List Int)×Unit)) (γ:=((List Int)×Int×Unit)) (
  iter (X:=rP) (β:=rO) (List.length b+(List.length ([]:List Int)+(Int.natAbs (0:Int)+(List.length a+(Int.natAbs ((List.length a:Int))+(Int.natAbs (0:Int)+2)))))) (b,[],0,a,(List.length a:Int),0,()) (rN)) fun v7=>
 chk (decide (((v7.1.length)+1)*4<=140737488355328)&&decide ((v7.1.length)+1<=maxLen)) <|
 some (v7.1++[(lz v7.2.1)],()))=some (s,())/\Dg s/\v32 s=v32 a+v32 b/\s.length=a.length+1:=by
  intro a b ha hb hla hlb
  obtain⟨out,c,h1,h2,h3,h4,h5,h6⟩:=PI a b ha hb hla hlb _ (show a.length<List.length b+(List.length ([]:List Int)+(Int.natAbs (0:Int)+(List.length a+(Int.natAbs ((List.length a:Int))+(Int.natAbs (0:Int)+2))))) by omega)
  rw[h1,aU,aK (by omega) (by omega),aC (by simp only[adj,af1];omega)]
  simp only
  rw[aC (si (by omega) (by omega))]
  refine⟨_,rfl,h2.snoc ?_, ?_,by simp[h5]⟩
  ·rw[EN (by omega) (by omega)];omega
  ·rw[EN (by omega) (by omega),Gf,h5];exact h6
 unfold zW
 by_cases h:a.length<b.length
 ·rw[aI (by omega),aU]
  obtain⟨s,h1,h2,h3,h4⟩:=core b a hb ha hlb (by omega)
  exact⟨s,h1,h2,by omega,by omega⟩
 ·rw[aM (by omega),aU]
  obtain⟨s,h1,h2,h3,h4⟩:=core a b ha hb hla (by omega)
  exact⟨s,h1,h2,by omega,by omega⟩
theorem Oe (a b:List Int) (ha:Dg a) (hb:Dg b) (hla:a.length<100000) (hlb:b.length<=a.length) (n:Nat) (hn:a.length<n): ∃ out c,iter (X:=uQ) (β:=uP) n (b,[],0,a,(a.length:Int),0,()) uO=some (Sum.inr (out,()))/\Dg out/\0<=c/\c<=1/\out.length=a.length/\v32 out=v32 a - v32 b+4294967296 ^ a.length*c:=by
 refine dG (Inv:=fun i x=>∃ out c,x=(b,out,c,a,(a.length:Int),(i:Int),())/\Dg out/\0<=c/\c<=1/\out.length=i/\v32 out=v32 (a.take i) - v32 (b.take i)+4294967296 ^ i*c) a.length
  (fun r=>∃ out c,r=some (Sum.inr (out,()))/\Dg out/\0<=c/\c<=1/\out.length=a.length/\v32 out=v32 a - v32 b+4294967296 ^ a.length*c) ?_ ?_ n 0 _ ⟨[],0,rfl,Dig.nil,by omega,by omega,rfl,by simp[vP]⟩ (by omega) (by omega)
 ·rintro i _ again hi ⟨out,c,rfl,hd,hc0,hc1,hlen,hv⟩ ih
  unfold uO
  simp only
  have hy:a[i]? =some a[i]:=aP hi
  have hyd:=ha.get hy
  generalize a[i]=y at hy hyd
  rw[aI (by omega),cr,hy,afJ]
  have step:∀ z:Int,0<=z->z<4294967296->v32 (b.take (i+1))=v32 (b.take i)+4294967296 ^ i*z->∀ t:Int,t=(y - c - z) % 18446744073709551616->
   ∃ out' c',again (b,out++[lz t],bB (((BitVec.ofInt (IntKind.bits .u64) (Int.fdiv t (2 ^ 32)) &&& BitVec.ofInt (IntKind.bits .u64) 1).toNat:Int)),a,(a.length:Int),w64 ((i:Int)+1),())=some (Sum.inr (out',()))/\Dg out'/\0<=c'/\c'<=1/\out'.length=a.length/\v32 out'=v32 a - v32 b+4294967296 ^ a.length*c':=by
   intro z hz0 hz1 hbz t ht
   have e2:bB (((BitVec.ofInt (IntKind.bits .u64) (Int.fdiv t (2 ^ 32)) &&& BitVec.ofInt (IntKind.bits .u64) 1).toNat:Int))=(if y - c - z<0 then 1 else 0):=by
    rw[SE]
    have h1:t / 4294967296=(if y - c - z<0 then 4294967295 else 0):=by split<;>omega
    rw[h1]
    split<;>rfl
   rw[e2,Cn,aK (by omega) (by omega)]
   refine ih _ ⟨_,_,rfl,hd.snoc (by omega),by split<;>omega,by split<;>omega,by simp[hlen], ?_⟩
   rw[Gf,hlen,ff hy,hbz,adK,hv]
   have e3:t % 4294967296=y - c - z+4294967296*(if y - c - z<0 then 1 else 0):=by split<;>omega
   rw[e3]
   generalize (if y - c - z<0 then (1:Int) else 0)=q
   generalize (4294967296:Int) ^ i=p
   rw[adC,Int.mul_sub,Int.mul_sub,adD]
   omega
  by_cases hib:i<b.length
  ·have hz:b[i]? =some b[i]:=aP hib
   rw[aI (by omega),cr,hz,afJ]
   simp only[aU]
   rw[aC (si (by omega) (by omega))]
   have hz':=hb.get hz
   refine step b[i] hz'.1 hz'.2 (ff hz) _ ?_
   rw[cQ (n:=y) (by omega) (by omega),cQ (n:=b[i]) (by omega) (by omega),Co,Co]
   omega
  ·rw[aM (by omega)]
   simp only[aU]
   rw[aC (si (by omega) (by omega))]
   refine step 0 (by omega) (by omega) (by rw[GL (by omega)];omega) _ ?_
   rw[cQ (n:=y) (by omega) (by omega),Co]
   omega
 ·rintro _ again ⟨out,c,rfl,hd,hc0,hc1,hlen,hv⟩
  unfold uO
  simp only
  rw[aM (by omega)]
  rw[afd (afq _),afd hlb] at hv
  exact⟨out,c,rfl,hd,hc0,hc1,hlen,hv⟩
theorem GM (a b:List Int) (ha:Dg a) (hb:Dg b) (hla:a.length<100000) (hlb:b.length<=a.length) (hle:v32 b<=v32 a):sP a b=some (bX (v32 a - v32 b).toNat,()):=by
 unfold sP
 obtain⟨out,c,h1,h2,h3,h4,h5,h6⟩:=Oe a b ha hb hla hlb _ (show a.length<List.length b+(List.length ([]:List Int)+(Int.natAbs (0:Int)+(List.length a+(Int.natAbs ((List.length a:Int))+(Int.natAbs (0:Int)+2))))) by omega)
 rw[h1,aU,aC (by simp only[adj,af1];omega)]
 simp only
 rw[Cm _ (by omega),TJ h2,afJ]
 have h7:=Oc h2
 rw[h5] at h7
 have h8:c=0:=by
  rcases (show c=0\/c=1 by omega) with h | h
  ·exact h
  ·subst h;rw[adH] at h6;omega
 subst h8
 rw[h6,Int.mul_zero,Int.add_zero]
theorem Jr (a b:List Int) (ha:Dg a) (hb:Dg b) (hab:a.length=b.length) (hla:a.length<100000):∀ (n k:Nat),k<=a.length->k<n-> iter (X:=oZ) (β:=oY) n (a,b,(k:Int) - 1,()) lq=if v32 (a.take k)<v32 (b.take k) then some (Sum.inl ((-1),())) else if v32 (b.take k)<v32 (a.take k) then some (Sum.inl (1,())) else some (Sum.inr ()):=by
 intro n
 induction n with
 | zero=>intro k _ h;omega
 | succ n ih=>
  intro k hk hn
  rw[og]
  generalize hag:(fun y=>iter n y lq)=again
  unfold lq
  simp only
  cases k with
  | zero=>simp[vP]
  | succ k=>
   rw[aI (by omega),show ((k+1:Nat):Int) - 1=(k:Int) by omega,cr,cr]
   have hx:a[k]? =some a[k]:=aP (by omega)
   have hy:b[k]? =some b[k]:=aP (by omega)
   rw[hx,hy]
   simp only[afJ]
   rw[ff hx,ff hy]
   have h1:=Oc (ha.take k)
   have h2:=Oc (hb.take k)
   have h3:=xg (ha.take k)
   have h4:=xg (hb.take k)
   rw[aeH,afA (by omega)] at h1 h2
   generalize a[k]=x
   generalize b[k]=y
   by_cases hxy:x=y
   ·subst hxy
    simp only[afV,afW]
    rw[aK (by omega) (by omega), <- hag]
    show iter n (a,b,(k:Int) - 1,()) lq=_
    rw[ih k (by omega) (by omega)]
    congr 1
    ·simp
    ·congr 1;simp
   ·have hne:(x != y)=true:=by simp[hxy]
    rw[hne]
    simp only[afX]
    by_cases hlt:x<y
    ·rw[aI hlt,af9]
     have:(4294967296:Int) ^ k*(x+1)<=4294967296 ^ k*y:=adE (by omega) (by omega)
     rw[adC,adH] at this
     omega
    ·rw[aM hlt]
     have:(4294967296:Int) ^ k*(y+1)<=4294967296 ^ k*x:=adE (by omega) (by omega)
     rw[adC,adH] at this
     rw[af8 (by omega),af9 (by omega)]
theorem Mk (m n:Nat) (hm:(bX m).length<100000) (hn:(bX n).length<100000):∃ c,pN (bX m) (bX n)=some (c,())/\(c<0↔m<n)/\(0<c↔n<m):=by
 unfold pN
 by_cases h:(bX m).length=(bX n).length
 ·have hb:(((bX m).length:Int) != ((bX n).length:Int))=false:=by simp[h]
  rw[hb]
  simp only[afW]
  by_cases h0:(bX m).length=0
  ·have hm0:m=0:=KC.1 (ad8 h0)
   have hn0:n=0:=KC.1 (ad8 (by omega))
   subst hm0;subst hn0
   exact⟨0,rfl,by simp,by simp⟩
  ·have e1:w64 (((bX m).length:Int) - 1)=(((bX m).length:Nat):Int) - 1:=aK (by omega) (by omega)
   rw[e1,Jr _ _ (gq m) (gq n) h hm _ _ (afq _) (by omega),afd (afq _),afd (by omega),fC,fC]
   by_cases h1:m<n
   ·rw[af9 (by omega),zy];exact⟨-1,rfl,by omega,by omega⟩
   ·by_cases h2:n<m
    ·rw[af8 (by omega),af9 (by omega),zy];exact⟨1,rfl,by omega,by omega⟩
    ·rw[af8 (by omega),af8 (by omega),aU];exact⟨0,rfl,by omega,by omega⟩
 ·have hb:(((bX m).length:Int) != ((bX n).length:Int))=true:=by simp;omega
  rw[hb]
  simp only[afX]
  rw[aK (by omega) (by omega)]
  refine⟨_,rfl, ?_, ?_⟩
  ·constructor
   ·intro h1;exact tN (by omega)
   ·intro h1
    rcases afv h with h2 | h2
    ·omega
    ·have:=tN (m:=n) (n:=m) h2;omega
  ·constructor
   ·intro h1;exact tN (by omega)
   ·intro h1
    rcases afv h with h2 | h2
    ·have:=tN (m:=m) (n:=n) h2;omega
    ·omega
end Go.Md
namespace Go.Md
open Go.Dn
theorem Wp (w:Nat) {a b:Nat} (ha:a<2 ^ w) (hb:b<2 ^ w):((BitVec.ofInt w (a:Int) ||| BitVec.ofInt w (b:Int)).toNat:Int)=((a ||| b:Nat):Int):=by
 rw[BitVec.ofInt_natCast,BitVec.ofInt_natCast,BitVec.toNat_or,BitVec.toNat_ofNat,BitVec.toNat_ofNat,Nat.mod_eq_of_lt ha,Nat.mod_eq_of_lt hb]
theorem Zb {a k b:Nat} (hb:b<2 ^ k):(2 ^ k*a) ||| b=2 ^ k*a+b:=(Nat.two_pow_add_eq_or_of_lt hb a).symm
theorem V7 {l:List Int} {i:Nat} {y z:Int} (hi:l[i]? =some y):v32 (l.set i z)=v32 l+4294967296 ^ i*(z - y):=by
 have hlt:=(aen.1 hi).1
 have e:l=l.take i++(y::l.drop (i+1)):=by
  have:=afa i l
  rw[ad1 hlt,(aen.1 hi).2] at this
  exact this.symm
 have e2:l.set i z=l.take i++(z::l.drop (i+1)):=by rw[List.set_eq_take_append_cons_drop,af9 hlt]
 rw[e2]
 conv=>rhs;rw[e]
 rw[Ob,Ob,Ge,Ge,aeH,afA (by omega)]
 have:(4294967296:Int) ^ i*(z+4294967296*v32 (l.drop (i+1)))=4294967296 ^ i*(y+4294967296*v32 (l.drop (i+1)))+4294967296 ^ i*(z - y):=by rw[<- adC];congr 1;omega
 omega
theorem Dig.set {B:Int} {l:List Int} (h:Dig B l) {i:Nat} {z:Int} (hz:0<=z/\z<B):Dig B (l.set i z):=fun x hx=>by
 rcases aeW hx with hx | rfl
 ·exact h x hx
 ·exact hz
theorem Rr (n:Nat):v32 (List.replicate n 0)=0:=by
 induction n with
 | zero=>rfl
 | succ n ih=>rw[ae4,Ge,ih];rfl
theorem Mj (z:Int) (most:Int) (h0:0<=most) (h1:most<=9223372036854775807):uN (W z) most=some (if z.natAbs<=most then (z,true,()) else (0,false,())):=by
 unfold uN W
 dsimp only
 by_cases hl:(bX z.natAbs).length>2
 ·rw[aI (by omega)]
  have:¬ (z.natAbs:Int)<=most:=by
   intro h
   have:=qG (k:=2) (n:=z.natAbs) (by omega)
   omega
  rw[af8 this]
 ·rw[aM (by omega)]
  have hdig:=gq z.natAbs
  have hval:=fC z.natAbs
  have hlen:(bX z.natAbs).length<=2:=by omega
  generalize hd:bX z.natAbs=d at*
  have loop:∃ n0,iter (X:=oW) (β:=oV) (Int.natAbs most+(Int.natAbs (0:Int)+(List.length d+(Int.natAbs ((List.length d:Int))+(Int.natAbs (0:Int)+(List.length d+2)))))) (most,0,d,(List.length d:Int),0,decide (z<0),d,()) oU=some (Sum.inr (most,n0,decide (z<0),d,()))/\n0=(z.natAbs:Int):=by
   refine dG (Inv:=fun i x=>∃ u:Int,x=(most,u,d,(d.length:Int),(i:Int),decide (z<0),d,())/\u=v32 (d.take i)) d.length (fun r=>∃ n0,r=some (Sum.inr (most,n0,decide (z<0),d,()))/\n0=(z.natAbs:Int)) ?_ ?_ _ 0 _ ⟨0,rfl,by simp[vP]⟩ (by omega) (by omega)
   ·rintro i _ again hi ⟨u,rfl,hu⟩ ih
    unfold oU
    simp only
    have hy:d[i]? =some d[i]:=aP hi
    have hyd:=hdig.get hy
    have hts:=ff hy
    have hlt:=Oc (hdig.take i)
    have hnn:=xg (hdig.take i)
    rw[aeH,afA (by omega)] at hlt
    generalize d[i]=y at hy hyd hts
    rw[aI (by omega),cr,hy,afJ,aK (n:=32*(i:Int)) (by omega) (by omega),aC (by simp only[af1];omega),aK (n:=(i:Int)+1) (by omega) (by omega)]
    refine ih _ ⟨_,rfl, ?_⟩
    rw[hts]
    obtain⟨m,rfl⟩:∃ m:Nat,y=m:=⟨y.toNat,by omega⟩
    obtain⟨k,hk⟩:∃ k:Nat,v32 (d.take i)=k:=⟨(v32 (d.take i)).toNat,by omega⟩
    rw[hk] at hlt hu ⊢
    subst hu
    have hi2:i=0\/i=1:=by omega
    rcases hi2 with rfl | rfl
    ·simp only[Int.pow_zero] at hlt ⊢
     have:k=0:=by omega
     subst this
     have e:bB (bB (m:Int)*2 ^ (min (Int.toNat (32*((0:Nat):Int))) (IntKind.bits .u64)))=(m:Int):=by
      rw[cQ (n:=(m:Int)) (by omega) (by omega)]
      simp
      exact cQ (by omega) (by omega)
     rw[e,Wp (IntKind.bits .u64) (by decide) (by show m<2 ^ 64;omega),Nat.zero_or,cQ (by omega) (by omega)]
     omega
    ·simp only[Int.pow_one] at hlt ⊢
     have e:bB (bB (m:Int)*2 ^ (min (Int.toNat (32*((1:Nat):Int))) (IntKind.bits .u64)))=((2 ^ 32*m:Nat):Int):=by
      rw[cQ (n:=(m:Int)) (by omega) (by omega),show min (Int.toNat (32*((1:Nat):Int))) (IntKind.bits .u64)=32 from rfl]
      rw[cQ (by omega) (by omega)]
      omega
     rw[e,Wp (IntKind.bits .u64) (by show k<2 ^ 64;omega) (by show 2 ^ 32*m<2 ^ 64;omega),Nat.or_comm,Zb (by omega),cQ (by omega) (by omega)]
     omega
   ·rintro _ again ⟨u,rfl,hu⟩
    unfold oU
    simp only
    rw[aM (by omega)]
    rw[afd (afq _),hval] at hu
    exact⟨u,rfl,hu⟩
  obtain⟨n0,h2,h3⟩:=loop
  rw[h2,aU]
  subst h3
  simp only
  rw[cQ (n:=most) (by omega) (by omega)]
  by_cases hm:(z.natAbs:Int)<=most
  ·rw[aM (by omega),af9 hm]
   by_cases hneg:z<0
   ·rw[af0 hneg]
    simp only[afX]
    rw[aK (n:=(z.natAbs:Int)) (by omega) (by omega),aK (by omega) (by omega)]
    congr 2;omega
   ·rw[afZ hneg]
    simp only[afW]
    rw[aK (by omega) (by omega)]
    congr 2;omega
  ·rw[aI (by omega),af8 hm]
end Go.Md
namespace Go.Md
open Go.Dn
def v6 (l:List Int):Int:=val 1000000 l
theorem Jm:v6 []=0:=rfl
theorem PF (d:Int) (l:List Int):v6 (d::l)=d+1000000*v6 l:=rfl
theorem QC (l m:List Int):v6 (l++m)=v6 l+1000000 ^ l.length*v6 m:=AY l m
theorem PG (l:List Int) (d:Int):v6 (l++[d])=v6 l+1000000 ^ l.length*d:=TS l d
abbrev Dg6 (l:List Int):Prop:=Dig 1000000 l
def dg6 (n:Nat):List Int:=dg 1000000 n
theorem By:dg6 0=[]:=rfl
theorem MS {n:Nat}:dg6 n=[]↔n=0:=PZ (B:=1000000) (by omega)
theorem Fi {n:Nat} (h:0<n):dg6 n≠[]:=CC (B:=1000000) (by omega) h
theorem wk {m n:Nat} (h:(dg6 m).length<(dg6 n).length):m<n:=P6 (B:=1000000) (by omega) h
theorem pQ (n:Nat):Dg6 (dg6 n):=Yl (B:=1000000) (by omega) n
theorem xh (n:Nat):v6 (dg6 n)=n:=ZN (B:=1000000) (by omega) n
theorem acS {l:List Int} (h:Dg6 l):trim l=dg6 (v6 l).toNat:=PD (B:=1000000) (by omega) h
theorem oy {l:List Int} (h:Dg6 l):0<=v6 l:=AZ (by omega) h
theorem Gg {l:List Int} (h:Dg6 l):v6 l<1000000 ^ l.length:=TR (by omega) h
theorem Vq {k n:Nat} (h:n<1000000 ^ k):(dg6 n).length<=k:=Sx (B:=1000000) (by omega) k n h
theorem lp {l:List Int} {i:Nat} {y:Int} (h:l[i]? =some y):v6 (l.take (i+1))=v6 (l.take i)+1000000 ^ i*y:=by
 have hi:=(aen.1 h).1
 rw[jV h,PG,aeH,afA (by omega)]
theorem TQ {l:List Int} {i:Nat} (h:l.length<=i):v6 (l.take (i+1))=v6 (l.take i):=by
 rw[afd h,afd (by omega)]
theorem TP {l:List Int} {i:Nat} {y z:Int} (hi:l[i]? =some y):v6 (l.set i z)=v6 l+1000000 ^ i*(z - y):=by
 have hlt:=(aen.1 hi).1
 have e:l=l.take i++(y::l.drop (i+1)):=by
  have:=afa i l
  rw[ad1 hlt,(aen.1 hi).2] at this
  exact this.symm
 have e2:l.set i z=l.take i++(z::l.drop (i+1)):=by rw[List.set_eq_take_append_cons_drop,af9 hlt]
 rw[e2]
 conv=>rhs;rw[e]
 rw[QC,QC,PF,PF,aeH,afA (by omega)]
 have:(1000000:Int) ^ i*(z+1000000*v6 (l.drop (i+1)))=1000000 ^ i*(y+1000000*v6 (l.drop (i+1)))+1000000 ^ i*(z - y):=by rw[<- adC];congr 1;omega
 omega
theorem Rm (b:Bool) (l:List Int) (hd:Dg6 l) (hl:l.length<1000000):mI (b,l)=some ((b&&decide (0<v6 l),dg6 (v6 l).toNat),()):=by
 have key:∀ n (x:pJ),x.2.1.length<1000000->x.2.1.length<n->iter n x An=some (Sum.inr (x.1,trim x.2.1,x.2.2.1,x.2.2.2.1,())):=by
  refine CN (fun x:pJ=>x.2.1.length<1000000) (fun x=>x.2.1.length) (fun x r=>r=some (Sum.inr (x.1,trim x.2.1,x.2.2.1,x.2.2.2.1,()))) ?_
  rintro⟨c,x,g,m,u⟩ again hx ih
  simp only at hx ih ⊢
  unfold An
  simp only
  by_cases h0:x.length=0
  ·have:x=[]:=ad8 h0
   subst this;simp[trim]
  ·have e1:w64 ((x.length:Int) - 1)=((x.length - 1:Nat):Int):=by rw[aK (by omega) (by omega)];omega
   have hsp:x=x.take (x.length - 1)++[x[x.length - 1]'(by omega)]:=by
    have:=afa (x.length - 1) x
    rw[ad1 (by omega),ad4 (by omega)] at this
    exact this.symm
   rw[aI (by omega),e1,cr,aP (by omega)]
   simp only[adN,ad6,afJ]
   by_cases hz:x[x.length - 1]'(by omega)=0
   ·rw[hz] at hsp ⊢
    rw[aC (by simp only[adj,af1];omega)]
    simp only[afU,afX]
    rw[ih (c,List.take (x.length - 1) x,g,m,()) (by simp only[aeH];omega) (by simp only[aeH];omega)]
    conv=>rhs;rw[hsp,sN]
   ·have:(x[x.length - 1]'(by omega)==0)=false:=by simp[hz]
    rw[this]
    simp only[afW]
    conv=>rhs;rw[hsp,Cj hz]
    rw[<- hsp]
 unfold mI
 rw[key _ _ (by simpa using hl) (by simp),aU]
 simp only
 rw[acS hd]
 have h0:=oy hd
 by_cases hv:v6 l=0
 ·simp[hv,By]
 ·have h1:dg6 (v6 l).toNat≠[]:=Fi (by omega)
  have h2:(((dg6 (v6 l).toNat).length:Int)==0)=false:=by
   have:(dg6 (v6 l).toNat).length≠0:=fun h=>h1 (ad8 h)
   simp;omega
  rw[h2]
  have h3:decide (0<v6 l)=true:=by simp;omega
  simp[h3]
def N (z:Int):aH:=(decide (z<0),dg6 z.natAbs)
theorem Pu (b:Bool) (l:List Int) (hd:Dg6 l) (hl:l.length<1000000):mI (b,l)=some (N (if b then -v6 l else v6 l),()):=by
 rw[Rm b l hd hl]
 have h0:=oy hd
 cases b with
 | false=>
  simp only[N];congr 3
  ·simp;omega
  ·simp only[ado,af7];congr 1;omega
 | true=>
  simp only[N];congr 3
  ·simp
  ·simp only[aga];congr 1;omega
theorem aaM (x:Int):(Int.tdiv x 1000000).natAbs=x.natAbs / 1000000:=by rw[Int.natAbs_tdiv];rfl
theorem aaO (x:Int):(Int.tmod x 1000000).natAbs=x.natAbs % 1000000:=by rw[Int.natAbs_tmod];rfl
theorem aa2 {n:Nat} (h:0<n):dg6 n=((n % 1000000:Nat):Int)::dg6 (n / 1000000):=zl (B:=1000000) (by omega) h
theorem AW (ng g:Bool) (gl:List Int):∀ (k fuel:Nat) (out:List Int) (x:Int),out.length+k<1000->x.natAbs<1000000 ^ k->k<fuel-> -9223372036854775808<x->x<=9223372036854775807-> iter (X:=BS) (β:=BR) fuel (x,g,gl,ng,out,()) vf=some (Sum.inr (g,gl,ng,out++dg6 x.natAbs,()))
 | k,0,_,_,_,_,h,_,_=>by omega
 | 0,fuel+1,out,x,_,hx,_,_,_=>by
  have:x=0:=by simp at hx;omega
  subst this
  rw[og]
  unfold vf
  simp[By]
 | k+1,fuel+1,out,x,ho,hx,hf,h1,h2=>by
  rw[og]
  generalize hag:(fun y=>iter fuel y vf)=again
  unfold vf
  dsimp only
  by_cases h0:x=0
  ·subst h0;simp[By]
  ·have hb:(x != 0)=true:=by simp[h0]
   rw[hb,afX,aC (si (by omega) (by omega)), <- hag]
   have e0:=aaM x
   have e1:=aaO x
   have e2:(if (w64 (0 - (Int.tmod x 1000000)))>(Int.tmod x 1000000) then (w64 (0 - (Int.tmod x 1000000))) else (Int.tmod x 1000000))=((x.natAbs % 1000000:Nat):Int):=by
    rw[aK (by omega) (by omega)]
    split<;>omega
   rw[e2,aK (by omega) (by omega)]
   show iter fuel _ vf=_
   rw[AW ng g gl k fuel _ _ (by simp;omega) (by rw[e0];rw[afG] at hx;exact Nat.div_lt_of_lt_mul (by rw[Nat.mul_comm];exact hx)) (by omega) (by omega) (by omega),e0,adT,ae8, <- aa2 (by omega)]
theorem Mc (n:Int) (h1: -9223372036854775808<n) (h2:n<=9223372036854775807):JR n=some (N n,()):=by
 unfold JR
 have key:iter (X:=BS) (β:=BR) (Int.natAbs n+(List.length ([]:List Int)+(List.length ([]:List Int)+2))) (n,false,[],decide (n<0),[],()) vf=some (Sum.inr (false,[],decide (n<0),[]++dg6 n.natAbs,())):=by
  by_cases h0:n.natAbs<1
  ·exact AW _ _ _ 0 _ _ _ (by simp) (by simpa using h0) (by omega) h1 h2
  ·by_cases h3:n.natAbs<1000000
   ·exact AW _ _ _ 1 _ _ _ (by simp) (by simpa using h3) (by omega) h1 h2
   ·exact AW _ _ _ 4 _ _ _ (by simp) (by omega) (by omega) h1 h2
 rw[key,aU]
 rfl
theorem Rl (a b:List Int) (ha:Dg6 a) (hb:Dg6 b) (hab:a.length=b.length) (hla:a.length<100000):∀ (n k:Nat),k<=a.length->k<n-> ∃ c:Int,iter (X:=yV) (β:=yU) n (a,b,(k:Int) - 1,()) uc=(if v6 (a.take k)=v6 (b.take k) then some (Sum.inr ()) else some (Sum.inl (c,())))/\(c<0↔v6 (a.take k)<v6 (b.take k))/\(0<c↔v6 (b.take k)<v6 (a.take k)):=by
 intro n
 induction n with
 | zero=>intro k _ h;omega
 | succ n ih=>
  intro k hk hn
  rw[og]
  generalize hag:(fun y=>iter n y uc)=again
  unfold uc
  dsimp only
  cases k with
  | zero=>exact⟨0,by simp[Jm],by simp,by simp⟩
  | succ k=>
   rw[aI (by omega),show ((k+1:Nat):Int) - 1=(k:Int) by omega,cr,cr]
   have hx:a[k]? =some a[k]:=aP (by omega)
   have hy:b[k]? =some b[k]:=aP (by omega)
   rw[hx,hy]
   simp only[afJ]
   rw[lp hx,lp hy]
   have h1:=Gg (ha.take k)
   have h2:=Gg (hb.take k)
   have h3:=oy (ha.take k)
   have h4:=oy (hb.take k)
   have h5:=ha.get hx
   have h6:=hb.get hy
   rw[aeH,afA (by omega)] at h1 h2
   generalize a[k]=x at*
   generalize b[k]=y at*
   by_cases hxy:x=y
   ·subst hxy
    simp only[afV,afW]
    rw[aK (by omega) (by omega), <- hag]
    obtain⟨c,h7,h8,h9⟩:=ih k (by omega) (by omega)
    refine⟨c, ?_,by omega,by omega⟩
    show iter n (a,b,(k:Int) - 1,()) uc=_
    rw[h7]
    congr 1
    simp
   ·have hne:(x != y)=true:=by simp[hxy]
    rw[hne]
    simp only[afX]
    rw[aK (by omega) (by omega)]
    refine⟨x - y, ?_, ?_, ?_⟩
    ·rw[af8]
     intro h
     rcases Int.lt_or_gt_of_ne hxy with hlt | hlt
     ·have:(1000000:Int) ^ k*(x+1)<=1000000 ^ k*y:=adE (by omega) (by omega)
      rw[adC,adH] at this
      omega
     ·have:(1000000:Int) ^ k*(y+1)<=1000000 ^ k*x:=adE (by omega) (by omega)
      rw[adC,adH] at this
      omega
    ·rcases Int.lt_or_gt_of_ne hxy with hlt | hlt
     ·have:(1000000:Int) ^ k*(x+1)<=1000000 ^ k*y:=adE (by omega) (by omega)
      rw[adC,adH] at this
      omega
     ·have:(1000000:Int) ^ k*(y+1)<=1000000 ^ k*x:=adE (by omega) (by omega)
      rw[adC,adH] at this
      omega
    ·rcases Int.lt_or_gt_of_ne hxy with hlt | hlt
     ·have:(1000000:Int) ^ k*(x+1)<=1000000 ^ k*y:=adE (by omega) (by omega)
      rw[adC,adH] at this
      omega
     ·have:(1000000:Int) ^ k*(y+1)<=1000000 ^ k*x:=adE (by omega) (by omega)
      rw[adC,adH] at this
      omega
theorem Va (m n:Nat) (hm:(dg6 m).length<100000) (hn:(dg6 n).length<100000):∃ c,FW (dg6 m) (dg6 n)=some (c,())/\(c<0↔m<n)/\(0<c↔n<m):=by
 unfold FW
 by_cases h:(dg6 m).length=(dg6 n).length
 ·have hb:(((dg6 m).length:Int) != ((dg6 n).length:Int))=false:=by simp[h]
  rw[hb]
  simp only[afW]
  by_cases h0:(dg6 m).length=0
  ·have hm0:m=0:=MS.1 (ad8 h0)
   have hn0:n=0:=MS.1 (ad8 (by omega))
   subst hm0;subst hn0
   exact⟨0,rfl,by simp,by simp⟩
  ·have e1:w64 (((dg6 m).length:Int) - 1)=(((dg6 m).length:Nat):Int) - 1:=aK (by omega) (by omega)
   obtain⟨c,h1,h2,h3⟩:=Rl _ _ (pQ m) (pQ n) h hm ((dg6 m).length+((dg6 n).length+(Int.natAbs ((((dg6 m).length:Nat):Int) - 1)+2))) _ (afq _) (by omega)
   rw[afd (afq _),afd (by omega),xh,xh] at h1 h2 h3
   rw[e1,h1]
   by_cases hmn:(m:Int)=n
   ·rw[af9 hmn,aU];exact⟨0,rfl,by omega,by omega⟩
   ·rw[af8 hmn,zy];exact⟨c,rfl,by omega,by omega⟩
 ·have hb:(((dg6 m).length:Int) != ((dg6 n).length:Int))=true:=by simp;omega
  rw[hb]
  simp only[afX]
  rw[aK (by omega) (by omega)]
  refine⟨_,rfl, ?_, ?_⟩
  ·constructor
   ·intro h1;exact wk (by omega)
   ·intro h1
    rcases afv h with h2 | h2
    ·omega
    ·have:=wk (m:=n) (n:=m) h2;omega
  ·constructor
   ·intro h1;exact wk (by omega)
   ·intro h1
    rcases afv h with h2 | h2
    ·have:=wk (m:=m) (n:=n) h2;omega
    ·omega
theorem DA (l:List Int) (i:Nat):yb l (i:Int)=some ((l[i]?).getD 0,()):=by
 unfold yb
 by_cases h:i<l.length
 ·rw[aI (by omega),cr,aP h];rfl
 ·rw[aM (by omega),aem (by omega)];rfl
theorem Ck (l:List Int) (i:Nat):v6 (l.take (i+1))=v6 (l.take i)+1000000 ^ i*(l[i]?).getD 0:=by
 by_cases h:i<l.length
 ·rw[lp (aP h),aP h];rfl
 ·rw[TQ (by omega),aem (by omega)];simp
theorem LP {l:List Int} (h:Dg6 l) (i:Nat):0<=(l[i]?).getD 0/\(l[i]?).getD 0<1000000:=by
 cases hi:l[i]? with
 | none=>simp
 | some d=>exact h.get hi
theorem UZ (a b:List Int) (ha:Dg6 a) (hb:Dg6 b) (na nb g:Bool) (gl:List Int) (ng:Bool) (M:Nat) (hM:M<100000) (hlen:a.length<M/\b.length<M) (n:Nat) (hn:M<n): ∃ out,iter (X:=yQ) (β:=yP) n (0,(M:Int),0,na,a,nb,b,g,gl,ng,[],()) yO=some (Sum.inr (g,gl,ng,out,()))/\Dg6 out/\out.length=M/\v6 out=v6 a+v6 b:=by
 refine dG (Inv:=fun i x=>∃ (out:List Int) (c:Int),x=(c,(M:Int),(i:Int),na,a,nb,b,g,gl,ng,out,())/\Dg6 out/\0<=c/\c<=1/\out.length=i/\v6 out+1000000 ^ i*c=v6 (a.take i)+v6 (b.take i)) M
  (fun r=>∃ out,r=some (Sum.inr (g,gl,ng,out,()))/\Dg6 out/\out.length=M/\v6 out=v6 a+v6 b) ?_ ?_ n 0 _ ⟨[],0,rfl,Dig.nil,by omega,by omega,rfl,by simp[Jm]⟩ (by omega) (by omega)
 ·rintro i _ again hi ⟨out,c,rfl,hd,hc0,hc1,hl,hv⟩ ih
  unfold yO
  dsimp only
  rw[aI (by omega),DA,DA]
  have h1:=LP ha i
  have h2:=LP hb i
  have h3:=Ck a i
  have h4:=Ck b i
  generalize (a[i]?).getD 0=x at*
  generalize (b[i]?).getD 0=y at*
  simp only[afJ]
  rw[aC (si (by omega) (by omega)),aK (n:=x+y) (by omega) (by omega),aK (n:=x+y+c) (by omega) (by omega),aK (n:=(i:Int)+1) (by omega) (by omega),adM (by omega),adL (by omega),aK (by omega) (by omega)]
  refine ih _ ⟨_,_,rfl,hd.snoc (by omega),by omega,by omega,by simp[hl], ?_⟩
  rw[PG,hl,h3,h4,adK]
  have:(1000000:Int) ^ i*((x+y+c) % 1000000)+1000000 ^ i*1000000*((x+y+c) / 1000000)=1000000 ^ i*(x+y+c):=by
   rw[adD, <- adC];congr 1;omega
  rw[adC,adC] at this
  omega
 ·rintro _ again ⟨out,c,rfl,hd,hc0,hc1,hl,hv⟩
  unfold yO
  dsimp only
  rw[aM (by omega)]
  rw[afd (by omega),afd (by omega)] at hv
  refine⟨out,rfl,hd,hl, ?_⟩
  have h1:=Gg ha
  have h2:=Gg hb
  have h3:=oy hd
  have hp:∀ l:Nat,l<M->(1000000:Int) ^ l*1000000<=1000000 ^ M:=by
   intro l hlM
   rw[<- adK]
   have h:=afF (n:=1000000) (by omega) (show l+1<=M by omega)
   have:=Int.ofNat_le.2 h
   simpa using this
  have h4:=hp _ hlen.1
  have h5:=hp _ hlen.2
  have h6:=oy ha
  have h7:=oy hb
  rcases (show c=0\/c=1 by omega) with h | h
  ·subst h;omega
  ·subst h;rw[adH] at hv;omega
theorem U6 (a b:List Int) (ha:Dg6 a) (hb:Dg6 b) (na nb g:Bool) (gl:List Int) (ng:Bool) (hla:a.length<100000) (hlb:b.length<=a.length) (hle:v6 b<=v6 a) (n:Nat) (hn:a.length<n): ∃ out,iter (X:=wS) (β:=wR) n (0,(a.length:Int),0,na,a,nb,b,g,gl,ng,[],()) wQ=some (Sum.inr (g,gl,ng,out,()))/\Dg6 out/\out.length=a.length/\v6 out=v6 a - v6 b:=by
 refine dG (Inv:=fun i x=>∃ (out:List Int) (c:Int),x=(c,(a.length:Int),(i:Int),na,a,nb,b,g,gl,ng,out,())/\Dg6 out/\0<=c/\c<=1/\out.length=i/\v6 out=v6 (a.take i) - v6 (b.take i)+1000000 ^ i*c) a.length
  (fun r=>∃ out,r=some (Sum.inr (g,gl,ng,out,()))/\Dg6 out/\out.length=a.length/\v6 out=v6 a - v6 b) ?_ ?_ n 0 _ ⟨[],0,rfl,Dig.nil,by omega,by omega,rfl,by simp[Jm]⟩ (by omega) (by omega)
 ·rintro i _ again hi ⟨out,c,rfl,hd,hc0,hc1,hl,hv⟩ ih
  unfold wQ
  dsimp only
  have hy:a[i]? =some a[i]:=aP hi
  rw[aI (by omega),DA,cr,hy]
  have h1:=ha.get hy
  have h2:=LP hb i
  have h3:=lp hy
  have h4:=Ck b i
  generalize a[i]=x at*
  generalize (b[i]?).getD 0=y at*
  simp only[afJ]
  rw[aK (n:=x - y) (by omega) (by omega),aK (n:=x - y - c) (by omega) (by omega)]
  have fin:∀ q:Int,(q=0\/q=1)->0<=x - y - c+1000000*q->x - y - c+1000000*q<1000000->∃ out',again (q,(a.length:Int),w64 ((i:Int)+1),na,a,nb,b,g,gl,ng,out++[x - y - c+1000000*q],())=some (Sum.inr (g,gl,ng,out',()))/\Dg6 out'/\out'.length=a.length/\v6 out'=v6 a - v6 b:=by
   intro q hq hq0 hq1
   rw[aK (by omega) (by omega)]
   refine ih _ ⟨_,q,rfl,hd.snoc (by omega),by omega,by omega,by simp[hl], ?_⟩
   rw[PG,hl,h3,h4,adK,hv]
   generalize (1000000:Int) ^ i=p
   rw[adC,Int.mul_sub,Int.mul_sub,adD]
   omega
  by_cases hneg:x - y - c<0
  ·rw[aI hneg,aU]
   dsimp only
   rw[aC (si (by omega) (by omega)),aK (n:=x - y - c+1000000) (by omega) (by omega)]
   exact fin 1 (.inr rfl) (by omega) (by omega)
  ·rw[aM hneg,aU]
   dsimp only
   rw[aC (si (by omega) (by omega))]
   have:=fin 0 (.inl rfl) (by omega) (by omega)
   rw[show x - y - c+1000000*0=x - y - c by omega] at this
   exact this
 ·rintro _ again ⟨out,c,rfl,hd,hc0,hc1,hl,hv⟩
  unfold wQ
  dsimp only
  rw[aM (by omega)]
  rw[afd (afq _),afd hlb] at hv
  refine⟨out,rfl,hd,hl, ?_⟩
  have h3:=Gg hd
  rw[hl] at h3
  rcases (show c=0\/c=1 by omega) with h | h
  ·subst h;omega
  ·subst h;rw[adH] at hv;omega
theorem WA {m n:Nat} (h:m<=n):(dg6 m).length<=(dg6 n).length:=by
 rcases afu (dg6 n).length (dg6 m).length with h1 | h1
 ·have:=wk h1;omega
 ·exact h1
theorem Xu (x y:Int) (hx:(dg6 x.natAbs).length<10000) (hy:(dg6 y.natAbs).length<10000):JS (N x) (N y)=some (N (x+y),()):=by
 unfold JS N
 dsimp only
 have main:∀ (a b:Nat) (na nb:Bool),(dg6 a).length<10000->(dg6 b).length<10000->b<=a->aJ (β:=(aH×Unit)) (γ:=(Bool×(List Int)×Bool×(List Int)×Unit)) (
  iter (X:=wS) (β:=wR) (Int.natAbs (0:Int)+(Int.natAbs ((List.length (dg6 a):Int))+(Int.natAbs (0:Int)+(List.length (dg6 a)+(List.length (dg6 b)+(List.length ([]:List Int)+(List.length ([]:List Int)+2))))))) (0,(List.length (dg6 a):Int),0,na,dg6 a,nb,dg6 b,false,[],na,[],()) (wQ)) (fun v8=>
  Option.bind (mI (v8.2.2.1,v8.2.2.2.1)) fun r9=>
  some (r9.1,()))=some (N (if na then -((a:Int) - b) else (a:Int) - b),()):=by
  intro a b na nb h1 h2 h3
  obtain⟨out,h4,h5,h6,h7⟩:=U6 (dg6 a) (dg6 b) (pQ a) (pQ b) na nb false [] na (by omega) (WA h3) (by rw[xh,xh];omega) (Int.natAbs (0:Int)+(Int.natAbs ((List.length (dg6 a):Int))+(Int.natAbs (0:Int)+(List.length (dg6 a)+(List.length (dg6 b)+(List.length ([]:List Int)+(List.length ([]:List Int)+2))))))) (by omega)
  rw[h4,aU]
  dsimp only
  rw[Pu _ _ h5 (by omega),h7,xh,xh]
  rfl
 by_cases hs:decide (x<0)=decide (y<0)
 ·rw[show (!(decide (x<0)==decide (y<0)))=false by simp[hs]]
  dsimp only[cond_false]
  have e1:w64 ((if ((dg6 y.natAbs).length:Int)>((dg6 x.natAbs).length:Int) then ((dg6 y.natAbs).length:Int) else ((dg6 x.natAbs).length:Int))+1)=((max (dg6 x.natAbs).length (dg6 y.natAbs).length+1:Nat):Int):=by
   split<;>rw[aK (by omega) (by omega)]<;>omega
  rw[e1]
  obtain⟨out,h4,h5,h6,h7⟩:=UZ (dg6 x.natAbs) (dg6 y.natAbs) (pQ _) (pQ _) (decide (x<0)) (decide (y<0)) false [] (decide (x<0)) (max (dg6 x.natAbs).length (dg6 y.natAbs).length+1) (by omega) ⟨by omega,by omega⟩ (Int.natAbs (0:Int)+(Int.natAbs ((max (dg6 x.natAbs).length (dg6 y.natAbs).length+1:Nat):Int)+(Int.natAbs (0:Int)+(List.length (dg6 x.natAbs)+(List.length (dg6 y.natAbs)+(List.length ([]:List Int)+(List.length ([]:List Int)+2))))))) (by omega)
  rw[h4,aU]
  dsimp only
  rw[Pu _ _ h5 (by omega),h7,xh,xh]
  rw[afJ]
  show some (N _,())=some (N (x+y),())
  congr 3
  simp only[afY] at hs
  by_cases h:x<0
  ·simp only[h,af3,aga];omega
  ·simp only[h,af2,ado,af7];omega
 ·rw[show (!(decide (x<0)==decide (y<0)))=true by simp[hs]]
  rw[afX]
  obtain⟨c,h1,h2,h3⟩:=Va x.natAbs y.natAbs (by omega) (by omega)
  rw[h1,afJ]
  dsimp only
  simp only[afY] at hs
  by_cases hc:c<0
  ·rw[aI hc,aU]
   have:=main y.natAbs x.natAbs (decide (y<0)) (decide (x<0)) hy hx (by omega)
   dsimp only
   rw[this]
   congr 3
   by_cases h:y<0
   ·simp only[h,af3,aga];omega
   ·simp only[h,af2,ado,af7];omega
  ·rw[aM hc,aU]
   have:=main x.natAbs y.natAbs (decide (x<0)) (decide (y<0)) hx hy (by omega)
   dsimp only
   rw[this]
   congr 3
   by_cases h:x<0
   ·simp only[h,af3,aga];omega
   ·simp only[h,af2,ado,af7];omega
theorem UY (x:Int):FU (N x)=some (N (-x),()):=by
 unfold FU N
 dsimp only
 by_cases h0:x=0
 ·subst h0;simp[By]
 ·have h1:dg6 x.natAbs≠[]:=Fi (by omega)
  have h2:0<(dg6 x.natAbs).length:=by
   rcases afn (dg6 x.natAbs).length with h | h
   ·exact absurd (ad8 h) h1
   ·exact h
  rw[aI (by omega),Int.natAbs_neg]
  congr 3
  by_cases h:x<0
  ·simp[h];omega
  ·simp[h];omega
theorem Xv (x:Int):JT (N x)=some (x.sign,()):=by
 unfold JT N
 dsimp only
 by_cases h0:x=0
 ·subst h0;simp[By]
 ·have h1:dg6 x.natAbs≠[]:=Fi (by omega)
  have h2:(((dg6 x.natAbs).length:Int)==0)=false:=by
   have:(dg6 x.natAbs).length≠0:=fun h=>h1 (ad8 h)
   simp;omega
  rw[h2,afW]
  by_cases h:x<0
  ·simp[h,Int.sign_eq_neg_one_of_neg h]
  ·simp[h,Int.sign_eq_one_of_pos (show 0<x by omega)]
theorem Zi (x y:Int) (hx:(dg6 x.natAbs).length<10000) (hy:(dg6 y.natAbs).length<10000):ND (N x) (N y)=some ((x - y).sign,()):=by
 unfold ND
 rw[UY,afJ]
 dsimp only
 rw[Xu x (-y) hx (by rw[Int.natAbs_neg];exact hy),afJ]
 dsimp only
 rw[Xv,afJ]
 rw[show x+ -y=x - y by omega]
end Go.Md
namespace Go.Md
open Go.Dn
def Big (D:Int) (l:List Int):Prop:=∀ d,d∈l->0<=d/\d<=D
theorem Big.get {D d:Int} {l:List Int} {i:Nat} (h:Big D l) (hi:l[i]? =some d):0<=d/\d<=D:=h d (aeU hi)
theorem Big.set {D E:Int} {l:List Int} (h:Big D l) (hDE:D<=E) {i:Nat} {z:Int} (hz:0<=z/\z<=E):Big E (l.set i z):=fun x hx=>by
 rcases aeW hx with hx | rfl
 ·have:=h x hx;omega
 ·exact hz
theorem Big.mono {D E:Int} {l:List Int} (h:Big D l) (hDE:D<=E):Big E l:=fun x hx=>by have:=h x hx;omega
theorem TO {l:List Int} {j:Nat} {y z t:Int} (hj:l[j]? =some y) (hj1:l[j+1]? =some z):v6 (((l.set j t).set (j+1) (z+t / 1000000)).set j (t % 1000000))=v6 l+1000000 ^ j*(t - y):=by
 have hl:=(aen.1 hj).1
 have h1:(l.set j t)[j+1]? =some z:=by rw[aer (by omega)];exact hj1
 have h2:((l.set j t).set (j+1) (z+t / 1000000))[j]? =some t:=by rw[aer (by omega),aes hl]
 rw[TP h2,TP h1,TP hj,adK]
 have e:(1000000:Int) ^ j*1000000*(z+t / 1000000 - z)+1000000 ^ j*(t % 1000000 - t)=0:=by
  rw[adD, <- adC]
  have:1000000*(z+t / 1000000 - z)+(t % 1000000 - t)=0:=by omega
  rw[this,Int.mul_zero]
 omega
theorem XI {α:Type} (l:List α) (j:Nat) (t z u:α):((l.set j t).set (j+1) z).set j u=(l.set j u).set (j+1) z:=by
 rw[List.set_comm _ _ (show j+1≠j by omega),List.set_set]
theorem Pq (i:Nat) (x:Int) (g1:List Int) (g2 g3:Int) (b:List Int) (nb gb:Bool) (gl:List Int) (ng:Bool) (out:List Int) (D:Int) (hx:0<=x/\x<1000000) (hb:Dg6 b) (hbl:b.length<10000) (hil:i<10000) (ho:i+b.length<out.length) (hol:out.length<100000) (hD:Big D out) (hD0:0<=D) (hD1:D+3000000*b.length<=1000000000000) (n:Nat) (hn:b.length<n): ∃ out',iter (X:=uI) (β:=uG) n ((i:Int),x,g1,g2,g3,b,(b.length:Int),0,nb,b,gb,gl,ng,out,()) uE=some (Sum.inr (g1,g2,g3,nb,b,gb,gl,ng,out',()))/\out'.length=out.length/\Big (D+3000000*b.length) out'/\v6 out'=v6 out+1000000 ^ i*(x*v6 b):=by
 refine dG (Inv:=fun k s=>∃ o:List Int,s=((i:Int),x,g1,g2,g3,b,(b.length:Int),(k:Int),nb,b,gb,gl,ng,o,())/\o.length=out.length/\Big (D+3000000*k) o/\v6 o=v6 out+1000000 ^ i*(x*v6 (b.take k))) b.length
  (fun r=>∃ out',r=some (Sum.inr (g1,g2,g3,nb,b,gb,gl,ng,out',()))/\out'.length=out.length/\Big (D+3000000*b.length) out'/\v6 out'=v6 out+1000000 ^ i*(x*v6 b)) ?_ ?_ n 0 _ ⟨out,rfl,rfl,hD.mono (by omega),by simp[Jm]⟩ (by omega) (by omega)
 ·rintro k _ again hk ⟨o,rfl,hol',hB,hv⟩ ih
  unfold uE
  dsimp only
  have hy:b[k]? =some b[k]:=aP hk
  have hyd:=hb.get hy
  have hts:=lp hy
  generalize b[k]=y at hy hyd hts
  have e1:w64 ((i:Int)+(k:Int))=((i+k:Nat):Int):=by rw[aK (by omega) (by omega)];omega
  have e2:w64 (((i+k:Nat):Int)+1)=((i+k+1:Nat):Int):=by rw[aK (by omega) (by omega)];omega
  rw[aI (by omega),cr,hy,afJ,e1,e2]
  simp only[adN]
  have h3:o[i+k]? =some o[i+k]:=aP (by omega)
  have h4:o[i+k+1]? =some o[i+k+1]:=aP (by omega)
  have d3:=hB.get h3
  have d4:=hB.get h4
  generalize o[i+k]'(by omega)=y3 at h3 d3
  generalize o[i+k+1]'(by omega)=y4 at h4 d4
  have hxy:0<=x*y/\x*y<=1000000000000:=by
   constructor
   ·exact adG hx.1 hyd.1
   ·have h1:x*y<=1000000*y:=adF (by omega) hyd.1
    omega
  have e3:w64 (y3+w64 (x*y))=y3+x*y:=by rw[aK (n:=x*y) (by omega) (by omega),aK (by omega) (by omega)]
  generalize hxy':x*y=xy at*
  have h5:(o.set (i+k) (y3+xy))[i+k+1]? =some y4:=by rw[aer (by omega)];exact h4
  have h6:(o.set (i+k) (y3+xy))[i+k]? =some (y3+xy):=aes (by omega)
  have e4:w64 (y4+w64 (Int.tdiv (y3+xy) 1000000))=y4+(y3+xy) / 1000000:=by
   rw[adL (by omega),aK (n:=(y3+xy) / 1000000) (by omega) (by omega),aK (by omega) (by omega)]
  have h7:((o.set (i+k) (y3+xy)).set (i+k+1) (y4+(y3+xy) / 1000000))[i+k]? =some (y3+xy):=by rw[aer (by omega)];exact h6
  simp only[h3,afJ,e3]
  simp only[h5,h6,afJ]
  simp only[e4,h7,afJ,aeF]
  rw[aC (by simp only[adj,af1];omega),aC (by simp only[adj,af1];omega),aC (by simp only[adj,af1];omega),aC (by simp only[adj,af1];omega),aC (by simp only[adj,af1];omega),aC (by simp only[adj,af1];omega),aC (by simp only[adj,af1];omega)]
  rw[aK (n:=(k:Int)+1) (by omega) (by omega),adM (by omega)]
  refine ih _ ⟨_,rfl,by simp only[aeF];exact hol', ?_, ?_⟩
  ·rw[XI]
   exact Big.set (D:=D+3000000*((k+1:Nat):Int)) (Big.set hB (by omega) (by omega)) (Int.le_refl _) (by omega)
  ·rw[TO h3 h4,hv,hts]
   have e5:x*(v6 (b.take k)+1000000 ^ k*y)=x*v6 (b.take k)+1000000 ^ k*xy:=by rw[adC, <- hxy',Int.mul_left_comm]
   rw[e5,adC,adJ,show y3+xy - y3=xy by omega,adD (1000000 ^ i) (1000000 ^ k) xy]
   omega
 ·rintro _ again ⟨o,rfl,hol',hB,hv⟩
  unfold uE
  dsimp only
  rw[aM (by omega)]
  rw[afd (afq _)] at hv
  exact⟨o,rfl,hol',hB,hv⟩
theorem Pr (a b:List Int) (ha:Dg6 a) (hb:Dg6 b) (hal:a.length<100) (hbl:b.length<1000) (nb gb:Bool) (gl:List Int) (ng:Bool) (out:List Int) (ho:a.length+b.length<out.length) (hol:out.length<100000) (hz:Big 0 out) (hv0:v6 out=0) (n:Nat) (hn:a.length<n): ∃ out',iter (X:=uH) (β:=uF) n (a,(a.length:Int),0,nb,b,gb,gl,ng,out,()) uD=some (Sum.inr (gb,gl,ng,out',()))/\out'.length=out.length/\Big 1000000000000 out'/\v6 out'=v6 a*v6 b:=by
 refine dG (Inv:=fun i s=>∃ o:List Int,s=(a,(a.length:Int),(i:Int),nb,b,gb,gl,ng,o,())/\o.length=out.length/\Big (3000000*b.length*i) o/\v6 o=v6 (a.take i)*v6 b) a.length
  (fun r=>∃ out',r=some (Sum.inr (gb,gl,ng,out',()))/\out'.length=out.length/\Big 1000000000000 out'/\v6 out'=v6 a*v6 b) ?_ ?_ n 0 _ ⟨out,rfl,rfl,hz.mono (by omega),by simp[Jm,hv0]⟩ (by omega) (by omega)
 ·rintro i _ again hi ⟨o,rfl,hl,hB,hv⟩ ih
  unfold uD
  dsimp only
  have hy:a[i]? =some a[i]:=aP hi
  have hyd:=ha.get hy
  have hts:=lp hy
  generalize a[i]=y at hy hyd hts
  rw[aI (by omega),cr,hy,afJ]
  have hbnd:3000000*(b.length:Int)*(i:Int)<=3000000*(b.length:Int)*99:=adE (by omega) (by omega)
  have hnn:0<=3000000*(b.length:Int)*(i:Int):=adG (by omega) (by omega)
  obtain⟨o',h1,h2,h3,h4⟩:=Pq i y a (a.length:Int) (i:Int) b nb gb gl ng o (3000000*(b.length:Int)*(i:Int)) hyd hb (by omega) (by omega) (by omega) (by omega) hB hnn (by omega) (Int.natAbs (i:Int)+(Int.natAbs y+(List.length a+(Int.natAbs (a.length:Int)+(Int.natAbs (i:Int)+(List.length b+(Int.natAbs ((List.length b:Int))+(Int.natAbs (0:Int)+(List.length b+(List.length gl+(List.length o+2))))))))))) (by omega)
  rw[h1,aU]
  dsimp only
  rw[aK (by omega) (by omega)]
  refine ih _ ⟨o',rfl,by omega, ?_, ?_⟩
  ·have e:3000000*(b.length:Int)*(i:Int)+3000000*(b.length:Int)=3000000*(b.length:Int)*((i+1:Nat):Int):=by
    rw[show ((i+1:Nat):Int)=(i:Int)+1 by omega,adC,adH]
   rw[<- e];exact h3
  ·rw[h4,hv,hts,Int.add_mul,adD]
 ·rintro _ again ⟨o,rfl,hl,hB,hv⟩
  unfold uD
  dsimp only
  rw[aM (by omega)]
  rw[afd (afq _)] at hv
  have hbnd:3000000*(b.length:Int)*(a.length:Int)<=3000000*(b.length:Int)*99:=adE (by omega) (by omega)
  exact⟨o,rfl,hl,hB.mono (by omega),hv⟩
theorem Rk (l:List Int) (nb g:Bool) (gl:List Int) (M:Nat) (hM:M+1=l.length) (hl:l.length<10000) (hB:Big 1000000000000 l) (n:Nat) (hn:M<n): ∃ l',iter (X:=sJ) (β:=sI) n ((M:Int),0,g,gl,nb,l,()) sH=some (Sum.inr (g,gl,nb,l',()))/\l'.length=l.length/\Dg6 (l'.take M)/\(∀ d,l'[M]? =some d->0<=d)/\v6 l'=v6 l:=by
 refine dG (Inv:=fun i s=>∃ o:List Int,s=((M:Int),(i:Int),g,gl,nb,o,())/\o.length=l.length/\Big (1000000000000+2000000*i) o/\Dg6 (o.take i)/\v6 o=v6 l) M
  (fun r=>∃ l',r=some (Sum.inr (g,gl,nb,l',()))/\l'.length=l.length/\Dg6 (l'.take M)/\(∀ d,l'[M]? =some d->0<=d)/\v6 l'=v6 l) ?_ ?_ n 0 _ ⟨l,rfl,rfl,hB.mono (by omega),by simpa using Dig.nil,rfl⟩ (by omega) (by omega)
 ·rintro i _ again hi ⟨o,rfl,hol,hBo,hd,hv⟩ ih
  unfold sH
  dsimp only
  have e2:w64 ((i:Int)+1)=((i+1:Nat):Int):=by rw[aK (by omega) (by omega)];omega
  have h3:o[i]? =some o[i]:=aP (by omega)
  have h4:o[i+1]? =some o[i+1]:=aP (by omega)
  have d3:=hBo.get h3
  have d4:=hBo.get h4
  generalize o[i]'(by omega)=y3 at h3 d3
  generalize o[i+1]'(by omega)=y4 at h4 d4
  rw[aI (by omega),e2]
  simp only[adN,h3,h4,afJ,aeF]
  have e4:w64 (y4+w64 (Int.tdiv y3 1000000))=y4+y3 / 1000000:=by
   rw[adL (by omega),aK (n:=y3 / 1000000) (by omega) (by omega),aK (by omega) (by omega)]
  have h7:(o.set (i+1) (y4+y3 / 1000000))[i]? =some y3:=by rw[aer (by omega)];exact h3
  simp only[e4,h7,afJ]
  rw[aC (by simp only[adj,af1];omega),aC (by simp only[adj,af1];omega),aC (by simp only[adj,af1];omega),aC (by simp only[adj,af1];omega),aC (by simp only[adj,af1];omega),adM (by omega)]
  have hself:o.set i y3=o:=by
   apply ad9
   intro j
   by_cases hj:i=j
   ·subst hj;rw[aes (by omega),h3]
   ·rw[aer hj]
  refine ih _ ⟨_,rfl,by simp only[aeF];exact hol, ?_, ?_, ?_⟩
  ·exact Big.set (D:=1000000000000+2000000*((i+1:Nat):Int)) (Big.set hBo (by omega) (by omega)) (Int.le_refl _) (by omega)
  ·have hg:((o.set (i+1) (y4+y3 / 1000000)).set i (y3 % 1000000))[i]? =some (y3 % 1000000):=aes (by rw[aeF];omega)
   rw[jV hg]
   refine Dig.snoc ?_ (by omega)
   rw[List.take_set_of_le (by omega),List.take_set_of_le (by omega)]
   exact hd
  ·have:=TO h3 h4 (t:=y3)
   rw[hself] at this
   rw[this,hv];simp
 ·rintro _ again ⟨o,rfl,hol,hBo,hd,hv⟩
  unfold sH
  dsimp only
  rw[aM (by omega)]
  exact⟨o,rfl,hol,hd,fun d hd'=>(hBo.get hd').1,hv⟩
theorem GC (x y:Int) (hx:(dg6 x.natAbs).length<100) (hy:(dg6 y.natAbs).length<1000):sG (N x) (N y)=some (N (x*y),()):=by
 unfold sG N
 dsimp only
 have e1:w64 (w64 (((dg6 x.natAbs).length:Int)+((dg6 y.natAbs).length:Int))+1)=(((dg6 x.natAbs).length+(dg6 y.natAbs).length+1:Nat):Int):=by
  rw[aK (n:=((dg6 x.natAbs).length:Int)+((dg6 y.natAbs).length:Int)) (by omega) (by omega),aK (by omega) (by omega)];omega
 rw[e1,adN,aC (by simp only[adj,af1];omega)]
 generalize hL:(dg6 x.natAbs).length+(dg6 y.natAbs).length+1=L at*
 have hz:Big 0 (List.replicate L 0):=fun d hd=>by rw[List.mem_replicate] at hd;omega
 have hv0:v6 (List.replicate L 0)=0:=by
  generalize L=k
  induction k with
  | zero=>rfl
  | succ k ih=>rw[ae4,PF,ih];rfl
 obtain⟨o,h1,h2,h3,h4⟩:=Pr (dg6 x.natAbs) (dg6 y.natAbs) (pQ _) (pQ _) hx hy (decide (y<0)) false [] (!(decide (x<0)==decide (y<0))) (List.replicate L 0) (by rw[aeE];omega) (by rw[aeE];omega) hz hv0 (List.length (dg6 x.natAbs)+(Int.natAbs ((List.length (dg6 x.natAbs):Int))+(Int.natAbs (0:Int)+(List.length (dg6 y.natAbs)+(List.length ([]:List Int)+(List.length ((List.replicate L 0):List Int)+2)))))) (by omega)
 rw[h1,aU]
 dsimp only
 rw[aeE] at h2
 have e2:w64 ((o.length:Int) - 1)=(((L - 1:Nat)):Int):=by rw[aK (by omega) (by omega)];omega
 rw[e2]
 obtain⟨o',g1,g2,g3,g4,g5⟩:=Rk o (!(decide (x<0)==decide (y<0))) false [] (L - 1) (by omega) (by omega) h3 (Int.natAbs ((((L - 1:Nat)):Int))+(Int.natAbs (0:Int)+(List.length ([]:List Int)+(List.length o+2)))) (by omega)
 rw[g1,aU]
 dsimp only
 have hm:v6 o'=(x.natAbs:Int)*(y.natAbs:Int):=by rw[g5,h4,xh,xh]
 have hlast:o'[L - 1]? =some (o'[L - 1]'(by omega)):=aP (by omega)
 have hsplit:v6 o'=v6 (o'.take (L - 1))+1000000 ^ (L - 1)*(o'[L - 1]'(by omega)):=by
  rw[<- lp hlast,afd (by omega)]
 have hlt:v6 o'<1000000 ^ (L - 1):=by
  rw[hm]
  have a1:=Gg (pQ x.natAbs)
  have a2:=Gg (pQ y.natAbs)
  rw[xh] at a1 a2
  rw[show L - 1=(dg6 x.natAbs).length+(dg6 y.natAbs).length by omega,adJ]
  have b1:(x.natAbs:Int)*(y.natAbs:Int)<=(x.natAbs:Int)*1000000 ^ (dg6 y.natAbs).length:=adE (by omega) (by omega)
  have b2:(x.natAbs:Int)*1000000 ^ (dg6 y.natAbs).length<1000000 ^ (dg6 x.natAbs).length*1000000 ^ (dg6 y.natAbs).length:=Int.mul_lt_mul_of_pos_right a1 (by omega)
  omega
 have hl0:=g4 _ hlast
 generalize o'[L - 1]'(by omega)=dl at hlast hsplit hl0
 have hdl:dl=0:=by
  have h5:=oy g3
  rcases (show dl=0\/1<=dl by omega) with h | h
  ·exact h
  ·have hp:(0:Int)<1000000 ^ (L - 1):=Ma (by omega) _
   have:(1000000:Int) ^ (L - 1)*1<=1000000 ^ (L - 1)*dl:=adE h (by omega)
   omega
 have hdig:Dg6 o':=by
  have e:o'=o'.take (L - 1)++[dl]:=by
   rw[<- jV hlast,afd (by omega)]
  rw[e];exact g3.snoc (by omega)
 rw[Pu _ _ hdig (by omega),afJ,hm]
 show some (N _,())=some (N (x*y),())
 congr 3
 by_cases hxn:x<0<;>by_cases hyn:y<0
 ·simp only[hxn,hyn,af3,afU,adv,ado,af7]
  rw[show (x.natAbs:Int)= -x by omega,show (y.natAbs:Int)= -y by omega,Int.neg_mul_neg]
 ·simp only[hxn,hyn,af3,af2,aga,show (!(true==false))=true from rfl]
  rw[show (x.natAbs:Int)= -x by omega,show (y.natAbs:Int)=y by omega,Int.neg_mul,Int.neg_neg]
 ·simp only[hxn,hyn,af3,af2,aga,show (!(false==true))=true from rfl]
  rw[show (x.natAbs:Int)=x by omega,show (y.natAbs:Int)= -y by omega,Int.mul_neg,Int.neg_neg]
 ·simp only[hxn,hyn,af2,afU,adv,ado,af7]
  rw[show (x.natAbs:Int)=x by omega,show (y.natAbs:Int)=y by omega]
end Go.Md
