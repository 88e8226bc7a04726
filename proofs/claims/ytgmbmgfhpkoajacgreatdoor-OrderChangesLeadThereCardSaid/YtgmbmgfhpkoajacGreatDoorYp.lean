/-
  Plain facts: loops, digits, whole numbers. No condition.
-/
import Derived.Test.YtgmbmgfhpkoajacGreatDoorYm
set_option linter.all false
namespace Go.Md
open Go.Dn
def oJ {α σ β:Type} (g:σ->Nat->α->(σ->Option β)->Option β) (fin:σ->Option β):List α->Nat->σ->Option β
 | [],_,s=>fin s
 | y::r,i,s=>g s i y fun s'=>oJ g fin r (i+1) s'
theorem Jx {X α σ β:Type} {f:X->(X->Option β)->Option β} (mk:σ->Nat->X) (l:List α) (g:σ->Nat->α->(σ->Option β)->Option β) (fin:σ->Option β) (hstep:∀ s i y again,l[i]? =some y->f (mk s i) again=g s i y fun s'=>again (mk s' (i+1))) (hend:∀ s again,f (mk s l.length) again=fin s): ∀ (r:List α) (i:Nat) (s:σ) (n:Nat),l.drop i=r->i<=l.length->r.length<n->iter n (mk s i) f=oJ g fin r i s
 | _,_,_,0,_,_,hn=>absurd hn (Nat.not_lt_zero _)
 | [],i,s,n+1,hd,hi,_=>by
  have:i=l.length:=by
   have:=congrArg List.length hd
   simp at this;omega
  subst this
  exact hend s _
 | y::r,i,s,n+1,hd,hi,hn=>by
  have hy:l[i]? =some y:=by
   have:=congrArg (·[0]?) hd
   simpa [Vd] using this
  have hr:l.drop (i+1)=r:=by
   have:=congrArg List.tail hd
   simpa [V0] using this
  have hi':i<l.length:=(Vg.1 hy).1
  show f (mk s i) _=_
  rw[hstep s i y _ hy]
  show g s i y _=g s i y _
  congr 1
  funext s'
  exact Jx mk l g fin hstep hend r (i+1) s' n hr hi' (by simp at hn;omega)
theorem mP {X α σ β:Type} {f:X->(X->Option β)->Option β} (mk:σ->Nat->X) (l:List α) (g:σ->Nat->α->(σ->Option β)->Option β) (fin:σ->Option β) (hstep:∀ s i y again,l[i]? =some y->f (mk s i) again=g s i y fun s'=>again (mk s' (i+1))) (hend:∀ s again,f (mk s l.length) again=fin s) (s:σ) (n:Nat) (hn:l.length<n):iter n (mk s 0) f=oJ g fin l 0 s:=
 Jx mk l g fin hstep hend l 0 s n rfl (WD _) hn
theorem fh {X β:Type} {f:X->(X->Option β)->Option β} (Inv:Nat->X->Prop) (N:Nat) (Q:Option β->Prop) (step:∀ i x again,i<N->Inv i x->(∀ y,Inv (i+1) y->Q (again y))->Q (f x again)) (fin:∀ x again,Inv N x->Q (f x again)):∀ n i x,Inv i x->i<=N->N - i<n->Q (iter n x f)
 | 0,_,_,_,_,hn=>absurd hn (Nat.not_lt_zero _)
 | n+1,i,x,hx,hi,hn=>by
  show Q (f x _)
  by_cases h:i=N
  ·subst h;exact fin x _ hx
  ·exact step i x _ (by omega) hx fun y hy=>fh Inv N Q step fin n (i+1) y hy (by omega) (by omega)
theorem Db {X β:Type} {f:X->(X->Option β)->Option β} (Inv:X->Prop) (μ:X->Nat) (Q:X->Option β->Prop) (step:∀ x again,Inv x->(∀ y,Inv y->μ y<μ x->Q y (again y))->Q x (f x again)):∀ n x,Inv x->μ x<n->Q x (iter n x f)
 | 0,_,_,hn=>absurd hn (Nat.not_lt_zero _)
 | n+1,x,hx,hn=>step x _ hx fun y hy h=>Db Inv μ Q step n y hy (by omega)
theorem Qt:maxLen=9223372036854775807:=rfl
theorem bS {β:Type} {b:Bool} (h:b=true) (x:Option β):chk b x=x:=by rw[h];rfl
theorem pU {n k:Nat} (h:n*k<=140737488355328) (h2:n<=9223372036854775807):(decide (n*k<=140737488355328)&&decide (n<=maxLen))=true:=by
 simp only[Ug,WY];rw[Qt];omega
theorem bR {α:Type} {p:Prop} [Decidable p] (h:p) (x y:α):(bif decide p then x else y)=x:=by rw[WX h];rfl
theorem cy {α:Type} {p:Prop} [Decidable p] (h:¬p) (x y:α):(bif decide p then x else y)=y:=by rw[WW h];rfl
theorem Dc {β γ:Type} (r:β) (f:γ->Option β):aI (some (Sum.inl r)) f=some r:=rfl
theorem bC {β γ:Type} (v:γ) (f:γ->Option β):aI (β:=β) (some (Sum.inr v)) f=f v:=rfl
theorem bz {α:Type} {l:List α} {i:Nat} (h:i<l.length):l[i]? =some (l[i]'h):=Ve h
theorem MK {k:IntKind} {n:Int} (h1:k.min<=n) (h2:n<=k.max):k.wrap n=n:=by
 cases k<;>simp[IntKind.wrap,IntKind.min,IntKind.max,IntKind.bits,IntKind.signed] at* <;>(try split)<;>omega
theorem aG {n:Int} (h1: -9223372036854775808<=n) (h2:n<=9223372036854775807):w64 n=n:=MK h1 h2
theorem eW {n:Int} (h1:0<=n) (h2:n<=18446744073709551615):bO n=n:=MK h1 h2
theorem xj {n:Int} (h1:0<=n) (h2:n<=4294967295):iU n=n:=MK h1 h2
theorem yp (n:Int):bO n=n % 18446744073709551616:=by simp[bO,IntKind.wrap,IntKind.bits,IntKind.signed]
theorem yo (n:Int):iU n=n % 4294967296:=by simp[iU,IntKind.wrap,IntKind.bits,IntKind.signed]
theorem gy {α:Type} (l:List α) (i:Nat):idx l (i:Int)=l[i]? :=by simp[idx]
end Go.Md
namespace Go.Md
open Go.Dn
def val (B:Int):List Int->Int
 | []=>0
 | d::r=>d+B*val B r
def Dig (B:Int) (l:List Int):Prop:=∀ d,d∈l->0<=d/\d<B
theorem Dig.nil {B:Int}:Dig B []:=fun _ h=>by cases h
theorem Dig.cons {B d:Int} {l:List Int} (h:0<=d/\d<B) (hl:Dig B l):Dig B (d::l):=fun x hx=>by
 rcases VH.1 hx with rfl | hx
 ·exact h
 ·exact hl x hx
theorem Dig.head {B d:Int} {l:List Int} (h:Dig B (d::l)):0<=d/\d<B:=h d (by simp)
theorem Dig.tail {B d:Int} {l:List Int} (h:Dig B (d::l)):Dig B l:=fun x hx=>h x (by simp[hx])
theorem Dig.append {B:Int} {l m:List Int} (h:Dig B l) (k:Dig B m):Dig B (l++m):=fun x hx=>by
 rcases VF.1 hx with hx | hx
 ·exact h x hx
 ·exact k x hx
theorem Dig.snoc {B d:Int} {l:List Int} (h:Dig B l) (hd:0<=d/\d<B):Dig B (l++[d]):=h.append (Dig.cons hd Dig.nil)
theorem Dig.take {B:Int} {l:List Int} (h:Dig B l) (n:Nat):Dig B (l.take n):=fun x hx=>h x (List.mem_of_mem_take hx)
theorem Dig.drop {B:Int} {l:List Int} (h:Dig B l) (n:Nat):Dig B (l.drop n):=fun x hx=>h x (List.mem_of_mem_drop hx)
theorem Dig.get {B d:Int} {l:List Int} {i:Nat} (h:Dig B l) (hi:l[i]? =some d):0<=d/\d<B:=h d (VO hi)
theorem Dig.left {B:Int} {l m:List Int} (h:Dig B (l++m)):Dig B l:=fun x hx=>h x (VG _ hx)
theorem Dig.right {B:Int} {l m:List Int} (h:Dig B (l++m)):Dig B m:=fun x hx=>h x (List.mem_append_right _ hx)
theorem wY {B:Int} (hB:0<B):∀ {l:List Int},Dig B l->0<=val B l
 | [],_=>Uy _
 | d::r,h=>by
  have h1:=h.head;have h2:=wY hB h.tail
  have:0<=B*val B r:=Int.mul_nonneg (by omega) h2
  simp only[val];omega
theorem MH {B:Int} (hB:0<B):∀ {l:List Int},Dig B l->val B l<B ^ l.length
 | [],_=>by simp[val]
 | d::r,h=>by
  have h1:=h.head;have h2:=MH hB h.tail
  have h3:B*(val B r+1)<=B*B ^ r.length:=UB h2 (by omega)
  rw[Uz,UC] at h3
  simp only[val,Vs]
  rw[UG,Int.mul_comm (B ^ r.length) B]
  omega
theorem wX {B:Int}:∀ (l m:List Int),val B (l++m)=val B l+B ^ l.length*val B m
 | [],m=>by simp[val]
 | d::r,m=>by
  simp only[US,val,wX r m,Vs,UG]
  rw[Uz,Int.add_assoc]
  congr 2
  rw[Int.mul_comm (B ^ r.length) B,UA]
theorem MI {B:Int} (l:List Int) (d:Int):val B (l++[d])=val B l+B ^ l.length*d:=by
 rw[wX];simp[val]
theorem F3 {B:Int} (hB:0<B):∀ n:Nat,0<B ^ n
 | 0=>by simp
 | n+1=>by rw[UG];exact Int.mul_pos (F3 hB n) hB
def dgF (B:Nat):Nat->Nat->List Int
 | 0,_=>[]
 | f+1,n=>if n=0 then [] else ((n % B:Nat):Int)::dgF B f (n / B)
def dg (B n:Nat):List Int:=dgF B n n
theorem PZ {B:Nat} (hB:2<=B):∀ (f g n:Nat),n<=f->n<=g->dgF B f n=dgF B g n
 | 0,0,_,_,_=>rfl
 | 0,g+1,n,h,_=>by have:n=0:=by omega
                   subst this;simp[dgF]
 | f+1,0,n,_,h=>by have:n=0:=by omega
                   subst this;simp[dgF]
 | f+1,g+1,n,hf,hg=>by
  by_cases hn:n=0
  ·subst hn;simp[dgF]
  ·have:n / B<n:=Wd (by omega) (by omega)
   simp only[dgF,hn,Xc]
   rw[PZ hB f g (n / B) (by omega) (by omega)]
theorem w5 (B:Nat):dg B 0=[]:=rfl
theorem vk {B:Nat} (hB:2<=B) {n:Nat} (hn:0<n):dg B n=((n % B:Nat):Int)::dg B (n / B):=by
 have:n / B<n:=Wd hn (by omega)
 obtain⟨m,rfl⟩:∃ m,n=m+1:=⟨n - 1,by omega⟩
 unfold dg
 rw[dgF,Xd (by omega),PZ hB m ((m+1) / B) _ (by omega) (Wj _)]
theorem P3 {B:Nat} (hB:2<=B):∀ n,Dig B (dg B n):=by
 intro n
 induction n using Nat.strongRecOn with
 | _ n ih=>
  by_cases hn:n=0
  ·subst hn;exact Dig.nil
  ·rw[vk hB (by omega)]
   exact Dig.cons ⟨by omega,by have:=Nat.mod_lt n (show 0<B by omega);omega⟩ (ih _ (Wd (by omega) (by omega)))
theorem QZ {B:Nat} (hB:2<=B):∀ n,val B (dg B n)=n:=by
 intro n
 induction n using Nat.strongRecOn with
 | _ n ih=>
  by_cases hn:n=0
  ·subst hn;rfl
  ·rw[vk hB (by omega),val,ih _ (Wd (by omega) (by omega))]
   have:=Nat.mod_add_div n B
   omega
theorem yA {B:Nat} (hB:2<=B) {n:Nat} (hn:0<n):dg B n≠[]:=by rw[vk hB hn];simp
theorem Jp {B:Nat} (hB:2<=B) {n:Nat}:dg B n=[]↔n=0:=by
 constructor
 ·intro h
  rcases Wg n with h0 | h0
  ·exact h0
  ·exact absurd h (yA hB h0)
 ·rintro rfl;rfl
theorem A3 {B:Nat} (hB:2<=B) {d n:Nat} (hd:d<B) (h:0<d+B*n):dg B (d+B*n)=(d:Int)::dg B n:=by
 rw[vk hB h]
 have h1:(d+B*n) % B=d:=by rw[Nat.add_mul_mod_self_left,Ws hd]
 have h2:(d+B*n) / B=n:=by rw[Nat.add_mul_div_left _ _ (by omega),Nat.div_eq_of_lt hd];omega
 rw[h1,h2]
def trim:List Int->List Int
 | []=>[]
 | d::r=>match trim r with
  | []=>if d=0 then [] else [d]
  | t=>d::t
theorem I6 {B:Nat} (hB:2<=B):∀ {l:List Int},Dig B l->trim l=dg B (val B l).toNat
 | [],_=>rfl
 | d::r,h=>by
  have hr:=I6 hB h.tail
  have h1:=h.head
  have hB0:(0:Int)<B:=by omega
  have h2:=wY hB0 h.tail
  obtain⟨k,rfl⟩:∃ k:Nat,d=k:=⟨d.toNat,by omega⟩
  obtain⟨n,hn⟩:∃ n:Nat,val B r=n:=⟨(val B r).toNat,by omega⟩
  have hv:(val B ((k:Int)::r)).toNat=k+B*n:=by
   simp only[val,hn]
   rw[show ((B:Int)*(n:Int))=((B*n:Nat):Int) by simp]
   omega
  rw[hv]
  rw[hn] at hr
  simp only[UL] at hr
  unfold trim
  rw[hr]
  rcases Wg n with h0 | h0
  ·subst h0
   simp only[w5,Nat.mul_zero,Wb]
   by_cases hk:k=0
   ·subst hk;simp[w5]
   ·have:=A3 hB (d:=k) (n:=0) (by omega) (by omega)
    simp only[Nat.mul_zero,Wb,w5] at this
    rw[this];simp[hk]
  ·have hpos:0<k+B*n:=by have:=Nat.mul_pos (show 0<B by omega) h0;omega
   rw[A3 hB (by omega) hpos]
   cases hd:dg B n with
   | nil=>exact absurd hd (yA hB h0)
   | cons a t=>rfl
theorem uI:∀ l:List Int,trim (l++[0])=trim l
 | []=>rfl
 | d::r=>by simp only[US,trim,uI r]
theorem yg {d:Int} (hd:d≠0):∀ l:List Int,trim (l++[d])=l++[d]
 | []=>by simp[trim,hd]
 | e::r=>by
  simp only[US,trim,yg hd r]
  cases h:r++[d] with
  | nil=>simp at h
  | cons a t=>rfl
theorem LL {B:Nat} (hB:2<=B):∀ (k n:Nat),n<B ^ k->(dg B n).length<=k
 | 0,n,h=>by have:n=0:=by simpa using h
             subst this;simp[w5]
 | k+1,n,h=>by
  by_cases hn:n=0
  ·subst hn;simp[w5]
  ·rw[vk hB (by omega),Vs]
   have:=LL hB k (n / B) (by rw[Wy] at h;exact Nat.div_lt_of_lt_mul (by rw[Wt];exact h))
   omega
theorem Jq {B:Nat} (hB:2<=B) {m n:Nat} (h:(dg B m).length<(dg B n).length):m<n:=by
 rcases Wn m n with h1 | h1
 ·exact h1
 ·exfalso
  have h2:∀ a b:Nat,b<=a->(dg B b).length<=(dg B a).length:=by
   intro a
   induction a using Nat.strongRecOn with
   | _ a ih=>
    intro b hb
    by_cases h0:b=0
    ·subst h0;simp[w5]
    ·rw[vk hB (by omega),vk hB (show 0<a by omega),Vs,Vs]
     have:=ih (a / B) (Wd (by omega) (by omega)) (b / B) (Nat.div_le_div_right hb)
     omega
  have:=h2 m n h1
  omega
end Go.Md
namespace Go.Md
open Go.Dn
def v32 (l:List Int):Int:=val 4294967296 l
theorem AM:v32 []=0:=rfl
theorem yh (d:Int) (l:List Int):v32 (d::l)=d+4294967296*v32 l:=rfl
theorem BP (l m:List Int):v32 (l++m)=v32 l+4294967296 ^ l.length*v32 m:=wX l m
theorem BQ (l:List Int) (d:Int):v32 (l++[d])=v32 l+4294967296 ^ l.length*d:=MI l d
abbrev Dg (l:List Int):Prop:=Dig 4294967296 l
def bw (n:Nat):List Int:=dg 4294967296 n
theorem CW:bw 0=[]:=rfl
theorem EI {n:Nat}:bw n=[]↔n=0:=Jp (B:=4294967296) (by omega)
theorem EJ {n:Nat} (h:0<n):bw n≠[]:=yA (B:=4294967296) (by omega) h
theorem lB {m n:Nat} (h:(bw m).length<(bw n).length):m<n:=Jq (B:=4294967296) (by omega) h
theorem iQ (n:Nat):Dg (bw n):=P3 (B:=4294967296) (by omega) n
theorem nF (n:Nat):v32 (bw n)=n:=QZ (B:=4294967296) (by omega) n
theorem MC {l:List Int} (h:Dg l):trim l=bw (v32 l).toNat:=I6 (B:=4294967296) (by omega) h
theorem tK {l:List Int} (h:Dg l):0<=v32 l:=wY (by omega) h
theorem AL {l:List Int} (h:Dg l):v32 l<4294967296 ^ l.length:=MH (by omega) h
theorem xB {k n:Nat} (h:n<4294967296 ^ k):(bw n).length<=k:=LL (B:=4294967296) (by omega) k n h
theorem rW (l:List Int) (hl:l.length<1000000):ku l=some (trim l,()):=by
 have key:∀ n (x:jK),x.1.length<1000000->x.1.length<n->iter n x rV=some (Sum.inr (trim x.1,())):=by
  refine Db (fun x:jK=>x.1.length<1000000) (fun x=>x.1.length) (fun x r=>r=some (Sum.inr (trim x.1,()))) ?_
  rintro⟨x,u⟩ again hx ih
  simp only at hx ih ⊢
  unfold rV
  simp only
  by_cases h0:x.length=0
  ·have:x=[]:=U2 h0
   subst this;simp[trim]
  ·have e1:w64 ((x.length:Int) - 1)=((x.length - 1:Nat):Int):=by rw[aG (by omega) (by omega)];omega
   have hsp:x=x.take (x.length - 1)++[x[x.length - 1]'(by omega)]:=by
    have:=V4 (x.length - 1) x
    rw[UX (by omega),UZ (by omega)] at this
    exact this.symm
   rw[bR (by omega),e1,gy,bz (by omega)]
   simp only[UL,U0,WG]
   by_cases hz:x[x.length - 1]'(by omega)=0
   ·rw[hz] at hsp ⊢
    rw[bS (by simp only[Ug,WY];omega)]
    simp only[WS,WV]
    rw[ih (List.take (x.length - 1) x,()) (by simp only[VA];omega) (by simp only[VA];omega)]
    conv=>rhs;rw[hsp,uI]
   ·have:(x[x.length - 1]'(by omega)==0)=false:=by simp[hz]
    rw[this]
    simp only[WU]
    conv=>rhs;rw[hsp,yg hz]
    rw[<- hsp]
 unfold ku
 rw[key _ _ (by simpa using hl) (by simp)]
 rfl
def W (z:Int):bq:=(decide (z<0),bw z.natAbs)
theorem rD (b:Bool) (l:List Int) (hd:Dg l) (hl:l.length<1000000):fJ b l=some (W (if b then -v32 l else v32 l),()):=by
 unfold fJ
 rw[rW l hl,MC hd]
 have h0:=tK hd
 simp only[WG]
 cases b with
 | false=>simp only[WU,W];rw[show (decide ((if false=true then -v32 l else v32 l)<0))=false by simp;omega];congr 4;simp;omega
 | true=>
  simp only[WV,W]
  congr 3
  ·by_cases hv:v32 l=0
   ·simp[hv,CW]
   ·have hpos:0<v32 l:=by omega
    have:bw (v32 l).toNat≠[]:=EJ (by omega)
    have hlen:0<(bw (v32 l).toNat).length:=by
     cases h:bw (v32 l).toNat with
     | nil=>exact absurd h this
     | cons a t=>simp
    simp;omega
  ·congr 1;simp;omega
theorem Fi (n:Int) (h1: -9223372036854775808<=n) (h2:n<=9223372036854775807):pM n=some (W n,()):=by
 unfold pM
 have key:∀ u:Int,0<=u->u<=9223372036854775808->fJ (decide (n<0)) [iU u,iU (Int.fdiv u (2 ^ 32))]=some (W (if decide (n<0) then -u else u),()):=by
  intro u hu0 hu1
  have e:Int.fdiv u (2 ^ 32)=u / 4294967296:=by rw[Ux _ (by omega)];rfl
  rw[e,yo,yo]
  have hd:Dg [u % 4294967296,u / 4294967296 % 4294967296]:=Dig.cons (by omega) (Dig.cons (by omega) Dig.nil)
  rw[rD _ _ hd (by simp)]
  have hv:v32 [u % 4294967296,u / 4294967296 % 4294967296]=u:=by simp only[yh,AM];omega
  rw[hv]
 by_cases hn:n<0
 ·have e1:bO (0 - bO n)= -n:=by rw[yp,yp];omega
  rw[show decide (n<0)=true by simpa using hn] at key ⊢
  simp only[WV,aI]
  rw[e1]
  rw[show decide (n<0)=true by simpa using hn]
  rw[key (-n) (by omega) (by omega)]
  simp
 ·have e1:bO n=n:=eW (by omega) (by omega)
  rw[show decide (n<0)=false by simpa using hn] at key ⊢
  simp only[WU,aI]
  rw[e1]
  rw[show decide (n<0)=false by simpa using hn]
  rw[key n (by omega) (by omega)]
  simp
theorem wG (z:Int):gX (W z)=some (z.sign,()):=by
 unfold gX W
 by_cases h:z<0
 ·simp[h,UH h]
 ·by_cases h0:z=0
  ·subst h0;simp[CW]
  ·have hp:0<z:=by omega
   have:bw z.natAbs≠[]:=EJ (by omega)
   have hlen:((bw z.natAbs).length:Int)≠0:=by
    intro h;exact this (U2 (by omega))
   have hb:(((bw z.natAbs).length:Int)==0)=false:=by simpa using hlen
   simp only[h,WZ,WU,hb,UI hp]
theorem Tz {z:Int} {k:Nat} (h:z.natAbs<4294967296 ^ k):(W z).2.length<=k:=xB h
theorem DR (z:Int) (h:z.natAbs<4294967296 ^ 99):lf (W z)=some (W (-z),()):=by
 unfold lf
 have hl:=Tz h
 rw[rD _ (W z).2 (iQ _) (by omega)]
 simp only[WG]
 congr 3
 simp only[W,nF]
 by_cases hz:z<0
 ·simp[hz];omega
 ·simp[hz];omega
theorem nE {α:Type} {l:List α} {i:Nat} {y:α} (h:l[i]? =some y):l.take (i+1)=l.take i++[y]:=by
 rw[V3,h];rfl
theorem iT {l:List Int} {i:Nat} {y:Int} (h:l[i]? =some y):v32 (l.take (i+1))=v32 (l.take i)+4294967296 ^ i*y:=by
 have hi:=(Vg.1 h).1
 rw[nE h,BQ,VA,Wr (by omega)]
theorem Cc {l:List Int} {i:Nat} (h:l.length<=i):v32 (l.take (i+1))=v32 (l.take i):=by
 rw[V7 h,V7 (by omega)]
theorem P9 {u:Int}:Int.fdiv u (2 ^ 32)=u / 4294967296:=by rw[Ux _ (by omega)];rfl
theorem Jb (a b:List Int) (ha:Dg a) (hb:Dg b) (hla:a.length<100000) (hlb:b.length<=a.length) (n:Nat) (hn:a.length<n): ∃ out c,iter (X:=pP) (β:=pO) n (b,[],0,a,(a.length:Int),0,()) pN=some (Sum.inr (out,c,()))/\Dg out/\0<=c/\c<=1/\out.length=a.length/\v32 out+4294967296 ^ a.length*c=v32 a+v32 b:=by
 refine fh (Inv:=fun i x=>∃ out c,x=(b,out,c,a,(a.length:Int),(i:Int),())/\Dg out/\0<=c/\c<=1/\out.length=i/\v32 out+4294967296 ^ i*c=v32 (a.take i)+v32 (b.take i)) a.length
  (fun r=>∃ out c,r=some (Sum.inr (out,c,()))/\Dg out/\0<=c/\c<=1/\out.length=a.length/\v32 out+4294967296 ^ a.length*c=v32 a+v32 b) ?_ ?_ n 0 _ ⟨[],0,rfl,Dig.nil,by omega,by omega,rfl,by simp[AM]⟩ (by omega) (by omega)
 ·rintro i _ again hi ⟨out,c,rfl,hd,hc0,hc1,hlen,hv⟩ ih
  unfold pN
  simp only
  have hy:a[i]? =some a[i]:=bz hi
  have hyd:=ha.get hy
  generalize a[i]=y at hy hyd
  rw[bR (by omega),gy,hy,WG]
  have step:∀ z:Int,0<=z->z<4294967296->v32 (b.take (i+1))=v32 (b.take i)+4294967296 ^ i*z->
   ∃ out' c',again (b,out++[iU (bO (bO (c+bO y)+bO z))],Int.fdiv (bO (bO (c+bO y)+bO z)) (2 ^ 32),a,(a.length:Int),w64 ((i:Int)+1),())=some (Sum.inr (out',c',()))/\Dg out'/\0<=c'/\c'<=1/\out'.length=a.length/\v32 out'+4294967296 ^ a.length*c'=v32 a+v32 b:=by
   intro z hz0 hz1 hbz
   have e1:bO (bO (c+bO y)+bO z)=c+y+z:=by
    rw[eW (n:=y) (by omega) (by omega),eW (n:=z) (by omega) (by omega),eW (n:=c+y) (by omega) (by omega),eW (by omega) (by omega)]
   rw[e1,yo,P9,aG (by omega) (by omega)]
   refine ih _ ⟨_,_,rfl,hd.snoc (by omega),by omega,by omega,by simp[hlen], ?_⟩
   rw[BQ,hlen,iT hy,hbz,UG]
   have hm:=Int.mul_ediv_add_emod (c+y+z) 4294967296
   have:(4294967296:Int) ^ i*((c+y+z) % 4294967296)+4294967296 ^ i*4294967296*((c+y+z) / 4294967296)=4294967296 ^ i*(c+y+z):=by
    rw[UA, <- Uz];congr 1;omega
   rw[Uz,Uz] at this
   omega
  by_cases hib:i<b.length
  ·have hz:b[i]? =some b[i]:=bz hib
   rw[bR (by omega),gy,hz,WG]
   simp only[bC]
   rw[bS (pU (by omega) (by omega))]
   exact step b[i] (hb.get hz).1 (hb.get hz).2 (iT hz)
  ·rw[cy (by omega)]
   simp only[bC]
   rw[bS (pU (by omega) (by omega))]
   have:=step 0 (by omega) (by omega) (by rw[Cc (by omega)];omega)
   have e0:bO (bO (c+bO y)+bO 0)=bO (c+bO y):=by
    rw[eW (n:=y) (by omega) (by omega),eW (n:=(0:Int)) (by omega) (by omega),eW (n:=c+y) (by omega) (by omega),eW (by omega) (by omega)];omega
   rw[e0] at this
   exact this
 ·rintro _ again ⟨out,c,rfl,hd,hc0,hc1,hlen,hv⟩
  unfold pN
  simp only
  rw[cy (by omega)]
  rw[V7 (Wj _),V7 hlb] at hv
  exact⟨out,c,rfl,hd,hc0,hc1,hlen,hv⟩
theorem MJ (a b:List Int) (ha:Dg a) (hb:Dg b) (hla:a.length<100000) (hlb:b.length<100000): ∃ s,za a b=some (s,())/\Dg s/\v32 s=v32 a+v32 b/\s.length=max a.length b.length+1:=by
 have core:∀ (a b:List Int),Dg a->Dg b->a.length<100000->b.length<=a.length->∃ s,(chk (decide (0<=(0:Int))&&decide ((0:Int)<=(w64 (((List.length a:Int))+1)))&&decide ((4:Int)*(w64 (((List.length a:Int))+1))<=281474976710656)&&decide ((w64 (((List.length a:Int))+1))<=9223372036854775807)) <|
 aI (β:=((List Int)×Unit)) (γ:=((List Int)×Int×Unit)) (
  iter (X:=pP) (β:=pO) (List.length b+(List.length ([]:List Int)+(Int.natAbs (0:Int)+(List.length a+(Int.natAbs ((List.length a:Int))+(Int.natAbs (0:Int)+2)))))) (b,[],0,a,(List.length a:Int),0,()) (pN)) fun v7=>
 chk (decide (((v7.1.length)+1)*4<=140737488355328)&&decide ((v7.1.length)+1<=maxLen)) <|
 some (v7.1++[(iU v7.2.1)],()))=some (s,())/\Dg s/\v32 s=v32 a+v32 b/\s.length=a.length+1:=by
  intro a b ha hb hla hlb
  obtain⟨out,c,h1,h2,h3,h4,h5,h6⟩:=Jb a b ha hb hla hlb _ (show a.length<List.length b+(List.length ([]:List Int)+(Int.natAbs (0:Int)+(List.length a+(Int.natAbs ((List.length a:Int))+(Int.natAbs (0:Int)+2))))) by omega)
  rw[h1,bC,aG (by omega) (by omega),bS (by simp only[Ug,WY];omega)]
  simp only
  rw[bS (pU (by omega) (by omega))]
  refine⟨_,rfl,h2.snoc ?_, ?_,by simp[h5]⟩
  ·rw[xj (by omega) (by omega)];omega
  ·rw[xj (by omega) (by omega),BQ,h5];exact h6
 unfold za
 by_cases h:a.length<b.length
 ·rw[bR (by omega),bC]
  obtain⟨s,h1,h2,h3,h4⟩:=core b a hb ha hlb (by omega)
  exact⟨s,h1,h2,by omega,by omega⟩
 ·rw[cy (by omega),bC]
  obtain⟨s,h1,h2,h3,h4⟩:=core a b ha hb hla (by omega)
  exact⟨s,h1,h2,by omega,by omega⟩
theorem Im (a b:List Int) (ha:Dg a) (hb:Dg b) (hla:a.length<100000) (hlb:b.length<=a.length) (n:Nat) (hn:a.length<n): ∃ out c,iter (X:=rC) (β:=rA) n (b,[],0,a,(a.length:Int),0,()) rz=some (Sum.inr (out,()))/\Dg out/\0<=c/\c<=1/\out.length=a.length/\v32 out=v32 a - v32 b+4294967296 ^ a.length*c:=by
 refine fh (Inv:=fun i x=>∃ out c,x=(b,out,c,a,(a.length:Int),(i:Int),())/\Dg out/\0<=c/\c<=1/\out.length=i/\v32 out=v32 (a.take i) - v32 (b.take i)+4294967296 ^ i*c) a.length
  (fun r=>∃ out c,r=some (Sum.inr (out,()))/\Dg out/\0<=c/\c<=1/\out.length=a.length/\v32 out=v32 a - v32 b+4294967296 ^ a.length*c) ?_ ?_ n 0 _ ⟨[],0,rfl,Dig.nil,by omega,by omega,rfl,by simp[AM]⟩ (by omega) (by omega)
 ·rintro i _ again hi ⟨out,c,rfl,hd,hc0,hc1,hlen,hv⟩ ih
  unfold rz
  simp only
  have hy:a[i]? =some a[i]:=bz hi
  have hyd:=ha.get hy
  generalize a[i]=y at hy hyd
  rw[bR (by omega),gy,hy,WG]
  have step:∀ z:Int,0<=z->z<4294967296->v32 (b.take (i+1))=v32 (b.take i)+4294967296 ^ i*z->∀ t:Int,t=(y - c - z) % 18446744073709551616->
   ∃ out' c',again (b,out++[iU t],bO (((BitVec.ofInt (IntKind.bits .u64) (Int.fdiv t (2 ^ 32)) &&& BitVec.ofInt (IntKind.bits .u64) 1).toNat:Int)),a,(a.length:Int),w64 ((i:Int)+1),())=some (Sum.inr (out',()))/\Dg out'/\0<=c'/\c'<=1/\out'.length=a.length/\v32 out'=v32 a - v32 b+4294967296 ^ a.length*c':=by
   intro z hz0 hz1 hbz t ht
   have e2:bO (((BitVec.ofInt (IntKind.bits .u64) (Int.fdiv t (2 ^ 32)) &&& BitVec.ofInt (IntKind.bits .u64) 1).toNat:Int))=(if y - c - z<0 then 1 else 0):=by
    rw[P9]
    have h1:t / 4294967296=(if y - c - z<0 then 4294967295 else 0):=by split<;>omega
    rw[h1]
    split<;>rfl
   rw[e2,yo,aG (by omega) (by omega)]
   refine ih _ ⟨_,_,rfl,hd.snoc (by omega),by split<;>omega,by split<;>omega,by simp[hlen], ?_⟩
   rw[BQ,hlen,iT hy,hbz,UG,hv]
   have e3:t % 4294967296=y - c - z+4294967296*(if y - c - z<0 then 1 else 0):=by split<;>omega
   rw[e3]
   generalize (if y - c - z<0 then (1:Int) else 0)=q
   generalize (4294967296:Int) ^ i=p
   rw[Uz,Int.mul_sub,Int.mul_sub,UA]
   omega
  by_cases hib:i<b.length
  ·have hz:b[i]? =some b[i]:=bz hib
   rw[bR (by omega),gy,hz,WG]
   simp only[bC]
   rw[bS (pU (by omega) (by omega))]
   have hz':=hb.get hz
   refine step b[i] hz'.1 hz'.2 (iT hz) _ ?_
   rw[eW (n:=y) (by omega) (by omega),eW (n:=b[i]) (by omega) (by omega),yp,yp]
   omega
  ·rw[cy (by omega)]
   simp only[bC]
   rw[bS (pU (by omega) (by omega))]
   refine step 0 (by omega) (by omega) (by rw[Cc (by omega)];omega) _ ?_
   rw[eW (n:=y) (by omega) (by omega),yp]
   omega
 ·rintro _ again ⟨out,c,rfl,hd,hc0,hc1,hlen,hv⟩
  unfold rz
  simp only
  rw[cy (by omega)]
  rw[V7 (Wj _),V7 hlb] at hv
  exact⟨out,c,rfl,hd,hc0,hc1,hlen,hv⟩
theorem KX (a b:List Int) (ha:Dg a) (hb:Dg b) (hla:a.length<100000) (hlb:b.length<=a.length) (hle:v32 b<=v32 a):qg a b=some (bw (v32 a - v32 b).toNat,()):=by
 unfold qg
 obtain⟨out,c,h1,h2,h3,h4,h5,h6⟩:=Im a b ha hb hla hlb _ (show a.length<List.length b+(List.length ([]:List Int)+(Int.natAbs (0:Int)+(List.length a+(Int.natAbs ((List.length a:Int))+(Int.natAbs (0:Int)+2))))) by omega)
 rw[h1,bC,bS (by simp only[Ug,WY];omega)]
 simp only
 rw[rW _ (by omega),MC h2,WG]
 have h7:=AL h2
 rw[h5] at h7
 have h8:c=0:=by
  rcases (show c=0\/c=1 by omega) with h | h
  ·exact h
  ·subst h;rw[UC] at h6;omega
 subst h8
 rw[h6,Int.mul_zero,Int.add_zero]
theorem DU (a b:List Int) (ha:Dg a) (hb:Dg b) (hab:a.length=b.length) (hla:a.length<100000):∀ (n k:Nat),k<=a.length->k<n-> iter (X:=nj) (β:=ni) n (a,b,(k:Int) - 1,()) jJ=if v32 (a.take k)<v32 (b.take k) then some (Sum.inl ((-1),())) else if v32 (b.take k)<v32 (a.take k) then some (Sum.inl (1,())) else some (Sum.inr ()):=by
 intro n
 induction n with
 | zero=>intro k _ h;omega
 | succ n ih=>
  intro k hk hn
  rw[kM]
  generalize hag:(fun y=>iter n y jJ)=again
  unfold jJ
  simp only
  cases k with
  | zero=>simp[AM]
  | succ k=>
   rw[bR (by omega),show ((k+1:Nat):Int) - 1=(k:Int) by omega,gy,gy]
   have hx:a[k]? =some a[k]:=bz (by omega)
   have hy:b[k]? =some b[k]:=bz (by omega)
   rw[hx,hy]
   simp only[WG]
   rw[iT hx,iT hy]
   have h1:=AL (ha.take k)
   have h2:=AL (hb.take k)
   have h3:=tK (ha.take k)
   have h4:=tK (hb.take k)
   rw[VA,Wr (by omega)] at h1 h2
   generalize a[k]=x
   generalize b[k]=y
   by_cases hxy:x=y
   ·subst hxy
    simp only[WT,WU]
    rw[aG (by omega) (by omega), <- hag]
    show iter n (a,b,(k:Int) - 1,()) jJ=_
    rw[ih k (by omega) (by omega)]
    congr 1
    ·simp
    ·congr 1;simp
   ·have hne:(x != y)=true:=by simp[hxy]
    rw[hne]
    simp only[WV]
    by_cases hlt:x<y
    ·rw[bR hlt,Xe]
     have:(4294967296:Int) ^ k*(x+1)<=4294967296 ^ k*y:=UB (by omega) (by omega)
     rw[Uz,UC] at this
     omega
    ·rw[cy hlt]
     have:(4294967296:Int) ^ k*(y+1)<=4294967296 ^ k*x:=UB (by omega) (by omega)
     rw[Uz,UC] at this
     rw[Xd (by omega),Xe (by omega)]
theorem Gc (m n:Nat) (hm:(bw m).length<100000) (hn:(bw n).length<100000):∃ c,nG (bw m) (bw n)=some (c,())/\(c<0↔m<n)/\(0<c↔n<m):=by
 unfold nG
 by_cases h:(bw m).length=(bw n).length
 ·have hb:(((bw m).length:Int) != ((bw n).length:Int))=false:=by simp[h]
  rw[hb]
  simp only[WU]
  by_cases h0:(bw m).length=0
  ·have hm0:m=0:=EI.1 (U2 h0)
   have hn0:n=0:=EI.1 (U2 (by omega))
   subst hm0;subst hn0
   exact⟨0,rfl,by simp,by simp⟩
  ·have e1:w64 (((bw m).length:Int) - 1)=(((bw m).length:Nat):Int) - 1:=aG (by omega) (by omega)
   rw[e1,DU _ _ (iQ m) (iQ n) h hm _ _ (Wj _) (by omega),V7 (Wj _),V7 (by omega),nF,nF]
   by_cases h1:m<n
   ·rw[Xe (by omega),Dc];exact⟨-1,rfl,by omega,by omega⟩
   ·by_cases h2:n<m
    ·rw[Xd (by omega),Xe (by omega),Dc];exact⟨1,rfl,by omega,by omega⟩
    ·rw[Xd (by omega),Xd (by omega),bC];exact⟨0,rfl,by omega,by omega⟩
 ·have hb:(((bw m).length:Int) != ((bw n).length:Int))=true:=by simp;omega
  rw[hb]
  simp only[WV]
  rw[aG (by omega) (by omega)]
  refine⟨_,rfl, ?_, ?_⟩
  ·constructor
   ·intro h1;exact lB (by omega)
   ·intro h1
    rcases Wo h with h2 | h2
    ·omega
    ·have:=lB (m:=n) (n:=m) h2;omega
  ·constructor
   ·intro h1;exact lB (by omega)
   ·intro h1
    rcases Wo h with h2 | h2
    ·have:=lB (m:=m) (n:=n) h2;omega
    ·omega
end Go.Md
namespace Go.Md
open Go.Dn
theorem K0 (w:Nat) {a b:Nat} (ha:a<2 ^ w) (hb:b<2 ^ w):((BitVec.ofInt w (a:Int) ||| BitVec.ofInt w (b:Int)).toNat:Int)=((a ||| b:Nat):Int):=by
 rw[Ue,Ue,BitVec.toNat_or,Uf,Uf,Ws ha,Ws hb]
theorem bv_and (w:Nat) {a b:Nat} (ha:a<2 ^ w) (hb:b<2 ^ w):((BitVec.ofInt w (a:Int) &&& BitVec.ofInt w (b:Int)).toNat:Int)=((a &&& b:Nat):Int):=by
 rw[Ue,Ue,BitVec.toNat_and,Uf,Uf,Ws ha,Ws hb]
theorem Mh {a k b:Nat} (hb:b<2 ^ k):(2 ^ k*a) ||| b=2 ^ k*a+b:=(Nat.two_pow_add_eq_or_of_lt hb a).symm
theorem I8 {l:List Int} (h:Dg l) {i:Nat} {y:Int} (hi:l[i]? =some y):y=v32 l / 4294967296 ^ i % 4294967296:=by
 have hlt:=(Vg.1 hi).1
 have e:l=l.take i++(y::l.drop (i+1)):=by
  have:=V4 i l
  rw[UX hlt,(Vg.1 hi).2] at this
  exact this.symm
 have hd:=h.get hi
 have h1:=AL (h.take i)
 have h2:=tK (h.take i)
 rw[VA,Wr (by omega)] at h1
 have hv:v32 l=v32 (l.take i)+4294967296 ^ i*(y+4294967296*v32 (l.drop (i+1))):=by
  conv=>lhs;rw[e]
  rw[BP,VA,Wr (by omega),yh]
 rw[hv,Int.add_mul_ediv_left _ _ (by omega),Int.ediv_eq_zero_of_lt h2 h1,Int.zero_add,Int.add_mul_emod_self_left,Int.emod_eq_of_lt hd.1 hd.2]
theorem Oe {l:List Int} {i:Nat} {y z:Int} (hi:l[i]? =some y):v32 (l.set i z)=v32 l+4294967296 ^ i*(z - y):=by
 have hlt:=(Vg.1 hi).1
 have e:l=l.take i++(y::l.drop (i+1)):=by
  have:=V4 i l
  rw[UX hlt,(Vg.1 hi).2] at this
  exact this.symm
 have e2:l.set i z=l.take i++(z::l.drop (i+1)):=by rw[List.set_eq_take_append_cons_drop,Xe hlt]
 rw[e2]
 conv=>rhs;rw[e]
 rw[BP,BP,yh,yh,VA,Wr (by omega)]
 have:(4294967296:Int) ^ i*(z+4294967296*v32 (l.drop (i+1)))=4294967296 ^ i*(y+4294967296*v32 (l.drop (i+1)))+4294967296 ^ i*(z - y):=by rw[<- Uz];congr 1;omega
 omega
theorem Dig.set {B:Int} {l:List Int} (h:Dig B l) {i:Nat} {z:Int} (hz:0<=z/\z<B):Dig B (l.set i z):=fun x hx=>by
 rcases VP hx with hx | rfl
 ·exact h x hx
 ·exact hz
theorem Sa (y:Nat) (j:Nat) (hy:y<4294967296):iU (((BitVec.ofInt (IntKind.bits .u32) (Int.fdiv (y:Int) (2 ^ (min j (IntKind.bits .u32)))) &&& BitVec.ofInt (IntKind.bits .u32) 1).toNat:Int))=((y / 2 ^ (min j 32) % 2:Nat):Int):=by
 have e1:Int.fdiv (y:Int) (2 ^ (min j (IntKind.bits .u32)))=((y / 2 ^ (min j 32):Nat):Int):=by
  have:((2:Int) ^ (min j 32))=((2 ^ (min j 32):Nat):Int):=by simp
  rw[show IntKind.bits .u32=32 from rfl,this,Ux _ (UE _)]
  simp
 rw[e1]
 have hlt:y / 2 ^ (min j 32)<2 ^ 32:=Wl (Nat.div_le_self _ _) hy
 have:=bv_and (IntKind.bits .u32) (a:=y / 2 ^ (min j 32)) (b:=1) hlt (by decide)
 rw[show ((1:Nat):Int)=1 from rfl] at this
 rw[this,Nat.and_one_is_mod]
 exact xj (by omega) (by omega)
theorem KW (a b:Nat) (hb:0<b) (na:Bool) (nb:Bool) (ha:(bw a).length<1000) (hlb:(bw b).length<1000) (g1:Bool) (g2:List Int) (g3:Bool) (g4:List Int):∀ (n k:Nat) (q:List Int),k<=32*(bw a).length->k<n->Dg q->q.length=(bw a).length->v32 q=((a / 2 ^ k / b*2 ^ k:Nat):Int)-> ∃ q',iter (X:=oD) (β:=oC) n (bw (a / 2 ^ k % b),(k:Int) - 1,na,bw a,nb,bw b,g1,g2,g3,g4,q,()) oB=some (Sum.inr (bw (a % b),g1,g2,g3,g4,q',()))/\Dg q'/\q'.length=(bw a).length/\v32 q'=((a / b:Nat):Int):=by
 intro n
 induction n with
 | zero=>intro k q _ h;omega
 | succ n ih=>
  intro k q hk hn hq hql hqv
  rw[kM]
  generalize hag:(fun y=>iter n y oB)=again
  unfold oB
  simp only
  cases k with
  | zero=>
   rw[cy (by omega)]
   refine⟨q, ?_,hq,hql,by simpa using hqv⟩
   simp
  | succ k=>
   rw[bR (by omega),show ((k+1:Nat):Int) - 1=(k:Int) by omega]
   have hR:a / 2 ^ (k+1) % b<b:=Nat.mod_lt _ hb
   have hRl:(bw (a / 2 ^ (k+1) % b)).length<=(bw b).length:=by
    rcases Wn (bw b).length (bw (a / 2 ^ (k+1) % b)).length with h | h
    ·have:=lB h;omega
    ·exact h
   obtain⟨s,hs1,hs2,hs3,hs4⟩:=MJ _ _ (iQ (a / 2 ^ (k+1) % b)) (iQ (a / 2 ^ (k+1) % b)) (by omega) (by omega)
   rw[hs1]
   simp only[WG]
   have hs0:s[0]? =some s[0]:=bz (by omega)
   have hs0d:=hs2.get hs0
   have hs0v:=I8 hs2 hs0
   rw[nF] at hs3
   generalize s[0]'(by omega)=y3 at hs0 hs0d hs0v
   rw[bS (by simp only[Ug,WY];omega),hs0]
   simp only[WG]
   have hk32:k / 32<(bw a).length:=by omega
   have e5:w64 (Int.tdiv (k:Int) 32)=((k / 32:Nat):Int):=by
    rw[UJ (by omega),aG (by omega) (by omega)];omega
   have e6:Int.tmod (k:Int) 32=((k % 32:Nat):Int):=by rw[UK (by omega)];omega
   have hy4:(bw a)[k / 32]? =some ((bw a)[k / 32]):=bz hk32
   have hy4d:=(iQ a).get hy4
   have hy4v:=I8 (iQ a) hy4
   rw[nF] at hy4v
   generalize (bw a)[k / 32]=y4 at hy4 hy4d hy4v
   obtain⟨m4,rfl⟩:∃ m:Nat,y4=m:=⟨y4.toNat,by omega⟩
   rw[e5,e6,gy,hy4]
   simp only[WG]
   rw[bS (by simp only[WY];omega)]
   simp only[UL]
   rw[Sa m4 (k % 32) (by omega)]
   have hbit:m4 / 2 ^ (min (k % 32) 32) % 2=a / 2 ^ k % 2:=by
    have h1:m4=a / 4294967296 ^ (k / 32) % 4294967296:=by
     have h2:((a:Int) / 4294967296 ^ (k / 32) % 4294967296)=((a / 4294967296 ^ (k / 32) % 4294967296:Nat):Int):=by simp
     rw[h2] at hy4v;omega
    have h3:(4294967296:Nat) ^ (k / 32)=2 ^ (32*(k / 32)):=by rw[Nat.pow_mul]
    rw[h1,Wr (by omega),h3]
    have h4:(4294967296:Nat)=2 ^ (k % 32)*2 ^ (32 - k % 32):=by rw[<- Ww];rw[show k % 32+(32 - k % 32)=32 by omega]
    rw[show a / 2 ^ (32*(k / 32)) % 4294967296=a / 2 ^ (32*(k / 32)) % (2 ^ (k % 32)*2 ^ (32 - k % 32)) by rw[<- h4],Nat.mod_mul_right_div_self,Nat.div_div_eq_div_mul, <- Ww,show 32*(k / 32)+k % 32=k by omega]
    have h5:(2:Nat) ∣ 2 ^ (32 - k % 32):=by
     rw[show 32 - k % 32=(31 - k % 32)+1 by omega,Wy];exact Nat.dvd_mul_left _ _
    exact Nat.mod_mod_of_dvd _ h5
   rw[hbit,bS (by simp only[Ug,WY];omega)]
   obtain⟨m3,rfl⟩:∃ m:Nat,y3=m:=⟨y3.toNat,by omega⟩
   have hev:m3 % 2=0:=by
    have h1:v32 s / 4294967296 ^ 0 % 4294967296=v32 s % 4294967296:=by simp
    rw[h1,hs3] at hs0v
    omega
   have hor:iU (((BitVec.ofInt (IntKind.bits .u32) (m3:Int) ||| BitVec.ofInt (IntKind.bits .u32) ((a / 2 ^ k % 2:Nat):Int)).toNat:Int))=((m3+a / 2 ^ k % 2:Nat):Int):=by
    rw[K0 (IntKind.bits .u32) (by show m3<2 ^ 32;omega) (by show a / 2 ^ k % 2<2 ^ 32;omega)]
    have h1:m3=2 ^ 1*(m3 / 2):=by omega
    have h2:m3 ||| (a / 2 ^ k % 2)=m3+a / 2 ^ k % 2:=by
     conv=>lhs;rw[h1]
     rw[Mh (by omega)];omega
    rw[h2];exact xj (by omega) (by omega)
   rw[hor]
   rw[rW _ (by simp only[Vy];omega),MC (hs2.set (by omega)),Oe hs0,hs3]
   simp only[WG]
   have hr2:(((a / 2 ^ (k+1) % b:Nat):Int)+((a / 2 ^ (k+1) % b:Nat):Int)+4294967296 ^ 0*(((m3+a / 2 ^ k % 2:Nat):Int) - (m3:Int))).toNat=2*(a / 2 ^ (k+1) % b)+a / 2 ^ k % 2:=by
    rw[Int.pow_zero];omega
   rw[hr2]
   have htop:a / 2 ^ k=2*(a / 2 ^ (k+1))+a / 2 ^ k % 2:=by
    rw[Wy, <- Nat.div_div_eq_div_mul];omega
   generalize hT:a / 2 ^ (k+1)=T at*
   generalize hbt:a / 2 ^ k % 2=bt at*
   have hbt2:bt<2:=by omega
   have hr3l:(bw (2*(T % b)+bt)).length<=(bw b).length+1:=by
    rcases Wn ((bw b).length+1) (bw (2*(T % b)+bt)).length with h | h
    ·exfalso
     have h1:bw (4294967296*b)=0::bw b:=by
      have:=A3 (B:=4294967296) (by omega) (d:=0) (n:=b) (by omega) (by omega)
      simpa [bw] using this
     have h2:(bw (4294967296*b)).length<(bw (2*(T % b)+bt)).length:=by rw[h1];simpa using h
     have:=lB h2
     omega
    ·exact h
   obtain⟨c,hc1,hc2,hc3⟩:=Gc (2*(T % b)+bt) b (by omega) (by omega)
   rw[hc1]
   simp only[WG]
   have hdm:=Nat.div_add_mod T b
   by_cases hge:b<=2*(T % b)+bt
   ·rw[bR (by omega)]
    have hlen2:(bw b).length<=(bw (2*(T % b)+bt)).length:=by
     rcases Wn (bw (2*(T % b)+bt)).length (bw b).length with h | h
     ·have:=lB h;omega
     ·exact h
    rw[KX _ _ (iQ _) (iQ _) (by omega) hlen2 (by rw[nF,nF];omega),nF,nF]
    simp only[WG]
    rw[bS (by simp only[Ug,WY];omega)]
    have hy9:q[k / 32]? =some (q[k / 32]'(by omega)):=bz (by omega)
    have hy9d:=hq.get hy9
    have hy9v:=I8 hq hy9
    rw[hqv] at hy9v
    generalize q[k / 32]'(by omega)=y9 at hy9 hy9d hy9v
    obtain⟨m9,rfl⟩:∃ m:Nat,y9=m:=⟨y9.toNat,by omega⟩
    rw[hy9]
    simp only[WG]
    rw[bS (by simp only[WY];omega),bS (by simp only[Ug,WY];omega)]
    have h9:m9=T / b*2 ^ (k+1) / 4294967296 ^ (k / 32) % 4294967296:=by
     have h2:(((T / b*2 ^ (k+1):Nat):Int) / 4294967296 ^ (k / 32) % 4294967296)=((T / b*2 ^ (k+1) / 4294967296 ^ (k / 32) % 4294967296:Nat):Int):=by simp
     rw[h2] at hy9v;omega
    have h3:(4294967296:Nat) ^ (k / 32)=2 ^ (32*(k / 32)):=by rw[Nat.pow_mul]
    have h9d:2 ^ (k % 32+1) ∣ m9:=by
     rw[h9,h3]
     have e1:T / b*2 ^ (k+1) / 2 ^ (32*(k / 32))=T / b*2 ^ (k % 32+1):=by
      rw[show k+1=(k % 32+1)+32*(k / 32) by omega,Ww, <- Nat.mul_assoc,Nat.mul_div_cancel _ (Nat.pow_pos (by omega))]
     rw[e1]
     have h4:(4294967296:Nat)=2 ^ (k % 32+1)*2 ^ (31 - k % 32):=by rw[<- Ww];rw[show k % 32+1+(31 - k % 32)=32 by omega]
     exact (Nat.dvd_mod_iff (by rw[h4];exact Nat.dvd_mul_right _ _)).2 (Nat.dvd_mul_left _ _)
    have hsh:iU (1*2 ^ (min (k % 32) (IntKind.bits .u32)))=((2 ^ (k % 32):Nat):Int):=by
     rw[show IntKind.bits .u32=32 from rfl,Wr (by omega),Int.one_mul,show ((2:Int) ^ (k % 32))=((2 ^ (k % 32):Nat):Int) by simp]
     have:2 ^ (k % 32)<=2 ^ 31:=Wx (by omega) (by omega)
     exact xj (by omega) (by omega)
    have hp31:2 ^ (k % 32)<=2 ^ 31:=Wx (by omega) (by omega)
    obtain⟨e9,he9⟩:=h9d
    have hor2:iU (((BitVec.ofInt (IntKind.bits .u32) (m9:Int) ||| BitVec.ofInt (IntKind.bits .u32) ((2 ^ (k % 32):Nat):Int)).toNat:Int))=((m9+2 ^ (k % 32):Nat):Int):=by
     rw[K0 (IntKind.bits .u32) (by show m9<2 ^ 32;omega) (by show 2 ^ (k % 32)<2 ^ 32;omega)]
     have h2:m9 ||| 2 ^ (k % 32)=m9+2 ^ (k % 32):=by rw[he9,Mh (Nat.pow_lt_pow_right (by omega) (by omega))]
     rw[h2]
     refine xj (by omega) ?_
     have h5:2 ^ (k % 32+1)*e9+2 ^ (k % 32)<=4294967295:=by
      have h4:(4294967296:Nat)=2 ^ (k % 32+1)*2 ^ (31 - k % 32):=by rw[<- Ww];rw[show k % 32+1+(31 - k % 32)=32 by omega]
      have h6:e9<2 ^ (31 - k % 32):=by
       rcases Wn e9 (2 ^ (31 - k % 32)) with h | h
       ·exact h
       ·have:=Nat.mul_le_mul_left (2 ^ (k % 32+1)) h;omega
      have h7:=Nat.mul_le_mul_left (2 ^ (k % 32+1)) (show e9+1<=2 ^ (31 - k % 32) by omega)
      rw[Nat.mul_add,Wv, <- h4] at h7
      have h8:2 ^ (k % 32+1)=2*2 ^ (k % 32):=by rw[Wy,Wt]
      omega
     omega
    have hz9:m9+2 ^ (k % 32)<4294967296:=by
     have:=yo (((BitVec.ofInt (IntKind.bits .u32) (m9:Int) ||| BitVec.ofInt (IntKind.bits .u32) ((2 ^ (k % 32):Nat):Int)).toNat:Int))
     rw[hor2] at this;omega
    rw[hsh,hor2,aG (by omega) (by omega), <- hag]
    have hTk:a / 2 ^ k / b=2*(T / b)+1/\a / 2 ^ k % b=2*(T % b)+bt - b:=by
     have h1:a / 2 ^ k=b*(2*(T / b)+1)+(2*(T % b)+bt - b):=by
      rw[htop,Nat.mul_add,Wv,show b*(2*(T / b))=2*(b*(T / b)) by rw[Nat.mul_left_comm]];omega
     have h2:2*(T % b)+bt - b<b:=by have:=Nat.mod_lt T hb;omega
     rw[h1]
     exact⟨by rw[Nat.mul_add_div hb,Nat.div_eq_of_lt h2,Wb],by rw[Nat.mul_add_mod,Ws h2]⟩
    have hih:=ih k (q.set (k / 32) ((m9+2 ^ (k % 32):Nat):Int)) (by omega) (by omega) (hq.set ⟨UE _,Int.ofNat_lt.2 hz9⟩) (by rw[Vy];exact hql) (by
     rw[Oe hy9,hqv,hTk.1]
     have e1:(((m9+2 ^ (k % 32):Nat):Int) - (m9:Int))=((2 ^ (k % 32):Nat):Int):=by omega
     have e2:((4294967296:Int) ^ (k / 32))=((2 ^ (32*(k / 32)):Nat):Int):=by rw[<- h3];simp
     rw[e1,e2, <- Int.natCast_mul, <- Ww,show 32*(k / 32)+k % 32=k by omega, <- Int.natCast_add]
     congr 1
     rw[Wy,Wa,Nat.one_mul,Wt (2 ^ k) 2, <- Nat.mul_assoc,Wt (T / b) 2])
    rw[hTk.2] at hih
    have e7:(((2*(T % b)+bt:Nat):Int) - (b:Int)).toNat=2*(T % b)+bt - b:=by omega
    rw[e7]
    exact hih
   ·rw[cy (by omega),aG (by omega) (by omega), <- hag]
    have hTk:a / 2 ^ k / b=2*(T / b)/\a / 2 ^ k % b=2*(T % b)+bt:=by
     have h1:a / 2 ^ k=b*(2*(T / b))+(2*(T % b)+bt):=by
      rw[htop,show b*(2*(T / b))=2*(b*(T / b)) by rw[Nat.mul_left_comm]];omega
     have h2:2*(T % b)+bt<b:=by omega
     rw[h1]
     exact⟨by rw[Nat.mul_add_div hb,Nat.div_eq_of_lt h2,Wb],by rw[Nat.mul_add_mod,Ws h2]⟩
    have hih:=ih k q (by omega) (by omega) hq hql (by
     rw[hqv,hTk.1]
     congr 1
     rw[Wy,Wt (2 ^ k) 2, <- Nat.mul_assoc,Wt (T / b) 2])
    rw[hTk.2] at hih
    exact hih
theorem KV (n:Nat):v32 (List.replicate n 0)=0:=by
 induction n with
 | zero=>rfl
 | succ n ih=>rw[VX,yh,ih];rfl
theorem TH (k:Nat):(4294967296:Nat) ^ k=2 ^ (32*k):=by rw[Nat.pow_mul]
theorem Il (x y:Int) (hx:x.natAbs<4294967296 ^ 99) (hy:y.natAbs<4294967296 ^ 99) (h0:y≠0):pH (W x) (W y)=some (W ((x.natAbs / y.natAbs:Nat):Int),W ((x.natAbs % y.natAbs:Nat):Int),()):=by
 have hlx:=xB hx
 have hly:=xB hy
 unfold pH W
 dsimp only
 rw[bS (by simp only[Ug,WY];omega)]
 have e1:w64 (w64 (((bw x.natAbs).length:Int)*32) - 1)=((32*(bw x.natAbs).length:Nat):Int) - 1:=by
  rw[aG (n:=((bw x.natAbs).length:Int)*32) (by omega) (by omega),aG (by omega) (by omega)];omega
 rw[e1]
 have hlt:x.natAbs<2 ^ (32*(bw x.natAbs).length):=by
  have:=AL (iQ x.natAbs)
  rw[nF] at this
  have h2:((4294967296:Int) ^ (bw x.natAbs).length)=((4294967296 ^ (bw x.natAbs).length:Nat):Int):=by simp
  rw[h2,TH] at this
  omega
 have hz:x.natAbs / 2 ^ (32*(bw x.natAbs).length)=0:=Nat.div_eq_of_lt hlt
 obtain⟨q,h1,h2,h3,h4⟩:=KW x.natAbs y.natAbs (by omega) (decide (x<0)) (decide (y<0)) (by omega) (by omega) false [] false [] (List.length ([]:List Int)+(Int.natAbs (((32*(bw x.natAbs).length:Nat):Int) - 1)+(List.length (bw x.natAbs)+(List.length (bw y.natAbs)+(List.length ([]:List Int)+(List.length ([]:List Int)+(List.length ((List.replicate (Int.toNat ((List.length (bw x.natAbs):Int))) 0):List Int)+2)))))))
  (32*(bw x.natAbs).length) (List.replicate (Int.toNat ((List.length (bw x.natAbs):Int))) 0) (Wj _) (by omega) (fun d hd=>by rw[List.mem_replicate] at hd;omega) (by simp) (by rw[KV,hz];simp)
 rw[hz,Nat.zero_mod,CW] at h1
 rw[h1,bC]
 simp only
 rw[rD _ _ h2 (by omega),rD _ _ (iQ _) (by
  have:=xB (k:=99) (n:=x.natAbs % y.natAbs) (Wl (Nat.mod_le _ _) hx);omega),h4,nF]
 rfl
theorem Ga (z:Int) (most:Int) (h0:0<=most) (h1:most<=9223372036854775807):ry (W z) most=some (if z.natAbs<=most then (z,true,()) else (0,false,())):=by
 unfold ry W
 dsimp only
 by_cases hl:(bw z.natAbs).length>2
 ·rw[bR (by omega)]
  have:¬ (z.natAbs:Int)<=most:=by
   intro h
   have:=xB (k:=2) (n:=z.natAbs) (by omega)
   omega
  rw[Xd this]
 ·rw[cy (by omega)]
  have hdig:=iQ z.natAbs
  have hval:=nF z.natAbs
  have hlen:(bw z.natAbs).length<=2:=by omega
  generalize hd:bw z.natAbs=d at*
  have loop:∃ n0,iter (X:=nh) (β:=nc) (Int.natAbs most+(Int.natAbs (0:Int)+(List.length d+(Int.natAbs ((List.length d:Int))+(Int.natAbs (0:Int)+(List.length d+2)))))) (most,0,d,(List.length d:Int),0,decide (z<0),d,()) mZ=some (Sum.inr (most,n0,decide (z<0),d,()))/\n0=(z.natAbs:Int):=by
   refine fh (Inv:=fun i x=>∃ u:Int,x=(most,u,d,(d.length:Int),(i:Int),decide (z<0),d,())/\u=v32 (d.take i)) d.length (fun r=>∃ n0,r=some (Sum.inr (most,n0,decide (z<0),d,()))/\n0=(z.natAbs:Int)) ?_ ?_ _ 0 _ ⟨0,rfl,by simp[AM]⟩ (by omega) (by omega)
   ·rintro i _ again hi ⟨u,rfl,hu⟩ ih
    unfold mZ
    simp only
    have hy:d[i]? =some d[i]:=bz hi
    have hyd:=hdig.get hy
    have hts:=iT hy
    have hlt:=AL (hdig.take i)
    have hnn:=tK (hdig.take i)
    rw[VA,Wr (by omega)] at hlt
    generalize d[i]=y at hy hyd hts
    rw[bR (by omega),gy,hy,WG,aG (n:=32*(i:Int)) (by omega) (by omega),bS (by simp only[WY];omega),aG (n:=(i:Int)+1) (by omega) (by omega)]
    refine ih _ ⟨_,rfl, ?_⟩
    rw[hts]
    obtain⟨m,rfl⟩:∃ m:Nat,y=m:=⟨y.toNat,by omega⟩
    obtain⟨k,hk⟩:∃ k:Nat,v32 (d.take i)=k:=⟨(v32 (d.take i)).toNat,by omega⟩
    rw[hk] at hlt hu ⊢
    subst hu
    have hi2:i=0\/i=1:=by omega
    rcases hi2 with rfl | rfl
    ·simp only[Int.pow_zero] at hlt ⊢
     have:k=0:=by omega
     subst this
     have e:bO (bO (m:Int)*2 ^ (min (Int.toNat (32*((0:Nat):Int))) (IntKind.bits .u64)))=(m:Int):=by
      rw[eW (n:=(m:Int)) (by omega) (by omega)]
      simp
      exact eW (by omega) (by omega)
     rw[e,K0 (IntKind.bits .u64) (by decide) (by show m<2 ^ 64;omega),Nat.zero_or,eW (by omega) (by omega)]
     omega
    ·simp only[Int.pow_one] at hlt ⊢
     have e:bO (bO (m:Int)*2 ^ (min (Int.toNat (32*((1:Nat):Int))) (IntKind.bits .u64)))=((2 ^ 32*m:Nat):Int):=by
      rw[eW (n:=(m:Int)) (by omega) (by omega),show min (Int.toNat (32*((1:Nat):Int))) (IntKind.bits .u64)=32 from rfl]
      rw[eW (by omega) (by omega)]
      omega
     rw[e,K0 (IntKind.bits .u64) (by show k<2 ^ 64;omega) (by show 2 ^ 32*m<2 ^ 64;omega),Nat.or_comm,Mh (by omega),eW (by omega) (by omega)]
     omega
   ·rintro _ again ⟨u,rfl,hu⟩
    unfold mZ
    simp only
    rw[cy (by omega)]
    rw[V7 (Wj _),hval] at hu
    exact⟨u,rfl,hu⟩
  obtain⟨n0,h2,h3⟩:=loop
  rw[h2,bC]
  subst h3
  simp only
  rw[eW (n:=most) (by omega) (by omega)]
  by_cases hm:(z.natAbs:Int)<=most
  ·rw[cy (by omega),Xe hm]
   by_cases hneg:z<0
   ·rw[WX hneg]
    simp only[WV]
    rw[aG (n:=(z.natAbs:Int)) (by omega) (by omega),aG (by omega) (by omega)]
    congr 2;omega
   ·rw[WW hneg]
    simp only[WU]
    rw[aG (by omega) (by omega)]
    congr 2;omega
  ·rw[bR (by omega),Xd hm]
end Go.Md
namespace Go.Md
open Go.Dn
def v6 (l:List Int):Int:=val 1000000 l
theorem DQ:v6 []=0:=rfl
theorem I9 (d:Int) (l:List Int):v6 (d::l)=d+1000000*v6 l:=rfl
theorem J8 (l m:List Int):v6 (l++m)=v6 l+1000000 ^ l.length*v6 m:=wX l m
theorem Ja (l:List Int) (d:Int):v6 (l++[d])=v6 l+1000000 ^ l.length*d:=MI l d
abbrev Dg6 (l:List Int):Prop:=Dig 1000000 l
def dg6 (n:Nat):List Int:=dg 1000000 n
theorem xC:dg6 0=[]:=rfl
theorem GW {n:Nat}:dg6 n=[]↔n=0:=Jp (B:=1000000) (by omega)
theorem A2 {n:Nat} (h:0<n):dg6 n≠[]:=yA (B:=1000000) (by omega) h
theorem sN {m n:Nat} (h:(dg6 m).length<(dg6 n).length):m<n:=Jq (B:=1000000) (by omega) h
theorem nK (n:Nat):Dg6 (dg6 n):=P3 (B:=1000000) (by omega) n
theorem tL (n:Nat):v6 (dg6 n)=n:=QZ (B:=1000000) (by omega) n
theorem TN {l:List Int} (h:Dg6 l):trim l=dg6 (v6 l).toNat:=I6 (B:=1000000) (by omega) h
theorem mH {l:List Int} (h:Dg6 l):0<=v6 l:=wY (by omega) h
theorem BR {l:List Int} (h:Dg6 l):v6 l<1000000 ^ l.length:=MH (by omega) h
theorem NG {k n:Nat} (h:n<1000000 ^ k):(dg6 n).length<=k:=LL (B:=1000000) (by omega) k n h
theorem jI {l:List Int} {i:Nat} {y:Int} (h:l[i]? =some y):v6 (l.take (i+1))=v6 (l.take i)+1000000 ^ i*y:=by
 have hi:=(Vg.1 h).1
 rw[nE h,Ja,VA,Wr (by omega)]
theorem MG {l:List Int} {i:Nat} (h:l.length<=i):v6 (l.take (i+1))=v6 (l.take i):=by
 rw[V7 h,V7 (by omega)]
theorem MF {l:List Int} {i:Nat} {y z:Int} (hi:l[i]? =some y):v6 (l.set i z)=v6 l+1000000 ^ i*(z - y):=by
 have hlt:=(Vg.1 hi).1
 have e:l=l.take i++(y::l.drop (i+1)):=by
  have:=V4 i l
  rw[UX hlt,(Vg.1 hi).2] at this
  exact this.symm
 have e2:l.set i z=l.take i++(z::l.drop (i+1)):=by rw[List.set_eq_take_append_cons_drop,Xe hlt]
 rw[e2]
 conv=>rhs;rw[e]
 rw[J8,J8,I9,I9,VA,Wr (by omega)]
 have:(1000000:Int) ^ i*(z+1000000*v6 (l.drop (i+1)))=1000000 ^ i*(y+1000000*v6 (l.drop (i+1)))+1000000 ^ i*(z - y):=by rw[<- Uz];congr 1;omega
 omega
theorem KP (b:Bool) (l:List Int) (hd:Dg6 l) (hl:l.length<1000000):kX (b,l)=some ((b&&decide (0<v6 l),dg6 (v6 l).toNat),()):=by
 have key:∀ n (x:nC),x.2.1.length<1000000->x.2.1.length<n->iter n x wh=some (Sum.inr (x.1,trim x.2.1,x.2.2.1,x.2.2.2.1,())):=by
  refine Db (fun x:nC=>x.2.1.length<1000000) (fun x=>x.2.1.length) (fun x r=>r=some (Sum.inr (x.1,trim x.2.1,x.2.2.1,x.2.2.2.1,()))) ?_
  rintro⟨c,x,g,m,u⟩ again hx ih
  simp only at hx ih ⊢
  unfold wh
  simp only
  by_cases h0:x.length=0
  ·have:x=[]:=U2 h0
   subst this;simp[trim]
  ·have e1:w64 ((x.length:Int) - 1)=((x.length - 1:Nat):Int):=by rw[aG (by omega) (by omega)];omega
   have hsp:x=x.take (x.length - 1)++[x[x.length - 1]'(by omega)]:=by
    have:=V4 (x.length - 1) x
    rw[UX (by omega),UZ (by omega)] at this
    exact this.symm
   rw[bR (by omega),e1,gy,bz (by omega)]
   simp only[UL,U0,WG]
   by_cases hz:x[x.length - 1]'(by omega)=0
   ·rw[hz] at hsp ⊢
    rw[bS (by simp only[Ug,WY];omega)]
    simp only[WS,WV]
    rw[ih (c,List.take (x.length - 1) x,g,m,()) (by simp only[VA];omega) (by simp only[VA];omega)]
    conv=>rhs;rw[hsp,uI]
   ·have:(x[x.length - 1]'(by omega)==0)=false:=by simp[hz]
    rw[this]
    simp only[WU]
    conv=>rhs;rw[hsp,yg hz]
    rw[<- hsp]
 unfold kX
 rw[key _ _ (by simpa using hl) (by simp),bC]
 simp only
 rw[TN hd]
 have h0:=mH hd
 by_cases hv:v6 l=0
 ·simp[hv,xC]
 ·have h1:dg6 (v6 l).toNat≠[]:=A2 (by omega)
  have h2:(((dg6 (v6 l).toNat).length:Int)==0)=false:=by
   have:(dg6 (v6 l).toNat).length≠0:=fun h=>h1 (U2 h)
   simp;omega
  rw[h2]
  have h3:decide (0<v6 l)=true:=by simp;omega
  simp[h3]
def N (z:Int):au:=(decide (z<0),dg6 z.natAbs)
theorem I0 (b:Bool) (l:List Int) (hd:Dg6 l) (hl:l.length<1000000):kX (b,l)=some (N (if b then -v6 l else v6 l),()):=by
 rw[KP b l hd hl]
 have h0:=mH hd
 cases b with
 | false=>
  simp only[N];congr 3
  ·simp;omega
  ·simp only[Ul,Xc];congr 1;omega
 | true=>
  simp only[N];congr 3
  ·simp
  ·simp only[Xf];congr 1;omega
theorem RS (x:Int):(Int.tdiv x 1000000).natAbs=x.natAbs / 1000000:=by rw[Int.natAbs_tdiv];rfl
theorem RT (x:Int):(Int.tmod x 1000000).natAbs=x.natAbs % 1000000:=by rw[Int.natAbs_tmod];rfl
theorem Sl {n:Nat} (h:0<n):dg6 n=((n % 1000000:Nat):Int)::dg6 (n / 1000000):=vk (B:=1000000) (by omega) h
theorem wS (ng g:Bool) (gl:List Int):∀ (k fuel:Nat) (out:List Int) (x:Int),out.length+k<1000->x.natAbs<1000000 ^ k->k<fuel-> -9223372036854775808<x->x<=9223372036854775807-> iter (X:=xY) (β:=xX) fuel (x,g,gl,ng,out,()) rO=some (Sum.inr (g,gl,ng,out++dg6 x.natAbs,()))
 | k,0,_,_,_,_,h,_,_=>by omega
 | 0,fuel+1,out,x,_,hx,_,_,_=>by
  have:x=0:=by simp at hx;omega
  subst this
  rw[kM]
  unfold rO
  simp[xC]
 | k+1,fuel+1,out,x,ho,hx,hf,h1,h2=>by
  rw[kM]
  generalize hag:(fun y=>iter fuel y rO)=again
  unfold rO
  dsimp only
  by_cases h0:x=0
  ·subst h0;simp[xC]
  ·have hb:(x != 0)=true:=by simp[h0]
   rw[hb,WV,bS (pU (by omega) (by omega)), <- hag]
   have e0:=RS x
   have e1:=RT x
   have e2:(if (w64 (0 - (Int.tmod x 1000000)))>(Int.tmod x 1000000) then (w64 (0 - (Int.tmod x 1000000))) else (Int.tmod x 1000000))=((x.natAbs % 1000000:Nat):Int):=by
    rw[aG (by omega) (by omega)]
    split<;>omega
   rw[e2,aG (by omega) (by omega)]
   show iter fuel _ rO=_
   rw[wS ng g gl k fuel _ _ (by simp;omega) (by rw[e0];rw[Wy] at hx;exact Nat.div_lt_of_lt_mul (by rw[Wt];exact hx)) (by omega) (by omega) (by omega),e0,UQ,List.singleton_append, <- Sl (by omega)]
theorem BF (n:Int) (h1: -9223372036854775808<n) (h2:n<=9223372036854775807):Ej n=some (N n,()):=by
 unfold Ej
 have key:iter (X:=xY) (β:=xX) (Int.natAbs n+(List.length ([]:List Int)+(List.length ([]:List Int)+2))) (n,false,[],decide (n<0),[],()) rO=some (Sum.inr (false,[],decide (n<0),[]++dg6 n.natAbs,())):=by
  by_cases h0:n.natAbs<1
  ·exact wS _ _ _ 0 _ _ _ (by simp) (by simpa using h0) (by omega) h1 h2
  ·by_cases h3:n.natAbs<1000000
   ·exact wS _ _ _ 1 _ _ _ (by simp) (by simpa using h3) (by omega) h1 h2
   ·exact wS _ _ _ 4 _ _ _ (by simp) (by omega) (by omega) h1 h2
 rw[key,bC]
 rfl
theorem KO (a b:List Int) (ha:Dg6 a) (hb:Dg6 b) (hab:a.length=b.length) (hla:a.length<100000):∀ (n k:Nat),k<=a.length->k<n-> ∃ c:Int,iter (X:=u7) (β:=u6) n (a,b,(k:Int) - 1,()) qF=(if v6 (a.take k)=v6 (b.take k) then some (Sum.inr ()) else some (Sum.inl (c,())))/\(c<0↔v6 (a.take k)<v6 (b.take k))/\(0<c↔v6 (b.take k)<v6 (a.take k)):=by
 intro n
 induction n with
 | zero=>intro k _ h;omega
 | succ n ih=>
  intro k hk hn
  rw[kM]
  generalize hag:(fun y=>iter n y qF)=again
  unfold qF
  dsimp only
  cases k with
  | zero=>exact⟨0,by simp[DQ],by simp,by simp⟩
  | succ k=>
   rw[bR (by omega),show ((k+1:Nat):Int) - 1=(k:Int) by omega,gy,gy]
   have hx:a[k]? =some a[k]:=bz (by omega)
   have hy:b[k]? =some b[k]:=bz (by omega)
   rw[hx,hy]
   simp only[WG]
   rw[jI hx,jI hy]
   have h1:=BR (ha.take k)
   have h2:=BR (hb.take k)
   have h3:=mH (ha.take k)
   have h4:=mH (hb.take k)
   have h5:=ha.get hx
   have h6:=hb.get hy
   rw[VA,Wr (by omega)] at h1 h2
   generalize a[k]=x at*
   generalize b[k]=y at*
   by_cases hxy:x=y
   ·subst hxy
    simp only[WT,WU]
    rw[aG (by omega) (by omega), <- hag]
    obtain⟨c,h7,h8,h9⟩:=ih k (by omega) (by omega)
    refine⟨c, ?_,by omega,by omega⟩
    show iter n (a,b,(k:Int) - 1,()) qF=_
    rw[h7]
    congr 1
    simp
   ·have hne:(x != y)=true:=by simp[hxy]
    rw[hne]
    simp only[WV]
    rw[aG (by omega) (by omega)]
    refine⟨x - y, ?_, ?_, ?_⟩
    ·rw[Xd]
     intro h
     rcases Int.lt_or_gt_of_ne hxy with hlt | hlt
     ·have:(1000000:Int) ^ k*(x+1)<=1000000 ^ k*y:=UB (by omega) (by omega)
      rw[Uz,UC] at this
      omega
     ·have:(1000000:Int) ^ k*(y+1)<=1000000 ^ k*x:=UB (by omega) (by omega)
      rw[Uz,UC] at this
      omega
    ·rcases Int.lt_or_gt_of_ne hxy with hlt | hlt
     ·have:(1000000:Int) ^ k*(x+1)<=1000000 ^ k*y:=UB (by omega) (by omega)
      rw[Uz,UC] at this
      omega
     ·have:(1000000:Int) ^ k*(y+1)<=1000000 ^ k*x:=UB (by omega) (by omega)
      rw[Uz,UC] at this
      omega
    ·rcases Int.lt_or_gt_of_ne hxy with hlt | hlt
     ·have:(1000000:Int) ^ k*(x+1)<=1000000 ^ k*y:=UB (by omega) (by omega)
      rw[Uz,UC] at this
      omega
     ·have:(1000000:Int) ^ k*(y+1)<=1000000 ^ k*x:=UB (by omega) (by omega)
      rw[Uz,UC] at this
      omega
theorem Nu (m n:Nat) (hm:(dg6 m).length<100000) (hn:(dg6 n).length<100000):∃ c,BH (dg6 m) (dg6 n)=some (c,())/\(c<0↔m<n)/\(0<c↔n<m):=by
 unfold BH
 by_cases h:(dg6 m).length=(dg6 n).length
 ·have hb:(((dg6 m).length:Int) != ((dg6 n).length:Int))=false:=by simp[h]
  rw[hb]
  simp only[WU]
  by_cases h0:(dg6 m).length=0
  ·have hm0:m=0:=GW.1 (U2 h0)
   have hn0:n=0:=GW.1 (U2 (by omega))
   subst hm0;subst hn0
   exact⟨0,rfl,by simp,by simp⟩
  ·have e1:w64 (((dg6 m).length:Int) - 1)=(((dg6 m).length:Nat):Int) - 1:=aG (by omega) (by omega)
   obtain⟨c,h1,h2,h3⟩:=KO _ _ (nK m) (nK n) h hm ((dg6 m).length+((dg6 n).length+(Int.natAbs ((((dg6 m).length:Nat):Int) - 1)+2))) _ (Wj _) (by omega)
   rw[V7 (Wj _),V7 (by omega),tL,tL] at h1 h2 h3
   rw[e1,h1]
   by_cases hmn:(m:Int)=n
   ·rw[Xe hmn,bC];exact⟨0,rfl,by omega,by omega⟩
   ·rw[Xd hmn,Dc];exact⟨c,rfl,by omega,by omega⟩
 ·have hb:(((dg6 m).length:Int) != ((dg6 n).length:Int))=true:=by simp;omega
  rw[hb]
  simp only[WV]
  rw[aG (by omega) (by omega)]
  refine⟨_,rfl, ?_, ?_⟩
  ·constructor
   ·intro h1;exact sN (by omega)
   ·intro h1
    rcases Wo h with h2 | h2
    ·omega
    ·have:=sN (m:=n) (n:=m) h2;omega
  ·constructor
   ·intro h1;exact sN (by omega)
   ·intro h1
    rcases Wo h with h2 | h2
    ·have:=sN (m:=m) (n:=n) h2;omega
    ·omega
theorem zN (l:List Int) (i:Nat):uA l (i:Int)=some ((l[i]?).getD 0,()):=by
 unfold uA
 by_cases h:i<l.length
 ·rw[bR (by omega),gy,bz h];rfl
 ·rw[cy (by omega),Vf (by omega)];rfl
theorem yj (l:List Int) (i:Nat):v6 (l.take (i+1))=v6 (l.take i)+1000000 ^ i*(l[i]?).getD 0:=by
 by_cases h:i<l.length
 ·rw[jI (bz h),bz h];rfl
 ·rw[MG (by omega),Vf (by omega)];simp
theorem FL {l:List Int} (h:Dg6 l) (i:Nat):0<=(l[i]?).getD 0/\(l[i]?).getD 0<1000000:=by
 cases hi:l[i]? with
 | none=>simp
 | some d=>exact h.get hi
theorem Ns (a b:List Int) (ha:Dg6 a) (hb:Dg6 b) (na nb g:Bool) (gl:List Int) (ng:Bool) (M:Nat) (hM:M<100000) (hlen:a.length<M/\b.length<M) (n:Nat) (hn:M<n): ∃ out,iter (X:=uX) (β:=uW) n (0,(M:Int),0,na,a,nb,b,g,gl,ng,[],()) uV=some (Sum.inr (g,gl,ng,out,()))/\Dg6 out/\out.length=M/\v6 out=v6 a+v6 b:=by
 refine fh (Inv:=fun i x=>∃ (out:List Int) (c:Int),x=(c,(M:Int),(i:Int),na,a,nb,b,g,gl,ng,out,())/\Dg6 out/\0<=c/\c<=1/\out.length=i/\v6 out+1000000 ^ i*c=v6 (a.take i)+v6 (b.take i)) M
  (fun r=>∃ out,r=some (Sum.inr (g,gl,ng,out,()))/\Dg6 out/\out.length=M/\v6 out=v6 a+v6 b) ?_ ?_ n 0 _ ⟨[],0,rfl,Dig.nil,by omega,by omega,rfl,by simp[DQ]⟩ (by omega) (by omega)
 ·rintro i _ again hi ⟨out,c,rfl,hd,hc0,hc1,hl,hv⟩ ih
  unfold uV
  dsimp only
  rw[bR (by omega),zN,zN]
  have h1:=FL ha i
  have h2:=FL hb i
  have h3:=yj a i
  have h4:=yj b i
  generalize (a[i]?).getD 0=x at*
  generalize (b[i]?).getD 0=y at*
  simp only[WG]
  rw[bS (pU (by omega) (by omega)),aG (n:=x+y) (by omega) (by omega),aG (n:=x+y+c) (by omega) (by omega),aG (n:=(i:Int)+1) (by omega) (by omega),UK (by omega),UJ (by omega),aG (by omega) (by omega)]
  refine ih _ ⟨_,_,rfl,hd.snoc (by omega),by omega,by omega,by simp[hl], ?_⟩
  rw[Ja,hl,h3,h4,UG]
  have:(1000000:Int) ^ i*((x+y+c) % 1000000)+1000000 ^ i*1000000*((x+y+c) / 1000000)=1000000 ^ i*(x+y+c):=by
   rw[UA, <- Uz];congr 1;omega
  rw[Uz,Uz] at this
  omega
 ·rintro _ again ⟨out,c,rfl,hd,hc0,hc1,hl,hv⟩
  unfold uV
  dsimp only
  rw[cy (by omega)]
  rw[V7 (by omega),V7 (by omega)] at hv
  refine⟨out,rfl,hd,hl, ?_⟩
  have h1:=BR ha
  have h2:=BR hb
  have h3:=mH hd
  have hp:∀ l:Nat,l<M->(1000000:Int) ^ l*1000000<=1000000 ^ M:=by
   intro l hlM
   rw[<- UG]
   have h:=Wx (n:=1000000) (by omega) (show l+1<=M by omega)
   have:=Int.ofNat_le.2 h
   simpa using this
  have h4:=hp _ hlen.1
  have h5:=hp _ hlen.2
  have h6:=mH ha
  have h7:=mH hb
  rcases (show c=0\/c=1 by omega) with h | h
  ·subst h;omega
  ·subst h;rw[UC] at hv;omega
theorem Nt (a b:List Int) (ha:Dg6 a) (hb:Dg6 b) (na nb g:Bool) (gl:List Int) (ng:Bool) (hla:a.length<100000) (hlb:b.length<=a.length) (hle:v6 b<=v6 a) (n:Nat) (hn:a.length<n): ∃ out,iter (X:=tq) (β:=tj) n (0,(a.length:Int),0,na,a,nb,b,g,gl,ng,[],()) th=some (Sum.inr (g,gl,ng,out,()))/\Dg6 out/\out.length=a.length/\v6 out=v6 a - v6 b:=by
 refine fh (Inv:=fun i x=>∃ (out:List Int) (c:Int),x=(c,(a.length:Int),(i:Int),na,a,nb,b,g,gl,ng,out,())/\Dg6 out/\0<=c/\c<=1/\out.length=i/\v6 out=v6 (a.take i) - v6 (b.take i)+1000000 ^ i*c) a.length
  (fun r=>∃ out,r=some (Sum.inr (g,gl,ng,out,()))/\Dg6 out/\out.length=a.length/\v6 out=v6 a - v6 b) ?_ ?_ n 0 _ ⟨[],0,rfl,Dig.nil,by omega,by omega,rfl,by simp[DQ]⟩ (by omega) (by omega)
 ·rintro i _ again hi ⟨out,c,rfl,hd,hc0,hc1,hl,hv⟩ ih
  unfold th
  dsimp only
  have hy:a[i]? =some a[i]:=bz hi
  rw[bR (by omega),zN,gy,hy]
  have h1:=ha.get hy
  have h2:=FL hb i
  have h3:=jI hy
  have h4:=yj b i
  generalize a[i]=x at*
  generalize (b[i]?).getD 0=y at*
  simp only[WG]
  rw[aG (n:=x - y) (by omega) (by omega),aG (n:=x - y - c) (by omega) (by omega)]
  have fin:∀ q:Int,(q=0\/q=1)->0<=x - y - c+1000000*q->x - y - c+1000000*q<1000000->∃ out',again (q,(a.length:Int),w64 ((i:Int)+1),na,a,nb,b,g,gl,ng,out++[x - y - c+1000000*q],())=some (Sum.inr (g,gl,ng,out',()))/\Dg6 out'/\out'.length=a.length/\v6 out'=v6 a - v6 b:=by
   intro q hq hq0 hq1
   rw[aG (by omega) (by omega)]
   refine ih _ ⟨_,q,rfl,hd.snoc (by omega),by omega,by omega,by simp[hl], ?_⟩
   rw[Ja,hl,h3,h4,UG,hv]
   generalize (1000000:Int) ^ i=p
   rw[Uz,Int.mul_sub,Int.mul_sub,UA]
   omega
  by_cases hneg:x - y - c<0
  ·rw[bR hneg,bC]
   dsimp only
   rw[bS (pU (by omega) (by omega)),aG (n:=x - y - c+1000000) (by omega) (by omega)]
   exact fin 1 (.inr rfl) (by omega) (by omega)
  ·rw[cy hneg,bC]
   dsimp only
   rw[bS (pU (by omega) (by omega))]
   have:=fin 0 (.inl rfl) (by omega) (by omega)
   rw[show x - y - c+1000000*0=x - y - c by omega] at this
   exact this
 ·rintro _ again ⟨out,c,rfl,hd,hc0,hc1,hl,hv⟩
  unfold th
  dsimp only
  rw[cy (by omega)]
  rw[V7 (Wj _),V7 hlb] at hv
  refine⟨out,rfl,hd,hl, ?_⟩
  have h3:=BR hd
  rw[hl] at h3
  rcases (show c=0\/c=1 by omega) with h | h
  ·subst h;omega
  ·subst h;rw[UC] at hv;omega
theorem OD {m n:Nat} (h:m<=n):(dg6 m).length<=(dg6 n).length:=by
 rcases Wn (dg6 n).length (dg6 m).length with h1 | h1
 ·have:=sN h1;omega
 ·exact h1
theorem Pe (x y:Int) (hx:(dg6 x.natAbs).length<10000) (hy:(dg6 y.natAbs).length<10000):Ek (N x) (N y)=some (N (x+y),()):=by
 unfold Ek N
 dsimp only
 have main:∀ (a b:Nat) (na nb:Bool),(dg6 a).length<10000->(dg6 b).length<10000->b<=a->aI (β:=(au×Unit)) (γ:=(Bool×(List Int)×Bool×(List Int)×Unit)) (
  iter (X:=tq) (β:=tj) (Int.natAbs (0:Int)+(Int.natAbs ((List.length (dg6 a):Int))+(Int.natAbs (0:Int)+(List.length (dg6 a)+(List.length (dg6 b)+(List.length ([]:List Int)+(List.length ([]:List Int)+2))))))) (0,(List.length (dg6 a):Int),0,na,dg6 a,nb,dg6 b,false,[],na,[],()) (th)) (fun v8=>
  Option.bind (kX (v8.2.2.1,v8.2.2.2.1)) fun r9=>
  some (r9.1,()))=some (N (if na then -((a:Int) - b) else (a:Int) - b),()):=by
  intro a b na nb h1 h2 h3
  obtain⟨out,h4,h5,h6,h7⟩:=Nt (dg6 a) (dg6 b) (nK a) (nK b) na nb false [] na (by omega) (OD h3) (by rw[tL,tL];omega) (Int.natAbs (0:Int)+(Int.natAbs ((List.length (dg6 a):Int))+(Int.natAbs (0:Int)+(List.length (dg6 a)+(List.length (dg6 b)+(List.length ([]:List Int)+(List.length ([]:List Int)+2))))))) (by omega)
  rw[h4,bC]
  dsimp only
  rw[I0 _ _ h5 (by omega),h7,tL,tL]
  rfl
 by_cases hs:decide (x<0)=decide (y<0)
 ·rw[show (!(decide (x<0)==decide (y<0)))=false by simp[hs]]
  dsimp only[cond_false]
  have e1:w64 ((if ((dg6 y.natAbs).length:Int)>((dg6 x.natAbs).length:Int) then ((dg6 y.natAbs).length:Int) else ((dg6 x.natAbs).length:Int))+1)=((max (dg6 x.natAbs).length (dg6 y.natAbs).length+1:Nat):Int):=by
   split<;>rw[aG (by omega) (by omega)]<;>omega
  rw[e1]
  obtain⟨out,h4,h5,h6,h7⟩:=Ns (dg6 x.natAbs) (dg6 y.natAbs) (nK _) (nK _) (decide (x<0)) (decide (y<0)) false [] (decide (x<0)) (max (dg6 x.natAbs).length (dg6 y.natAbs).length+1) (by omega) ⟨by omega,by omega⟩ (Int.natAbs (0:Int)+(Int.natAbs ((max (dg6 x.natAbs).length (dg6 y.natAbs).length+1:Nat):Int)+(Int.natAbs (0:Int)+(List.length (dg6 x.natAbs)+(List.length (dg6 y.natAbs)+(List.length ([]:List Int)+(List.length ([]:List Int)+2))))))) (by omega)
  rw[h4,bC]
  dsimp only
  rw[I0 _ _ h5 (by omega),h7,tL,tL]
  rw[WG]
  show some (N _,())=some (N (x+y),())
  congr 3
  simp only[decide_eq_decide] at hs
  by_cases h:x<0
  ·simp only[h,W6,Xf];omega
  ·simp only[h,WZ,Ul,Xc];omega
 ·rw[show (!(decide (x<0)==decide (y<0)))=true by simp[hs]]
  rw[WV]
  obtain⟨c,h1,h2,h3⟩:=Nu x.natAbs y.natAbs (by omega) (by omega)
  rw[h1,WG]
  dsimp only
  simp only[decide_eq_decide] at hs
  by_cases hc:c<0
  ·rw[bR hc,bC]
   have:=main y.natAbs x.natAbs (decide (y<0)) (decide (x<0)) hy hx (by omega)
   dsimp only
   rw[this]
   congr 3
   by_cases h:y<0
   ·simp only[h,W6,Xf];omega
   ·simp only[h,WZ,Ul,Xc];omega
  ·rw[cy hc,bC]
   have:=main x.natAbs y.natAbs (decide (x<0)) (decide (y<0)) hx hy (by omega)
   dsimp only
   rw[this]
   congr 3
   by_cases h:x<0
   ·simp only[h,W6,Xf];omega
   ·simp only[h,WZ,Ul,Xc];omega
theorem Nr (x:Int):BE (N x)=some (N (-x),()):=by
 unfold BE N
 dsimp only
 by_cases h0:x=0
 ·subst h0;simp[xC]
 ·have h1:dg6 x.natAbs≠[]:=A2 (by omega)
  have h2:0<(dg6 x.natAbs).length:=by
   rcases Wg (dg6 x.natAbs).length with h | h
   ·exact absurd (U2 h) h1
   ·exact h
  rw[bR (by omega),Int.natAbs_neg]
  congr 3
  by_cases h:x<0
  ·simp[h];omega
  ·simp[h];omega
theorem Pf (x:Int):El (N x)=some (x.sign,()):=by
 unfold El N
 dsimp only
 by_cases h0:x=0
 ·subst h0;simp[xC]
 ·have h1:dg6 x.natAbs≠[]:=A2 (by omega)
  have h2:(((dg6 x.natAbs).length:Int)==0)=false:=by
   have:(dg6 x.natAbs).length≠0:=fun h=>h1 (U2 h)
   simp;omega
  rw[h2,WU]
  by_cases h:x<0
  ·simp[h,UH h]
  ·simp[h,UI (show 0<x by omega)]
theorem JW (x y:Int) (hx:(dg6 x.natAbs).length<10000) (hy:(dg6 y.natAbs).length<10000):DB (N x) (N y)=some ((x - y).sign,()):=by
 unfold DB
 rw[Nr,WG]
 dsimp only
 rw[Pe x (-y) hx (by rw[Int.natAbs_neg];exact hy),WG]
 dsimp only
 rw[Pf,WG]
 rw[show x+ -y=x - y by omega]
end Go.Md
namespace Go.Md
open Go.Dn
def Big (D:Int) (l:List Int):Prop:=∀ d,d∈l->0<=d/\d<=D
theorem Big.get {D d:Int} {l:List Int} {i:Nat} (h:Big D l) (hi:l[i]? =some d):0<=d/\d<=D:=h d (VO hi)
theorem Big.set {D E:Int} {l:List Int} (h:Big D l) (hDE:D<=E) {i:Nat} {z:Int} (hz:0<=z/\z<=E):Big E (l.set i z):=fun x hx=>by
 rcases VP hx with hx | rfl
 ·have:=h x hx;omega
 ·exact hz
theorem Big.mono {D E:Int} {l:List Int} (h:Big D l) (hDE:D<=E):Big E l:=fun x hx=>by have:=h x hx;omega
theorem ME {l:List Int} {j:Nat} {y z t:Int} (hj:l[j]? =some y) (hj1:l[j+1]? =some z):v6 (((l.set j t).set (j+1) (z+t / 1000000)).set j (t % 1000000))=v6 l+1000000 ^ j*(t - y):=by
 have hl:=(Vg.1 hj).1
 have h1:(l.set j t)[j+1]? =some z:=by rw[Vl (by omega)];exact hj1
 have h2:((l.set j t).set (j+1) (z+t / 1000000))[j]? =some t:=by rw[Vl (by omega),Vm hl]
 rw[MF h2,MF h1,MF hj,UG]
 have e:(1000000:Int) ^ j*1000000*(z+t / 1000000 - z)+1000000 ^ j*(t % 1000000 - t)=0:=by
  rw[UA, <- Uz]
  have:1000000*(z+t / 1000000 - z)+(t % 1000000 - t)=0:=by omega
  rw[this,Int.mul_zero]
 omega
theorem Po {α:Type} (l:List α) (j:Nat) (t z u:α):((l.set j t).set (j+1) z).set j u=(l.set j u).set (j+1) z:=by
 rw[List.set_comm _ _ (show j+1≠j by omega),VY]
theorem IY (i:Nat) (x:Int) (g1:List Int) (g2 g3:Int) (b:List Int) (nb gb:Bool) (gl:List Int) (ng:Bool) (out:List Int) (D:Int) (hx:0<=x/\x<1000000) (hb:Dg6 b) (hbl:b.length<10000) (hil:i<10000) (ho:i+b.length<out.length) (hol:out.length<100000) (hD:Big D out) (hD0:0<=D) (hD1:D+3000000*b.length<=1000000000000) (n:Nat) (hn:b.length<n): ∃ out',iter (X:=q9) (β:=q7) n ((i:Int),x,g1,g2,g3,b,(b.length:Int),0,nb,b,gb,gl,ng,out,()) qY=some (Sum.inr (g1,g2,g3,nb,b,gb,gl,ng,out',()))/\out'.length=out.length/\Big (D+3000000*b.length) out'/\v6 out'=v6 out+1000000 ^ i*(x*v6 b):=by
 refine fh (Inv:=fun k s=>∃ o:List Int,s=((i:Int),x,g1,g2,g3,b,(b.length:Int),(k:Int),nb,b,gb,gl,ng,o,())/\o.length=out.length/\Big (D+3000000*k) o/\v6 o=v6 out+1000000 ^ i*(x*v6 (b.take k))) b.length
  (fun r=>∃ out',r=some (Sum.inr (g1,g2,g3,nb,b,gb,gl,ng,out',()))/\out'.length=out.length/\Big (D+3000000*b.length) out'/\v6 out'=v6 out+1000000 ^ i*(x*v6 b)) ?_ ?_ n 0 _ ⟨out,rfl,rfl,hD.mono (by omega),by simp[DQ]⟩ (by omega) (by omega)
 ·rintro k _ again hk ⟨o,rfl,hol',hB,hv⟩ ih
  unfold qY
  dsimp only
  have hy:b[k]? =some b[k]:=bz hk
  have hyd:=hb.get hy
  have hts:=jI hy
  generalize b[k]=y at hy hyd hts
  have e1:w64 ((i:Int)+(k:Int))=((i+k:Nat):Int):=by rw[aG (by omega) (by omega)];omega
  have e2:w64 (((i+k:Nat):Int)+1)=((i+k+1:Nat):Int):=by rw[aG (by omega) (by omega)];omega
  rw[bR (by omega),gy,hy,WG,e1,e2]
  simp only[UL]
  have h3:o[i+k]? =some o[i+k]:=bz (by omega)
  have h4:o[i+k+1]? =some o[i+k+1]:=bz (by omega)
  have d3:=hB.get h3
  have d4:=hB.get h4
  generalize o[i+k]'(by omega)=y3 at h3 d3
  generalize o[i+k+1]'(by omega)=y4 at h4 d4
  have hxy:0<=x*y/\x*y<=1000000000000:=by
   constructor
   ·exact Int.mul_nonneg hx.1 hyd.1
   ·have h1:x*y<=1000000*y:=Int.mul_le_mul_of_nonneg_right (by omega) hyd.1
    omega
  have e3:w64 (y3+w64 (x*y))=y3+x*y:=by rw[aG (n:=x*y) (by omega) (by omega),aG (by omega) (by omega)]
  generalize hxy':x*y=xy at*
  have h5:(o.set (i+k) (y3+xy))[i+k+1]? =some y4:=by rw[Vl (by omega)];exact h4
  have h6:(o.set (i+k) (y3+xy))[i+k]? =some (y3+xy):=Vm (by omega)
  have e4:w64 (y4+w64 (Int.tdiv (y3+xy) 1000000))=y4+(y3+xy) / 1000000:=by
   rw[UJ (by omega),aG (n:=(y3+xy) / 1000000) (by omega) (by omega),aG (by omega) (by omega)]
  have h7:((o.set (i+k) (y3+xy)).set (i+k+1) (y4+(y3+xy) / 1000000))[i+k]? =some (y3+xy):=by rw[Vl (by omega)];exact h6
  simp only[h3,WG,e3]
  simp only[h5,h6,WG]
  simp only[e4,h7,WG,Vy]
  rw[bS (by simp only[Ug,WY];omega),bS (by simp only[Ug,WY];omega),bS (by simp only[Ug,WY];omega),bS (by simp only[Ug,WY];omega),bS (by simp only[Ug,WY];omega),bS (by simp only[Ug,WY];omega),bS (by simp only[Ug,WY];omega)]
  rw[aG (n:=(k:Int)+1) (by omega) (by omega),UK (by omega)]
  refine ih _ ⟨_,rfl,by simp only[Vy];exact hol', ?_, ?_⟩
  ·rw[Po]
   exact Big.set (D:=D+3000000*((k+1:Nat):Int)) (Big.set hB (by omega) (by omega)) (Uy _) (by omega)
  ·rw[ME h3 h4,hv,hts]
   have e5:x*(v6 (b.take k)+1000000 ^ k*y)=x*v6 (b.take k)+1000000 ^ k*xy:=by rw[Uz, <- hxy',Int.mul_left_comm]
   rw[e5,Uz,UF,show y3+xy - y3=xy by omega,UA (1000000 ^ i) (1000000 ^ k) xy]
   omega
 ·rintro _ again ⟨o,rfl,hol',hB,hv⟩
  unfold qY
  dsimp only
  rw[cy (by omega)]
  rw[V7 (Wj _)] at hv
  exact⟨o,rfl,hol',hB,hv⟩
theorem IZ (a b:List Int) (ha:Dg6 a) (hb:Dg6 b) (hal:a.length<100) (hbl:b.length<1000) (nb gb:Bool) (gl:List Int) (ng:Bool) (out:List Int) (ho:a.length+b.length<out.length) (hol:out.length<100000) (hz:Big 0 out) (hv0:v6 out=0) (n:Nat) (hn:a.length<n): ∃ out',iter (X:=q8) (β:=qZ) n (a,(a.length:Int),0,nb,b,gb,gl,ng,out,()) qX=some (Sum.inr (gb,gl,ng,out',()))/\out'.length=out.length/\Big 1000000000000 out'/\v6 out'=v6 a*v6 b:=by
 refine fh (Inv:=fun i s=>∃ o:List Int,s=(a,(a.length:Int),(i:Int),nb,b,gb,gl,ng,o,())/\o.length=out.length/\Big (3000000*b.length*i) o/\v6 o=v6 (a.take i)*v6 b) a.length
  (fun r=>∃ out',r=some (Sum.inr (gb,gl,ng,out',()))/\out'.length=out.length/\Big 1000000000000 out'/\v6 out'=v6 a*v6 b) ?_ ?_ n 0 _ ⟨out,rfl,rfl,hz.mono (by omega),by simp[DQ,hv0]⟩ (by omega) (by omega)
 ·rintro i _ again hi ⟨o,rfl,hl,hB,hv⟩ ih
  unfold qX
  dsimp only
  have hy:a[i]? =some a[i]:=bz hi
  have hyd:=ha.get hy
  have hts:=jI hy
  generalize a[i]=y at hy hyd hts
  rw[bR (by omega),gy,hy,WG]
  have hbnd:3000000*(b.length:Int)*(i:Int)<=3000000*(b.length:Int)*99:=UB (by omega) (by omega)
  have hnn:0<=3000000*(b.length:Int)*(i:Int):=Int.mul_nonneg (by omega) (by omega)
  obtain⟨o',h1,h2,h3,h4⟩:=IY i y a (a.length:Int) (i:Int) b nb gb gl ng o (3000000*(b.length:Int)*(i:Int)) hyd hb (by omega) (by omega) (by omega) (by omega) hB hnn (by omega) (Int.natAbs (i:Int)+(Int.natAbs y+(List.length a+(Int.natAbs (a.length:Int)+(Int.natAbs (i:Int)+(List.length b+(Int.natAbs ((List.length b:Int))+(Int.natAbs (0:Int)+(List.length b+(List.length gl+(List.length o+2))))))))))) (by omega)
  rw[h1,bC]
  dsimp only
  rw[aG (by omega) (by omega)]
  refine ih _ ⟨o',rfl,by omega, ?_, ?_⟩
  ·have e:3000000*(b.length:Int)*(i:Int)+3000000*(b.length:Int)=3000000*(b.length:Int)*((i+1:Nat):Int):=by
    rw[show ((i+1:Nat):Int)=(i:Int)+1 by omega,Uz,UC]
   rw[<- e];exact h3
  ·rw[h4,hv,hts,Int.add_mul,UA]
 ·rintro _ again ⟨o,rfl,hl,hB,hv⟩
  unfold qX
  dsimp only
  rw[cy (by omega)]
  rw[V7 (Wj _)] at hv
  have hbnd:3000000*(b.length:Int)*(a.length:Int)<=3000000*(b.length:Int)*99:=UB (by omega) (by omega)
  exact⟨o,rfl,hl,hB.mono (by omega),hv⟩
theorem KN (l:List Int) (nb g:Bool) (gl:List Int) (M:Nat) (hM:M+1=l.length) (hl:l.length<10000) (hB:Big 1000000000000 l) (n:Nat) (hn:M<n): ∃ l',iter (X:=qb) (β:=qa) n ((M:Int),0,g,gl,nb,l,()) p9=some (Sum.inr (g,gl,nb,l',()))/\l'.length=l.length/\Dg6 (l'.take M)/\(∀ d,l'[M]? =some d->0<=d)/\v6 l'=v6 l:=by
 refine fh (Inv:=fun i s=>∃ o:List Int,s=((M:Int),(i:Int),g,gl,nb,o,())/\o.length=l.length/\Big (1000000000000+2000000*i) o/\Dg6 (o.take i)/\v6 o=v6 l) M
  (fun r=>∃ l',r=some (Sum.inr (g,gl,nb,l',()))/\l'.length=l.length/\Dg6 (l'.take M)/\(∀ d,l'[M]? =some d->0<=d)/\v6 l'=v6 l) ?_ ?_ n 0 _ ⟨l,rfl,rfl,hB.mono (by omega),by simpa using Dig.nil,rfl⟩ (by omega) (by omega)
 ·rintro i _ again hi ⟨o,rfl,hol,hBo,hd,hv⟩ ih
  unfold p9
  dsimp only
  have e2:w64 ((i:Int)+1)=((i+1:Nat):Int):=by rw[aG (by omega) (by omega)];omega
  have h3:o[i]? =some o[i]:=bz (by omega)
  have h4:o[i+1]? =some o[i+1]:=bz (by omega)
  have d3:=hBo.get h3
  have d4:=hBo.get h4
  generalize o[i]'(by omega)=y3 at h3 d3
  generalize o[i+1]'(by omega)=y4 at h4 d4
  rw[bR (by omega),e2]
  simp only[UL,h3,h4,WG,Vy]
  have e4:w64 (y4+w64 (Int.tdiv y3 1000000))=y4+y3 / 1000000:=by
   rw[UJ (by omega),aG (n:=y3 / 1000000) (by omega) (by omega),aG (by omega) (by omega)]
  have h7:(o.set (i+1) (y4+y3 / 1000000))[i]? =some y3:=by rw[Vl (by omega)];exact h3
  simp only[e4,h7,WG]
  rw[bS (by simp only[Ug,WY];omega),bS (by simp only[Ug,WY];omega),bS (by simp only[Ug,WY];omega),bS (by simp only[Ug,WY];omega),bS (by simp only[Ug,WY];omega),UK (by omega)]
  have hself:o.set i y3=o:=by
   apply U3
   intro j
   by_cases hj:i=j
   ·subst hj;rw[Vm (by omega),h3]
   ·rw[Vl hj]
  refine ih _ ⟨_,rfl,by simp only[Vy];exact hol, ?_, ?_, ?_⟩
  ·exact Big.set (D:=1000000000000+2000000*((i+1:Nat):Int)) (Big.set hBo (by omega) (by omega)) (Uy _) (by omega)
  ·have hg:((o.set (i+1) (y4+y3 / 1000000)).set i (y3 % 1000000))[i]? =some (y3 % 1000000):=Vm (by rw[Vy];omega)
   rw[nE hg]
   refine Dig.snoc ?_ (by omega)
   rw[List.take_set_of_le (by omega),List.take_set_of_le (by omega)]
   exact hd
  ·have:=ME h3 h4 (t:=y3)
   rw[hself] at this
   rw[this,hv];simp
 ·rintro _ again ⟨o,rfl,hol,hBo,hd,hv⟩
  unfold p9
  dsimp only
  rw[cy (by omega)]
  exact⟨o,rfl,hol,hd,fun d hd'=>(hBo.get hd').1,hv⟩
theorem wg (x y:Int) (hx:(dg6 x.natAbs).length<100) (hy:(dg6 y.natAbs).length<1000):p8 (N x) (N y)=some (N (x*y),()):=by
 unfold p8 N
 dsimp only
 have e1:w64 (w64 (((dg6 x.natAbs).length:Int)+((dg6 y.natAbs).length:Int))+1)=(((dg6 x.natAbs).length+(dg6 y.natAbs).length+1:Nat):Int):=by
  rw[aG (n:=((dg6 x.natAbs).length:Int)+((dg6 y.natAbs).length:Int)) (by omega) (by omega),aG (by omega) (by omega)];omega
 rw[e1,UL,bS (by simp only[Ug,WY];omega)]
 generalize hL:(dg6 x.natAbs).length+(dg6 y.natAbs).length+1=L at*
 have hz:Big 0 (List.replicate L 0):=fun d hd=>by rw[List.mem_replicate] at hd;omega
 have hv0:v6 (List.replicate L 0)=0:=by
  generalize L=k
  induction k with
  | zero=>rfl
  | succ k ih=>rw[VX,I9,ih];rfl
 obtain⟨o,h1,h2,h3,h4⟩:=IZ (dg6 x.natAbs) (dg6 y.natAbs) (nK _) (nK _) hx hy (decide (y<0)) false [] (!(decide (x<0)==decide (y<0))) (List.replicate L 0) (by rw[Vw];omega) (by rw[Vw];omega) hz hv0 (List.length (dg6 x.natAbs)+(Int.natAbs ((List.length (dg6 x.natAbs):Int))+(Int.natAbs (0:Int)+(List.length (dg6 y.natAbs)+(List.length ([]:List Int)+(List.length ((List.replicate L 0):List Int)+2)))))) (by omega)
 rw[h1,bC]
 dsimp only
 rw[Vw] at h2
 have e2:w64 ((o.length:Int) - 1)=(((L - 1:Nat)):Int):=by rw[aG (by omega) (by omega)];omega
 rw[e2]
 obtain⟨o',g1,g2,g3,g4,g5⟩:=KN o (!(decide (x<0)==decide (y<0))) false [] (L - 1) (by omega) (by omega) h3 (Int.natAbs ((((L - 1:Nat)):Int))+(Int.natAbs (0:Int)+(List.length ([]:List Int)+(List.length o+2)))) (by omega)
 rw[g1,bC]
 dsimp only
 have hm:v6 o'=(x.natAbs:Int)*(y.natAbs:Int):=by rw[g5,h4,tL,tL]
 have hlast:o'[L - 1]? =some (o'[L - 1]'(by omega)):=bz (by omega)
 have hsplit:v6 o'=v6 (o'.take (L - 1))+1000000 ^ (L - 1)*(o'[L - 1]'(by omega)):=by
  rw[<- jI hlast,V7 (by omega)]
 have hlt:v6 o'<1000000 ^ (L - 1):=by
  rw[hm]
  have a1:=BR (nK x.natAbs)
  have a2:=BR (nK y.natAbs)
  rw[tL] at a1 a2
  rw[show L - 1=(dg6 x.natAbs).length+(dg6 y.natAbs).length by omega,UF]
  have b1:(x.natAbs:Int)*(y.natAbs:Int)<=(x.natAbs:Int)*1000000 ^ (dg6 y.natAbs).length:=UB (by omega) (by omega)
  have b2:(x.natAbs:Int)*1000000 ^ (dg6 y.natAbs).length<1000000 ^ (dg6 x.natAbs).length*1000000 ^ (dg6 y.natAbs).length:=Int.mul_lt_mul_of_pos_right a1 (by omega)
  omega
 have hl0:=g4 _ hlast
 generalize o'[L - 1]'(by omega)=dl at hlast hsplit hl0
 have hdl:dl=0:=by
  have h5:=mH g3
  rcases (show dl=0\/1<=dl by omega) with h | h
  ·exact h
  ·have hp:(0:Int)<1000000 ^ (L - 1):=F3 (by omega) _
   have:(1000000:Int) ^ (L - 1)*1<=1000000 ^ (L - 1)*dl:=UB h (by omega)
   omega
 have hdig:Dg6 o':=by
  have e:o'=o'.take (L - 1)++[dl]:=by
   rw[<- nE hlast,V7 (by omega)]
  rw[e];exact g3.snoc (by omega)
 rw[I0 _ _ hdig (by omega),WG,hm]
 show some (N _,())=some (N (x*y),())
 congr 3
 by_cases hxn:x<0<;>by_cases hyn:y<0
 ·simp only[hxn,hyn,W6,WS,Us,Ul,Xc]
  rw[show (x.natAbs:Int)= -x by omega,show (y.natAbs:Int)= -y by omega,Int.neg_mul_neg]
 ·simp only[hxn,hyn,W6,WZ,Xf,show (!(true==false))=true from rfl]
  rw[show (x.natAbs:Int)= -x by omega,show (y.natAbs:Int)=y by omega,Int.neg_mul,Int.neg_neg]
 ·simp only[hxn,hyn,W6,WZ,Xf,show (!(false==true))=true from rfl]
  rw[show (x.natAbs:Int)=x by omega,show (y.natAbs:Int)= -y by omega,Int.mul_neg,Int.neg_neg]
 ·simp only[hxn,hyn,WZ,WS,Us,Ul,Xc]
  rw[show (x.natAbs:Int)=x by omega,show (y.natAbs:Int)=y by omega]
end Go.Md
