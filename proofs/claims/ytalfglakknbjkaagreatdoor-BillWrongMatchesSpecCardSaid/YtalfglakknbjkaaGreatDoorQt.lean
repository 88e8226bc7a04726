/-
  Plain facts: shares. No condition.
-/
import Derived.Test.YtalfglakknbjkaaGreatDoorQs
import Derived.Test.YtalfglakknbjkaaGreatDoorQn
import Derived.Test.YtalfglakknbjkaaGreatDoorQq
set_option linter.all false
namespace Go.Md
open Go.Dn
abbrev Br:=List (Nat×Int)
def atB (l:Br) (k:Nat):Int:=match l with
 | []=>0
 | p::r=>(if p.1=k then p.2 else 0)+atB r k
theorem IB:∀ (a b:Br) (k:Nat),atB (a++b) k=atB a k+atB b k
 | [],b,k=>by simp[atB]
 | p::a,b,k=>by simp only[aky,atB,IB a b];omega
def aG (n:Nat) (l:Br):List Int:=(List.range n).map (atB l)
theorem cx (n:Nat) (l:Br):(aG n l).length=n:=by simp[aG]
theorem fy {n:Nat} (l:Br) {k:Nat} (h:k<n):(aG n l)[k]? =some (atB l k):=by
 unfold aG
 rw[akT,akU h];rfl
theorem L9 {n:Nat} (l:Br) {k:Nat} (d:Int):(aG n l).set k (atB l k+d)=aG n (l++[(k,d)]):=by
 apply akH
 intro i
 by_cases hi:i<n
 ·rw[fy _ hi]
  by_cases e:k=i
  ·subst e
   rw[akY (by rw[cx];exact hi),IB];simp[atB]
  ·rw[akX e,fy _ hi,IB];simp[atB,e]
 ·rw[akR (by rw[alb,cx];omega),akR (by rw[cx];omega)]
def shQ (u W w:Nat):Nat:=u*w / W
def shR (u W w:Nat):Nat:=u*w % W
def ahead (r:Nat→Nat) (i j:Nat):Prop:=r j<r i∨(r i=r j∧i<j)
instance (r:Nat→Nat) (i j:Nat):Decidable (ahead r i j):=by unfold ahead;infer_instance
theorem Ul {r:Nat→Nat} {i j k:Nat} (h:ahead r i j) (g:ahead r j k):ahead r i k:=by unfold ahead at *;omega
theorem Q5 {r:Nat→Nat} {i:Nat}:¬ ahead r i i:=by unfold ahead;omega
theorem aeG (r:Nat→Nat) {i j:Nat} (h:i≠j):ahead r i j∨ahead r j i:=by unfold ahead;omega
def kR (r:Nat→Nat) (n i:Nat):Nat:=((List.range n).filter fun j=>decide (ahead r j i)).length
structure Aq (r:Nat→Nat) (n:Nat) (o:List Nat):Prop where
 perm:(List.range n).Perm o
 srt:o.Pairwise (ahead r)
theorem Aq.mem {r:Nat→Nat} {n:Nat} {o:List Nat} (h:Aq r n o) {i:Nat}:i∈o↔i<n:=by
 rw[← h.perm.mem_iff,alv]
theorem Aq.len {r:Nat→Nat} {n:Nat} {o:List Nat} (h:Aq r n o):o.length=n:=by rw[← h.perm.length_eq,ak9]
theorem Aq.KQ {r:Nat→Nat} {n:Nat} {o:List Nat} (h:Aq r n o) {a b i j:Nat} (ha:o[a]? =some i) (hb:o[b]? =some j) (hab:a<b):ahead r i j:=by
 obtain⟨ha1,ha2⟩:=akS.1 ha
 obtain⟨hb1,hb2⟩:=akS.1 hb
 subst ha2;subst hb2
 exact alC.1 h.srt a b ha1 hb1 hab
theorem Aq.acB {r:Nat→Nat} {n:Nat} {o:List Nat} (h:Aq r n o) {a i:Nat} (ha:o[a]? =some i):kR r n i=a:=by
 unfold kR
 rw[(h.perm.filter _).length_eq]
 have hal:=(akS.1 ha).1
 have e:o=o.take a++o.drop a:=(alL a o).symm
 have h1:(o.take a).filter (fun j=>decide (ahead r j i))=o.take a:=by
  rw[List.filter_eq_self]
  intro j hj
  obtain⟨b,hb⟩:=alo.1 hj
  have hbl:b<a:=by have:=(akS.1 hb).1;rw[alc] at this;omega
  rw[ak0 hbl] at hb
  exact amH (h.KQ hb ha hbl)
 have h2:(o.drop a).filter (fun j=>decide (ahead r j i))=[]:=by
  rw[List.filter_eq_nil_iff]
  intro j hj
  obtain⟨b,hb⟩:=alo.1 hj
  rw[akP] at hb
  rw[amI]
  intro hh
  by_cases e:b=0
  ·subst e
   rw[alR,ha] at hb;cases hb
   exact Q5 hh
  ·exact Q5 (Ul hh (h.KQ ha hb (by omega)))
 rw[e,akI,h1,h2,akx,alc]
 omega
theorem Aq.Kr {r:Nat→Nat} {n:Nat} {o:List Nat} (h:Aq r n o) {i:Nat} (hi:i<n):o[kR r n i]? =some i:=by
 obtain⟨a,ha⟩:=alo.1 (h.mem.2 hi)
 rw[h.acB ha];exact ha
theorem Aq.exists (r:Nat→Nat) (n:Nat):∃ o,Aq r n o:=by
 let le:Nat→Nat→Bool:=fun i j=>decide (i=j∨ahead r i j)
 have tr:∀ a b c,le a b=true→le b c=true→le a c=true:=by
  intro a b c h1 h2
  simp only[le,amI] at*
  rcases h1 with rfl | h1
  ·exact h2
  ·rcases h2 with rfl | h2
   ·exact .inr h1
   ·exact .inr (Ul h1 h2)
 have tot:∀ a b,(le a b||le b a)=true:=by
  intro a b
  simp only[le,ajY,amI]
  by_cases e:a=b
  ·exact .inl (.inl e)
  ·rcases aeG r e with h | h
   ·exact .inl (.inr h)
   ·exact .inr (.inr h)
 have hp:(List.range n).Perm ((List.range n).mergeSort le):=(List.mergeSort_perm _ _).symm
 refine⟨(List.range n).mergeSort le,hp, ?_⟩
 have hs:=List.pairwise_mergeSort (le:=le) tr tot (List.range n)
 have hn:((List.range n).mergeSort le).Nodup:=hp.nodup_iff.1 alz
 exact (hs.and hn).imp fun {a b} h=>by
  have h1:=h.1
  simp only[le,amI] at h1
  rcases h1 with h1 | h1
  ·exact absurd h1 h.2
  ·exact h1
def Fc (u:Nat) (ws:List Nat):List Nat:=
 let q:=ws.map (shQ u ws.sum)
 let left:=u - q.sum
 let r:=fun i=>shR u ws.sum (ws.getD i 0)
 (List.range ws.length).map fun i=>shQ u ws.sum (ws.getD i 0)+if kR r ws.length i<left then 1 else 0
def cu (n:Int) (ws:List Nat):List Int:=(Fc n.natAbs ws).map fun (x:Nat)=>if n<0 then -(x:Int) else (x:Int)
theorem LK {α:Type} (f g:α→Nat):∀ l:List α,(l.map fun x=>f x+g x).sum=(l.map f).sum+(l.map g).sum
 | []=>rfl
 | x::l=>by simp only[alf,alI,LK f g l];omega
theorem Mx {α:Type} (f:α→Nat) (c:Nat):∀ l:List α,(l.map fun x=>c*f x).sum=c*(l.map f).sum
 | []=>rfl
 | x::l=>by simp only[alf,alI,Mx f c l,Nat.mul_add]
theorem aju (u W w:Nat):W*shQ u W w+shR u W w=u*w:=by unfold shQ shR;exact Nat.div_add_mod _ _
theorem left_eq {u:Nat} {ws:List Nat} (h:0<ws.sum):ws.sum*(u - (ws.map (shQ u ws.sum)).sum)=(ws.map (shR u ws.sum)).sum∧(ws.map (shQ u ws.sum)).sum≤u:=by
 have h1:(ws.map fun w=>ws.sum*shQ u ws.sum w+shR u ws.sum w).sum=ws.sum*(ws.map (shQ u ws.sum)).sum+(ws.map (shR u ws.sum)).sum:=by
  rw[LK (fun w=>ws.sum*shQ u ws.sum w),Mx]
 have h2:(ws.map fun w=>ws.sum*shQ u ws.sum w+shR u ws.sum w).sum=u*ws.sum:=by
  rw[show (fun w=>ws.sum*shQ u ws.sum w+shR u ws.sum w)=fun w=>u*w from funext fun w=>aju ..]
  have:=Mx (fun w:Nat=>w) u ws
  simpa using this
 rw[h1,amb u] at h2
 have hle:(ws.map (shQ u ws.sum)).sum≤u:=by
  have:ws.sum*(ws.map (shQ u ws.sum)).sum≤ws.sum*u:=by omega
  exact Nat.le_of_mul_le_mul_left this h
 refine⟨?_,hle⟩
 rw[Nat.mul_sub];omega
theorem VT {W:Nat}:∀ (l:List Nat),(∀ x∈l,x<W)→l.sum+l.length≤W*l.length
 | [],_=>by simp
 | x::l,h=>by
  have h1:=VT l fun y hy=>h y (alj _ hy)
  have h2:=h x alk
  simp only[alI,ak3,Nat.mul_succ];omega
theorem afa {u:Nat} {ws:List Nat} (h:0<ws.sum):u - (ws.map (shQ u ws.sum)).sum≤ws.length:=by
 have h1:=(left_eq (u:=u) h).1
 have h2:=VT (W:=ws.sum) (ws.map (shR u ws.sum)) (by
  intro x hx
  obtain⟨w,_,rfl⟩:=alp.1 hx
  exact ama _ h)
 rw[ak5] at h2
 have:ws.sum*(u - (ws.map (shQ u ws.sum)).sum)≤ws.sum*ws.length:=by omega
 exact Nat.le_of_mul_le_mul_left this h
theorem ah0 (l:List Nat) (f:Nat→Nat):(List.range l.length).map (fun i=>f (l.getD i 0))=l.map f:=by
 apply akH
 intro i
 by_cases hi:i<l.length
 ·rw[akT,akU hi,akT,akQ hi]
  simp[akK,akQ hi]
 ·rw[akR (by simp;omega),akR (by simp;omega)]
theorem Zm {α:Type}:∀ l:List α,(l.map fun _=>1).sum=l.length
 | []=>rfl
 | x::l=>by simp only[alf,alI,ak3,Zm l];omega
theorem agR {a b:List Nat} (h:a.Perm b):a.sum=b.sum:=by
 induction h with
 | nil=>rfl
 | cons x _ ih=>simp[ih]
 | swap x y l=>simp only[alI];omega
 | trans _ _ ih1 ih2=>exact ih1.trans ih2
theorem afU {r:Nat→Nat} {n m:Nat} (h:m≤n):((List.range n).map fun i=>if kR r n i<m then 1 else 0).sum=m:=by
 obtain⟨o,ho⟩:=Aq.exists r n
 rw[agR (ho.perm.map _)]
 have e:o.map (fun i=>if kR r n i<m then 1 else 0)=(List.range n).map fun a=>if a<m then 1 else 0:=by
  apply akH
  intro a
  by_cases ha:a<n
  ·have hg:o[a]? =some (o[a]'(by rw[ho.len];exact ha)):=akQ _
   rw[akT,akT,akU ha,hg]
   simp only[amx,ho.acB hg]
  ·rw[akR (by rw[ak5,ho.len];omega),akR (by simp;omega)]
 rw[e]
 clear e ho o
 induction n with
 | zero=>simp;omega
 | succ n ih=>
  rw[alD,ald,alH]
  by_cases hm:m≤n
  ·rw[ih hm];simp;omega
  ·obtain rfl:m=n+1:=by omega
   have:((List.range n).map fun a=>if a<n+1 then 1 else 0)=(List.range n).map fun _=>1:=by
    apply ale
    intro a ha
    rw[alv] at ha
    rw[amQ (by omega)]
   rw[this,Zm]
   simp
theorem MA {u:Nat} {ws:List Nat} (h:0<ws.sum):(Fc u ws).sum=u:=by
 unfold Fc
 dsimp only
 rw[LK (fun i=>shQ u ws.sum (ws.getD i 0)),ah0 ws (shQ u ws.sum),afU (afa h)]
 have:=(left_eq (u:=u) h).2
 omega
theorem aet (u:Nat) (ws:List Nat):(Fc u ws).length=ws.length:=by simp[Fc]
theorem FW (n:Int) (ws:List Nat):(cu n ws).length=ws.length:=by simp[cu,aet]
theorem abb:∀ l:List Nat,(l.map fun (x:Nat)=>(x:Int)).sum=(l.sum:Int)
 | []=>rfl
 | x::l=>by simp only[alf,alI,abb l];omega
theorem YP:∀ l:List Nat,(l.map fun (x:Nat)=> -(x:Int)).sum= -(l.sum:Int)
 | []=>rfl
 | x::l=>by simp only[alf,alI,YP l];omega
theorem adX {n:Int} {ws:List Nat} (h:0<ws.sum):(cu n ws).sum=n:=by
 unfold cu
 by_cases hn:n<0
 ·simp only[amQ hn]
  rw[YP,MA h];omega
 ·simp only[amP hn]
  rw[abb,MA h];omega
theorem agm {u:Nat} {ws:List Nat} (h:0<ws.sum) {x:Nat} (hx:x∈Fc u ws):x≤u:=by
 have h1:=MA (u:=u) h
 have:∀ (l:List Nat) (x:Nat),x∈l→x≤l.sum:=by
  intro l
  induction l with
  | nil=>intro x hx;cases hx
  | cons y l ih=>
   intro x hx
   rcases ali.1 hx with rfl | hx
   ·simp
   ·have:=ih x hx;simp;omega
 have:=this _ _ hx
 omega
theorem O5 {n:Int} {ws:List Nat} (h:0<ws.sum) {x:Int} (hx:x∈cu n ws):x.natAbs≤n.natAbs:=by
 unfold cu at hx
 obtain⟨y,hy,rfl⟩:=alp.1 hx
 have:=agm h hy
 split<;>omega
end Go.Md
namespace Go.Md
open Go.Dn
abbrev ai (v:ah):List aB:=v.2.2.2.2.2.2.1
abbrev aU (v:ah):List au:=v.2.2.2.2.2.2.2.1
abbrev bF (v:ah):List ax:=v.2.2.2.2.2.2.2.2
abbrev dQ (v:ah):Int:=v.2.2.2.2.1
abbrev vPl (v:ah):Int:=v.2.2.2.1
abbrev lM (v:ah):Bool:=v.2.2.2.2.2.1
def MW:Nat:=1000000000
def ic (n:Int):Bool:=decide (n.natAbs≤MU)
def bh (l:List Int):Bool:=l.all ic
def cI (v:ah):List au→Option Br
 | []=>some []
 | x::r=>match CA v x with
  | some n=>(cI v r).map fun l=>((cB (·.1) x.2.2.2.2.2.2.2.2 (ai v)).getD 0,n)::l
  | none=>none
def oR (v:ah) (lines:List Int) (x:ax):Int:=match cB (·.1) x.2.2 (ai v) with
 | some k=>lines.getD k 0
 | none=>lines.sum
def dG:Nat→List Int→Br
 | _,[]=>[]
 | k,x::r=>if x=0 then dG (k+1) r else (k,x)::dG (k+1) r
def qW (o:Option Nat) (d:Int) (lines:List Int):Int ⊕ (Int×Br×List Nat):=
 bif ic d then
  match o with
  | some k=> .inr (d,[(k,d)],[k])
  | none=>
   bif lines.all fun b=>b==0 then .inr (d,[(0,d)],bif d==0 then [] else [0])
   else bif lines.any fun b=>decide (MW<b.natAbs) then .inl 2
   else .inr (d,dG 0 (cu d (lines.map Int.natAbs)),(dG 0 (cu d (lines.map Int.natAbs))).map (·.1))
 else .inl 1
def yp (v:ah) (lines:List Int) (x:ax):Int ⊕ (Int×Br×List Nat):=
 qW (cB (·.1) x.2.2 (ai v)) (gA (dQ v) (vPl v) (oR v lines x) x) lines
abbrev ESt:=Br×List Nat×List Int
def cz (v:ah) (lines:List Int):List ax→ESt→Int ⊕ ESt
 | [],s=> .inr s
 | x::r,s=>match yp v lines x with
  | .inl f=> .inl f
  | .inr t=>bif bh (aG (ai v).length (s.1++t.2.1)) then cz v lines r (s.1++t.2.1,s.2.1++t.2.2,s.2.2++[t.1]) else .inl 1
def iR (way:Int) (pc:aj) (k:Nat):Br→Int
 | []=>0
 | p::r=>(if p.1=k then jg way p.2 pc else 0)+iR way pc k r
def nF (v:ah) (k:Nat):aj:=((ai v).getD k ([],(0,0))).2
def rL (v:ah) (sh:Br) (k:Nat):Int:=if lM v=true then iR (dQ v) (nF v k) k sh else jg (dQ v) (atB sh k) (nF v k)
def cX (v:ah) (sh:Br):List Int:=(List.range (ai v).length).map (rL v sh)
structure ShZ where
 nets:List Int
 br:Br
 fl:List Nat
 am:List Int
 taxes:List Int
def oL (v:ah):Int ⊕ ShZ:=
 match cI v (aU v) with
 | none=> .inl 1
 | some lb=>
  bif bh (aG (ai v).length lb) then
   match cz v (aG (ai v).length lb) (bF v) (lb,lb.map (·.1),[]) with
   | .inl f=> .inl f
   | .inr s=>bif bh (cX v s.1) then .inr ⟨lb.map (·.2),s.1,s.2.1,s.2.2,cX v s.1⟩ else .inl 1
  else .inl 1
def qX (s:ShZ):List Int:=[s.nets.sum,s.am.sum,s.nets.sum+s.am.sum,s.taxes.sum,s.nets.sum+s.am.sum+s.taxes.sum]
def fH (v:ah):Int ⊕ ShZ:=match oL v with
 | .inl f=> .inl f
 | .inr s=>bif bh (qX s) then .inr s else .inl 1
def BA (v:ah) (n:Int):aj:=(n,vPl v)
theorem J7:∀ (l:List Int) (k i:Nat),atB (dG k l) (k+i)=l.getD i 0
 | [],k,i=>by simp[dG,atB]
 | x::l,k,i=>by
  have lo:∀ (l:List Int) (j i:Nat),i<j→atB (dG j l) i=0:=by
   intro l
   induction l with
   | nil=>intro j i h;rfl
   | cons y l ih=>
    intro j i h
    simp only[dG]
    split
    ·exact ih _ _ (by omega)
    ·simp only[atB,ih (j+1) i (by omega)];simp;omega
  simp only[dG]
  cases i with
  | zero=>
   split
   ·rename_i hx;rw[alR,lo _ _ _ (by omega)];simp[hx]
   ·simp only[atB,alR,lo l (k+1) k (by omega)];simp
  | succ i=>
   have ih:=J7 l (k+1) i
   rw[show k+1+i=k+(i+1) by omega] at ih
   split
   ·rw[ih];simp
   ·simp only[atB,ih];simp
theorem ac4:∀ (l:List Int) (k:Nat),((dG k l).map (·.2)).sum=l.sum
 | [],k=>rfl
 | x::l,k=>by
  have ih:=ac4 l (k+1)
  simp only[dG]
  split
  ·rename_i hx;rw[ih];simp[hx]
  ·simp[ih]
theorem OJ:∀ (l:List Int) (k:Nat) (p:Nat×Int),p∈dG k l→k≤p.1∧p.1<k+l.length∧p.2∈l∧p.2≠0
 | [],k,p,h=>by cases h
 | x::l,k,p,h=>by
  simp only[dG] at h
  have ih:=fun hh=>OJ l (k+1) p hh
  split at h
  ·have:=ih h;simp only[ak3,ali];exact⟨by omega,by omega,.inr this.2.2.1,this.2.2.2⟩
  ·rename_i hx
   rcases ali.1 h with rfl | h
   ·exact⟨alZ _,by simp only[ak3];omega,alk,hx⟩
   ·have:=ih h;simp only[ak3,ali];exact⟨by omega,by omega,.inr this.2.2.1,this.2.2.2⟩
end Go.Md
set_option linter.all false
namespace Go.Md.SA
open Go.Dn Go.Md
section
variable {k:aq→Int} {ok:aq→Prop}
def BW (k:aq→Int) (ok:aq→Prop):Prop:=∀ a b,ok a→ok b→∃ c,me a b=some (c,())∧(c<0↔k a<k b)
theorem ahs (hc:BW k ok) (a:Nat) (bI:Int) (iI:Int) (X:List aq) (hX:X.length=a):∀ (n:Nat) (P1:List aq) (x:aq) (B:List aq),P1.length<n→(X++P1++x::B).length<1000000000→ok x→(∀ y∈P1,ok y)→
 ∃ P2 P3,P1=P2++P3∧(∀ y∈P3,k x<k y)∧(∀ y,P2.getLast? =some y→k y≤k x)∧
 iter (X:=dH) (β:=dM) n ((a:Int),bI,(),iI,((a+P1.length:Nat):Int),X++P1++x::B,()) dI=some (Sum.inr ((a:Int),bI,(),iI,X++P2++x::(P3++B),())):=by
 intro n
 induction n with
 | zero=>intro P1 x B h;omega
 | succ n ih=>
  intro P1 x B hn hlen hx hP
  rw[dx]
  generalize hag:(fun y=>iter n y dI)=again
  unfold dI
  dsimp only
  rcases List.eq_nil_or_concat P1 with rfl | ⟨P,y,rfl⟩
  ·rw[aE (by simp)]
   exact⟨[],[],rfl,by simp,by simp,by simp⟩
  ·rw[List.concat_eq_append] at*
   simp only[ak2,ak3,ak7] at hlen hn ⊢
   have e1:w64 (((a+(P.length+1):Nat):Int) - 1)=(((X++P).length:Nat):Int):=by rw[az (by omega) (by omega)];simp[hX];omega
   have e2:(((a+(P.length+1):Nat):Int))=(((X++P).length+1:Nat):Int):=by simp[hX];omega
   have el:X++(P++[y])++x::B=(X++P)++y::x::B:=by simp
   obtain⟨c,hcc,hlt⟩:=hc x y hx (hP y (by simp))
   rw[aD (by omega),e1,e2,el]
   simp only[akq,get_at,SP,amq,hcc]
   rw[aH (by simp only[ajK,amI,ak2,ak3,alb,ak7];omega),aH (by simp only[ajK,amI,ak2,ak3,alb,ak7];omega)]
   by_cases hk:k x<k y
   ·rw[aD (hlt.2 hk),aH (by simp only[ajK,amI,ak2,ak3,alb,ak7];omega),aH (by simp only[ajK,amI,ak2,ak3,alb,ak7];omega),aH (by simp only[ajK,amI,ak2,ak3,alb,ak7];omega),
     aH (by simp only[ajK,amI,ak2,ak3,alb,ak7];omega)]
    have hg:(((X++P)++y::x::B).set ((X++P).length+1) y)[(X++P).length]? =some y:=by rw[akX (by omega),get_at]
    rw[hg,amq,adk, ← hag]
    obtain⟨P2,P3,h1,h2,h3,h4⟩:=ih P x (y::B) (by omega) (by simp;omega) hx (fun z hz=>hP z (by simp[hz]))
    refine⟨P2,P3++[y],by rw[h1];simp, ?_,h3, ?_⟩
    ·intro z hz
     rcases alh.1 hz with hz | hz
     ·exact h2 z hz
     ·rw[alx.1 hz];exact hk
    ·have e3:(((X++P).length:Nat):Int)=((a+P.length:Nat):Int):=by simp[hX]
     rw[e3]
     show iter n _ _=_
     rw[h4];simp
   ·rw[aE (fun h=>hk (hlt.1 h))]
    refine⟨P++[y],[],by simp,by simp,fun z hz=> ?_,by simp⟩
    simp at hz
    subst hz;omega
theorem Rl (hc:BW k ok) (X S Y:List aq) (hlen:(X++S++Y).length<1000000000) (hok:∀ y∈S,ok y):
 ∃ S',cS (X++S++Y) (X.length:Int) ((X.length+S.length:Nat):Int) ()=some (X++S'++Y,())∧Srt k S'∧cQ k S S':=by
 simp only[ak2] at hlen
 have loop:∀ (n:Nat) (Q P:List aq) (l:List aq),Q.length<n→l=X++P++Q++Y→P.length+Q.length=S.length→Srt k P→(∀ y∈P,ok y)→(∀ y∈Q,ok y)→
  ∃ S',iter (X:=dJ) (β:=dL) n ((X.length:Int),((X.length+S.length:Nat):Int),(),((X.length+P.length:Nat):Int),l,()) cA=some (Sum.inr (X++S'++Y,()))∧Srt k S'∧cQ k (P++Q) S':=by
  intro n
  induction n with
  | zero=>intro Q P l h;omega
  | succ n ih=>
   intro Q P l hn hl hPQ hs hokP hokQ
   rw[dx]
   generalize hag:(fun y=>iter n y cA)=again
   unfold cA
   dsimp only
   cases Q with
   | nil=>
    rw[aE (by simp at hPQ;omega)]
    exact⟨P,by rw[hl];simp,hs,by simpa using cQ.refl k P⟩
   | cons x Q=>
    simp only[ak3] at hn hPQ
    rw[aD (by omega)]
    have hl':l=X++P++x::(Q++Y):=by rw[hl];simp
    obtain⟨P2,P3,h1,h2,h3,h4⟩:=ahs hc X.length ((X.length+S.length:Nat):Int) ((X.length+P.length:Nat):Int) X rfl
     (Int.natAbs (X.length:Int)+(Int.natAbs ((X.length+S.length:Nat):Int)+(Int.natAbs ((X.length+P.length:Nat):Int)+(Int.natAbs ((X.length+P.length:Nat):Int)+(List.length l+2))))) P x (Q++Y) (by omega) (by simp;omega) (hokQ x (by simp)) hokP
    rw[← hl'] at h4
    rw[h4,aF]
    dsimp only
    have e1:w64 (((X.length+P.length:Nat):Int)+1)=((X.length+(P2++x::P3).length:Nat):Int):=by
     rw[az (by omega) (by omega),h1];simp;omega
    rw[e1, ← hag]
    rw[h1] at hs hokP
    obtain⟨hs',hsam⟩:=ahP hs h2 h3
    obtain⟨S',g1,g2,g3⟩:=ih Q (P2++x::P3) (X++P2++x::(P3++(Q++Y))) (by omega) (by simp) (by rw[h1] at hPQ;simp at hPQ ⊢;omega) hs' (fun y hy=>by
     rcases hsam.mem.1 hy |> alh.1 with h | h
     ·exact hokP y h
     ·rw[alx.1 h];exact hokQ x (by simp)) (fun y hy=>hokQ y (by simp[hy]))
    refine⟨S',g1,g2, ?_⟩
    have:cQ k (P++x::Q) (P2++x::P3++Q):=by
     rw[h1]
     have:=hsam.append (cQ.refl k Q)
     simpa using this
    exact this.trans g3
 unfold cS
 cases S with
 | nil=>
  have e1:w64 ((X.length:Int)+1)=((X.length+1:Nat):Int):=by rw[az (by omega) (by omega)];omega
  rw[e1]
  obtain⟨n,hn⟩:∃ n,(Int.natAbs (X.length:Int)+(Int.natAbs ((X.length+([]:List aq).length:Nat):Int)+(Int.natAbs ((X.length+1:Nat):Int)+(List.length (X++[]++Y)+2))))=n+1:=⟨_,rfl⟩
  rw[hn,dx]
  unfold cA
  dsimp only
  rw[aE (by simp;omega)]
  exact⟨[],rfl,List.Pairwise.nil,cQ.refl _ _⟩
 | cons x S=>
  have e1:w64 ((X.length:Int)+1)=((X.length+[x].length:Nat):Int):=by rw[az (by omega) (by omega)];simp
  rw[e1]
  obtain⟨S',g1,g2,g3⟩:=loop (Int.natAbs (X.length:Int)+(Int.natAbs ((X.length+(x::S).length:Nat):Int)+(Int.natAbs ((X.length+[x].length:Nat):Int)+(List.length (X++(x::S)++Y)+2)))) S [x] (X++(x::S)++Y) (by simp;omega) (by simp) (by simp;omega) (List.pairwise_singleton _ _) (fun y hy=>hok y (by simp at hy;simp[hy])) (fun y hy=>hok y (by simp[hy]))
  rw[g1,aF]
  exact⟨S',rfl,g2,by simpa using g3⟩
theorem Kv (X M Y:List aq):∀ (P Q:List aq),P.length=Q.length→(X++P++M++Q++Y).length<1000000000→
 cE (X++P++M++Q++Y) (X.length:Int) ((X.length+P.length+M.length:Nat):Int) (P.length:Int) ()=some (X++Q++M++P++Y,()):=by
 intro P Q hPQ hlen
 simp only[ak2] at hlen
 have loop:∀ (n:Nat) (P1 P2 Q1 Q2:List aq) (l:List aq),P2.length<n→P1.length+P2.length=P.length→P1.length=Q1.length→P2.length=Q2.length→l=X++P1++P2++M++Q1++Q2++Y→
  iter (X:=eN) (β:=eS) n ((X.length:Int),((X.length+P.length+M.length:Nat):Int),(P.length:Int),(P1.length:Int),l,()) eP=some (Sum.inr (X++P1++Q2++M++Q1++P2++Y,())):=by
  intro n
  induction n with
  | zero=>intro P1 P2 Q1 Q2 l h;omega
  | succ n ih=>
   intro P1 P2 Q1 Q2 l hn h1 h2 h3 hl
   rw[dx]
   generalize hag:(fun y=>iter n y eP)=again
   unfold eP
   dsimp only
   cases P2 with
   | nil=>
    have:Q2=[]:=akG (by simpa using h3.symm)
    subst this
    rw[aE (by simp at h1;omega),hl]
   | cons p P2=>
    cases Q2 with
    | nil=>simp at h3
    | cons q Q2=>
     simp only[ak3] at hn h1 h3
     have ll:l.length=X.length+P.length+M.length+Q.length+Y.length:=by rw[hl];simp;omega
     have e1:w64 (((X.length+P.length+M.length:Nat):Int)+(P1.length:Int))=(((X++P1++p::P2++M++Q1).length:Nat):Int):=by rw[az (by omega) (by omega)];simp;omega
     have e2:w64 ((X.length:Int)+(P1.length:Int))=(((X++P1).length:Nat):Int):=by rw[az (by omega) (by omega)];simp
     have l1:l=(X++P1++p::P2++M++Q1)++q::(Q2++Y):=by rw[hl];simp
     have l2:l=(X++P1)++p::(P2++M++Q1++q::(Q2++Y)):=by rw[hl];simp
     have g1:l[(X++P1++p::P2++M++Q1).length]? =some q:=by rw[l1];exact get_at _ _ _
     have g2:l[(X++P1).length]? =some p:=by rw[l2];exact get_at _ _ _
     have g3:l.set (X++P1).length q=(X++P1++q::P2++M++Q1)++q::(Q2++Y):=by
      rw[l2,ae3];simp
     have hlq:(X++P1++p::P2++M++Q1).length=(X++P1++q::P2++M++Q1).length:=by simp
     have g4:(l.set (X++P1).length q)[(X++P1++p::P2++M++Q1).length]? =some q:=by rw[g3,hlq];exact get_at _ _ _
     have g5:(l.set (X++P1).length q).set (X++P1++p::P2++M++Q1).length p=X++(P1++[q])++P2++M++(Q1++[p])++Q2++Y:=by rw[g3,hlq,ae3];simp
     rw[aD (by omega),e1,e2]
     simp only[akq,g1,g2,g4,g5,amq,alb,ll]
     have lq:(X++P1++p::P2++M++Q1).length<X.length+P.length+M.length+Q.length+Y.length:=by simp;omega
     have lp:(X++P1).length<X.length+P.length+M.length+Q.length+Y.length:=by simp;omega
     rw[aH (by simp only[ajK,amI];omega),aH (by simp only[ajK,amI];omega),aH (by simp only[ajK,amI];omega),aH (by simp only[ajK,amI];omega)]
     have e3:w64 ((P1.length:Int)+1)=(((P1++[q]).length:Nat):Int):=by rw[az (by omega) (by omega)];simp
     rw[e3, ← hag]
     show iter n _ _=_
     rw[ih (P1++[q]) P2 (Q1++[p]) Q2 _ (by omega) (by simp;omega) (by simp;omega) (by omega) rfl]
     simp
 unfold cE
 rw[show (0:Int)=((([]:List aq).length:Nat):Int) from rfl,loop _ [] P [] Q (X++P++M++Q++Y) (by simp;omega) (by simp) rfl hPQ (by simp),aF]
 simp
theorem adQ (m:Nat):∀ (n:Nat) (X U V Y:List aq),U.length+V.length<n→0<U.length→0<V.length→X.length+U.length=m→(X++U++V++Y).length<1000000000→
 ∃ (X' U' V' Y':List aq),iter (X:=fN) (β:=fQ) n ((m:Int),(),(U.length:Int),(V.length:Int),X++U++V++Y,()) fT=some (Sum.inr ((m:Int),(),(U'.length:Int),X'++U'++V'++Y',()))∧U'.length=V'.length∧X'.length+U'.length=m∧X'++V'++U'++Y'=X++V++U++Y∧(X'++U'++V'++Y').length<1000000000:=by
 intro n
 induction n with
 | zero=>intro X U V Y h;omega
 | succ n ih=>
  intro X U V Y hn hU hV hm hlen
  rw[dx]
  generalize hag:(fun y=>iter n y fT)=again
  unfold fT
  dsimp only
  by_cases he:U.length=V.length
  ·have hb:((U.length:Int) != (V.length:Int))=false:=by simp[he]
   rw[hb,amD]
   exact⟨X,U,V,Y,rfl,he,hm,rfl,hlen⟩
  ·have hb:((U.length:Int) != (V.length:Int))=true:=by simp;omega
   rw[hb,amE]
   simp only[ak2] at hlen
   have e1:w64 ((m:Int) - (U.length:Int))=(X.length:Int):=by rw[az (by omega) (by omega)];omega
   rw[e1]
   by_cases hgt:V.length<U.length
   ·rw[aD (by omega)]
    obtain⟨U1,U2,rfl,hU1⟩:=rR (l:=U) (n:=V.length) (by omega)
    simp only[ak2] at*
    have hsw:=Kv X U2 Y U1 V hU1 (by simp;omega)
    rw[show ((X.length+U1.length+U2.length:Nat):Int)=(m:Int) by omega,hU1] at hsw
    rw[show X++(U1++U2)++V++Y=X++U1++U2++V++Y by simp,hsw,amq]
    have e2:w64 (((U1.length+U2.length:Nat):Int) - (V.length:Int))=(U2.length:Int):=by rw[az (by omega) (by omega)];omega
    rw[e2, ← hag]
    obtain⟨X',U',V',Y',h1,h2,h3,h4,h5⟩:=ih (X++V) U2 U1 Y (by omega) (by omega) (by omega) (by simp;omega) (by simp;omega)
    refine⟨X',U',V',Y', ?_,h2,h3,by rw[h4];simp,h5⟩
    rw[← hU1]
    exact h1
   ·rw[aE (by omega)]
    obtain⟨V1,V2,rfl,hV1⟩:=rR (l:=V) (n:=V.length - U.length) (by omega)
    simp only[ak2] at*
    have e3:w64 (w64 ((m:Int)+((V1.length+V2.length:Nat):Int)) - (U.length:Int))=((X.length+U.length+V1.length:Nat):Int):=by
     rw[az (n:=(m:Int)+((V1.length+V2.length:Nat):Int)) (by omega) (by omega),az (by omega) (by omega)];omega
    have hsw:=Kv X V1 Y U V2 (by omega) (by simp;omega)
    rw[e3,show X++U++(V1++V2)++Y=X++U++V1++V2++Y by simp,hsw,amq]
    have e2:w64 (((V1.length+V2.length:Nat):Int) - (U.length:Int))=(V1.length:Int):=by rw[az (by omega) (by omega)];omega
    rw[e2, ← hag]
    obtain⟨X',U',V',Y',h1,h2,h3,h4,h5⟩:=ih X V2 V1 (U++Y) (by omega) (by omega) (by omega) (by omega) (by simp;omega)
    refine⟨X',U',V',Y', ?_,h2,h3,by rw[h4];simp,h5⟩
    rw[show ((U.length:Nat):Int)=(V2.length:Int) by omega,show X++V2++V1++U++Y=X++V2++V1++(U++Y) by simp]
    exact h1
theorem ag3 (X U V Y:List aq) (hU:0<U.length) (hV:0<V.length) (hlen:(X++U++V++Y).length<1000000000):
 gV (X++U++V++Y) (X.length:Int) ((X.length+U.length:Nat):Int) ((X.length+U.length+V.length:Nat):Int) ()=some (X++V++U++Y,()):=by
 unfold gV
 simp only[ak2] at hlen
 have e1:w64 (((X.length+U.length:Nat):Int) - (X.length:Int))=(U.length:Int):=by rw[az (by omega) (by omega)];omega
 have e2:w64 (((X.length+U.length+V.length:Nat):Int) - ((X.length+U.length:Nat):Int))=(V.length:Int):=by rw[az (by omega) (by omega)];omega
 rw[e1,e2]
 obtain⟨X',U',V',Y',h1,h2,h3,h4,h5⟩:=adQ (X.length+U.length) (Int.natAbs ((X.length+U.length:Nat):Int)+(Int.natAbs (U.length:Int)+(Int.natAbs (V.length:Int)+(List.length (X++U++V++Y)+2)))) X U V Y (by omega) hU hV rfl (by simp;omega)
 rw[h1,aF]
 dsimp only
 simp only[ak2] at h5
 have e3:w64 (((X.length+U.length:Nat):Int) - (U'.length:Int))=(X'.length:Int):=by rw[az (by omega) (by omega)];omega
 have hsw:=Kv X' [] Y' U' V' h2 (by simp;omega)
 simp only[akx,ak7,alR] at hsw
 rw[e3,show ((X.length+U.length:Nat):Int)=((X'.length+U'.length:Nat):Int) by omega,hsw,amq,h4]
theorem aiV (i:Nat):∀ (n:Nat) (A V Y:List aq) (x:aq),V.length<n→A.length+1+V.length=i→(A++x::V++Y).length<1000000000→
 iter (X:=fm) (β:=fe) n ((i:Int),(A.length:Int),A++x::V++Y,()) fk=some (Sum.inr (A++V++x::Y,())):=by
 intro n
 induction n with
 | zero=>intro A V Y x h;omega
 | succ n ih=>
  intro A V Y x hn hi hlen
  rw[dx]
  generalize hag:(fun y=>iter n y fk)=again
  unfold fk
  dsimp only
  simp only[ak2,ak3] at hlen
  have e0:w64 ((i:Int) - 1)=(i:Int) - 1:=az (by omega) (by omega)
  rw[e0]
  cases V with
  | nil=>rw[aE (by simp at hi;omega)];simp
  | cons v V=>
   simp only[ak3] at hn hi hlen
   have e1:w64 ((A.length:Int)+1)=((A.length+1:Nat):Int):=by rw[az (by omega) (by omega)];omega
   have el:A++x::(v::V)++Y=A++x::v::(V++Y):=by simp
   have hg:((A++x::v::(V++Y)).set A.length v)[A.length+1]? =some v:=by rw[akX (by omega),SP]
   rw[aD (by omega),e1,el]
   simp only[akq,get_at,SP,amq,hg,agw,alb]
   rw[aH (by simp only[ajK,amI,ak2,ak3];omega),aH (by simp only[ajK,amI,ak2,ak3];omega),aH (by simp only[ajK,amI,ak2,ak3];omega),aH (by simp only[ajK,amI,ak2,ak3];omega), ← hag]
   have:=ih (A++[v]) V Y x (by omega) (by simp;omega) (by simp;omega)
   simp only[ak2,ak3,ak7,amk] at this
   show iter n _ _=_
   rw[show A++v::x::(V++Y)=A++[v]++x::V++Y by simp,this]
   simp
theorem ag4 (A:List aq):∀ (n:Nat) (U Y:List aq) (y:aq),U.length<n→(A++U++y::Y).length<1000000000→
 iter (X:=eG) (β:=eU) n ((A.length:Int),((A.length+U.length:Nat):Int),A++U++y::Y,()) eF=some (Sum.inr (A++y::U++Y,())):=by
 intro n
 induction n with
 | zero=>intro U Y y h;omega
 | succ n ih=>
  intro U Y y hn hlen
  rw[dx]
  generalize hag:(fun y=>iter n y eF)=again
  unfold eF
  dsimp only
  simp only[ak2,ak3] at hlen
  rcases List.eq_nil_or_concat U with rfl | ⟨V,u,rfl⟩
  ·rw[aE (by simp)];simp
  ·rw[List.concat_eq_append] at*
   simp only[ak2,ak3,ak7] at hn hlen ⊢
   have e1:w64 (((A.length+(V.length+(0+1)):Nat):Int) - 1)=(((A++V).length:Nat):Int):=by rw[az (by omega) (by omega)];simp;omega
   have e2:((A.length+(V.length+(0+1)):Nat):Int)=(((A++V).length+1:Nat):Int):=by simp;omega
   have el:A++(V++[u])++y::Y=(A++V)++u::y::Y:=by simp
   have hg:(((A++V)++u::y::Y).set ((A++V).length+1) u)[(A++V).length]? =some u:=by rw[akX (by omega),get_at]
   rw[aD (by omega),e1,e2,el]
   simp only[akq,get_at,SP,amq,hg,adk,alb]
   rw[aH (by simp only[ajK,amI,ak2,ak3];omega),aH (by simp only[ajK,amI,ak2,ak3];omega),aH (by simp only[ajK,amI,ak2,ak3];omega),aH (by simp only[ajK,amI,ak2,ak3];omega), ← hag]
   have:=ih V (u::Y) y (by omega) (by simp;omega)
   show iter n _ _=_
   rw[show (((A++V).length:Nat):Int)=((A.length+V.length:Nat):Int) by simp,this]
   simp
theorem XT (hc:BW k ok) (X R Y:List aq) (x:aq) (hlen:(X++[x]++R++Y).length<1000000000) (hR:Srt k R) (hx:ok x) (hok:∀ y∈R,ok y) (n:Nat) (hn:R.length<n):
 ∃ R1 R2,R=R1++R2∧(∀ y∈R1,k y<k x)∧(∀ y∈R2,k x≤k y)∧iter (X:=eZ) (β:=fh) n ((X.length:Int),(),((X.length+1:Nat):Int),((X.length+1+R.length:Nat):Int),X++[x]++R++Y,()) de=some (Sum.inr ((X.length:Int),((X.length+1+R1.length:Nat):Int),X++[x]++R++Y,())):=by
 simp only[ak2,ak3,ak7] at hlen
 have hx0:(X++[x]++R++Y)[X.length]? =some x:=by simp
 have hRt:∀ i (h:i<R.length),(X++[x]++R++Y)[X.length+1+i]? =some R[i]:=fun i h=>afu X [x] R Y h
 obtain⟨r,h1,h2,h3,h4,h5⟩:=bsearch (f:=de) (fun i j=>((X.length:Int),(),(i:Int),(j:Int),X++[x]++R++Y,())) (fun i=>some (Sum.inr ((X.length:Int),(i:Int),X++[x]++R++Y,())))
  (fun t=>k ((R[t - (X.length+1)]?).getD (0,0,false,[]))<k x) (X.length+1) (X.length+1+R.length) (by
    intro i j again hi hij hj
    unfold de
    dsimp only
    have hh:(i+j) / 2 - (X.length+1)<R.length:=by omega
    have hg:=hRt _ hh
    rw[show X.length+1+((i+j) / 2 - (X.length+1))=(i+j) / 2 by omega] at hg
    rw[aD (by omega),SQ i j (by omega)]
    simp only[akq,hg,hx0,amq]
    obtain⟨c,hcc,hlt⟩:=hc R[(i+j) / 2 - (X.length+1)] x (hok _ (ak1 _)) hx
    rw[hcc,aH (by simp only[ajK,amI,ak2,ak3];omega),aH (by simp only[ajK,amI,ak2,ak3];omega),amq,akQ hh]
    dsimp only[Option.getD]
    by_cases hk:k R[(i+j) / 2 - (X.length+1)]<k x
    ·rw[aD (hlt.2 hk),amQ hk,az (by omega) (by omega)];rfl
    ·rw[aE (fun h=>hk (hlt.1 h)),amP hk])
  (by
    intro i again _ _
    unfold de
    dsimp only
    rw[aE (by omega)])
  (by
    intro s t hs hst ht hP
    rw[akQ (by omega)] at hP ⊢
    have:=hR.get (i:=s - (X.length+1)) (j:=t - (X.length+1)) (by omega) (by omega)
    simp only[amr] at hP ⊢
    omega)
  n (X.length+1) (X.length+1+R.length) (by omega) (alZ _) (by omega) (alZ _) (fun t h1 h2=>by omega) (fun t h1 h2=>by omega)
 obtain⟨R1,R2,rfl,hR1⟩:=rR (l:=R) (n:=r - (X.length+1)) (by omega)
 refine⟨R1,R2,rfl, ?_, ?_, ?_⟩
 ·intro y hy
  obtain⟨i,hi,rfl⟩:=aln.1 hy
  have:=h4 (X.length+1+i) (by omega) (by omega)
  rw[show X.length+1+i - (X.length+1)=i by omega,akL hi,akQ hi] at this
  exact this
 ·intro y hy
  obtain⟨i,hi,rfl⟩:=aln.1 hy
  have:=h5 (X.length+1+(R1.length+i)) (by omega) (by simp;omega)
  rw[show X.length+1+(R1.length+i) - (X.length+1)=R1.length+i by omega,akM (by omega),show R1.length+i - R1.length=i by omega,akQ hi] at this
  simp only[amr] at this
  omega
 ·rw[h1,show X.length+1+R1.length=r by omega]
theorem Wk (hc:BW k ok) (X L Y:List aq) (y:aq) (hlen:(X++L++[y]++Y).length<1000000000) (hL:Srt k L) (hy:ok y) (hok:∀ z∈L,ok z) (n:Nat) (hn:L.length<n):
 ∃ L1 L2,L=L1++L2∧(∀ z∈L1,k z≤k y)∧(∀ z∈L2,k y<k z)∧iter (X:=eL) (β:=eV) n (((X.length+L.length:Nat):Int),(),(X.length:Int),((X.length+L.length:Nat):Int),X++L++[y]++Y,()) cW=some (Sum.inr (((X.length+L.length:Nat):Int),((X.length+L1.length:Nat):Int),X++L++[y]++Y,())):=by
 simp only[ak2,ak3,ak7] at hlen
 have hy0:(X++L++[y]++Y)[X.length+L.length]? =some y:=by
  have:=afu X L [y] Y (i:=0) (by simp)
  simpa using this
 have hLt:∀ i (h:i<L.length),(X++L++[y]++Y)[X.length+i]? =some L[i]:=fun i h=>aiq X L [y] Y h
 obtain⟨r,h1,h2,h3,h4,h5⟩:=bsearch (f:=cW) (fun i j=>(((X.length+L.length:Nat):Int),(),(i:Int),(j:Int),X++L++[y]++Y,())) (fun i=>some (Sum.inr (((X.length+L.length:Nat):Int),(i:Int),X++L++[y]++Y,())))
  (fun t=>¬ k y<k ((L[t - X.length]?).getD (0,0,false,[]))) X.length (X.length+L.length) (by
    intro i j again hi hij hj
    unfold cW
    dsimp only
    have hh:(i+j) / 2 - X.length<L.length:=by omega
    have hg:=hLt _ hh
    rw[show X.length+((i+j) / 2 - X.length)=(i+j) / 2 by omega] at hg
    rw[aD (by omega),SQ i j (by omega)]
    simp only[akq,hg,hy0,amq]
    obtain⟨c,hcc,hlt⟩:=hc y L[(i+j) / 2 - X.length] hy (hok _ (ak1 _))
    rw[hcc,aH (by simp only[ajK,amI,ak2,ak3];omega),aH (by simp only[ajK,amI,ak2,ak3];omega),amq,akQ hh]
    dsimp only[Option.getD]
    by_cases hk:k y<k L[(i+j) / 2 - X.length]
    ·rw[amH (hlt.2 hk),ajW,amD,amP (fun h=>h hk)]
    ·rw[amG (fun h=>hk (hlt.1 h)),ajV,amE,amQ hk,az (by omega) (by omega)];rfl)
  (by
    intro i again _ _
    unfold cW
    dsimp only
    rw[aE (by omega)])
  (by
    intro s t hs hst ht hP
    rw[akQ (by omega)] at hP ⊢
    have:=hL.get (i:=s - X.length) (j:=t - X.length) (by omega) (by omega)
    simp only[amr] at hP ⊢
    omega)
  n X.length (X.length+L.length) (by omega) (alZ _) (by omega) (alZ _) (fun t h1 h2=>by omega) (fun t h1 h2=>by omega)
 obtain⟨L1,L2,rfl,hL1⟩:=rR (l:=L) (n:=r - X.length) (by omega)
 refine⟨L1,L2,rfl, ?_, ?_, ?_⟩
 ·intro z hz
  obtain⟨i,hi,rfl⟩:=aln.1 hz
  have:=h4 (X.length+i) (by omega) (by omega)
  rw[show X.length+i - X.length=i by omega,akL hi,akQ hi] at this
  simp only[amr] at this
  omega
 ·intro z hz
  obtain⟨i,hi,rfl⟩:=aln.1 hz
  have:=h5 (X.length+(L1.length+i)) (by omega) (by simp;omega)
  rw[show X.length+(L1.length+i) - X.length=L1.length+i by omega,akM (by omega),show L1.length+i - L1.length=i by omega,akQ hi] at this
  simp only[amr] at this
  omega
 ·rw[h1,show X.length+L1.length=r by omega]
theorem acg (hc:BW k ok) (X L R Y:List aq) (hlen:(X++L++R++Y).length<1000000000) (hL:Srt k L) (hR:Srt k R) (hokL:∀ z∈L,ok z) (hokR:∀ z∈R,ok z) (mid lo hi:Nat) (hmid:mid=(X.length+(X.length+L.length+R.length)) / 2)
 (hcase:(mid<X.length+L.length∧lo+R.length=mid∧hi=mid∧X.length≤lo)∨(X.length+L.length≤mid∧lo=X.length∧hi=X.length+L.length)) (n:Nat) (hn:hi<n):
 ∃ s:Nat,iter (X:=eH) (β:=eM) n ((X.length:Int),((X.length+L.length:Nat):Int),((X.length+L.length+R.length:Nat):Int),(),(mid:Int),((mid+(X.length+L.length):Nat):Int),(lo:Int),(hi:Int),((mid+(X.length+L.length):Nat):Int) - 1,X++L++R++Y,()) cU=some (Sum.inr ((X.length:Int),((X.length+L.length:Nat):Int),((X.length+L.length+R.length:Nat):Int),(),(mid:Int),((mid+(X.length+L.length):Nat):Int),(s:Int),X++L++R++Y,()))∧
  lo≤s∧s≤hi∧(∀ i j (_:i<L.length) (_:j<R.length),X.length+i+1=s→j+s=mid→k L[i]≤k R[j])∧(∀ i j (_:i<L.length) (_:j<R.length),X.length+i=s→j+1+s=mid→k R[j]<k L[i]):=by
 simp only[ak2] at hlen
 have hLt:∀ i (h:i<L.length),(X++L++R++Y)[X.length+i]? =some L[i]:=fun i h=>aiq X L R Y h
 have hRt:∀ i (h:i<R.length),(X++L++R++Y)[X.length+L.length+i]? =some R[i]:=fun i h=>afu X L R Y h
 obtain⟨r,h1,h2,h3,h4,h5⟩:=bsearch (f:=cU) (fun i j=>((X.length:Int),((X.length+L.length:Nat):Int),((X.length+L.length+R.length:Nat):Int),(),(mid:Int),((mid+(X.length+L.length):Nat):Int),(i:Int),(j:Int),((mid+(X.length+L.length):Nat):Int) - 1,X++L++R++Y,()))
  (fun s=>some (Sum.inr ((X.length:Int),((X.length+L.length:Nat):Int),((X.length+L.length+R.length:Nat):Int),(),(mid:Int),((mid+(X.length+L.length):Nat):Int),(s:Int),X++L++R++Y,())))
  (fun t=>¬ k ((R[mid - 1 - t]?).getD (0,0,false,[]))<k ((L[t - X.length]?).getD (0,0,false,[]))) lo hi (by
    intro i j again hi1 hij hj
    unfold cU
    dsimp only
    generalize hh0:(i+j) / 2=h
    have hhL:h - X.length<L.length:=by omega
    have hhR:mid - 1 - h<R.length:=by omega
    have hg:=hLt _ hhL
    rw[show X.length+(h - X.length)=h by omega] at hg
    have hg2:=hRt _ hhR
    rw[aD (by omega),SQ i j (by omega),hh0]
    have e1:w64 (((mid+(X.length+L.length):Nat):Int) - 1 - (h:Int))=((X.length+L.length+(mid - 1 - h):Nat):Int):=by rw[az (by omega) (by omega)];omega
    rw[e1]
    simp only[akq,hg,hg2,amq]
    obtain⟨c,hcc,hlt⟩:=hc R[mid - 1 - h] L[h - X.length] (hokR _ (ak1 _)) (hokL _ (ak1 _))
    rw[hcc,aH (by simp only[ajK,amI,ak2];omega),aH (by simp only[ajK,amI,ak2];omega),amq,akQ hhL,akQ hhR]
    dsimp only[Option.getD]
    by_cases hk:k R[mid - 1 - h]<k L[h - X.length]
    ·rw[amH (hlt.2 hk),ajW,amD,amP (fun h=>h hk)]
    ·rw[amG (fun h=>hk (hlt.1 h)),ajV,amE,amQ hk,az (by omega) (by omega)];rfl)
  (by
    intro i again _ _
    unfold cU
    dsimp only
    rw[aE (by omega)])
  (by
    intro s t hs hst ht hP
    rw[akQ (show t - X.length<L.length by omega),akQ (show mid - 1 - t<R.length by omega)] at hP
    rw[akQ (show s - X.length<L.length by omega),akQ (show mid - 1 - s<R.length by omega)]
    have a1:=hL.get (i:=s - X.length) (j:=t - X.length) (by omega) (by omega)
    have a2:=hR.get (i:=mid - 1 - t) (j:=mid - 1 - s) (by omega) (by omega)
    simp only[amr] at hP ⊢
    omega)
  n lo hi (by omega) (alZ _) (by omega) (alZ _) (fun t h1 h2=>by omega) (fun t h1 h2=>by omega)
 refine⟨r,h1,h2,h3, ?_, ?_⟩
 ·intro i j hi' hj' e1 e2
  have:=h4 (X.length+i) (by omega) (by omega)
  rw[show X.length+i - X.length=i by omega,show mid - 1 - (X.length+i)=j by omega,akQ hi',akQ hj'] at this
  simp only[amr] at this
  omega
 ·intro i j hi' hj' e1 e2
  have:=h5 (X.length+i) (by omega) (by omega)
  rw[show X.length+i - X.length=i by omega,show mid - 1 - (X.length+i)=j by omega,akQ hi',akQ hj'] at this
  simp only[amr] at this
  omega
def aaZ (self:((List aq)×Int×Int×Int×Unit×Unit)→Option ((List aq)×Unit)) (x:(List aq)×Int×Int×Int×Unit×Unit):=cc self x.1 x.2.1 x.2.2.1 x.2.2.2.1 x.2.2.2.2.1
set_option maxHeartbeats 4000000 in
theorem ab1 (hc:BW k ok):∀ (n:Nat) (X L R Y:List aq),L.length+R.length<n+2→0<L.length→0<R.length→(X++L++R++Y).length<1000000000→Srt k L→Srt k R→(∀ z∈L,ok z)→(∀ z∈R,ok z)→
 ∃ S,FI aaZ n (X++L++R++Y,(X.length:Int),((X.length+L.length:Nat):Int),((X.length+L.length+R.length:Nat):Int),(),())=some (X++S++Y,())∧Srt k S∧cQ k (L++R) S:=by
 intro n
 induction n with
 | zero=>intro X L R Y h h1 h2;omega
 | succ n ih=>
  intro X L R Y hn hL0 hR0 hlen hL hR hokL hokR
  have hlen':=hlen
  simp only[ak2] at hlen
  show ∃ S,aaZ (FI aaZ n) _=_∧_
  generalize hself:FI aaZ n=self at ih
  unfold aaZ cc
  dsimp only
  have e1:w64 (((X.length+L.length:Nat):Int) - (X.length:Int))=(L.length:Int):=by rw[az (by omega) (by omega)];omega
  have e2:w64 (((X.length+L.length+R.length:Nat):Int) - ((X.length+L.length:Nat):Int))=(R.length:Int):=by rw[az (by omega) (by omega)];omega
  rw[e1,e2]
  by_cases hL1:L.length=1
  ·obtain⟨x,rfl⟩:∃ x,L=[x]:=List.length_eq_one_iff.1 hL1
   rw[show ((([x].length:Nat):Int)==1)=true by simp,amE]
   obtain⟨R1,R2,rfl,h1,h2,h3⟩:=XT hc X R Y x hlen' hR (hokL x (by simp)) hokR (Int.natAbs (X.length:Int)+(Int.natAbs ((X.length+[x].length:Nat):Int)+(Int.natAbs ((X.length+[x].length+R.length:Nat):Int)+(List.length (X++[x]++R++Y)+2)))) (by simp;omega)
   simp only[ak3,ak7,amk] at h3 ⊢
   rw[h3,aF]
   dsimp only
   have hmv:=aiV (X.length+1+R1.length) (Int.natAbs ((X.length+1+R1.length:Nat):Int)+(Int.natAbs (X.length:Int)+(List.length (X++[x]++(R1++R2)++Y)+2))) X R1 (R2++Y) x (by simp;omega) rfl (by simp at hlen ⊢;omega)
   rw[show X++x::R1++(R2++Y)=X++[x]++(R1++R2)++Y by simp] at hmv
   rw[hmv,aF]
   refine⟨R1++x::R2,by simp, ?_, ?_⟩
   ·exact hR.left.append (alB.2 ⟨h2,hR.right⟩) (fun y hy z hz=>by
     rcases ali.1 hz with rfl | hz
     ·have:=h1 y hy;omega
     ·exact hR.SY y hy z hz)
   ·have:=(cQ.swap (k:=k) (u:=[x]) (v:=R1) (fun y hy z hz=>by rw[alx.1 hy];have:=h1 z hz;omega)).append (cQ.refl k R2)
    simpa using this
  ·rw[show (((L.length:Nat):Int)==1)=false by simp;omega,amD]
   by_cases hR1:R.length=1
   ·obtain⟨y,rfl⟩:∃ x,R=[x]:=List.length_eq_one_iff.1 hR1
    rw[show ((([y].length:Nat):Int)==1)=true by simp,amE]
    obtain⟨L1,L2,rfl,h1,h2,h3⟩:=Wk hc X L Y y hlen' hL (hokR y (by simp)) hokL (Int.natAbs ((X.length+L.length:Nat):Int)+(Int.natAbs (X.length:Int)+(Int.natAbs ((X.length+L.length:Nat):Int)+(List.length (X++L++[y]++Y)+2)))) (by omega)
    rw[h3,aF]
    dsimp only
    have hmv:=ag4 (X++L1) (Int.natAbs ((X.length+L1.length:Nat):Int)+(Int.natAbs ((X.length+(L1++L2).length:Nat):Int)+(List.length (X++(L1++L2)++[y]++Y)+2))) L2 Y y (by simp;omega) (by simp at hlen ⊢;omega)
    rw[show X++L1++L2++y::Y=X++(L1++L2)++[y]++Y by simp,show (((X++L1).length:Nat):Int)=((X.length+L1.length:Nat):Int) by simp,show (((X++L1).length+L2.length:Nat):Int)=((X.length+(L1++L2).length:Nat):Int) by simp;omega] at hmv
    rw[hmv,aF]
    refine⟨L1++y::L2,by simp, ?_, ?_⟩
    ·exact hL.left.append (alB.2 ⟨fun z hz=>by have:=h2 z hz;omega,hL.right⟩) (fun z hz w hw=>by
      rcases ali.1 hw with rfl | hw
      ·exact h1 z hz
      ·exact hL.SY z hz w hw)
    ·have:=(cQ.refl k L1).append (cQ.swap (k:=k) (u:=L2) (v:=[y]) (fun z hz w hw=>by rw[alx.1 hw];have:=h2 z hz;omega))
     simpa using this
   ·rw[show (((R.length:Nat):Int)==1)=false by simp;omega,amD]
    have eh:=SQ X.length (X.length+L.length+R.length) (by omega)
    rw[eh]
    generalize hmid:(X.length+(X.length+L.length+R.length)) / 2=mid
    have e3:w64 ((mid:Int)+((X.length+L.length:Nat):Int))=((mid+(X.length+L.length):Nat):Int):=by rw[az (by omega) (by omega)];omega
    rw[e3]
    obtain⟨lo,hi,hcase,hv⟩:∃ lo hi:Nat,((mid<X.length+L.length∧lo+R.length=mid∧hi=mid∧X.length≤lo)∨(X.length+L.length≤mid∧lo=X.length∧hi=X.length+L.length))∧
     (bif decide (((X.length+L.length:Nat):Int)>(mid:Int)) then
       (some (Sum.inr ((X.length:Int),((X.length+L.length:Nat):Int),((X.length+L.length+R.length:Nat):Int),(),(mid:Int),((mid+(X.length+L.length):Nat):Int),w64 (((mid+(X.length+L.length):Nat):Int) - ((X.length+L.length+R.length:Nat):Int)),(mid:Int),X++L++R++Y,())):Option (((List aq)×Unit) ⊕ (Int×Int×Int×Unit×Int×Int×Int×Int×(List aq)×Unit)))
     else some (Sum.inr ((X.length:Int),((X.length+L.length:Nat):Int),((X.length+L.length+R.length:Nat):Int),(),(mid:Int),((mid+(X.length+L.length):Nat):Int),(X.length:Int),((X.length+L.length:Nat):Int),X++L++R++Y,())))=some (Sum.inr ((X.length:Int),((X.length+L.length:Nat):Int),((X.length+L.length+R.length:Nat):Int),(),(mid:Int),((mid+(X.length+L.length):Nat):Int),(lo:Int),(hi:Int),X++L++R++Y,())):=by
     by_cases hm:mid<X.length+L.length
     ·refine⟨mid - R.length,mid,.inl ⟨hm,by omega,rfl,by omega⟩, ?_⟩
      rw[aD (by omega),az (by omega) (by omega),show ((mid+(X.length+L.length):Nat):Int) - ((X.length+L.length+R.length:Nat):Int)=((mid - R.length:Nat):Int) by omega]
     ·refine⟨X.length,X.length+L.length,.inr ⟨by omega,rfl,rfl⟩, ?_⟩
      rw[aE (by omega)]
    rw[hv,aF]
    dsimp only
    have e4:w64 (((mid+(X.length+L.length):Nat):Int) - 1)=((mid+(X.length+L.length):Nat):Int) - 1:=az (by omega) (by omega)
    rw[e4]
    obtain⟨s,h1,h2,h3,hF2,hF1⟩:=acg hc X L R Y hlen' hL hR hokL hokR mid lo hi hmid.symm hcase (Int.natAbs (X.length:Int)+(Int.natAbs ((X.length+L.length:Nat):Int)+(Int.natAbs ((X.length+L.length+R.length:Nat):Int)+(Int.natAbs (mid:Int)+(Int.natAbs ((mid+(X.length+L.length):Nat):Int)+(Int.natAbs (lo:Int)+(Int.natAbs (hi:Int)+(Int.natAbs (((mid+(X.length+L.length):Nat):Int) - 1)+(List.length (X++L++R++Y)+2))))))))) (by omega)
    rw[h1,aF]
    dsimp only
    clear h1 hv
    obtain⟨L1,L2,rfl,hL1l⟩:=rR (l:=L) (n:=s - X.length) (by omega)
    obtain⟨R1,R2,rfl,hR1l⟩:=rR (l:=R) (n:=mid - s) (by simp only[ak2] at *;omega)
    simp only[ak2] at hn hlen hL1 hR1 hmid hcase e1 e2 e3 e4 eh hL0 hR0
    have F1:∀ y∈R1,∀ z∈L2,k y<k z:=by
     intro y hy z hz
     have hr0:0<R1.length:=ak8 hy
     have hl0:0<L2.length:=ak8 hz
     have:=hF1 L1.length (R1.length - 1) (by simp;omega) (by simp;omega) (by omega) (by omega)
     rw[List.getElem_append_left (show R1.length - 1<R1.length by omega),List.getElem_append_right (by omega)] at this
     obtain⟨i,hi',rfl⟩:=aln.1 hy
     obtain⟨j,hj',rfl⟩:=aln.1 hz
     have a1:=hR.left.get (i:=i) (j:=R1.length - 1) (by omega) (by omega)
     have a2:=hL.right.get (i:=L1.length - L1.length) (j:=j) (by omega) hj'
     omega
    have F2:∀ y∈L1,∀ z∈R2,k y≤k z:=by
     intro y hy z hz
     have hr0:0<L1.length:=ak8 hy
     have hl0:0<R2.length:=ak8 hz
     have:=hF2 (L1.length - 1) R1.length (by simp;omega) (by simp;omega) (by omega) (by omega)
     rw[List.getElem_append_left (show L1.length - 1<L1.length by omega),List.getElem_append_right (by omega)] at this
     obtain⟨i,hi',rfl⟩:=aln.1 hy
     obtain⟨j,hj',rfl⟩:=aln.1 hz
     have a1:=hL.left.get (i:=i) (j:=L1.length - 1) (by omega) (by omega)
     have a2:=hR.right.get (i:=R1.length - R1.length) (j:=j) (by omega) hj'
     omega
    have e5:w64 (((mid+(X.length+(L1++L2).length):Nat):Int) - (s:Int))=((X.length+(L1++L2).length+R1.length:Nat):Int):=by
     rw[az (by simp;omega) (by simp;omega)];simp only[ak2];omega
    rw[e5]
    have hokL1:∀ z∈L1,ok z:=fun z hz=>hokL z (by simp[hz])
    have hokL2:∀ z∈L2,ok z:=fun z hz=>hokL z (by simp[hz])
    have hokR1:∀ z∈R1,ok z:=fun z hz=>hokR z (by simp[hz])
    have hokR2:∀ z∈R2,ok z:=fun z hz=>hokR z (by simp[hz])
    have ph1:∃ S1,(X.length<s→s<mid→self (X++L1++R1++(L2++R2++Y),(X.length:Int),(s:Int),(mid:Int),(),())=some (X++S1++(L2++R2++Y),()))∧(¬(X.length<s∧s<mid)→S1=L1++R1)∧Srt k S1∧cQ k (L1++R1) S1:=by
     by_cases hb:X.length<s∧s<mid
     ·obtain⟨S1,g1,g2,g3⟩:=ih X L1 R1 (L2++R2++Y) (by omega) (by omega) (by omega) (by simp;omega) hL.left hR.left hokL1 hokR1
      rw[show ((X.length+L1.length:Nat):Int)=(s:Int) by omega,show ((X.length+L1.length+R1.length:Nat):Int)=(mid:Int) by omega] at g1
      exact⟨S1,fun _ _=>g1,fun h=>absurd hb h,g2,g3⟩
     ·refine⟨L1++R1,fun h1 h2=>absurd ⟨h1,h2⟩ hb,fun _=>rfl, ?_,cQ.refl _ _⟩
      rcases (show L1.length=0∨R1.length=0 by omega) with h | h
      ·rw[akG h];exact hR.left
      ·rw[akG h,akx];exact hL.left
    obtain⟨S1,hS1a,hS1b,hS1s,hS1e⟩:=ph1
    have hS1l:S1.length=L1.length+R1.length:=by rw[hS1e.length];simp
    have ph2:∃ S2,(bif decide ((mid:Int)<((X.length+(L1++L2).length+R1.length:Nat):Int)) then
     bif decide (((X.length+(L1++L2).length+R1.length:Nat):Int)<((X.length+(L1++L2).length+(R1++R2).length:Nat):Int)) then
      Option.bind (self (X++S1++(L2++R2++Y),(mid:Int),((X.length+(L1++L2).length+R1.length:Nat):Int),((X.length+(L1++L2).length+(R1++R2).length:Nat):Int),(),())) fun r38=>some (r38.1,())
     else some (X++S1++(L2++R2++Y),())
     else some (X++S1++(L2++R2++Y),()))=some (X++(S1++S2)++Y,())∧Srt k S2∧cQ k (L2++R2) S2:=by
     simp only[ak2]
     by_cases hb1:0<L2.length
     ·rw[aD (by omega)]
      by_cases hb2:0<R2.length
      ·rw[aD (by omega)]
       obtain⟨S2,g1,g2,g3⟩:=ih (X++S1) L2 R2 Y (by omega) hb1 hb2 (by simp;omega) hL.right hR.right hokL2 hokR2
       rw[show (((X++S1).length:Nat):Int)=(mid:Int) by simp;omega,show (((X++S1).length+L2.length:Nat):Int)=((X.length+(L1.length+L2.length)+R1.length:Nat):Int) by simp;omega,show (((X++S1).length+L2.length+R2.length:Nat):Int)=((X.length+(L1.length+L2.length)+(R1.length+R2.length):Nat):Int) by simp;omega] at g1
       rw[show X++S1++(L2++R2++Y)=X++S1++L2++R2++Y by simp,g1]
       exact⟨S2,by simp,g2,g3⟩
      ·have:R2=[]:=akG (by omega)
       subst this
       rw[aE (by simp)]
       exact⟨L2,by simp,hL.right,by simpa using cQ.refl k L2⟩
     ·have:L2=[]:=akG (by omega)
      subst this
      rw[aE (by simp;omega)]
      exact⟨R2,by simp,hR.right,cQ.refl _ _⟩
    obtain⟨S2,hE2,hS2s,hS2e⟩:=ph2
    have fin:Srt k (S1++S2)∧cQ k (L1++L2++(R1++R2)) (S1++S2):=by
     constructor
     ·refine hS1s.append hS2s fun y hy z hz=> ?_
      rcases alh.1 (hS1e.mem.1 hy) with h | h<;>rcases alh.1 (hS2e.mem.1 hz) with h' | h'
      ·exact hL.SY y h z h'
      ·exact F2 y h z h'
      ·have:=F1 y h z h';omega
      ·exact hR.SY y h z h'
     ·have h1:cQ k (L1++(L2++R1)++R2) (L1++(R1++L2)++R2):=((cQ.refl k L1).append (cQ.swap fun y hy z hz=>by have:=F1 z hz y hy;omega)).append (cQ.refl k R2)
      have h2:=hS1e.append hS2e
      have h3:cQ k (L1++L2++(R1++R2)) (L1++R1++(L2++R2)):=by simpa using h1
      exact h3.trans h2
    refine⟨S1++S2, ?_,fin.1,fin.2⟩
    have hsL:((X.length+(L1++L2).length:Nat):Int)=((X.length+L1.length+L2.length:Nat):Int):=by simp;omega
    have tail:∀ (D:List aq),D=X++L1++R1++(L2++R2++Y)→
     (bif decide ((X.length:Int)<(s:Int)) then
       aO (β:=((List aq)×Unit)) (γ:=(Int×Unit×Int×Int×(List aq)×Unit)) (
        bif decide ((s:Int)<(mid:Int)) then
         Option.bind (self (D,(X.length:Int),(s:Int),(mid:Int),(),())) fun r35=>
         some (Sum.inr (((X.length+(L1++L2).length+(R1++R2).length:Nat):Int),(),(mid:Int),((X.length+(L1++L2).length+R1.length:Nat):Int),r35.1,()))
        else
         some (Sum.inr (((X.length+(L1++L2).length+(R1++R2).length:Nat):Int),(),(mid:Int),((X.length+(L1++L2).length+R1.length:Nat):Int),D,()))) fun v36=>
       bif decide (v36.2.2.1<v36.2.2.2.1) then
        bif decide (v36.2.2.2.1<v36.1) then
         Option.bind (self (v36.2.2.2.2.1,v36.2.2.1,v36.2.2.2.1,v36.1,v36.2.1,())) fun r37=>
         some (r37.1,())
        else
         some (v36.2.2.2.2.1,())
       else
        some (v36.2.2.2.2.1,())
     else
      bif decide ((mid:Int)<((X.length+(L1++L2).length+R1.length:Nat):Int)) then
       bif decide (((X.length+(L1++L2).length+R1.length:Nat):Int)<((X.length+(L1++L2).length+(R1++R2).length:Nat):Int)) then
        Option.bind (self (D,(mid:Int),((X.length+(L1++L2).length+R1.length:Nat):Int),((X.length+(L1++L2).length+(R1++R2).length:Nat):Int),(),())) fun r38=>
        some (r38.1,())
       else
        some (D,())
      else
       some (D,()))=some (X++(S1++S2)++Y,()):=by
     intro D hD
     by_cases hb1:X.length<s
     ·rw[aD (by omega)]
      by_cases hb2:s<mid
      ·rw[aD (by omega),hD,hS1a hb1 hb2,amq,aF]
       exact hE2
      ·rw[aE (by omega),aF,hD]
       have:X++L1++R1++(L2++R2++Y)=X++S1++(L2++R2++Y):=by rw[hS1b (fun h=>hb2 h.2)];simp
       rw[this]
       exact hE2
     ·rw[aE (by omega),hD]
      have:X++L1++R1++(L2++R2++Y)=X++S1++(L2++R2++Y):=by rw[hS1b (fun h=>hb1 h.1)];simp
      rw[this]
      exact hE2
    by_cases hsm:s<X.length+(L1++L2).length
    ·rw[aD (by omega)]
     by_cases hme:0<R1.length
     ·have hrot:=ag3 (X++L1) L2 R1 (R2++Y) (by simp at hsm;omega) hme (by simp;omega)
      rw[show (((X++L1).length:Nat):Int)=(s:Int) by simp;omega,show (((X++L1).length+L2.length:Nat):Int)=((X.length+(L1++L2).length:Nat):Int) by simp;omega,show (((X++L1).length+L2.length+R1.length:Nat):Int)=((X.length+(L1++L2).length+R1.length:Nat):Int) by simp;omega,
       show X++L1++L2++R1++(R2++Y)=X++(L1++L2)++(R1++R2)++Y by simp] at hrot
      rw[aD (by omega),hrot,amq,aF]
      exact tail _ (by simp)
     ·have:R1=[]:=akG (by omega)
      subst this
      rw[aE (by simp),aF]
      exact tail _ (by simp)
    ·rw[aE (by omega)]
     have:L2=[]:=akG (by simp at hsm;omega)
     subst this
     exact tail _ (by simp)
theorem Ua (hc:BW k ok) (X L R Y:List aq) (h1:0<L.length) (h2:0<R.length) (hlen:(X++L++R++Y).length<1000000000) (hL:Srt k L) (hR:Srt k R) (hokL:∀ z∈L,ok z) (hokR:∀ z∈R,ok z):
 ∃ S,dO (X++L++R++Y) (X.length:Int) ((X.length+L.length:Nat):Int) ((X.length+L.length+R.length:Nat):Int) ()=some (X++S++Y,())∧Srt k S∧cQ k (L++R) S:=by
 unfold dO
 exact ab1 hc _ X L R Y (by unfold iw;simp only[ak2];omega) h1 h2 hlen hL hR hokL hokR
theorem abx (hc:BW k ok) (N:Nat) (hN:N<100000000):∀ (n:Nat) (A Z:List aq) (j:Nat),A.length=j*20→A.length+Z.length=N→Z.length<n→ChS k 20 A→(∀ z∈A,ok z)→(∀ z∈Z,ok z)→
 ∃ A' Z' j',iter (X:=fZ) (β:=fO) n ((N:Int),(),20,(A.length:Int),((A.length+20:Nat):Int),A++Z,()) fX=some (Sum.inr ((N:Int),(),20,(A'.length:Int),A'++Z',()))∧A'.length=j'*20∧Z'.length<20∧ChS k 20 A'∧cQ k (A++Z) (A'++Z'):=by
 intro n
 induction n with
 | zero=>intro A Z j _ _ h;omega
 | succ n ih=>
  intro A Z j hA hAZ hn hch hokA hokZ
  rw[dx]
  generalize hag:(fun y=>iter n y fX)=again
  unfold fX
  dsimp only
  by_cases hb:20≤Z.length
  ·rw[aD (by omega)]
   obtain⟨S,Y,rfl,hS⟩:=rR (l:=Z) (n:=20) hb
   simp only[ak2] at hAZ hn
   obtain⟨S',g1,g2,g3⟩:=Rl hc A S Y (by simp;omega) (fun z hz=>hokZ z (by simp[hz]))
   rw[hS] at g1
   rw[show A++(S++Y)=A++S++Y by simp,g1,amq]
   dsimp only
   have hS':S'.length=20:=by rw[g3.length,hS]
   have e1:w64 (((A.length+20:Nat):Int)+20)=(((A++S').length+20:Nat):Int):=by rw[az (by omega) (by omega)];simp;omega
   rw[e1,show ((A.length+20:Nat):Int)=(((A++S').length:Nat):Int) by simp;omega, ← hag]
   obtain⟨A',Z',j',h1,h2,h3,h4,h5⟩:=ih (A++S') Y (j+1) (by simp;omega) (by simp;omega) (by omega) (hch.snoc hA g2 (by omega)) (fun z hz=>by
    rcases alh.1 hz with h | h
    ·exact hokA z h
    ·exact hokZ z (by simp[g3.mem.1 h])) (fun z hz=>hokZ z (by simp[hz]))
   refine⟨A',Z',j',h1,h2,h3,h4, ?_⟩
   have:cQ k (A++S++Y) (A++S'++Y):=((cQ.refl k A).append g3).append (cQ.refl k Y)
   exact this.trans h5
  ·rw[aE (by omega)]
   exact⟨A,Z,j,rfl,hA,by omega,hch,cQ.refl _ _⟩
theorem aeL (hc:BW k ok) (N bs:Nat) (hN:N<100000000) (hbs:0<bs) (hbN:bs<N):∀ (n:Nat) (A Z:List aq) (j:Nat),A.length=j*(2*bs)→A.length+Z.length=N→Z.length<n→ChS k (2*bs) A→ChS k bs Z→(∀ z∈A,ok z)→(∀ z∈Z,ok z)→
 ∃ A' Z' j',iter (X:=fU) (β:=gj) n ((N:Int),(),(bs:Int),(A.length:Int),((A.length+2*bs:Nat):Int),A++Z,()) fP=some (Sum.inr ((N:Int),(),(bs:Int),(A'.length:Int),A'++Z',()))∧A'.length=j'*(2*bs)∧Z'.length<2*bs∧ChS k (2*bs) A'∧ChS k bs Z'∧cQ k (A++Z) (A'++Z'):=by
 intro n
 induction n with
 | zero=>intro A Z j _ _ h;omega
 | succ n ih=>
  intro A Z j hA hAZ hn hch hcz hokA hokZ
  rw[dx]
  generalize hag:(fun y=>iter n y fP)=again
  unfold fP
  dsimp only
  by_cases hb:2*bs≤Z.length
  ·rw[aD (by omega)]
   obtain⟨L,Z1,rfl,hL⟩:=rR (l:=Z) (n:=bs) (by omega)
   obtain⟨R,Y,rfl,hR⟩:=rR (l:=Z1) (n:=bs) (by simp at hb;omega)
   simp only[ak2] at hAZ hn hb
   have sL:Srt k L:=by
    have:=hcz 0
    rw[amo,akF, ← hL,alM] at this
    exact this
   have sR:Srt k R:=by
    have:=hcz 1
    rw[amf] at this
    conv at this=>arg 2;rw[show bs=L.length by omega,akD,show L.length=R.length by omega,alM]
    exact this
   have cY:ChS k bs Y:=by
    have:=hcz.drop 2
    rw[show L++(R++Y)=(L++R)++Y by simp,show 2*bs=(L++R).length by simp;omega,akD] at this
    exact this
   obtain⟨S,g1,g2,g3⟩:=Ua hc A L R Y (by omega) (by omega) (by simp;omega) sL sR (fun z hz=>hokZ z (by simp[hz])) (fun z hz=>hokZ z (by simp[hz]))
   have e0:w64 ((A.length:Int)+(bs:Int))=((A.length+L.length:Nat):Int):=by rw[az (by omega) (by omega)];omega
   rw[e0,show ((A.length+2*bs:Nat):Int)=((A.length+L.length+R.length:Nat):Int) by omega,show A++(L++(R++Y))=A++L++R++Y by simp,g1,amq]
   dsimp only
   have hSl:S.length=2*bs:=by rw[g3.length];simp;omega
   have e1:w64 (((A.length+L.length+R.length:Nat):Int)+w64 (2*(bs:Int)))=(((A++S).length+2*bs:Nat):Int):=by
    rw[az (n:=2*(bs:Int)) (by omega) (by omega),az (by omega) (by omega)];simp;omega
   rw[e1,show ((A.length+L.length+R.length:Nat):Int)=(((A++S).length:Nat):Int) by simp;omega, ← hag]
   obtain⟨A',Z',j',h1,h2,h3,h4,h5,h6⟩:=ih (A++S) Y (j+1) (by rw[ak2,hA,hSl,alQ,amf]) (by simp;omega) (by omega) (hch.snoc hA g2 (by omega)) cY (fun z hz=>by
    rcases alh.1 hz with h | h
    ·exact hokA z h
    ·rcases alh.1 (g3.mem.1 h) with h | h<;>exact hokZ z (by simp[h])) (fun z hz=>hokZ z (by simp[hz]))
   refine⟨A',Z',j',h1,h2,h3,h4,h5, ?_⟩
   have:cQ k (A++(L++R)++Y) (A++S++Y):=((cQ.refl k A).append g3).append (cQ.refl k Y)
   have h7:=this.trans h6
   simpa using h7
  ·rw[aE (by omega)]
   exact⟨A,Z,j,rfl,hA,by omega,hch,hcz,cQ.refl _ _⟩
theorem adV (hc:BW k ok) (N:Nat) (hN:N<100000000):∀ (n bs:Nat) (l:List aq),l.length=N→0<bs→N<bs+n∧0<n→bs<400000000→ChS k bs l→(∀ z∈l,ok z)→
 ∃ l',iter (X:=fL) (β:=fY) n ((N:Int),(),(bs:Int),l,()) gf=some (Sum.inr (l',()))∧Srt k l'∧cQ k l l':=by
 intro n
 induction n with
 | zero=>
  intro bs l hl hbs hn hb2 hch hok
  exact absurd hn (by omega)
 | succ n ih=>
  intro bs l hl hbs hn hb2 hch hok
  rw[dx]
  generalize hag:(fun y=>iter n y gf)=again
  unfold gf
  dsimp only
  by_cases hb:bs<N
  ·rw[aD (by omega)]
   have e0:w64 (2*(bs:Int))=(((([]:List aq).length)+2*bs:Nat):Int):=by rw[az (by omega) (by omega)];simp
   rw[e0,show (0:Int)=((([]:List aq).length:Nat):Int) from rfl]
   obtain⟨A,Z,j,h1,h2,h3,h4,h5,h6⟩:=aeL hc N bs hN hbs hb (Int.natAbs (N:Int)+(Int.natAbs (bs:Int)+(Int.natAbs ((([]:List aq).length:Nat):Int)+(Int.natAbs (((([]:List aq).length)+2*bs:Nat):Int)+(List.length l+2))))) [] l 0 (by simp) (by simpa using hl) (by omega) (ChS.nil _ _) hch (by simp) hok
   rw[aly] at h1 h6
   rw[h1,aF]
   dsimp only
   have hAZ:A.length+Z.length=N:=by have:=h6.length;simp at this;omega
   have hokAZ:∀ z∈A++Z,ok z:=fun z hz=>hok z (h6.mem.1 hz)
   have e1:w64 ((A.length:Int)+(bs:Int))=((A.length+bs:Nat):Int):=by rw[az (by omega) (by omega)];omega
   have e2:w64 ((bs:Int)*2)=((2*bs:Nat):Int):=by rw[az (by omega) (by omega)];omega
   rw[e1,e2]
   by_cases hlast:A.length+bs<N
   ·rw[aD (by omega)]
    obtain⟨L,R,rfl,hL⟩:=rR (l:=Z) (n:=bs) (by omega)
    simp only[ak2] at hAZ h3
    have sL:Srt k L:=by
     have:=h5 0
     rw[amo,akF, ← hL,alM] at this
     exact this
    have sR:Srt k R:=by
     have:=h5 1
     rw[amf] at this
     conv at this=>arg 2;rw[show List.drop bs (L++R)=R by rw[← hL];exact akD,alN (by omega)]
     exact this
    obtain⟨S,g1,g2,g3⟩:=Ua hc A L R [] (by omega) (by omega) (by simp;omega) sL sR (fun z hz=>hokAZ z (by simp[hz])) (fun z hz=>hokAZ z (by simp[hz]))
    simp only[akx] at g1
    rw[show ((A.length+bs:Nat):Int)=((A.length+L.length:Nat):Int) by omega,show ((N:Nat):Int)=((A.length+L.length+R.length:Nat):Int) by omega,show A++(L++R)=A++L++R by simp,g1,amq, ← hag]
    have hsam:cQ k l (A++S):=h6.trans (by simpa using (cQ.refl k A).append g3)
    obtain⟨l',q1,q2,q3⟩:=ih (2*bs) (A++S) (by rw[hsam.length];exact hl) (by omega) ⟨by omega,by omega⟩ (by omega) (h4.snoc h2 g2 (by rw[g3.length];simp;omega)) (fun z hz=>hok z (hsam.mem.1 hz))
    rw[show ((A.length+L.length+R.length:Nat):Int)=((N:Nat):Int) by omega]
    exact⟨l',q1,q2,hsam.trans q3⟩
   ·rw[aE (by omega), ← hag]
    have sZ:Srt k Z:=by
     have:=h5 0
     rw[amo,akF,alN (by omega)] at this
     exact this
    obtain⟨l',q1,q2,q3⟩:=ih (2*bs) (A++Z) (by simp;omega) (by omega) ⟨by omega,by omega⟩ (by omega) (h4.snoc h2 sZ (by omega)) hokAZ
    exact⟨l',q1,q2,h6.trans q3⟩
  ·rw[aE (by omega)]
   refine⟨l,rfl, ?_,cQ.refl _ _⟩
   have:=hch 0
   rw[amo,akF,alN (by omega)] at this
   exact this
theorem aaj (hc:BW k ok) (l:List aq) (hl:l.length<100000000) (hok:∀ z∈l,ok z):∃ l',dW l ()=some (l',())∧Srt k l'∧cQ k l l':=by
 unfold dW ku
 obtain⟨A,Z,j,h1,h2,h3,h4,h5⟩:=abx hc l.length hl (Int.natAbs (l.length:Int)+(Int.natAbs (20:Int)+(Int.natAbs (0:Int)+(Int.natAbs (20:Int)+(List.length l+2))))) [] l 0 (by simp) (by simp) (by omega) (ChS.nil _ _) (by simp) hok
 simp only[ak7,aly] at h1 h5
 rw[show ((0+20:Nat):Int)=20 from rfl,show ((0:Nat):Int)=0 from rfl] at h1
 rw[h1,aF]
 dsimp only
 have hAZ:A.length+Z.length=l.length:=by have:=h5.length;simp at this;omega
 obtain⟨Z',g1,g2,g3⟩:=Rl hc A Z [] (by simp;omega) (fun z hz=>hok z (h5.mem.1 (by simp[hz])))
 simp only[akx] at g1
 rw[show ((A.length+Z.length:Nat):Int)=(l.length:Int) by omega] at g1
 rw[g1,amq]
 dsimp only
 have hsam:cQ k l (A++Z'):=h5.trans ((cQ.refl k A).append g3)
 obtain⟨l',q1,q2,q3⟩:=adV hc l.length hl (Int.natAbs (l.length:Int)+(Int.natAbs (20:Int)+(List.length (A++Z')+2))) 20 (A++Z') hsam.length (by omega) ⟨by omega,by omega⟩ (by omega) (h4.snoc h2 g2 (by rw[g3.length];omega)) (fun z hz=>hok z (hsam.mem.1 hz))
 rw[show ((20:Nat):Int)=20 from rfl] at q1
 rw[q1,aF]
 exact⟨l',rfl,q2,hsam.trans q3⟩
end
end Go.Md.SA
namespace Go.Md
open Go.Dn
structure Bg (ws:List Nat):Prop where
 len:0<ws.length∧ws.length≤20
 le:∀ w∈ws,w≤1000000000
 pos:0<ws.sum
def wI (ws:List Nat):List Int:=ws.map fun (w:Nat)=>(w:Int)
theorem qL (ws:List Nat):(wI ws).length=ws.length:=by simp[wI]
theorem ND {ws:List Nat} {i:Nat} {w:Nat} (h:ws[i]? =some w):(wI ws)[i]? =some (w:Int):=by
 unfold wI;rw[akT,h];rfl
theorem vL {ws:List Nat} {i w:Nat} (h:ws[i]? =some w):(ws.take (i+1)).sum=(ws.take i).sum+w:=by
 rw[alK,h,alH];simp
theorem OQ {c:Nat}:∀ l:List Nat,(∀ x∈l,x≤c)→l.sum≤l.length*c
 | [],_=>by simp
 | x::l,h=>by
  have h1:=OQ l fun y hy=>h y (alj _ hy)
  have h2:=h x alk
  simp only[alI,ak3,alQ,amf];omega
theorem Bg.V8 {ws:List Nat} (h:Bg ws) (i:Nat):(ws.take i).sum≤20000000000:=by
 have h1:=OQ (ws.take i) fun x hx=>h.le x (als hx)
 have h2:(ws.take i).length≤20:=by rw[alc];have:=h.len;omega
 have h3:(ws.take i).length*1000000000≤20*1000000000:=amd _ h2
 omega
theorem Bg.ab7 {ws:List Nat} (h:Bg ws):ws.sum≤20000000000:=by
 have:=h.V8 ws.length
 rwa [alN (alZ _)] at this
theorem Ml {ws:List Nat} (h:Bg ws):qh (wI ws)=some (0,()):=by
 have hl:=h.len
 have loop:∀ f,ws.length<f→iter f ((0,wI ws,((wI ws).length:Int),(0:Int),()):nx) ny=some (Sum.inr ((ws.sum:Int),())):=by
  intro f hf
  rw[qL]
  refine aZ (Inv:=fun i X=>X=((((ws.take i).sum:Nat):Int),wI ws,(ws.length:Int),(i:Int),())) ws.length (fun r=>r=some (Sum.inr ((ws.sum:Int),()))) ?_ ?_ f 0 _ (by simp) (by omega) (by omega)
  ·rintro i _ again hi rfl ih
   unfold ny
   dsimp only
   have hw:ws[i]? =some ws[i]:=aC hi
   have hwl:=h.le _ (ak1 hi)
   generalize ws[i]=w at hw hwl
   have h1:=h.V8 i
   rw[aD (by omega),bf,ND hw,amq,kY,amq]
   dsimp only
   rw[aE (by omega),az (by omega) (by omega),az (by omega) (by omega)]
   refine ih _ ?_
   rw[vL hw]
   simp
  ·rintro _ again rfl
   unfold ny
   dsimp only
   rw[aE (by omega),alN (alZ _)]
 unfold qh
 rw[CS,qL,aE (by omega),aE (by omega)]
 have e:=loop (Int.natAbs (0:Int)+((wI ws).length+(Int.natAbs (((wI ws).length:Nat):Int)+(Int.natAbs (0:Int)+2)))) (by rw[qL];omega)
 rw[qL] at e
 rw[e,aF]
 have:=h.pos
 dsimp only
 rw[show ((ws.sum:Int)==0)=false by simp;omega,amD]
def shE (u:Nat) (ws:List Nat) (j:Nat):aq:=((j:Int),(shQ u ws.sum (ws.getD j 0):Int),W (shR u ws.sum (ws.getD j 0):Int))
def rS (u:Nat) (ws:List Nat) (j:Nat):Nat:=shR u ws.sum (ws.getD j 0)
def kS (u:Nat) (ws:List Nat) (x:aq):Int:= -(rS u ws x.1.toNat:Int)
theorem ait {u:Nat} {ws:List Nat} (h:Bg ws) (j:Nat):rS u ws j<20000000000:=al2 (ama _ h.pos) h.ab7
theorem ajv {u:Nat} {ws:List Nat} (h:Bg ws):SA.BW (kS u ws) (fun x=>∃ j:Nat,x=shE u ws j):=by
 rintro _ _ ⟨i,rfl⟩ ⟨j,rfl⟩
 unfold me shE
 dsimp only
 have h1:=ait (u:=u) h i
 have h2:=ait (u:=u) h j
 unfold rS at h1 h2
 have L:∀ n:Nat,n<20000000000→((n:Int)).natAbs<4294967296 ^ 99:=fun n hn=>(Le.int (by omega) (by omega):Le 19 (n:Int)).w (by omega)
 rw[u5 _ _ (L _ h2) (L _ h1),amq]
 refine⟨_,rfl, ?_⟩
 unfold kS rS
 simp only[akq]
 generalize shR u ws.sum (ws.getD i 0)=a
 generalize shR u ws.sum (ws.getD j 0)=b
 rcases al7 a b with hh | hh | hh
 ·rw[akl (by omega)];omega
 ·subst hh;simp
 ·rw[akk (by omega)];omega
theorem Lg {α:Type} {k:α→Int} {R:α→α→Prop}:∀ {l:List α},Srt k l→(∀ v,(l.filter fun x=>k x==v).Pairwise R)→l.Pairwise fun x y=>k x<k y∨(k x=k y∧R x y)
 | [],_,_=>List.Pairwise.nil
 | x::l,hs,hf=>by
  have hs':=alB.1 hs
  refine alB.2 ⟨fun y hy=> ?_,Lg hs'.2 fun v=> ?_⟩
  ·have h1:=hs'.1 y hy
   by_cases e:k x=k y
   ·refine .inr ⟨e, ?_⟩
    have:=hf (k x)
    rw[List.filter_cons_of_pos (by simp)] at this
    exact (alB.1 this).1 y (List.mem_filter.2 ⟨hy,by simp[e]⟩)
   ·exact .inl (by omega)
  ·have:=hf v
   by_cases e:(k x==v)=true
   ·simp only[List.filter_cons,e,amR] at this
    exact (alB.1 this).2
   ·simp only[List.filter_cons,amP e] at this;exact this
theorem Zx {u:Nat} {ws:List Nat} (h:Bg ws):∃ o,Aq (rS u ws) ws.length o∧dW ((List.range ws.length).map (shE u ws)) ()=some (o.map (shE u ws),()):=by
 obtain⟨l',g1,g2,g3⟩:=SA.aaj (ajv (u:=u) h) ((List.range ws.length).map (shE u ws)) (by simp;have:=h.len;omega) (fun z hz=>by
  obtain⟨j,_,rfl⟩:=alp.1 hz;exact⟨j,rfl⟩)
 have hmem:∀ x∈l',∃ j,x=shE u ws j:=fun x hx=>by
  obtain⟨j,_,rfl⟩:=alp.1 (g3.mem.1 hx);exact⟨j,rfl⟩
 have hid:∀ j,(shE u ws j).1.toNat=j:=fun j=>by unfold shE;simp
 have hl':l'=(l'.map fun x=>x.1.toNat).map (shE u ws):=by
  rw[List.map_map]
  conv=>lhs;rw[← List.map_id l']
  apply ale
  intro x hx
  obtain⟨j,rfl⟩:=hmem x hx
  simp only[Function.comp,hid,id]
 refine⟨l'.map fun x=>x.1.toNat,⟨?_, ?_⟩,by rw[← hl'];exact g1⟩
 ·have:=g3.perm.map fun x:aq=>x.1.toNat
  rw[List.map_map] at this
  have e:((List.range ws.length).map ((fun x:aq=>x.1.toNat) ∘ shE u ws))=List.range ws.length:=by
   conv=>rhs;rw[← List.map_id (List.range ws.length)]
   apply ale
   intro j _
   exact hid j
  rw[e] at this
  exact this
 ·have hp:=Lg (k:=kS u ws) (R:=fun x y:aq=>x.1<y.1) g2 (fun v=>by
   rw[g3.keys v]
   refine List.Pairwise.filter _ ?_
   rw[List.pairwise_map]
   exact (List.pairwise_lt_range (n:=ws.length)).imp fun {a b} hab=>by
    show ((a:Nat):Int)<((b:Nat):Int)
    omega)
  rw[List.pairwise_map]
  refine List.Pairwise.imp_of_mem (fun {x y} hx hy hh=> ?_) hp
  obtain⟨i,rfl⟩:=hmem x hx
  obtain⟨j,rfl⟩:=hmem y hy
  rw[hid,hid]
  unfold kS at hh
  rw[hid,hid] at hh
  unfold ahead
  have e1:(shE u ws i).1=(i:Int):=rfl
  have e2:(shE u ws j).1=(j:Int):=rfl
  rw[e1,e2] at hh
  omega
theorem jv {β:Type} (f g:Nat→β) (n i:Nat) (x:β) (hf:∀ j,j<n→j≠i→g j=f j) (hx:g i=x):((List.range n).map f).set i x=(List.range n).map g:=by
 apply akH
 intro j
 by_cases hj:j<n
 ·rw[akT,akU hj]
  by_cases e:i=j
  ·subst e
   rw[akY (by simpa using hj)];simp[hx]
  ·rw[akX e,akT,akU hj]
   simp[hf j hj (fun h=>e h.symm)]
 ·rw[akR (by simp;omega),akR (by simp;omega)]
def shG (n:Int) (ws:List Nat) (i:Nat):Int:=
 let q:Nat:=shQ n.natAbs ws.sum (ws.getD i 0)+if kR (rS n.natAbs ws) ws.length i<n.natAbs - (ws.map (shQ n.natAbs ws.sum)).sum then 1 else 0
 if n<0 then -(q:Int) else (q:Int)
theorem Px (n:Int) (ws:List Nat):cu n ws=(List.range ws.length).map (shG n ws):=by
 unfold cu Fc shG rS
 rw[List.map_map]
 rfl
theorem KY (f:Nat→Nat) (l:List Nat) (i:Nat):((l.take i).map f).sum≤(l.map f).sum:=by
 conv=>rhs;rw[← alL i l,ald,alH]
 omega
theorem UE (n pl:Int) (hn:n.natAbs≤1000000000000000) (hpl:0≤pl∧pl≤9) (ws:List Nat) (h:Bg ws):
 vw (n,pl) (wI ws)=some ((cu n ws).map fun x=>(x,pl),0,()):=by
 have hl:=h.len
 have hsum:=h.ab7
 have hpos:=h.pos
 generalize hu:n.natAbs=u at*
 have hQ:∀ j,shQ u ws.sum (ws.getD j 0)≤u:=fun j=>by
  unfold shQ
  have hw:ws.getD j 0≤ws.sum:=by
   rw[akK]
   cases hj:ws[j]? with
   | none=>simp
   | some w=>
    have h1:(ws.take (j+1)).sum≤ws.sum:=by
     conv=>rhs;rw[← alL (j+1) ws,alH]
     omega
    rw[vL hj] at h1
    simp;omega
  exact Nat.div_le_of_le_mul (by rw[amb ws.sum];exact amc u hw)
 unfold vw
 rw[iu,amq]
 dsimp only
 rw[amQ (show aY (n,pl) from ⟨by omega,hpl.1,hpl.2⟩),zne,amD,Ml h,amq]
 dsimp only
 rw[zne,amD]
 have loop1:∀ f,ws.length<f→iter f ((wI ws,(0:Int),wI ws,((wI ws).length:Int),(0:Int),n,pl,()):uC) vn=some (Sum.inr (wI ws,(ws.sum:Int),n,pl,())):=by
  intro f hf
  rw[qL]
  refine aZ (Inv:=fun i X=>X=(wI ws,(((ws.take i).sum:Nat):Int),wI ws,(ws.length:Int),(i:Int),n,pl,())) ws.length (fun r=>r=some (Sum.inr (wI ws,(ws.sum:Int),n,pl,()))) ?_ ?_ f 0 _ (by simp) (by omega) (by omega)
  ·rintro i _ again hi rfl ih
   unfold vn
   dsimp only
   have hw:ws[i]? =some ws[i]:=aC hi
   have hwl:=h.le _ (ak1 hi)
   generalize ws[i]=w at hw hwl
   have h1:=h.V8 i
   rw[aD (by omega),bf,ND hw,amq,az (by omega) (by omega),az (by omega) (by omega)]
   refine ih _ ?_
   rw[vL hw]
   simp
  ·rintro _ again rfl
   unfold vn
   dsimp only
   rw[aE (by omega),alN (alZ _)]
 rw[loop1 _ (by rw[qL];omega),aF]
 dsimp only
 have hmax:(if (w64 (0 - n))>n then (w64 (0 - n)) else n)=(u:Int):=by
  rw[az (by omega) (by omega)]
  split<;>omega
 rw[hmax]
 have loop2:∀ f,ws.length<f→iter f (((ws.sum:Int),(u:Int),(u:Int),([]:List aq),wI ws,((wI ws).length:Int),(0:Int),n,pl,()):sG) sX=some (Sum.inr (((u - (ws.map (shQ u ws.sum)).sum:Nat):Int),(List.range ws.length).map (shE u ws),n,pl,())):=by
  intro f hf
  rw[qL]
  have hle:=(left_eq (u:=u) hpos).2
  have htk:∀ i,((ws.take i).map (shQ u ws.sum)).sum≤u:=fun i=>by
   have:=KY (shQ u ws.sum) ws i
   omega
  refine aZ (Inv:=fun i X=>X=((ws.sum:Int),(u:Int),((u - ((ws.take i).map (shQ u ws.sum)).sum:Nat):Int),(List.range i).map (shE u ws),wI ws,(ws.length:Int),(i:Int),n,pl,())) ws.length (fun r=>r=some (Sum.inr (((u - (ws.map (shQ u ws.sum)).sum:Nat):Int),(List.range ws.length).map (shE u ws),n,pl,()))) ?_ ?_ f 0 _ (by simp) (by omega) (by omega)
  ·rintro i _ again hi rfl ih
   unfold sX
   dsimp only
   have hw:ws[i]? =some ws[i]:=aC hi
   have hwl:=h.le _ (ak1 hi)
   generalize ws[i]=w at hw hwl
   have hgd:ws.getD i 0=w:=by rw[akK,hw];rfl
   have hq:=hQ i
   rw[hgd] at hq
   have L:∀ m:Nat,m≤1000000000000000→Le 19 (m:Int):=fun m hm=>Le.int (by omega) (by omega)
   rw[aD (by omega),bf,ND hw,amq,gq _ (by omega) (by omega),amq,gq _ (by omega) (by omega),amq]
   dsimp only
   rw[iq _ _ ((L u (by omega)).w (by omega)) ((L w (by omega)).w (by omega)),amq,gq _ (by omega) (by omega),amq]
   dsimp only
   rw[← akg,KW _ _ (by rw[akg];exact ((L u (by omega)).mul (L w (by omega))).w (by omega)) ((L ws.sum (by omega)).w (by omega)) (by omega),amq]
   dsimp only
   rw[ake,ake,show u*w / ws.sum=shQ u ws.sum w from rfl,show u*w % ws.sum=shR u ws.sum w from rfl,uK _ _ (by omega) (by omega),amq,amQ (by omega)]
   dsimp only
   rw[aH (cr (by simp;omega) (by simp;omega)),az (by omega) (by omega)]
   have h1:=htk (i+1)
   have e1:((ws.take (i+1)).map (shQ u ws.sum)).sum=((ws.take i).map (shQ u ws.sum)).sum+shQ u ws.sum w:=by
    rw[alK,hw,ald,alH];simp
   have h2:=htk i
   rw[az (by omega) (by omega)]
   refine ih _ ?_
   rw[e1,alD,ald]
   have e2:((u - (((ws.take i).map (shQ u ws.sum)).sum+shQ u ws.sum w):Nat):Int)=((u - ((ws.take i).map (shQ u ws.sum)).sum:Nat):Int) - (shQ u ws.sum w:Int):=by omega
   rw[e2]
   unfold shE
   simp only[alf,alg,hgd]
   rfl
  ·rintro _ again rfl
   unfold sX
   dsimp only
   rw[aE (by omega),alN (alZ _)]
 rw[loop2 _ (by rw[qL];omega),aF]
 dsimp only
 obtain⟨o,ho,hsort⟩:=Zx (u:=u) h
 rw[hsort,amq]
 dsimp only
 have hol:=ho.len
 generalize hlf:u - (ws.map (shQ u ws.sum)).sum=left
 rw[ak5,hol,aH (by simp only[ajK,amI];omega)]
 have hg:∀ i,shG n ws i=if n<0 then -((shQ u ws.sum (ws.getD i 0)+if kR (rS u ws) ws.length i<left then 1 else 0:Nat):Int) else ((shQ u ws.sum (ws.getD i 0)+if kR (rS u ws) ws.length i<left then 1 else 0:Nat):Int):=fun i=>by
  unfold shG;dsimp only;rw[hu,hlf]
 have loop3:∀ f,ws.length<f→iter f (((left:Int),o.map (shE u ws),(ws.length:Int),(0:Int),n,pl,List.replicate (Int.toNat (ws.length:Int)) ((0,0):aj),()):sF) sP=some (Sum.inr ((cu n ws).map fun x=>(x,pl),())):=by
  intro f hf
  refine aZ (Inv:=fun c X=>X=((left:Int),o.map (shE u ws),(ws.length:Int),(c:Int),n,pl,(List.range ws.length).map (fun i=>if kR (rS u ws) ws.length i<c then (shG n ws i,pl) else ((0,0):aj)),())) ws.length (fun r=>r=some (Sum.inr ((cu n ws).map fun x=>(x,pl),()))) ?_ ?_ f 0 _ ?_ (by omega) (by omega)
  ·rintro c _ again hc rfl ih
   unfold sP
   dsimp only
   have hoc:o[c]? =some (o[c]'(by omega)):=aC (by omega)
   generalize (o[c]'(by omega))=i at hoc
   have hin:i<ws.length:=ho.mem.1 (alr hoc)
   have hrk:=ho.acB hoc
   have hget:(o.map (shE u ws))[c]? =some (shE u ws i):=by rw[akT,hoc];rfl
   have hqi:=hQ i
   have hset:((List.range ws.length).map (fun j=>if kR (rS u ws) ws.length j<c then (shG n ws j,pl) else ((0,0):aj))).set i (shG n ws i,pl)=(List.range ws.length).map (fun j=>if kR (rS u ws) ws.length j<c+1 then (shG n ws j,pl) else ((0,0):aj)):=by
    refine jv _ _ _ _ _ (fun j hj hji=> ?_) (by simp only[hrk];rw[amQ (by omega)])
    have hjr:=ho.Kr hj
    have hne:kR (rS u ws) ws.length j≠c:=fun e=>by
     rw[e,hoc] at hjr;cases hjr;exact hji rfl
    by_cases h1:kR (rS u ws) ws.length j<c
    ·rw[amQ h1,amQ (by omega)]
    ·rw[amP h1,amP (by omega)]
   rw[aD (by omega),aH (by simp only[ajK,amI,ak5,hol];omega),akq,hget,amq]
   have hlast:∀ z:Int,z=shG n ws i→again ((left:Int),o.map (shE u ws),(ws.length:Int),w64 ((c:Int)+1),n,pl,((List.range ws.length).map (fun j=>if kR (rS u ws) ws.length j<c then (shG n ws j,pl) else ((0,0):aj))).set i (z,pl),())=some (Sum.inr ((cu n ws).map fun x=>(x,pl),())):=fun z hz=>by
    rw[hz,hset,az (by omega) (by omega)]
    exact ih _ rfl
   have hgi:=hg i
   rw[hrk] at hgi
   have hlenm:((List.range ws.length).map (fun j=>if kR (rS u ws) ws.length j<c then (shG n ws j,pl) else ((0,0):aj))).length=ws.length:=by simp
   have hgetm:∃ y,((List.range ws.length).map (fun j=>if kR (rS u ws) ws.length j<c then (shG n ws j,pl) else ((0,0):aj)))[i]? =some y:=⟨_,aC (by rw[hlenm];exact hin)⟩
   obtain⟨y0,hy0⟩:=hgetm
   have e1:(shE u ws i).1=(i:Int):=rfl
   have e2:(shE u ws i).2.1=(shQ u ws.sum (ws.getD i 0):Int):=rfl
   rw[e1,e2]
   by_cases hcl:c<left
   ·rw[amQ hcl] at hgi
    rw[aD (by omega),aF]
    dsimp only
    rw[az (by omega) (by omega)]
    by_cases hneg:n<0
    ·rw[amQ hneg] at hgi
     rw[aD hneg,aF]
     dsimp only
     rw[az (by omega) (by omega),hlenm,aH (by simp only[ajK,amI];omega),akq,hy0,amq]
     exact hlast _ (by omega)
    ·rw[amP hneg] at hgi
     rw[aE hneg,aF]
     dsimp only
     rw[hlenm,aH (by simp only[ajK,amI];omega),akq,hy0,amq]
     exact hlast _ (by omega)
   ·rw[amP hcl] at hgi
    rw[aE (by omega),aF]
    dsimp only
    by_cases hneg:n<0
    ·rw[amQ hneg] at hgi
     rw[aD hneg,aF]
     dsimp only
     rw[az (by omega) (by omega),hlenm,aH (by simp only[ajK,amI];omega),akq,hy0,amq]
     exact hlast _ (by omega)
    ·rw[amP hneg] at hgi
     rw[aE hneg,aF]
     dsimp only
     rw[hlenm,aH (by simp only[ajK,amI];omega),akq,hy0,amq]
     exact hlast _ (by omega)
  ·rintro _ again rfl
   unfold sP
   dsimp only
   rw[aE (by omega),Px,List.map_map]
   congr 3
   apply ale
   intro i hi
   rw[alv] at hi
   have hr:=ho.Kr hi
   have:=(akS.1 hr).1
   rw[amQ (by omega)]
   rfl
  ·simp only[ame,amO,akq]
   congr 7
   rw[List.map_const',ak9]
 have e:=loop3 ((Int.natAbs (left:Int))+((o.map (shE u ws)).length+(Int.natAbs (ws.length:Int)+(Int.natAbs (0:Int)+(Int.natAbs n+(Int.natAbs pl+((List.replicate (Int.toNat (ws.length:Int)) ((0,0):aj)).length+2))))))) (by simp;omega)
 rw[ak5,hol] at e
 rw[e,aF]
end Go.Md
