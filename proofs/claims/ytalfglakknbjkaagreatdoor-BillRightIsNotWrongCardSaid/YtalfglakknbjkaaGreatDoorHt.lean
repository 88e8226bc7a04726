/-
  Plain facts: an amount is shared by weights. No condition.
-/
import Derived.Test.YtalfglakknbjkaaGreatDoorHs
import Derived.Test.YtalfglakknbjkaaGreatDoorHn
import Derived.Test.YtalfglakknbjkaaGreatDoorHq
set_option linter.all false
namespace Go.Md
open Go.Dn
abbrev Br:=List (Nat×Int)
def atB (l:Br) (k:Nat):Int:=match l with
 | []=>0
 | p::r=>(if p.1=k then p.2 else 0)+atB r k
theorem HA:∀ (a b:Br) (k:Nat),atB (a++b) k=atB a k+atB b k
 | [],b,k=>by simp [atB]
 | p::a,b,k=>by simp only [Wv,atB,HA a b];omega
def aW (n:Nat) (l:Br):List Int:=(List.range n).map (atB l)
theorem gO (n:Nat) (l:Br):(aW n l).length=n:=by simp [aW]
theorem mB {n:Nat} (l:Br) {k:Nat} (h:k<n):(aW n l)[k]? =some (atB l k):=by
 unfold aW
 rw [List.getElem?_map,WM h];rfl
theorem Lc {n:Nat} (l:Br) {k:Nat} (d:Int):(aW n l).set k (atB l k+d)=aW n (l++[(k,d)]):=by
 apply WD
 intro i
 by_cases hi:i<n
 ·rw [mB _ hi]
  by_cases e:k=i
  ·subst e
   rw [WR (by rw [gO];exact hi),HA];simp [atB]
  ·rw [WQ e,mB _ hi,HA];simp [atB,e]
 ·rw [WL (by rw [W2,gO];omega),WL (by rw [gO];omega)]
def shQ (u W w:Nat):Nat:=u*w / W
def shR (u W w:Nat):Nat:=u*w % W
def ahead (r:Nat→Nat) (i j:Nat):Prop:=r j<r i∨(r i=r j∧i<j)
instance (r:Nat→Nat) (i j:Nat):Decidable (ahead r i j):=by unfold ahead;infer_instance
theorem K6 {r:Nat→Nat} {i j k:Nat} (h:ahead r i j) (g:ahead r j k):ahead r i k:=by unfold ahead at *;omega
theorem JI {r:Nat→Nat} {i:Nat}:¬ ahead r i i:=by unfold ahead;omega
theorem Rk (r:Nat→Nat) {i j:Nat} (h:i≠j):ahead r i j∨ahead r j i:=by unfold ahead;omega
def p6 (r:Nat→Nat) (n i:Nat):Nat:=((List.range n).filter fun j=>decide (ahead r j i)).length
structure zR (r:Nat→Nat) (n:Nat) (o:List Nat):Prop where
 perm:(List.range n).Perm o
 srt:o.Pairwise (ahead r)
theorem zR.mem {r:Nat→Nat} {n:Nat} {o:List Nat} (h:zR r n o) {i:Nat}:i∈o↔i<n:=by
 rw [← h.perm.mem_iff,Xi]
theorem zR.len {r:Nat→Nat} {n:Nat} {o:List Nat} (h:zR r n o):o.length=n:=by rw [← h.perm.length_eq,W1]
theorem zR.Oj {r:Nat→Nat} {n:Nat} {o:List Nat} (h:zR r n o) {a b i j:Nat} (ha:o[a]? =some i) (hb:o[b]? =some j) (hab:a<b):ahead r i j:=by
 obtain ⟨ha1,ha2⟩:=List.getElem?_eq_some_iff.1 ha
 obtain ⟨hb1,hb2⟩:=List.getElem?_eq_some_iff.1 hb
 subst ha2;subst hb2
 exact Xn.1 h.srt a b ha1 hb1 hab
theorem zR.T9 {r:Nat→Nat} {n:Nat} {o:List Nat} (h:zR r n o) {a i:Nat} (ha:o[a]? =some i):p6 r n i=a:=by
 unfold p6
 rw [(h.perm.filter _).length_eq]
 have hal:=(List.getElem?_eq_some_iff.1 ha).1
 have e:o=o.take a++o.drop a:=(Xt a o).symm
 have h1:(o.take a).filter (fun j=>decide (ahead r j i))=o.take a:=by
  rw [List.filter_eq_self]
  intro j hj
  obtain ⟨b,hb⟩:=Xe.1 hj
  have hbl:b<a:=by have:=(List.getElem?_eq_some_iff.1 hb).1;rw [W3] at this;omega
  rw [WT hbl] at hb
  exact X9 (h.Oj hb ha hbl)
 have h2:(o.drop a).filter (fun j=>decide (ahead r j i))=[]:=by
  rw [List.filter_eq_nil_iff]
  intro j hj
  obtain ⟨b,hb⟩:=Xe.1 hj
  rw [WK] at hb
  rw [decide_eq_true_eq]
  intro hh
  by_cases e:b=0
  ·subst e
   rw [Xz,ha] at hb;cases hb
   exact JI hh
  ·exact JI (K6 hh (h.Oj ha hb (by omega)))
 rw [e,WE,h1,h2,Wu,W3]
 omega
theorem zR.PO {r:Nat→Nat} {n:Nat} {o:List Nat} (h:zR r n o) {i:Nat} (hi:i<n):o[p6 r n i]? =some i:=by
 obtain ⟨a,ha⟩:=Xe.1 (h.mem.2 hi)
 rw [h.T9 ha];exact ha
theorem zR.exists (r:Nat→Nat) (n:Nat):∃ o,zR r n o:=by
 let le:Nat→Nat→Bool:=fun i j=>decide (i=j∨ahead r i j)
 have tr:∀ a b c,le a b=true→le b c=true→le a c=true:=by
  intro a b c h1 h2
  simp only [le,decide_eq_true_eq] at*
  rcases h1 with rfl | h1
  ·exact h2
  ·rcases h2 with rfl | h2
   ·exact .inr h1
   ·exact .inr (K6 h1 h2)
 have tot:∀ a b,(le a b||le b a)=true:=by
  intro a b
  simp only [le,Wc,decide_eq_true_eq]
  by_cases e:a=b
  ·exact .inl (.inl e)
  ·rcases Rk r e with h | h
   ·exact .inl (.inr h)
   ·exact .inr (.inr h)
 have hp:(List.range n).Perm ((List.range n).mergeSort le):=(List.mergeSort_perm _ _).symm
 refine ⟨(List.range n).mergeSort le,hp, ?_⟩
 have hs:=List.pairwise_mergeSort (le:=le) tr tot (List.range n)
 have hn:((List.range n).mergeSort le).Nodup:=hp.nodup_iff.1 Xk
 exact (hs.and hn).imp fun {a b} h=>by
  have h1:=h.1
  simp only [le,decide_eq_true_eq] at h1
  rcases h1 with h1 | h1
  ·exact absurd h1 h.2
  ·exact h1
def AL (u:Nat) (ws:List Nat):List Nat:=
 let q:=ws.map (shQ u ws.sum)
 let left:=u - q.sum
 let r:=fun i=>shR u ws.sum (ws.getD i 0)
 (List.range ws.length).map fun i=>shQ u ws.sum (ws.getD i 0)+if p6 r ws.length i<left then 1 else 0
def gE (n:Int) (ws:List Nat):List Int:=(AL n.natAbs ws).map fun (x:Nat)=>if n<0 then -(x:Int) else (x:Int)
theorem FL {α:Type} (f g:α→Nat):∀ l:List α,(l.map fun x=>f x+g x).sum=(l.map f).sum+(l.map g).sum
 | []=>rfl
 | x::l=>by simp only [W6,Xr,FL f g l];omega
theorem Fe {α:Type} (f:α→Nat) (c:Nat):∀ l:List α,(l.map fun x=>c*f x).sum=c*(l.map f).sum
 | []=>rfl
 | x::l=>by simp only [W6,Xr,Fe f c l,Nat.mul_add]
theorem VI (u W w:Nat):W*shQ u W w+shR u W w=u*w:=by unfold shQ shR;exact Nat.div_add_mod _ _
theorem left_eq {u:Nat} {ws:List Nat} (h:0<ws.sum):ws.sum*(u - (ws.map (shQ u ws.sum)).sum)=(ws.map (shR u ws.sum)).sum∧(ws.map (shQ u ws.sum)).sum≤u:=by
 have h1:(ws.map fun w=>ws.sum*shQ u ws.sum w+shR u ws.sum w).sum=ws.sum*(ws.map (shQ u ws.sum)).sum+(ws.map (shR u ws.sum)).sum:=by
  rw [FL (fun w=>ws.sum*shQ u ws.sum w),Fe]
 have h2:(ws.map fun w=>ws.sum*shQ u ws.sum w+shR u ws.sum w).sum=u*ws.sum:=by
  rw [show (fun w=>ws.sum*shQ u ws.sum w+shR u ws.sum w)=fun w=>u*w from funext fun w=>VI ..]
  have:=Fe (fun w:Nat=>w) u ws
  simpa using this
 rw [h1,XO u] at h2
 have hle:(ws.map (shQ u ws.sum)).sum≤u:=by
  have:ws.sum*(ws.map (shQ u ws.sum)).sum≤ws.sum*u:=by omega
  exact Nat.le_of_mul_le_mul_left this h
 refine ⟨?_,hle⟩
 rw [Nat.mul_sub];omega
theorem M8 {W:Nat}:∀ (l:List Nat),(∀ x∈l,x<W)→l.sum+l.length≤W*l.length
 | [],_=>by simp
 | x::l,h=>by
  have h1:=M8 l fun y hy=>h y (Xa _ hy)
  have h2:=h x Xb
  simp only [Xr,WW,Nat.mul_succ];omega
theorem U0 {u:Nat} {ws:List Nat} (h:0<ws.sum):u - (ws.map (shQ u ws.sum)).sum≤ws.length:=by
 have h1:=(left_eq (u:=u) h).1
 have h2:=M8 (W:=ws.sum) (ws.map (shR u ws.sum)) (by
  intro x hx
  obtain ⟨w,_,rfl⟩:=Xf.1 hx
  exact XN _ h)
 rw [WY] at h2
 have:ws.sum*(u - (ws.map (shQ u ws.sum)).sum)≤ws.sum*ws.length:=by omega
 exact Nat.le_of_mul_le_mul_left this h
theorem Ug (l:List Nat) (f:Nat→Nat):(List.range l.length).map (fun i=>f (l.getD i 0))=l.map f:=by
 apply WD
 intro i
 by_cases hi:i<l.length
 ·rw [List.getElem?_map,WM hi,List.getElem?_map,List.getElem?_eq_getElem hi]
  simp [List.getD_eq_getElem?_getD,List.getElem?_eq_getElem hi]
 ·rw [WL (by simp;omega),WL (by simp;omega)]
theorem NZ {α:Type}:∀ l:List α,(l.map fun _=>1).sum=l.length
 | []=>rfl
 | x::l=>by simp only [W6,Xr,WW,NZ l];omega
theorem Tr {a b:List Nat} (h:a.Perm b):a.sum=b.sum:=by
 induction h with
 | nil=>rfl
 | cons x _ ih=>simp [ih]
 | swap x y l=>simp only [Xr];omega
 | trans _ _ ih1 ih2=>exact ih1.trans ih2
theorem Sm {r:Nat→Nat} {n m:Nat} (h:m≤n):((List.range n).map fun i=>if p6 r n i<m then 1 else 0).sum=m:=by
 obtain ⟨o,ho⟩:=zR.exists r n
 rw [Tr (ho.perm.map _)]
 have e:o.map (fun i=>if p6 r n i<m then 1 else 0)=(List.range n).map fun a=>if a<m then 1 else 0:=by
  apply WD
  intro a
  by_cases ha:a<n
  ·have hg:o[a]? =some (o[a]'(by rw [ho.len];exact ha)):=List.getElem?_eq_getElem _
   rw [List.getElem?_map,List.getElem?_map,WM ha,hg]
   simp only [X3,ho.T9 hg]
  ·rw [WL (by rw [WY,ho.len];omega),WL (by simp;omega)]
 rw [e]
 clear e ho o
 induction n with
 | zero=>simp;omega
 | succ n ih=>
  rw [List.range_succ,W4,Xq]
  by_cases hm:m≤n
  ·rw [ih hm];simp;omega
  ·obtain rfl:m=n+1:=by omega
   have:((List.range n).map fun a=>if a<n+1 then 1 else 0)=(List.range n).map fun _=>1:=by
    apply W5
    intro a ha
    rw [Xi] at ha
    rw [if_pos (by omega)]
   rw [this,NZ]
   simp
theorem Fm {u:Nat} {ws:List Nat} (h:0<ws.sum):(AL u ws).sum=u:=by
 unfold AL
 dsimp only
 rw [FL (fun i=>shQ u ws.sum (ws.getD i 0)),Ug ws (shQ u ws.sum),Sm (U0 h)]
 have:=(left_eq (u:=u) h).2
 omega
theorem Ra (u:Nat) (ws:List Nat):(AL u ws).length=ws.length:=by simp [AL]
theorem K4 (n:Int) (ws:List Nat):(gE n ws).length=ws.length:=by simp [gE,Ra]
theorem Qp:∀ l:List Nat,(l.map fun (x:Nat)=>(x:Int)).sum=(l.sum:Int)
 | []=>rfl
 | x::l=>by simp only [W6,Xr,Qp l];omega
theorem N3:∀ l:List Nat,(l.map fun (x:Nat)=> -(x:Int)).sum= -(l.sum:Int)
 | []=>rfl
 | x::l=>by simp only [W6,Xr,N3 l];omega
theorem QW {n:Int} {ws:List Nat} (h:0<ws.sum):(gE n ws).sum=n:=by
 unfold gE
 by_cases hn:n<0
 ·simp only [if_pos hn]
  rw [N3,Fm h];omega
 ·simp only [if_neg hn]
  rw [Qp,Fm h];omega
theorem RW {u:Nat} {ws:List Nat} (h:0<ws.sum) {x:Nat} (hx:x∈AL u ws):x≤u:=by
 have h1:=Fm (u:=u) h
 have:∀ (l:List Nat) (x:Nat),x∈l→x≤l.sum:=by
  intro l
  induction l with
  | nil=>intro x hx;cases hx
  | cons y l ih=>
   intro x hx
   rcases W9.1 hx with rfl | hx
   ·simp
   ·have:=ih x hx;simp;omega
 have:=this _ _ hx
 omega
theorem M1 {n:Int} {ws:List Nat} (h:0<ws.sum) {x:Int} (hx:x∈gE n ws):x.natAbs≤n.natAbs:=by
 unfold gE at hx
 obtain ⟨y,hy,rfl⟩:=Xf.1 hx
 have:=RW h hy
 split<;>omega
end Go.Md
namespace Go.Md
open Go.Dn
abbrev aq (v:ai):List aD:=v.2.2.2.2.2.2.1
abbrev cI (v:ai):List av:=v.2.2.2.2.2.2.2.1
abbrev gN (v:ai):List ay:=v.2.2.2.2.2.2.2.2
abbrev sB (v:ai):Int:=v.2.2.2.2.1
abbrev vPl (v:ai):Int:=v.2.2.2.1
abbrev Cs (v:ai):Bool:=v.2.2.2.2.2.1
def MW:Nat:=1000000000
def l9 (n:Int):Bool:=decide (n.natAbs≤MU)
def bq (l:List Int):Bool:=l.all l9
def gm (v:ai):List av→Option Br
 | []=>some []
 | x::r=>match Cz v x with
  | some n=>(gm v r).map fun l=>((jd (·.1) x.2.2.2.2.2.2.2.2 (aq v)).getD 0,n)::l
  | none=>none
def zz (v:ai) (lines:List Int) (x:ay):Int:=match jd (·.1) x.2.2 (aq v) with
 | some k=>lines.getD k 0
 | none=>lines.sum
def gZ:Nat→List Int→Br
 | _,[]=>[]
 | k,x::r=>if x=0 then gZ (k+1) r else (k,x)::gZ (k+1) r
def xE (o:Option Nat) (d:Int) (lines:List Int):Int ⊕ (Int×Br×List Nat):=
 bif l9 d then
  match o with
  | some k=> .inr (d,[(k,d)],[k])
  | none=>
   bif lines.all fun b=>b==0 then .inr (d,[(0,d)],bif d==0 then [] else [0])
   else bif lines.any fun b=>decide (MW<b.natAbs) then .inl 2
   else .inr (d,gZ 0 (gE d (lines.map Int.natAbs)),(gZ 0 (gE d (lines.map Int.natAbs))).map (·.1))
 else .inl 1
def zW (v:ai) (lines:List Int) (x:ay):Int ⊕ (Int×Br×List Nat):=
 xE (jd (·.1) x.2.2 (aq v)) (j3 (sB v) (vPl v) (zz v lines x) x) lines
abbrev ESt:=Br×List Nat×List Int
def iw (v:ai) (lines:List Int):List ay→ESt→Int ⊕ ESt
 | [],s=> .inr s
 | x::r,s=>match zW v lines x with
  | .inl f=> .inl f
  | .inr t=>bif bq (aW (aq v).length (s.1++t.2.1)) then iw v lines r (s.1++t.2.1,s.2.1++t.2.2,s.2.2++[t.1]) else .inl 1
def zl (way:Int) (pc:ak) (k:Nat):Br→Int
 | []=>0
 | p::r=>(if p.1=k then vT way p.2 pc else 0)+zl way pc k r
def yy (v:ai) (k:Nat):ak:=((aq v).getD k ([],(0,0))).2
def LX (v:ai) (sh:Br) (k:Nat):Int:=if Cs v=true then zl (sB v) (yy v k) k sh else vT (sB v) (atB sh k) (yy v k)
def pT (v:ai) (sh:Br):List Int:=(List.range (aq v).length).map (LX v sh)
structure ShZ where
 nets:List Int
 br:Br
 fl:List Nat
 am:List Int
 taxes:List Int
def zV (v:ai):Int ⊕ ShZ:=
 match gm v (cI v) with
 | none=> .inl 1
 | some lb=>
  bif bq (aW (aq v).length lb) then
   match iw v (aW (aq v).length lb) (gN v) (lb,lb.map (·.1),[]) with
   | .inl f=> .inl f
   | .inr s=>bif bq (pT v s.1) then .inr ⟨lb.map (·.2),s.1,s.2.1,s.2.2,pT v s.1⟩ else .inl 1
  else .inl 1
def pM (s:ShZ):List Int:=[s.nets.sum,s.am.sum,s.nets.sum+s.am.sum,s.taxes.sum,s.nets.sum+s.am.sum+s.taxes.sum]
def oq (v:ai):Int ⊕ ShZ:=match zV v with
 | .inl f=> .inl f
 | .inr s=>bif bq (pM s) then .inr s else .inl 1
def Bk (v:ai) (n:Int):ak:=(n,vPl v)
theorem Pf:∀ (l:List Int) (k:Nat),((gZ k l).map (·.2)).sum=l.sum
 | [],k=>rfl
 | x::l,k=>by
  have ih:=Pf l (k+1)
  simp only [gZ]
  split
  ·rename_i hx;rw [ih];simp [hx]
  ·simp [ih]
theorem Lo:∀ (l:List Int) (k:Nat) (p:Nat×Int),p∈gZ k l→k≤p.1∧p.1<k+l.length∧p.2∈l∧p.2≠0
 | [],k,p,h=>by cases h
 | x::l,k,p,h=>by
  simp only [gZ] at h
  have ih:=fun hh=>Lo l (k+1) p hh
  split at h
  ·have:=ih h;simp only [WW,W9];exact ⟨by omega,by omega,.inr this.2.2.1,this.2.2.2⟩
  ·rename_i hx
   rcases W9.1 h with rfl | h
   ·exact ⟨XE _,by simp only [WW];omega,Xb,hx⟩
   ·have:=ih h;simp only [WW,W9];exact ⟨by omega,by omega,.inr this.2.2.1,this.2.2.2⟩
end Go.Md
set_option linter.all false
namespace Go.Md.SA
open Go.Dn Go.Md
section
variable {k:ah→Int} {ok:ah→Prop}
def xS (k:ah→Int) (ok:ah→Prop):Prop:=∀ a b,ok a→ok b→∃ c,kN a b=some (c,())∧(c<0↔k a<k b)
theorem Td (hc:xS k ok) (a:Nat) (bI:Int) (iI:Int) (X:List ah) (hX:X.length=a):∀ (n:Nat) (P1:List ah) (x:ah) (B:List ah),P1.length<n→(X++P1++x::B).length<1000000000→ok x→(∀ y∈P1,ok y)→
 ∃ P2 P3,P1=P2++P3∧(∀ y∈P3,k x<k y)∧(∀ y,P2.getLast? =some y→k y≤k x)∧
 iter (X:=cW) (β:=cZ) n ((a:Int),bI,(),iI,((a+P1.length:Nat):Int),X++P1++x::B,()) cU=some (Sum.inr ((a:Int),bI,(),iI,X++P2++x::(P3++B),())):=by
 intro n
 induction n with
 | zero=>intro P1 x B h;omega
 | succ n ih=>
  intro P1 x B hn hlen hx hP
  rw [iK]
  generalize hag:(fun y=>iter n y cU)=again
  unfold cU
  dsimp only
  rcases List.eq_nil_or_concat P1 with rfl | ⟨P,y,rfl⟩
  ·rw [aN (by simp)]
   exact ⟨[],[],rfl,by simp,by simp,by simp⟩
  ·rw [List.concat_eq_append] at*
   simp only [WV,WW,WZ] at hlen hn ⊢
   have e1:w64 (((a+(P.length+1):Nat):Int) - 1)=(((X++P).length:Nat):Int):=by rw [aJ (by omega) (by omega)];simp [hX];omega
   have e2:(((a+(P.length+1):Nat):Int))=(((X++P).length+1:Nat):Int):=by simp [hX];omega
   have el:X++(P++[y])++x::B=(X++P)++y::x::B:=by simp
   obtain ⟨c,hcc,hlt⟩:=hc x y hx (hP y (by simp))
   rw [aM (by omega),e1,e2,el]
   simp only [Wo,get_at,J4,Option.bind_some,hcc]
   rw [aT (by simp only [VZ,decide_eq_true_eq,WV,WW,W2,WZ];omega),aT (by simp only [VZ,decide_eq_true_eq,WV,WW,W2,WZ];omega)]
   by_cases hk:k x<k y
   ·rw [aM (hlt.2 hk),aT (by simp only [VZ,decide_eq_true_eq,WV,WW,W2,WZ];omega),aT (by simp only [VZ,decide_eq_true_eq,WV,WW,W2,WZ];omega),aT (by simp only [VZ,decide_eq_true_eq,WV,WW,W2,WZ];omega),
     aT (by simp only [VZ,decide_eq_true_eq,WV,WW,W2,WZ];omega)]
    have hg:(((X++P)++y::x::B).set ((X++P).length+1) y)[(X++P).length]? =some y:=by rw [WQ (by omega),get_at]
    rw [hg,Option.bind_some,Qg, ← hag]
    obtain ⟨P2,P3,h1,h2,h3,h4⟩:=ih P x (y::B) (by omega) (by simp;omega) hx (fun z hz=>hP z (by simp [hz]))
    refine ⟨P2,P3++[y],by rw [h1];simp, ?_,h3, ?_⟩
    ·intro z hz
     rcases W8.1 hz with hz | hz
     ·exact h2 z hz
     ·rw [Xj.1 hz];exact hk
    ·have e3:(((X++P).length:Nat):Int)=((a+P.length:Nat):Int):=by simp [hX]
     rw [e3]
     show iter n _ _=_
     rw [h4];simp
   ·rw [aN (fun h=>hk (hlt.1 h))]
    refine ⟨P++[y],[],by simp,by simp,fun z hz=> ?_,by simp⟩
    simp at hz
    subst hz;omega
theorem Jd (hc:xS k ok) (X S Y:List ah) (hlen:(X++S++Y).length<1000000000) (hok:∀ y∈S,ok y):
 ∃ S',cy (X++S++Y) (X.length:Int) ((X.length+S.length:Nat):Int) ()=some (X++S'++Y,())∧Srt k S'∧cw k S S':=by
 simp only [WV] at hlen
 have loop:∀ (n:Nat) (Q P:List ah) (l:List ah),Q.length<n→l=X++P++Q++Y→P.length+Q.length=S.length→Srt k P→(∀ y∈P,ok y)→(∀ y∈Q,ok y)→
  ∃ S',iter (X:=cV) (β:=c8) n ((X.length:Int),((X.length+S.length:Nat):Int),(),((X.length+P.length:Nat):Int),l,()) b7=some (Sum.inr (X++S'++Y,()))∧Srt k S'∧cw k (P++Q) S':=by
  intro n
  induction n with
  | zero=>intro Q P l h;omega
  | succ n ih=>
   intro Q P l hn hl hPQ hs hokP hokQ
   rw [iK]
   generalize hag:(fun y=>iter n y b7)=again
   unfold b7
   dsimp only
   cases Q with
   | nil=>
    rw [aN (by simp at hPQ;omega)]
    exact ⟨P,by rw [hl];simp,hs,by simpa using cw.refl k P⟩
   | cons x Q=>
    simp only [WW] at hn hPQ
    rw [aM (by omega)]
    have hl':l=X++P++x::(Q++Y):=by rw [hl];simp
    obtain ⟨P2,P3,h1,h2,h3,h4⟩:=Td hc X.length ((X.length+S.length:Nat):Int) ((X.length+P.length:Nat):Int) X rfl
     (Int.natAbs (X.length:Int)+(Int.natAbs ((X.length+S.length:Nat):Int)+(Int.natAbs ((X.length+P.length:Nat):Int)+(Int.natAbs ((X.length+P.length:Nat):Int)+(List.length l+2))))) P x (Q++Y) (by omega) (by simp;omega) (hokQ x (by simp)) hokP
    rw [← hl'] at h4
    rw [h4,aL]
    dsimp only
    have e1:w64 (((X.length+P.length:Nat):Int)+1)=((X.length+(P2++x::P3).length:Nat):Int):=by
     rw [aJ (by omega) (by omega),h1];simp;omega
    rw [e1, ← hag]
    rw [h1] at hs hokP
    obtain ⟨hs',hsam⟩:=Uw hs h2 h3
    obtain ⟨S',g1,g2,g3⟩:=ih Q (P2++x::P3) (X++P2++x::(P3++(Q++Y))) (by omega) (by simp) (by rw [h1] at hPQ;simp at hPQ ⊢;omega) hs' (fun y hy=>by
     rcases hsam.mem.1 hy |> W8.1 with h | h
     ·exact hokP y h
     ·rw [Xj.1 h];exact hokQ x (by simp)) (fun y hy=>hokQ y (by simp [hy]))
    refine ⟨S',g1,g2, ?_⟩
    have:cw k (P++x::Q) (P2++x::P3++Q):=by
     rw [h1]
     have:=hsam.append (cw.refl k Q)
     simpa using this
    exact this.trans g3
 unfold cy
 cases S with
 | nil=>
  have e1:w64 ((X.length:Int)+1)=((X.length+1:Nat):Int):=by rw [aJ (by omega) (by omega)];omega
  rw [e1]
  obtain ⟨n,hn⟩:∃ n,(Int.natAbs (X.length:Int)+(Int.natAbs ((X.length+([]:List ah).length:Nat):Int)+(Int.natAbs ((X.length+1:Nat):Int)+(List.length (X++[]++Y)+2))))=n+1:=⟨_,rfl⟩
  rw [hn,iK]
  unfold b7
  dsimp only
  rw [aN (by simp;omega)]
  exact ⟨[],rfl,List.Pairwise.nil,cw.refl _ _⟩
 | cons x S=>
  have e1:w64 ((X.length:Int)+1)=((X.length+[x].length:Nat):Int):=by rw [aJ (by omega) (by omega)];simp
  rw [e1]
  obtain ⟨S',g1,g2,g3⟩:=loop (Int.natAbs (X.length:Int)+(Int.natAbs ((X.length+(x::S).length:Nat):Int)+(Int.natAbs ((X.length+[x].length:Nat):Int)+(List.length (X++(x::S)++Y)+2)))) S [x] (X++(x::S)++Y) (by simp;omega) (by simp) (by simp;omega) (List.pairwise_singleton _ _) (fun y hy=>hok y (by simp at hy;simp [hy])) (fun y hy=>hok y (by simp [hy]))
  rw [g1,aL]
  exact ⟨S',rfl,g2,by simpa using g3⟩
theorem DB (X M Y:List ah):∀ (P Q:List ah),P.length=Q.length→(X++P++M++Q++Y).length<1000000000→
 cn (X++P++M++Q++Y) (X.length:Int) ((X.length+P.length+M.length:Nat):Int) (P.length:Int) ()=some (X++Q++M++P++Y,()):=by
 intro P Q hPQ hlen
 simp only [WV] at hlen
 have loop:∀ (n:Nat) (P1 P2 Q1 Q2:List ah) (l:List ah),P2.length<n→P1.length+P2.length=P.length→P1.length=Q1.length→P2.length=Q2.length→l=X++P1++P2++M++Q1++Q2++Y→
  iter (X:=dU) (β:=dO) n ((X.length:Int),((X.length+P.length+M.length:Nat):Int),(P.length:Int),(P1.length:Int),l,()) dV=some (Sum.inr (X++P1++Q2++M++Q1++P2++Y,())):=by
  intro n
  induction n with
  | zero=>intro P1 P2 Q1 Q2 l h;omega
  | succ n ih=>
   intro P1 P2 Q1 Q2 l hn h1 h2 h3 hl
   rw [iK]
   generalize hag:(fun y=>iter n y dV)=again
   unfold dV
   dsimp only
   cases P2 with
   | nil=>
    have:Q2=[]:=WC (by simpa using h3.symm)
    subst this
    rw [aN (by simp at h1;omega),hl]
   | cons p P2=>
    cases Q2 with
    | nil=>simp at h3
    | cons q Q2=>
     simp only [WW] at hn h1 h3
     have ll:l.length=X.length+P.length+M.length+Q.length+Y.length:=by rw [hl];simp;omega
     have e1:w64 (((X.length+P.length+M.length:Nat):Int)+(P1.length:Int))=(((X++P1++p::P2++M++Q1).length:Nat):Int):=by rw [aJ (by omega) (by omega)];simp;omega
     have e2:w64 ((X.length:Int)+(P1.length:Int))=(((X++P1).length:Nat):Int):=by rw [aJ (by omega) (by omega)];simp
     have l1:l=(X++P1++p::P2++M++Q1)++q::(Q2++Y):=by rw [hl];simp
     have l2:l=(X++P1)++p::(P2++M++Q1++q::(Q2++Y)):=by rw [hl];simp
     have g1:l[(X++P1++p::P2++M++Q1).length]? =some q:=by rw [l1];exact get_at _ _ _
     have g2:l[(X++P1).length]? =some p:=by rw [l2];exact get_at _ _ _
     have g3:l.set (X++P1).length q=(X++P1++q::P2++M++Q1)++q::(Q2++Y):=by
      rw [l2,RI];simp
     have hlq:(X++P1++p::P2++M++Q1).length=(X++P1++q::P2++M++Q1).length:=by simp
     have g4:(l.set (X++P1).length q)[(X++P1++p::P2++M++Q1).length]? =some q:=by rw [g3,hlq];exact get_at _ _ _
     have g5:(l.set (X++P1).length q).set (X++P1++p::P2++M++Q1).length p=X++(P1++[q])++P2++M++(Q1++[p])++Q2++Y:=by rw [g3,hlq,RI];simp
     rw [aM (by omega),e1,e2]
     simp only [Wo,g1,g2,g4,g5,Option.bind_some,W2,ll]
     have lq:(X++P1++p::P2++M++Q1).length<X.length+P.length+M.length+Q.length+Y.length:=by simp;omega
     have lp:(X++P1).length<X.length+P.length+M.length+Q.length+Y.length:=by simp;omega
     rw [aT (by simp only [VZ,decide_eq_true_eq];omega),aT (by simp only [VZ,decide_eq_true_eq];omega),aT (by simp only [VZ,decide_eq_true_eq];omega),aT (by simp only [VZ,decide_eq_true_eq];omega)]
     have e3:w64 ((P1.length:Int)+1)=(((P1++[q]).length:Nat):Int):=by rw [aJ (by omega) (by omega)];simp
     rw [e3, ← hag]
     show iter n _ _=_
     rw [ih (P1++[q]) P2 (Q1++[p]) Q2 _ (by omega) (by simp;omega) (by simp;omega) (by omega) rfl]
     simp
 unfold cn
 rw [show (0:Int)=((([]:List ah).length:Nat):Int) from rfl,loop _ [] P [] Q (X++P++M++Q++Y) (by simp;omega) (by simp) rfl hPQ (by simp),aL]
 simp
theorem QJ (m:Nat):∀ (n:Nat) (X U V Y:List ah),U.length+V.length<n→0<U.length→0<V.length→X.length+U.length=m→(X++U++V++Y).length<1000000000→
 ∃ (X' U' V' Y':List ah),iter (X:=eZ) (β:=fy) n ((m:Int),(),(U.length:Int),(V.length:Int),X++U++V++Y,()) fo=some (Sum.inr ((m:Int),(),(U'.length:Int),X'++U'++V'++Y',()))∧U'.length=V'.length∧X'.length+U'.length=m∧X'++V'++U'++Y'=X++V++U++Y∧(X'++U'++V'++Y').length<1000000000:=by
 intro n
 induction n with
 | zero=>intro X U V Y h;omega
 | succ n ih=>
  intro X U V Y hn hU hV hm hlen
  rw [iK]
  generalize hag:(fun y=>iter n y fo)=again
  unfold fo
  dsimp only
  by_cases he:U.length=V.length
  ·have hb:((U.length:Int) != (V.length:Int))=false:=by simp [he]
   rw [hb,cond_false]
   exact ⟨X,U,V,Y,rfl,he,hm,rfl,hlen⟩
  ·have hb:((U.length:Int) != (V.length:Int))=true:=by simp;omega
   rw [hb,cond_true]
   simp only [WV] at hlen
   have e1:w64 ((m:Int) - (U.length:Int))=(X.length:Int):=by rw [aJ (by omega) (by omega)];omega
   rw [e1]
   by_cases hgt:V.length<U.length
   ·rw [aM (by omega)]
    obtain ⟨U1,U2,rfl,hU1⟩:=qo (l:=U) (n:=V.length) (by omega)
    simp only [WV] at*
    have hsw:=DB X U2 Y U1 V hU1 (by simp;omega)
    rw [show ((X.length+U1.length+U2.length:Nat):Int)=(m:Int) by omega,hU1] at hsw
    rw [show X++(U1++U2)++V++Y=X++U1++U2++V++Y by simp,hsw,Option.bind_some]
    have e2:w64 (((U1.length+U2.length:Nat):Int) - (V.length:Int))=(U2.length:Int):=by rw [aJ (by omega) (by omega)];omega
    rw [e2, ← hag]
    obtain ⟨X',U',V',Y',h1,h2,h3,h4,h5⟩:=ih (X++V) U2 U1 Y (by omega) (by omega) (by omega) (by simp;omega) (by simp;omega)
    refine ⟨X',U',V',Y', ?_,h2,h3,by rw [h4];simp,h5⟩
    rw [← hU1]
    exact h1
   ·rw [aN (by omega)]
    obtain ⟨V1,V2,rfl,hV1⟩:=qo (l:=V) (n:=V.length - U.length) (by omega)
    simp only [WV] at*
    have e3:w64 (w64 ((m:Int)+((V1.length+V2.length:Nat):Int)) - (U.length:Int))=((X.length+U.length+V1.length:Nat):Int):=by
     rw [aJ (n:=(m:Int)+((V1.length+V2.length:Nat):Int)) (by omega) (by omega),aJ (by omega) (by omega)];omega
    have hsw:=DB X V1 Y U V2 (by omega) (by simp;omega)
    rw [e3,show X++U++(V1++V2)++Y=X++U++V1++V2++Y by simp,hsw,Option.bind_some]
    have e2:w64 (((V1.length+V2.length:Nat):Int) - (U.length:Int))=(V1.length:Int):=by rw [aJ (by omega) (by omega)];omega
    rw [e2, ← hag]
    obtain ⟨X',U',V',Y',h1,h2,h3,h4,h5⟩:=ih X V2 V1 (U++Y) (by omega) (by omega) (by omega) (by omega) (by simp;omega)
    refine ⟨X',U',V',Y', ?_,h2,h3,by rw [h4];simp,h5⟩
    rw [show ((U.length:Nat):Int)=(V2.length:Int) by omega,show X++V2++V1++U++Y=X++V2++V1++(U++Y) by simp]
    exact h1
theorem Tu (X U V Y:List ah) (hU:0<U.length) (hV:0<V.length) (hlen:(X++U++V++Y).length<1000000000):
 gw (X++U++V++Y) (X.length:Int) ((X.length+U.length:Nat):Int) ((X.length+U.length+V.length:Nat):Int) ()=some (X++V++U++Y,()):=by
 unfold gw
 simp only [WV] at hlen
 have e1:w64 (((X.length+U.length:Nat):Int) - (X.length:Int))=(U.length:Int):=by rw [aJ (by omega) (by omega)];omega
 have e2:w64 (((X.length+U.length+V.length:Nat):Int) - ((X.length+U.length:Nat):Int))=(V.length:Int):=by rw [aJ (by omega) (by omega)];omega
 rw [e1,e2]
 obtain ⟨X',U',V',Y',h1,h2,h3,h4,h5⟩:=QJ (X.length+U.length) (Int.natAbs ((X.length+U.length:Nat):Int)+(Int.natAbs (U.length:Int)+(Int.natAbs (V.length:Int)+(List.length (X++U++V++Y)+2)))) X U V Y (by omega) hU hV rfl (by simp;omega)
 rw [h1,aL]
 dsimp only
 simp only [WV] at h5
 have e3:w64 (((X.length+U.length:Nat):Int) - (U'.length:Int))=(X'.length:Int):=by rw [aJ (by omega) (by omega)];omega
 have hsw:=DB X' [] Y' U' V' h2 (by simp;omega)
 simp only [Wu,WZ,Xz] at hsw
 rw [e3,show ((X.length+U.length:Nat):Int)=((X'.length+U'.length:Nat):Int) by omega,hsw,Option.bind_some,h4]
theorem U9 (i:Nat):∀ (n:Nat) (A V Y:List ah) (x:ah),V.length<n→A.length+1+V.length=i→(A++x::V++Y).length<1000000000→
 iter (X:=eo) (β:=eA) n ((i:Int),(A.length:Int),A++x::V++Y,()) er=some (Sum.inr (A++V++x::Y,())):=by
 intro n
 induction n with
 | zero=>intro A V Y x h;omega
 | succ n ih=>
  intro A V Y x hn hi hlen
  rw [iK]
  generalize hag:(fun y=>iter n y er)=again
  unfold er
  dsimp only
  simp only [WV,WW] at hlen
  have e0:w64 ((i:Int) - 1)=(i:Int) - 1:=aJ (by omega) (by omega)
  rw [e0]
  cases V with
  | nil=>rw [aN (by simp at hi;omega)];simp
  | cons v V=>
   simp only [WW] at hn hi hlen
   have e1:w64 ((A.length:Int)+1)=((A.length+1:Nat):Int):=by rw [aJ (by omega) (by omega)];omega
   have el:A++x::(v::V)++Y=A++x::v::(V++Y):=by simp
   have hg:((A++x::v::(V++Y)).set A.length v)[A.length+1]? =some v:=by rw [WQ (by omega),J4]
   rw [aM (by omega),e1,el]
   simp only [Wo,get_at,J4,Option.bind_some,hg,TA,W2]
   rw [aT (by simp only [VZ,decide_eq_true_eq,WV,WW];omega),aT (by simp only [VZ,decide_eq_true_eq,WV,WW];omega),aT (by simp only [VZ,decide_eq_true_eq,WV,WW];omega),aT (by simp only [VZ,decide_eq_true_eq,WV,WW];omega), ← hag]
   have:=ih (A++[v]) V Y x (by omega) (by simp;omega) (by simp;omega)
   simp only [WV,WW,WZ,XV] at this
   show iter n _ _=_
   rw [show A++v::x::(V++Y)=A++[v]++x::V++Y by simp,this]
   simp
theorem Tm (A:List ah):∀ (n:Nat) (U Y:List ah) (y:ah),U.length<n→(A++U++y::Y).length<1000000000→
 iter (X:=dS) (β:=dQ) n ((A.length:Int),((A.length+U.length:Nat):Int),A++U++y::Y,()) dN=some (Sum.inr (A++y::U++Y,())):=by
 intro n
 induction n with
 | zero=>intro U Y y h;omega
 | succ n ih=>
  intro U Y y hn hlen
  rw [iK]
  generalize hag:(fun y=>iter n y dN)=again
  unfold dN
  dsimp only
  simp only [WV,WW] at hlen
  rcases List.eq_nil_or_concat U with rfl | ⟨V,u,rfl⟩
  ·rw [aN (by simp)];simp
  ·rw [List.concat_eq_append] at*
   simp only [WV,WW,WZ] at hn hlen ⊢
   have e1:w64 (((A.length+(V.length+(0+1)):Nat):Int) - 1)=(((A++V).length:Nat):Int):=by rw [aJ (by omega) (by omega)];simp;omega
   have e2:((A.length+(V.length+(0+1)):Nat):Int)=(((A++V).length+1:Nat):Int):=by simp;omega
   have el:A++(V++[u])++y::Y=(A++V)++u::y::Y:=by simp
   have hg:(((A++V)++u::y::Y).set ((A++V).length+1) u)[(A++V).length]? =some u:=by rw [WQ (by omega),get_at]
   rw [aM (by omega),e1,e2,el]
   simp only [Wo,get_at,J4,Option.bind_some,hg,Qg,W2]
   rw [aT (by simp only [VZ,decide_eq_true_eq,WV,WW];omega),aT (by simp only [VZ,decide_eq_true_eq,WV,WW];omega),aT (by simp only [VZ,decide_eq_true_eq,WV,WW];omega),aT (by simp only [VZ,decide_eq_true_eq,WV,WW];omega), ← hag]
   have:=ih V (u::Y) y (by omega) (by simp;omega)
   show iter n _ _=_
   rw [show (((A++V).length:Nat):Int)=((A.length+V.length:Nat):Int) by simp,this]
   simp
theorem Ni (hc:xS k ok) (X R Y:List ah) (x:ah) (hlen:(X++[x]++R++Y).length<1000000000) (hR:Srt k R) (hx:ok x) (hok:∀ y∈R,ok y) (n:Nat) (hn:R.length<n):
 ∃ R1 R2,R=R1++R2∧(∀ y∈R1,k y<k x)∧(∀ y∈R2,k x≤k y)∧iter (X:=ez) (β:=eC) n ((X.length:Int),(),((X.length+1:Nat):Int),((X.length+1+R.length:Nat):Int),X++[x]++R++Y,()) cJ=some (Sum.inr ((X.length:Int),((X.length+1+R1.length:Nat):Int),X++[x]++R++Y,())):=by
 simp only [WV,WW,WZ] at hlen
 have hx0:(X++[x]++R++Y)[X.length]? =some x:=by simp
 have hRt:∀ i (h:i<R.length),(X++[x]++R++Y)[X.length+1+i]? =some R[i]:=fun i h=>Sz X [x] R Y h
 obtain ⟨r,h1,h2,h3,h4,h5⟩:=bsearch (f:=cJ) (fun i j=>((X.length:Int),(),(i:Int),(j:Int),X++[x]++R++Y,())) (fun i=>some (Sum.inr ((X.length:Int),(i:Int),X++[x]++R++Y,())))
  (fun t=>k ((R[t - (X.length+1)]?).getD (0,0,false,[]))<k x) (X.length+1) (X.length+1+R.length) (by
    intro i j again hi hij hj
    unfold cJ
    dsimp only
    have hh:(i+j) / 2 - (X.length+1)<R.length:=by omega
    have hg:=hRt _ hh
    rw [show X.length+1+((i+j) / 2 - (X.length+1))=(i+j) / 2 by omega] at hg
    rw [aM (by omega),Kf i j (by omega)]
    simp only [Wo,hg,hx0,Option.bind_some]
    obtain ⟨c,hcc,hlt⟩:=hc R[(i+j) / 2 - (X.length+1)] x (hok _ (WU _)) hx
    rw [hcc,aT (by simp only [VZ,decide_eq_true_eq,WV,WW];omega),aT (by simp only [VZ,decide_eq_true_eq,WV,WW];omega),Option.bind_some,List.getElem?_eq_getElem hh]
    dsimp only [Option.getD]
    by_cases hk:k R[(i+j) / 2 - (X.length+1)]<k x
    ·rw [aM (hlt.2 hk),if_pos hk,aJ (by omega) (by omega)];rfl
    ·rw [aN (fun h=>hk (hlt.1 h)),if_neg hk])
  (by
    intro i again _ _
    unfold cJ
    dsimp only
    rw [aN (by omega)])
  (by
    intro s t hs hst ht hP
    rw [List.getElem?_eq_getElem (by omega)] at hP ⊢
    have:=hR.get (i:=s - (X.length+1)) (j:=t - (X.length+1)) (by omega) (by omega)
    simp only [XY] at hP ⊢
    omega)
  n (X.length+1) (X.length+1+R.length) (by omega) (XE _) (by omega) (XE _) (fun t h1 h2=>by omega) (fun t h1 h2=>by omega)
 obtain ⟨R1,R2,rfl,hR1⟩:=qo (l:=R) (n:=r - (X.length+1)) (by omega)
 refine ⟨R1,R2,rfl, ?_, ?_, ?_⟩
 ·intro y hy
  obtain ⟨i,hi,rfl⟩:=Xd.1 hy
  have:=h4 (X.length+1+i) (by omega) (by omega)
  rw [show X.length+1+i - (X.length+1)=i by omega,WG hi,List.getElem?_eq_getElem hi] at this
  exact this
 ·intro y hy
  obtain ⟨i,hi,rfl⟩:=Xd.1 hy
  have:=h5 (X.length+1+(R1.length+i)) (by omega) (by simp;omega)
  rw [show X.length+1+(R1.length+i) - (X.length+1)=R1.length+i by omega,WH (by omega),show R1.length+i - R1.length=i by omega,List.getElem?_eq_getElem hi] at this
  simp only [XY] at this
  omega
 ·rw [h1,show X.length+1+R1.length=r by omega]
theorem MO (hc:xS k ok) (X L Y:List ah) (y:ah) (hlen:(X++L++[y]++Y).length<1000000000) (hL:Srt k L) (hy:ok y) (hok:∀ z∈L,ok z) (n:Nat) (hn:L.length<n):
 ∃ L1 L2,L=L1++L2∧(∀ z∈L1,k z≤k y)∧(∀ z∈L2,k y<k z)∧iter (X:=dW) (β:=dR) n (((X.length+L.length:Nat):Int),(),(X.length:Int),((X.length+L.length:Nat):Int),X++L++[y]++Y,()) cE=some (Sum.inr (((X.length+L.length:Nat):Int),((X.length+L1.length:Nat):Int),X++L++[y]++Y,())):=by
 simp only [WV,WW,WZ] at hlen
 have hy0:(X++L++[y]++Y)[X.length+L.length]? =some y:=by
  have:=Sz X L [y] Y (i:=0) (by simp)
  simpa using this
 have hLt:∀ i (h:i<L.length),(X++L++[y]++Y)[X.length+i]? =some L[i]:=fun i h=>UB X L [y] Y h
 obtain ⟨r,h1,h2,h3,h4,h5⟩:=bsearch (f:=cE) (fun i j=>(((X.length+L.length:Nat):Int),(),(i:Int),(j:Int),X++L++[y]++Y,())) (fun i=>some (Sum.inr (((X.length+L.length:Nat):Int),(i:Int),X++L++[y]++Y,())))
  (fun t=>¬ k y<k ((L[t - X.length]?).getD (0,0,false,[]))) X.length (X.length+L.length) (by
    intro i j again hi hij hj
    unfold cE
    dsimp only
    have hh:(i+j) / 2 - X.length<L.length:=by omega
    have hg:=hLt _ hh
    rw [show X.length+((i+j) / 2 - X.length)=(i+j) / 2 by omega] at hg
    rw [aM (by omega),Kf i j (by omega)]
    simp only [Wo,hg,hy0,Option.bind_some]
    obtain ⟨c,hcc,hlt⟩:=hc y L[(i+j) / 2 - X.length] hy (hok _ (WU _))
    rw [hcc,aT (by simp only [VZ,decide_eq_true_eq,WV,WW];omega),aT (by simp only [VZ,decide_eq_true_eq,WV,WW];omega),Option.bind_some,List.getElem?_eq_getElem hh]
    dsimp only [Option.getD]
    by_cases hk:k y<k L[(i+j) / 2 - X.length]
    ·rw [X9 (hlt.2 hk),Bool.not_true,cond_false,if_neg (fun h=>h hk)]
    ·rw [X8 (fun h=>hk (hlt.1 h)),Wa,cond_true,if_pos hk,aJ (by omega) (by omega)];rfl)
  (by
    intro i again _ _
    unfold cE
    dsimp only
    rw [aN (by omega)])
  (by
    intro s t hs hst ht hP
    rw [List.getElem?_eq_getElem (by omega)] at hP ⊢
    have:=hL.get (i:=s - X.length) (j:=t - X.length) (by omega) (by omega)
    simp only [XY] at hP ⊢
    omega)
  n X.length (X.length+L.length) (by omega) (XE _) (by omega) (XE _) (fun t h1 h2=>by omega) (fun t h1 h2=>by omega)
 obtain ⟨L1,L2,rfl,hL1⟩:=qo (l:=L) (n:=r - X.length) (by omega)
 refine ⟨L1,L2,rfl, ?_, ?_, ?_⟩
 ·intro z hz
  obtain ⟨i,hi,rfl⟩:=Xd.1 hz
  have:=h4 (X.length+i) (by omega) (by omega)
  rw [show X.length+i - X.length=i by omega,WG hi,List.getElem?_eq_getElem hi] at this
  simp only [XY] at this
  omega
 ·intro z hz
  obtain ⟨i,hi,rfl⟩:=Xd.1 hz
  have:=h5 (X.length+(L1.length+i)) (by omega) (by simp;omega)
  rw [show X.length+(L1.length+i) - X.length=L1.length+i by omega,WH (by omega),show L1.length+i - L1.length=i by omega,List.getElem?_eq_getElem hi] at this
  simp only [XY] at this
  omega
 ·rw [h1,show X.length+L1.length=r by omega]
theorem Qf (hc:xS k ok) (X L R Y:List ah) (hlen:(X++L++R++Y).length<1000000000) (hL:Srt k L) (hR:Srt k R) (hokL:∀ z∈L,ok z) (hokR:∀ z∈R,ok z) (mid lo hi:Nat) (hmid:mid=(X.length+(X.length+L.length+R.length)) / 2)
 (hcase:(mid<X.length+L.length∧lo+R.length=mid∧hi=mid∧X.length≤lo)∨(X.length+L.length≤mid∧lo=X.length∧hi=X.length+L.length)) (n:Nat) (hn:hi<n):
 ∃ s:Nat,iter (X:=dL) (β:=dP) n ((X.length:Int),((X.length+L.length:Nat):Int),((X.length+L.length+R.length:Nat):Int),(),(mid:Int),((mid+(X.length+L.length):Nat):Int),(lo:Int),(hi:Int),((mid+(X.length+L.length):Nat):Int) - 1,X++L++R++Y,()) cA=some (Sum.inr ((X.length:Int),((X.length+L.length:Nat):Int),((X.length+L.length+R.length:Nat):Int),(),(mid:Int),((mid+(X.length+L.length):Nat):Int),(s:Int),X++L++R++Y,()))∧
  lo≤s∧s≤hi∧(∀ i j (_:i<L.length) (_:j<R.length),X.length+i+1=s→j+s=mid→k L[i]≤k R[j])∧(∀ i j (_:i<L.length) (_:j<R.length),X.length+i=s→j+1+s=mid→k R[j]<k L[i]):=by
 simp only [WV] at hlen
 have hLt:∀ i (h:i<L.length),(X++L++R++Y)[X.length+i]? =some L[i]:=fun i h=>UB X L R Y h
 have hRt:∀ i (h:i<R.length),(X++L++R++Y)[X.length+L.length+i]? =some R[i]:=fun i h=>Sz X L R Y h
 obtain ⟨r,h1,h2,h3,h4,h5⟩:=bsearch (f:=cA) (fun i j=>((X.length:Int),((X.length+L.length:Nat):Int),((X.length+L.length+R.length:Nat):Int),(),(mid:Int),((mid+(X.length+L.length):Nat):Int),(i:Int),(j:Int),((mid+(X.length+L.length):Nat):Int) - 1,X++L++R++Y,()))
  (fun s=>some (Sum.inr ((X.length:Int),((X.length+L.length:Nat):Int),((X.length+L.length+R.length:Nat):Int),(),(mid:Int),((mid+(X.length+L.length):Nat):Int),(s:Int),X++L++R++Y,())))
  (fun t=>¬ k ((R[mid - 1 - t]?).getD (0,0,false,[]))<k ((L[t - X.length]?).getD (0,0,false,[]))) lo hi (by
    intro i j again hi1 hij hj
    unfold cA
    dsimp only
    generalize hh0:(i+j) / 2=h
    have hhL:h - X.length<L.length:=by omega
    have hhR:mid - 1 - h<R.length:=by omega
    have hg:=hLt _ hhL
    rw [show X.length+(h - X.length)=h by omega] at hg
    have hg2:=hRt _ hhR
    rw [aM (by omega),Kf i j (by omega),hh0]
    have e1:w64 (((mid+(X.length+L.length):Nat):Int) - 1 - (h:Int))=((X.length+L.length+(mid - 1 - h):Nat):Int):=by rw [aJ (by omega) (by omega)];omega
    rw [e1]
    simp only [Wo,hg,hg2,Option.bind_some]
    obtain ⟨c,hcc,hlt⟩:=hc R[mid - 1 - h] L[h - X.length] (hokR _ (WU _)) (hokL _ (WU _))
    rw [hcc,aT (by simp only [VZ,decide_eq_true_eq,WV];omega),aT (by simp only [VZ,decide_eq_true_eq,WV];omega),Option.bind_some,List.getElem?_eq_getElem hhL,List.getElem?_eq_getElem hhR]
    dsimp only [Option.getD]
    by_cases hk:k R[mid - 1 - h]<k L[h - X.length]
    ·rw [X9 (hlt.2 hk),Bool.not_true,cond_false,if_neg (fun h=>h hk)]
    ·rw [X8 (fun h=>hk (hlt.1 h)),Wa,cond_true,if_pos hk,aJ (by omega) (by omega)];rfl)
  (by
    intro i again _ _
    unfold cA
    dsimp only
    rw [aN (by omega)])
  (by
    intro s t hs hst ht hP
    rw [List.getElem?_eq_getElem (show t - X.length<L.length by omega),List.getElem?_eq_getElem (show mid - 1 - t<R.length by omega)] at hP
    rw [List.getElem?_eq_getElem (show s - X.length<L.length by omega),List.getElem?_eq_getElem (show mid - 1 - s<R.length by omega)]
    have a1:=hL.get (i:=s - X.length) (j:=t - X.length) (by omega) (by omega)
    have a2:=hR.get (i:=mid - 1 - t) (j:=mid - 1 - s) (by omega) (by omega)
    simp only [XY] at hP ⊢
    omega)
  n lo hi (by omega) (XE _) (by omega) (XE _) (fun t h1 h2=>by omega) (fun t h1 h2=>by omega)
 refine ⟨r,h1,h2,h3, ?_, ?_⟩
 ·intro i j hi' hj' e1 e2
  have:=h4 (X.length+i) (by omega) (by omega)
  rw [show X.length+i - X.length=i by omega,show mid - 1 - (X.length+i)=j by omega,List.getElem?_eq_getElem hi',List.getElem?_eq_getElem hj'] at this
  simp only [XY] at this
  omega
 ·intro i j hi' hj' e1 e2
  have:=h5 (X.length+i) (by omega) (by omega)
  rw [show X.length+i - X.length=i by omega,show mid - 1 - (X.length+i)=j by omega,List.getElem?_eq_getElem hi',List.getElem?_eq_getElem hj'] at this
  simp only [XY] at this
  omega
def Qt (self:((List ah)×Int×Int×Int×Unit×Unit)→Option ((List ah)×Unit)) (x:(List ah)×Int×Int×Int×Unit×Unit):=bR self x.1 x.2.1 x.2.2.1 x.2.2.2.1 x.2.2.2.2.1
set_option maxHeartbeats 4000000 in
theorem Qv (hc:xS k ok):∀ (n:Nat) (X L R Y:List ah),L.length+R.length<n+2→0<L.length→0<R.length→(X++L++R++Y).length<1000000000→Srt k L→Srt k R→(∀ z∈L,ok z)→(∀ z∈R,ok z)→
 ∃ S,AV Qt n (X++L++R++Y,(X.length:Int),((X.length+L.length:Nat):Int),((X.length+L.length+R.length:Nat):Int),(),())=some (X++S++Y,())∧Srt k S∧cw k (L++R) S:=by
 intro n
 induction n with
 | zero=>intro X L R Y h h1 h2;omega
 | succ n ih=>
  intro X L R Y hn hL0 hR0 hlen hL hR hokL hokR
  have hlen':=hlen
  simp only [WV] at hlen
  show ∃ S,Qt (AV Qt n) _=_∧_
  generalize hself:AV Qt n=self at ih
  unfold Qt bR
  dsimp only
  have e1:w64 (((X.length+L.length:Nat):Int) - (X.length:Int))=(L.length:Int):=by rw [aJ (by omega) (by omega)];omega
  have e2:w64 (((X.length+L.length+R.length:Nat):Int) - ((X.length+L.length:Nat):Int))=(R.length:Int):=by rw [aJ (by omega) (by omega)];omega
  rw [e1,e2]
  by_cases hL1:L.length=1
  ·obtain ⟨x,rfl⟩:∃ x,L=[x]:=List.length_eq_one_iff.1 hL1
   rw [show ((([x].length:Nat):Int)==1)=true by simp,cond_true]
   obtain ⟨R1,R2,rfl,h1,h2,h3⟩:=Ni hc X R Y x hlen' hR (hokL x (by simp)) hokR (Int.natAbs (X.length:Int)+(Int.natAbs ((X.length+[x].length:Nat):Int)+(Int.natAbs ((X.length+[x].length+R.length:Nat):Int)+(List.length (X++[x]++R++Y)+2)))) (by simp;omega)
   simp only [WW,WZ,XV] at h3 ⊢
   rw [h3,aL]
   dsimp only
   have hmv:=U9 (X.length+1+R1.length) (Int.natAbs ((X.length+1+R1.length:Nat):Int)+(Int.natAbs (X.length:Int)+(List.length (X++[x]++(R1++R2)++Y)+2))) X R1 (R2++Y) x (by simp;omega) rfl (by simp at hlen ⊢;omega)
   rw [show X++x::R1++(R2++Y)=X++[x]++(R1++R2)++Y by simp] at hmv
   rw [hmv,aL]
   refine ⟨R1++x::R2,by simp, ?_, ?_⟩
   ·exact hR.left.append (Xm.2 ⟨h2,hR.right⟩) (fun y hy z hz=>by
     rcases W9.1 hz with rfl | hz
     ·have:=h1 y hy;omega
     ·exact hR.Kp y hy z hz)
   ·have:=(cw.swap (k:=k) (u:=[x]) (v:=R1) (fun y hy z hz=>by rw [Xj.1 hy];have:=h1 z hz;omega)).append (cw.refl k R2)
    simpa using this
  ·rw [show (((L.length:Nat):Int)==1)=false by simp;omega,cond_false]
   by_cases hR1:R.length=1
   ·obtain ⟨y,rfl⟩:∃ x,R=[x]:=List.length_eq_one_iff.1 hR1
    rw [show ((([y].length:Nat):Int)==1)=true by simp,cond_true]
    obtain ⟨L1,L2,rfl,h1,h2,h3⟩:=MO hc X L Y y hlen' hL (hokR y (by simp)) hokL (Int.natAbs ((X.length+L.length:Nat):Int)+(Int.natAbs (X.length:Int)+(Int.natAbs ((X.length+L.length:Nat):Int)+(List.length (X++L++[y]++Y)+2)))) (by omega)
    rw [h3,aL]
    dsimp only
    have hmv:=Tm (X++L1) (Int.natAbs ((X.length+L1.length:Nat):Int)+(Int.natAbs ((X.length+(L1++L2).length:Nat):Int)+(List.length (X++(L1++L2)++[y]++Y)+2))) L2 Y y (by simp;omega) (by simp at hlen ⊢;omega)
    rw [show X++L1++L2++y::Y=X++(L1++L2)++[y]++Y by simp,show (((X++L1).length:Nat):Int)=((X.length+L1.length:Nat):Int) by simp,show (((X++L1).length+L2.length:Nat):Int)=((X.length+(L1++L2).length:Nat):Int) by simp;omega] at hmv
    rw [hmv,aL]
    refine ⟨L1++y::L2,by simp, ?_, ?_⟩
    ·exact hL.left.append (Xm.2 ⟨fun z hz=>by have:=h2 z hz;omega,hL.right⟩) (fun z hz w hw=>by
      rcases W9.1 hw with rfl | hw
      ·exact h1 z hz
      ·exact hL.Kp z hz w hw)
    ·have:=(cw.refl k L1).append (cw.swap (k:=k) (u:=L2) (v:=[y]) (fun z hz w hw=>by rw [Xj.1 hw];have:=h2 z hz;omega))
     simpa using this
   ·rw [show (((R.length:Nat):Int)==1)=false by simp;omega,cond_false]
    have eh:=Kf X.length (X.length+L.length+R.length) (by omega)
    rw [eh]
    generalize hmid:(X.length+(X.length+L.length+R.length)) / 2=mid
    have e3:w64 ((mid:Int)+((X.length+L.length:Nat):Int))=((mid+(X.length+L.length):Nat):Int):=by rw [aJ (by omega) (by omega)];omega
    rw [e3]
    obtain ⟨lo,hi,hcase,hv⟩:∃ lo hi:Nat,((mid<X.length+L.length∧lo+R.length=mid∧hi=mid∧X.length≤lo)∨(X.length+L.length≤mid∧lo=X.length∧hi=X.length+L.length))∧
     (bif decide (((X.length+L.length:Nat):Int)>(mid:Int)) then
       (some (Sum.inr ((X.length:Int),((X.length+L.length:Nat):Int),((X.length+L.length+R.length:Nat):Int),(),(mid:Int),((mid+(X.length+L.length):Nat):Int),w64 (((mid+(X.length+L.length):Nat):Int) - ((X.length+L.length+R.length:Nat):Int)),(mid:Int),X++L++R++Y,())):Option (((List ah)×Unit) ⊕ (Int×Int×Int×Unit×Int×Int×Int×Int×(List ah)×Unit)))
     else some (Sum.inr ((X.length:Int),((X.length+L.length:Nat):Int),((X.length+L.length+R.length:Nat):Int),(),(mid:Int),((mid+(X.length+L.length):Nat):Int),(X.length:Int),((X.length+L.length:Nat):Int),X++L++R++Y,())))=some (Sum.inr ((X.length:Int),((X.length+L.length:Nat):Int),((X.length+L.length+R.length:Nat):Int),(),(mid:Int),((mid+(X.length+L.length):Nat):Int),(lo:Int),(hi:Int),X++L++R++Y,())):=by
     by_cases hm:mid<X.length+L.length
     ·refine ⟨mid - R.length,mid,.inl ⟨hm,by omega,rfl,by omega⟩, ?_⟩
      rw [aM (by omega),aJ (by omega) (by omega),show ((mid+(X.length+L.length):Nat):Int) - ((X.length+L.length+R.length:Nat):Int)=((mid - R.length:Nat):Int) by omega]
     ·refine ⟨X.length,X.length+L.length,.inr ⟨by omega,rfl,rfl⟩, ?_⟩
      rw [aN (by omega)]
    rw [hv,aL]
    dsimp only
    have e4:w64 (((mid+(X.length+L.length):Nat):Int) - 1)=((mid+(X.length+L.length):Nat):Int) - 1:=aJ (by omega) (by omega)
    rw [e4]
    obtain ⟨s,h1,h2,h3,hF2,hF1⟩:=Qf hc X L R Y hlen' hL hR hokL hokR mid lo hi hmid.symm hcase (Int.natAbs (X.length:Int)+(Int.natAbs ((X.length+L.length:Nat):Int)+(Int.natAbs ((X.length+L.length+R.length:Nat):Int)+(Int.natAbs (mid:Int)+(Int.natAbs ((mid+(X.length+L.length):Nat):Int)+(Int.natAbs (lo:Int)+(Int.natAbs (hi:Int)+(Int.natAbs (((mid+(X.length+L.length):Nat):Int) - 1)+(List.length (X++L++R++Y)+2))))))))) (by omega)
    rw [h1,aL]
    dsimp only
    clear h1 hv
    obtain ⟨L1,L2,rfl,hL1l⟩:=qo (l:=L) (n:=s - X.length) (by omega)
    obtain ⟨R1,R2,rfl,hR1l⟩:=qo (l:=R) (n:=mid - s) (by simp only [WV] at *;omega)
    simp only [WV] at hn hlen hL1 hR1 hmid hcase e1 e2 e3 e4 eh hL0 hR0
    have F1:∀ y∈R1,∀ z∈L2,k y<k z:=by
     intro y hy z hz
     have hr0:0<R1.length:=W0 hy
     have hl0:0<L2.length:=W0 hz
     have:=hF1 L1.length (R1.length - 1) (by simp;omega) (by simp;omega) (by omega) (by omega)
     rw [List.getElem_append_left (show R1.length - 1<R1.length by omega),List.getElem_append_right (by omega)] at this
     obtain ⟨i,hi',rfl⟩:=Xd.1 hy
     obtain ⟨j,hj',rfl⟩:=Xd.1 hz
     have a1:=hR.left.get (i:=i) (j:=R1.length - 1) (by omega) (by omega)
     have a2:=hL.right.get (i:=L1.length - L1.length) (j:=j) (by omega) hj'
     omega
    have F2:∀ y∈L1,∀ z∈R2,k y≤k z:=by
     intro y hy z hz
     have hr0:0<L1.length:=W0 hy
     have hl0:0<R2.length:=W0 hz
     have:=hF2 (L1.length - 1) R1.length (by simp;omega) (by simp;omega) (by omega) (by omega)
     rw [List.getElem_append_left (show L1.length - 1<L1.length by omega),List.getElem_append_right (by omega)] at this
     obtain ⟨i,hi',rfl⟩:=Xd.1 hy
     obtain ⟨j,hj',rfl⟩:=Xd.1 hz
     have a1:=hL.left.get (i:=i) (j:=L1.length - 1) (by omega) (by omega)
     have a2:=hR.right.get (i:=R1.length - R1.length) (j:=j) (by omega) hj'
     omega
    have e5:w64 (((mid+(X.length+(L1++L2).length):Nat):Int) - (s:Int))=((X.length+(L1++L2).length+R1.length:Nat):Int):=by
     rw [aJ (by simp;omega) (by simp;omega)];simp only [WV];omega
    rw [e5]
    have hokL1:∀ z∈L1,ok z:=fun z hz=>hokL z (by simp [hz])
    have hokL2:∀ z∈L2,ok z:=fun z hz=>hokL z (by simp [hz])
    have hokR1:∀ z∈R1,ok z:=fun z hz=>hokR z (by simp [hz])
    have hokR2:∀ z∈R2,ok z:=fun z hz=>hokR z (by simp [hz])
    have ph1:∃ S1,(X.length<s→s<mid→self (X++L1++R1++(L2++R2++Y),(X.length:Int),(s:Int),(mid:Int),(),())=some (X++S1++(L2++R2++Y),()))∧(¬(X.length<s∧s<mid)→S1=L1++R1)∧Srt k S1∧cw k (L1++R1) S1:=by
     by_cases hb:X.length<s∧s<mid
     ·obtain ⟨S1,g1,g2,g3⟩:=ih X L1 R1 (L2++R2++Y) (by omega) (by omega) (by omega) (by simp;omega) hL.left hR.left hokL1 hokR1
      rw [show ((X.length+L1.length:Nat):Int)=(s:Int) by omega,show ((X.length+L1.length+R1.length:Nat):Int)=(mid:Int) by omega] at g1
      exact ⟨S1,fun _ _=>g1,fun h=>absurd hb h,g2,g3⟩
     ·refine ⟨L1++R1,fun h1 h2=>absurd ⟨h1,h2⟩ hb,fun _=>rfl, ?_,cw.refl _ _⟩
      rcases (show L1.length=0∨R1.length=0 by omega) with h | h
      ·rw [WC h];exact hR.left
      ·rw [WC h,Wu];exact hL.left
    obtain ⟨S1,hS1a,hS1b,hS1s,hS1e⟩:=ph1
    have hS1l:S1.length=L1.length+R1.length:=by rw [hS1e.length];simp
    have ph2:∃ S2,(bif decide ((mid:Int)<((X.length+(L1++L2).length+R1.length:Nat):Int)) then
     bif decide (((X.length+(L1++L2).length+R1.length:Nat):Int)<((X.length+(L1++L2).length+(R1++R2).length:Nat):Int)) then
      Option.bind (self (X++S1++(L2++R2++Y),(mid:Int),((X.length+(L1++L2).length+R1.length:Nat):Int),((X.length+(L1++L2).length+(R1++R2).length:Nat):Int),(),())) fun r38=>some (r38.1,())
     else some (X++S1++(L2++R2++Y),())
     else some (X++S1++(L2++R2++Y),()))=some (X++(S1++S2)++Y,())∧Srt k S2∧cw k (L2++R2) S2:=by
     simp only [WV]
     by_cases hb1:0<L2.length
     ·rw [aM (by omega)]
      by_cases hb2:0<R2.length
      ·rw [aM (by omega)]
       obtain ⟨S2,g1,g2,g3⟩:=ih (X++S1) L2 R2 Y (by omega) hb1 hb2 (by simp;omega) hL.right hR.right hokL2 hokR2
       rw [show (((X++S1).length:Nat):Int)=(mid:Int) by simp;omega,show (((X++S1).length+L2.length:Nat):Int)=((X.length+(L1.length+L2.length)+R1.length:Nat):Int) by simp;omega,show (((X++S1).length+L2.length+R2.length:Nat):Int)=((X.length+(L1.length+L2.length)+(R1.length+R2.length):Nat):Int) by simp;omega] at g1
       rw [show X++S1++(L2++R2++Y)=X++S1++L2++R2++Y by simp,g1]
       exact ⟨S2,by simp,g2,g3⟩
      ·have:R2=[]:=WC (by omega)
       subst this
       rw [aN (by simp)]
       exact ⟨L2,by simp,hL.right,by simpa using cw.refl k L2⟩
     ·have:L2=[]:=WC (by omega)
      subst this
      rw [aN (by simp;omega)]
      exact ⟨R2,by simp,hR.right,cw.refl _ _⟩
    obtain ⟨S2,hE2,hS2s,hS2e⟩:=ph2
    have fin:Srt k (S1++S2)∧cw k (L1++L2++(R1++R2)) (S1++S2):=by
     constructor
     ·refine hS1s.append hS2s fun y hy z hz=> ?_
      rcases W8.1 (hS1e.mem.1 hy) with h | h<;>rcases W8.1 (hS2e.mem.1 hz) with h' | h'
      ·exact hL.Kp y h z h'
      ·exact F2 y h z h'
      ·have:=F1 y h z h';omega
      ·exact hR.Kp y h z h'
     ·have h1:cw k (L1++(L2++R1)++R2) (L1++(R1++L2)++R2):=((cw.refl k L1).append (cw.swap fun y hy z hz=>by have:=F1 z hz y hy;omega)).append (cw.refl k R2)
      have h2:=hS1e.append hS2e
      have h3:cw k (L1++L2++(R1++R2)) (L1++R1++(L2++R2)):=by simpa using h1
      exact h3.trans h2
    refine ⟨S1++S2, ?_,fin.1,fin.2⟩
    have hsL:((X.length+(L1++L2).length:Nat):Int)=((X.length+L1.length+L2.length:Nat):Int):=by simp;omega
    have tail:∀ (D:List ah),D=X++L1++R1++(L2++R2++Y)→
     (bif decide ((X.length:Int)<(s:Int)) then
       aP (β:=((List ah)×Unit)) (γ:=(Int×Unit×Int×Int×(List ah)×Unit)) (
        bif decide ((s:Int)<(mid:Int)) then
         Option.bind (self (D,(X.length:Int),(s:Int),(mid:Int),(),())) fun r35=>
         some (Sum.inr (((X.length+(L1++L2).length+(R1++R2).length:Nat):Int),(),(mid:Int),((X.length+(L1++L2).length+R1.length:Nat):Int),r35.1,()))
        else
         some (Sum.inr (((X.length+(L1++L2).length+(R1++R2).length:Nat):Int),(),(mid:Int),((X.length+(L1++L2).length+R1.length:Nat):Int),D,()))) fun v36=>
       bif decide (v36.2.2.1<v36.2.2.2.1) then
        bif decide (v36.2.2.2.1<v36.1) then
         Option.bind (self (v36.2.2.2.2.1,v36.2.2.1,v36.2.2.2.1,v36.1,v36.2.1,())) fun r37=>
         some (r37.1,())
        else
         some (v36.2.2.2.2.1,())
       else
        some (v36.2.2.2.2.1,())
     else
      bif decide ((mid:Int)<((X.length+(L1++L2).length+R1.length:Nat):Int)) then
       bif decide (((X.length+(L1++L2).length+R1.length:Nat):Int)<((X.length+(L1++L2).length+(R1++R2).length:Nat):Int)) then
        Option.bind (self (D,(mid:Int),((X.length+(L1++L2).length+R1.length:Nat):Int),((X.length+(L1++L2).length+(R1++R2).length:Nat):Int),(),())) fun r38=>
        some (r38.1,())
       else
        some (D,())
      else
       some (D,()))=some (X++(S1++S2)++Y,()):=by
     intro D hD
     by_cases hb1:X.length<s
     ·rw [aM (by omega)]
      by_cases hb2:s<mid
      ·rw [aM (by omega),hD,hS1a hb1 hb2,Option.bind_some,aL]
       exact hE2
      ·rw [aN (by omega),aL,hD]
       have:X++L1++R1++(L2++R2++Y)=X++S1++(L2++R2++Y):=by rw [hS1b (fun h=>hb2 h.2)];simp
       rw [this]
       exact hE2
     ·rw [aN (by omega),hD]
      have:X++L1++R1++(L2++R2++Y)=X++S1++(L2++R2++Y):=by rw [hS1b (fun h=>hb1 h.1)];simp
      rw [this]
      exact hE2
    by_cases hsm:s<X.length+(L1++L2).length
    ·rw [aM (by omega)]
     by_cases hme:0<R1.length
     ·have hrot:=Tu (X++L1) L2 R1 (R2++Y) (by simp at hsm;omega) hme (by simp;omega)
      rw [show (((X++L1).length:Nat):Int)=(s:Int) by simp;omega,show (((X++L1).length+L2.length:Nat):Int)=((X.length+(L1++L2).length:Nat):Int) by simp;omega,show (((X++L1).length+L2.length+R1.length:Nat):Int)=((X.length+(L1++L2).length+R1.length:Nat):Int) by simp;omega,
       show X++L1++L2++R1++(R2++Y)=X++(L1++L2)++(R1++R2)++Y by simp] at hrot
      rw [aM (by omega),hrot,Option.bind_some,aL]
      exact tail _ (by simp)
     ·have:R1=[]:=WC (by omega)
      subst this
      rw [aN (by simp),aL]
      exact tail _ (by simp)
    ·rw [aN (by omega)]
     have:L2=[]:=WC (by simp at hsm;omega)
     subst this
     exact tail _ (by simp)
theorem Lh (hc:xS k ok) (X L R Y:List ah) (h1:0<L.length) (h2:0<R.length) (hlen:(X++L++R++Y).length<1000000000) (hL:Srt k L) (hR:Srt k R) (hokL:∀ z∈L,ok z) (hokR:∀ z∈R,ok z):
 ∃ S,dc (X++L++R++Y) (X.length:Int) ((X.length+L.length:Nat):Int) ((X.length+L.length+R.length:Nat):Int) ()=some (X++S++Y,())∧Srt k S∧cw k (L++R) S:=by
 unfold dc
 exact Qv hc _ X L R Y (by unfold gF;simp only [WV];omega) h1 h2 hlen hL hR hokL hokR
theorem PL (hc:xS k ok) (N:Nat) (hN:N<100000000):∀ (n:Nat) (A Z:List ah) (j:Nat),A.length=j*20→A.length+Z.length=N→Z.length<n→ChS k 20 A→(∀ z∈A,ok z)→(∀ z∈Z,ok z)→
 ∃ A' Z' j',iter (X:=fG) (β:=fB) n ((N:Int),(),20,(A.length:Int),((A.length+20:Nat):Int),A++Z,()) fA=some (Sum.inr ((N:Int),(),20,(A'.length:Int),A'++Z',()))∧A'.length=j'*20∧Z'.length<20∧ChS k 20 A'∧cw k (A++Z) (A'++Z'):=by
 intro n
 induction n with
 | zero=>intro A Z j _ _ h;omega
 | succ n ih=>
  intro A Z j hA hAZ hn hch hokA hokZ
  rw [iK]
  generalize hag:(fun y=>iter n y fA)=again
  unfold fA
  dsimp only
  by_cases hb:20≤Z.length
  ·rw [aM (by omega)]
   obtain ⟨S,Y,rfl,hS⟩:=qo (l:=Z) (n:=20) hb
   simp only [WV] at hAZ hn
   obtain ⟨S',g1,g2,g3⟩:=Jd hc A S Y (by simp;omega) (fun z hz=>hokZ z (by simp [hz]))
   rw [hS] at g1
   rw [show A++(S++Y)=A++S++Y by simp,g1,Option.bind_some]
   dsimp only
   have hS':S'.length=20:=by rw [g3.length,hS]
   have e1:w64 (((A.length+20:Nat):Int)+20)=(((A++S').length+20:Nat):Int):=by rw [aJ (by omega) (by omega)];simp;omega
   rw [e1,show ((A.length+20:Nat):Int)=(((A++S').length:Nat):Int) by simp;omega, ← hag]
   obtain ⟨A',Z',j',h1,h2,h3,h4,h5⟩:=ih (A++S') Y (j+1) (by simp;omega) (by simp;omega) (by omega) (hch.snoc hA g2 (by omega)) (fun z hz=>by
    rcases W8.1 hz with h | h
    ·exact hokA z h
    ·exact hokZ z (by simp [g3.mem.1 h])) (fun z hz=>hokZ z (by simp [hz]))
   refine ⟨A',Z',j',h1,h2,h3,h4, ?_⟩
   have:cw k (A++S++Y) (A++S'++Y):=((cw.refl k A).append g3).append (cw.refl k Y)
   exact this.trans h5
  ·rw [aN (by omega)]
   exact ⟨A,Z,j,rfl,hA,by omega,hch,cw.refl _ _⟩
theorem Q5 (hc:xS k ok) (N bs:Nat) (hN:N<100000000) (hbs:0<bs) (hbN:bs<N):∀ (n:Nat) (A Z:List ah) (j:Nat),A.length=j*(2*bs)→A.length+Z.length=N→Z.length<n→ChS k (2*bs) A→ChS k bs Z→(∀ z∈A,ok z)→(∀ z∈Z,ok z)→
 ∃ A' Z' j',iter (X:=fH) (β:=fh) n ((N:Int),(),(bs:Int),(A.length:Int),((A.length+2*bs:Nat):Int),A++Z,()) fI=some (Sum.inr ((N:Int),(),(bs:Int),(A'.length:Int),A'++Z',()))∧A'.length=j'*(2*bs)∧Z'.length<2*bs∧ChS k (2*bs) A'∧ChS k bs Z'∧cw k (A++Z) (A'++Z'):=by
 intro n
 induction n with
 | zero=>intro A Z j _ _ h;omega
 | succ n ih=>
  intro A Z j hA hAZ hn hch hcz hokA hokZ
  rw [iK]
  generalize hag:(fun y=>iter n y fI)=again
  unfold fI
  dsimp only
  by_cases hb:2*bs≤Z.length
  ·rw [aM (by omega)]
   obtain ⟨L,Z1,rfl,hL⟩:=qo (l:=Z) (n:=bs) (by omega)
   obtain ⟨R,Y,rfl,hR⟩:=qo (l:=Z1) (n:=bs) (by simp at hb;omega)
   simp only [WV] at hAZ hn hb
   have sL:Srt k L:=by
    have:=hcz 0
    rw [XX,WB, ← hL,Xu] at this
    exact this
   have sR:Srt k R:=by
    have:=hcz 1
    rw [XR] at this
    conv at this=>arg 2;rw [show bs=L.length by omega,WA,show L.length=R.length by omega,Xu]
    exact this
   have cY:ChS k bs Y:=by
    have:=hcz.drop 2
    rw [show L++(R++Y)=(L++R)++Y by simp,show 2*bs=(L++R).length by simp;omega,WA] at this
    exact this
   obtain ⟨S,g1,g2,g3⟩:=Lh hc A L R Y (by omega) (by omega) (by simp;omega) sL sR (fun z hz=>hokZ z (by simp [hz])) (fun z hz=>hokZ z (by simp [hz]))
   have e0:w64 ((A.length:Int)+(bs:Int))=((A.length+L.length:Nat):Int):=by rw [aJ (by omega) (by omega)];omega
   rw [e0,show ((A.length+2*bs:Nat):Int)=((A.length+L.length+R.length:Nat):Int) by omega,show A++(L++(R++Y))=A++L++R++Y by simp,g1,Option.bind_some]
   dsimp only
   have hSl:S.length=2*bs:=by rw [g3.length];simp;omega
   have e1:w64 (((A.length+L.length+R.length:Nat):Int)+w64 (2*(bs:Int)))=(((A++S).length+2*bs:Nat):Int):=by
    rw [aJ (n:=2*(bs:Int)) (by omega) (by omega),aJ (by omega) (by omega)];simp;omega
   rw [e1,show ((A.length+L.length+R.length:Nat):Int)=(((A++S).length:Nat):Int) by simp;omega, ← hag]
   obtain ⟨A',Z',j',h1,h2,h3,h4,h5,h6⟩:=ih (A++S) Y (j+1) (by rw [WV,hA,hSl,Xy,XR]) (by simp;omega) (by omega) (hch.snoc hA g2 (by omega)) cY (fun z hz=>by
    rcases W8.1 hz with h | h
    ·exact hokA z h
    ·rcases W8.1 (g3.mem.1 h) with h | h<;>exact hokZ z (by simp [h])) (fun z hz=>hokZ z (by simp [hz]))
   refine ⟨A',Z',j',h1,h2,h3,h4,h5, ?_⟩
   have:cw k (A++(L++R)++Y) (A++S++Y):=((cw.refl k A).append g3).append (cw.refl k Y)
   have h7:=this.trans h6
   simpa using h7
  ·rw [aN (by omega)]
   exact ⟨A,Z,j,rfl,hA,by omega,hch,hcz,cw.refl _ _⟩
theorem Rf (hc:xS k ok) (N:Nat) (hN:N<100000000):∀ (n bs:Nat) (l:List ah),l.length=N→0<bs→N<bs+n∧0<n→bs<400000000→ChS k bs l→(∀ z∈l,ok z)→
 ∃ l',iter (X:=fm) (β:=fJ) n ((N:Int),(),(bs:Int),l,()) fF=some (Sum.inr (l',()))∧Srt k l'∧cw k l l':=by
 intro n
 induction n with
 | zero=>
  intro bs l hl hbs hn hb2 hch hok
  exact absurd hn (by omega)
 | succ n ih=>
  intro bs l hl hbs hn hb2 hch hok
  rw [iK]
  generalize hag:(fun y=>iter n y fF)=again
  unfold fF
  dsimp only
  by_cases hb:bs<N
  ·rw [aM (by omega)]
   have e0:w64 (2*(bs:Int))=(((([]:List ah).length)+2*bs:Nat):Int):=by rw [aJ (by omega) (by omega)];simp
   rw [e0,show (0:Int)=((([]:List ah).length:Nat):Int) from rfl]
   obtain ⟨A,Z,j,h1,h2,h3,h4,h5,h6⟩:=Q5 hc N bs hN hbs hb (Int.natAbs (N:Int)+(Int.natAbs (bs:Int)+(Int.natAbs ((([]:List ah).length:Nat):Int)+(Int.natAbs (((([]:List ah).length)+2*bs:Nat):Int)+(List.length l+2))))) [] l 0 (by simp) (by simpa using hl) (by omega) (ChS.nil _ _) hch (by simp) hok
   rw [List.nil_append] at h1 h6
   rw [h1,aL]
   dsimp only
   have hAZ:A.length+Z.length=N:=by have:=h6.length;simp at this;omega
   have hokAZ:∀ z∈A++Z,ok z:=fun z hz=>hok z (h6.mem.1 hz)
   have e1:w64 ((A.length:Int)+(bs:Int))=((A.length+bs:Nat):Int):=by rw [aJ (by omega) (by omega)];omega
   have e2:w64 ((bs:Int)*2)=((2*bs:Nat):Int):=by rw [aJ (by omega) (by omega)];omega
   rw [e1,e2]
   by_cases hlast:A.length+bs<N
   ·rw [aM (by omega)]
    obtain ⟨L,R,rfl,hL⟩:=qo (l:=Z) (n:=bs) (by omega)
    simp only [WV] at hAZ h3
    have sL:Srt k L:=by
     have:=h5 0
     rw [XX,WB, ← hL,Xu] at this
     exact this
    have sR:Srt k R:=by
     have:=h5 1
     rw [XR] at this
     conv at this=>arg 2;rw [show List.drop bs (L++R)=R by rw [← hL];exact WA,Xv (by omega)]
     exact this
    obtain ⟨S,g1,g2,g3⟩:=Lh hc A L R [] (by omega) (by omega) (by simp;omega) sL sR (fun z hz=>hokAZ z (by simp [hz])) (fun z hz=>hokAZ z (by simp [hz]))
    simp only [Wu] at g1
    rw [show ((A.length+bs:Nat):Int)=((A.length+L.length:Nat):Int) by omega,show ((N:Nat):Int)=((A.length+L.length+R.length:Nat):Int) by omega,show A++(L++R)=A++L++R by simp,g1,Option.bind_some, ← hag]
    have hsam:cw k l (A++S):=h6.trans (by simpa using (cw.refl k A).append g3)
    obtain ⟨l',q1,q2,q3⟩:=ih (2*bs) (A++S) (by rw [hsam.length];exact hl) (by omega) ⟨by omega,by omega⟩ (by omega) (h4.snoc h2 g2 (by rw [g3.length];simp;omega)) (fun z hz=>hok z (hsam.mem.1 hz))
    rw [show ((A.length+L.length+R.length:Nat):Int)=((N:Nat):Int) by omega]
    exact ⟨l',q1,q2,hsam.trans q3⟩
   ·rw [aN (by omega), ← hag]
    have sZ:Srt k Z:=by
     have:=h5 0
     rw [XX,WB,Xv (by omega)] at this
     exact this
    obtain ⟨l',q1,q2,q3⟩:=ih (2*bs) (A++Z) (by simp;omega) (by omega) ⟨by omega,by omega⟩ (by omega) (h4.snoc h2 sZ (by omega)) hokAZ
    exact ⟨l',q1,q2,h6.trans q3⟩
  ·rw [aN (by omega)]
   refine ⟨l,rfl, ?_,cw.refl _ _⟩
   have:=hch 0
   rw [XX,WB,Xv (by omega)] at this
   exact this
theorem OC (hc:xS k ok) (l:List ah) (hl:l.length<100000000) (hok:∀ z∈l,ok z):∃ l',dz l ()=some (l',())∧Srt k l'∧cw k l l':=by
 unfold dz jL
 obtain ⟨A,Z,j,h1,h2,h3,h4,h5⟩:=PL hc l.length hl (Int.natAbs (l.length:Int)+(Int.natAbs (20:Int)+(Int.natAbs (0:Int)+(Int.natAbs (20:Int)+(List.length l+2))))) [] l 0 (by simp) (by simp) (by omega) (ChS.nil _ _) (by simp) hok
 simp only [WZ,List.nil_append] at h1 h5
 rw [show ((0+20:Nat):Int)=20 from rfl,show ((0:Nat):Int)=0 from rfl] at h1
 rw [h1,aL]
 dsimp only
 have hAZ:A.length+Z.length=l.length:=by have:=h5.length;simp at this;omega
 obtain ⟨Z',g1,g2,g3⟩:=Jd hc A Z [] (by simp;omega) (fun z hz=>hok z (h5.mem.1 (by simp [hz])))
 simp only [Wu] at g1
 rw [show ((A.length+Z.length:Nat):Int)=(l.length:Int) by omega] at g1
 rw [g1,Option.bind_some]
 dsimp only
 have hsam:cw k l (A++Z'):=h5.trans ((cw.refl k A).append g3)
 obtain ⟨l',q1,q2,q3⟩:=Rf hc l.length hl (Int.natAbs (l.length:Int)+(Int.natAbs (20:Int)+(List.length (A++Z')+2))) 20 (A++Z') hsam.length (by omega) ⟨by omega,by omega⟩ (by omega) (h4.snoc h2 g2 (by rw [g3.length];omega)) (fun z hz=>hok z (hsam.mem.1 hz))
 rw [show ((20:Nat):Int)=20 from rfl] at q1
 rw [q1,aL]
 exact ⟨l',rfl,q2,hsam.trans q3⟩
end
end Go.Md.SA
namespace Go.Md
open Go.Dn
structure Bb (ws:List Nat):Prop where
 len:0<ws.length∧ws.length≤20
 le:∀ w∈ws,w≤1000000000
 pos:0<ws.sum
def wI (ws:List Nat):List Int:=ws.map fun (w:Nat)=>(w:Int)
theorem vB (ws:List Nat):(wI ws).length=ws.length:=by simp [wI]
theorem Mf {ws:List Nat} {i:Nat} {w:Nat} (h:ws[i]? =some w):(wI ws)[i]? =some (w:Int):=by
 unfold wI;rw [List.getElem?_map,h];rfl
theorem Cw {ws:List Nat} {i w:Nat} (h:ws[i]? =some w):(ws.take (i+1)).sum=(ws.take i).sum+w:=by
 rw [Xs,h,Xq];simp
theorem L3 {c:Nat}:∀ l:List Nat,(∀ x∈l,x≤c)→l.sum≤l.length*c
 | [],_=>by simp
 | x::l,h=>by
  have h1:=L3 l fun y hy=>h y (Xa _ hy)
  have h2:=h x Xb
  simp only [Xr,WW,Xy,XR];omega
theorem Bb.P4 {ws:List Nat} (h:Bb ws) (i:Nat):(ws.take i).sum≤20000000000:=by
 have h1:=L3 (ws.take i) fun x hx=>h.le x (Xg hx)
 have h2:(ws.take i).length≤20:=by rw [W3];have:=h.len;omega
 have h3:(ws.take i).length*1000000000≤20*1000000000:=XP _ h2
 omega
theorem Bb.Te {ws:List Nat} (h:Bb ws):ws.sum≤20000000000:=by
 have:=h.P4 ws.length
 rwa [Xv (XE _)] at this
theorem Fl {ws:List Nat} (h:Bb ws):oZ (wI ws)=some (0,()):=by
 have hl:=h.len
 have loop:∀ f,ws.length<f→iter f ((0,wI ws,((wI ws).length:Int),(0:Int),()):mD) mF=some (Sum.inr ((ws.sum:Int),())):=by
  intro f hf
  rw [vB]
  refine bS (Inv:=fun i X=>X=((((ws.take i).sum:Nat):Int),wI ws,(ws.length:Int),(i:Int),())) ws.length (fun r=>r=some (Sum.inr ((ws.sum:Int),()))) ?_ ?_ f 0 _ (by simp) (by omega) (by omega)
  ·rintro i _ again hi rfl ih
   unfold mF
   dsimp only
   have hw:ws[i]? =some ws[i]:=aR hi
   have hwl:=h.le _ (WU hi)
   generalize ws[i]=w at hw hwl
   have h1:=h.P4 i
   rw [aM (by omega),bM,Mf hw,Option.bind_some,mh,Option.bind_some]
   dsimp only
   rw [aN (by omega),aJ (by omega) (by omega),aJ (by omega) (by omega)]
   refine ih _ ?_
   rw [Cw hw]
   simp
  ·rintro _ again rfl
   unfold mF
   dsimp only
   rw [aN (by omega),Xv (XE _)]
 unfold oZ
 rw [FP,vB,aN (by omega),aN (by omega)]
 have e:=loop (Int.natAbs (0:Int)+((wI ws).length+(Int.natAbs (((wI ws).length:Nat):Int)+(Int.natAbs (0:Int)+2)))) (by rw [vB];omega)
 rw [vB] at e
 rw [e,aL]
 have:=h.pos
 dsimp only
 rw [show ((ws.sum:Int)==0)=false by simp;omega,cond_false]
def shE (u:Nat) (ws:List Nat) (j:Nat):ah:=((j:Int),(shQ u ws.sum (ws.getD j 0):Int),W (shR u ws.sum (ws.getD j 0):Int))
def rS (u:Nat) (ws:List Nat) (j:Nat):Nat:=shR u ws.sum (ws.getD j 0)
def kS (u:Nat) (ws:List Nat) (x:ah):Int:= -(rS u ws x.1.toNat:Int)
theorem UA {u:Nat} {ws:List Nat} (h:Bb ws) (j:Nat):rS u ws j<20000000000:=XH (XN _ h.pos) h.Te
theorem VL {u:Nat} {ws:List Nat} (h:Bb ws):SA.xS (kS u ws) (fun x=>∃ j:Nat,x=shE u ws j):=by
 rintro _ _ ⟨i,rfl⟩ ⟨j,rfl⟩
 unfold kN shE
 dsimp only
 have h1:=UA (u:=u) h i
 have h2:=UA (u:=u) h j
 unfold rS at h1 h2
 have L:∀ n:Nat,n<20000000000→((n:Int)).natAbs<4294967296 ^ 99:=fun n hn=>(Le.int (by omega) (by omega):Le 19 (n:Int)).w (by omega)
 rw [sI _ _ (L _ h2) (L _ h1),Option.bind_some]
 refine ⟨_,rfl, ?_⟩
 unfold kS rS
 simp only [Wo]
 generalize shR u ws.sum (ws.getD i 0)=a
 generalize shR u ws.sum (ws.getD j 0)=b
 rcases XK a b with hh | hh | hh
 ·rw [Int.sign_eq_one_of_pos (by omega)];omega
 ·subst hh;simp
 ·rw [Int.sign_eq_neg_one_of_neg (by omega)];omega
theorem EZ {α:Type} {k:α→Int} {R:α→α→Prop}:∀ {l:List α},Srt k l→(∀ v,(l.filter fun x=>k x==v).Pairwise R)→l.Pairwise fun x y=>k x<k y∨(k x=k y∧R x y)
 | [],_,_=>List.Pairwise.nil
 | x::l,hs,hf=>by
  have hs':=Xm.1 hs
  refine Xm.2 ⟨fun y hy=> ?_,EZ hs'.2 fun v=> ?_⟩
  ·have h1:=hs'.1 y hy
   by_cases e:k x=k y
   ·refine .inr ⟨e, ?_⟩
    have:=hf (k x)
    rw [List.filter_cons_of_pos (by simp)] at this
    exact (Xm.1 this).1 y (List.mem_filter.2 ⟨hy,by simp [e]⟩)
   ·exact .inl (by omega)
  ·have:=hf v
   by_cases e:(k x==v)=true
   ·simp only [List.filter_cons,e,Ye] at this
    exact (Xm.1 this).2
   ·simp only [List.filter_cons,if_neg e] at this;exact this
theorem Ov {u:Nat} {ws:List Nat} (h:Bb ws):∃ o,zR (rS u ws) ws.length o∧dz ((List.range ws.length).map (shE u ws)) ()=some (o.map (shE u ws),()):=by
 obtain ⟨l',g1,g2,g3⟩:=SA.OC (VL (u:=u) h) ((List.range ws.length).map (shE u ws)) (by simp;have:=h.len;omega) (fun z hz=>by
  obtain ⟨j,_,rfl⟩:=Xf.1 hz;exact ⟨j,rfl⟩)
 have hmem:∀ x∈l',∃ j,x=shE u ws j:=fun x hx=>by
  obtain ⟨j,_,rfl⟩:=Xf.1 (g3.mem.1 hx);exact ⟨j,rfl⟩
 have hid:∀ j,(shE u ws j).1.toNat=j:=fun j=>by unfold shE;simp
 have hl':l'=(l'.map fun x=>x.1.toNat).map (shE u ws):=by
  rw [List.map_map]
  conv=>lhs;rw [← List.map_id l']
  apply W5
  intro x hx
  obtain ⟨j,rfl⟩:=hmem x hx
  simp only [Function.comp,hid,id]
 refine ⟨l'.map fun x=>x.1.toNat,⟨?_, ?_⟩,by rw [← hl'];exact g1⟩
 ·have:=g3.perm.map fun x:ah=>x.1.toNat
  rw [List.map_map] at this
  have e:((List.range ws.length).map ((fun x:ah=>x.1.toNat) ∘ shE u ws))=List.range ws.length:=by
   conv=>rhs;rw [← List.map_id (List.range ws.length)]
   apply W5
   intro j _
   exact hid j
  rw [e] at this
  exact this
 ·have hp:=EZ (k:=kS u ws) (R:=fun x y:ah=>x.1<y.1) g2 (fun v=>by
   rw [g3.keys v]
   refine List.Pairwise.filter _ ?_
   rw [List.pairwise_map]
   exact (List.pairwise_lt_range (n:=ws.length)).imp fun {a b} hab=>by
    show ((a:Nat):Int)<((b:Nat):Int)
    omega)
  rw [List.pairwise_map]
  refine List.Pairwise.imp_of_mem (fun {x y} hx hy hh=> ?_) hp
  obtain ⟨i,rfl⟩:=hmem x hx
  obtain ⟨j,rfl⟩:=hmem y hy
  rw [hid,hid]
  unfold kS at hh
  rw [hid,hid] at hh
  unfold ahead
  have e1:(shE u ws i).1=(i:Int):=rfl
  have e2:(shE u ws j).1=(j:Int):=rfl
  rw [e1,e2] at hh
  omega
theorem Cp {β:Type} (f g:Nat→β) (n i:Nat) (x:β) (hf:∀ j,j<n→j≠i→g j=f j) (hx:g i=x):((List.range n).map f).set i x=(List.range n).map g:=by
 apply WD
 intro j
 by_cases hj:j<n
 ·rw [List.getElem?_map,WM hj]
  by_cases e:i=j
  ·subst e
   rw [WR (by simpa using hj)];simp [hx]
  ·rw [WQ e,List.getElem?_map,WM hj]
   simp [hf j hj (fun h=>e h.symm)]
 ·rw [WL (by simp;omega),WL (by simp;omega)]
def shG (n:Int) (ws:List Nat) (i:Nat):Int:=
 let q:Nat:=shQ n.natAbs ws.sum (ws.getD i 0)+if p6 (rS n.natAbs ws) ws.length i<n.natAbs - (ws.map (shQ n.natAbs ws.sum)).sum then 1 else 0
 if n<0 then -(q:Int) else (q:Int)
theorem Oz (n:Int) (ws:List Nat):gE n ws=(List.range ws.length).map (shG n ws):=by
 unfold gE AL shG rS
 rw [List.map_map]
 rfl
theorem MA (f:Nat→Nat) (l:List Nat) (i:Nat):((l.take i).map f).sum≤(l.map f).sum:=by
 conv=>rhs;rw [← Xt i l,W4,Xq]
 omega
theorem LD (n pl:Int) (hn:n.natAbs≤1000000000000000) (hpl:0≤pl∧pl≤9) (ws:List Nat) (h:Bb ws):
 s9 (n,pl) (wI ws)=some ((gE n ws).map fun x=>(x,pl),0,()):=by
 have hl:=h.len
 have hsum:=h.Te
 have hpos:=h.pos
 generalize hu:n.natAbs=u at*
 have hQ:∀ j,shQ u ws.sum (ws.getD j 0)≤u:=fun j=>by
  unfold shQ
  have hw:ws.getD j 0≤ws.sum:=by
   rw [List.getD_eq_getElem?_getD]
   cases hj:ws[j]? with
   | none=>simp
   | some w=>
    have h1:(ws.take (j+1)).sum≤ws.sum:=by
     conv=>rhs;rw [← Xt (j+1) ws,Xq]
     omega
    rw [Cw hj] at h1
    simp;omega
  exact Nat.div_le_of_le_mul (by rw [XO ws.sum];exact Nat.mul_le_mul_left u hw)
 unfold s9
 rw [gD,Option.bind_some]
 dsimp only
 rw [if_pos (show bA (n,pl) from ⟨by omega,hpl.1,hpl.2⟩),show ((0:Int) != 0)=false from rfl,cond_false,Fl h,Option.bind_some]
 dsimp only
 rw [show ((0:Int) != 0)=false from rfl,cond_false]
 have loop1:∀ f,ws.length<f→iter f ((wI ws,(0:Int),wI ws,((wI ws).length:Int),(0:Int),n,pl,()):sA) sQ=some (Sum.inr (wI ws,(ws.sum:Int),n,pl,())):=by
  intro f hf
  rw [vB]
  refine bS (Inv:=fun i X=>X=(wI ws,(((ws.take i).sum:Nat):Int),wI ws,(ws.length:Int),(i:Int),n,pl,())) ws.length (fun r=>r=some (Sum.inr (wI ws,(ws.sum:Int),n,pl,()))) ?_ ?_ f 0 _ (by simp) (by omega) (by omega)
  ·rintro i _ again hi rfl ih
   unfold sQ
   dsimp only
   have hw:ws[i]? =some ws[i]:=aR hi
   have hwl:=h.le _ (WU hi)
   generalize ws[i]=w at hw hwl
   have h1:=h.P4 i
   rw [aM (by omega),bM,Mf hw,Option.bind_some,aJ (by omega) (by omega),aJ (by omega) (by omega)]
   refine ih _ ?_
   rw [Cw hw]
   simp
  ·rintro _ again rfl
   unfold sQ
   dsimp only
   rw [aN (by omega),Xv (XE _)]
 rw [loop1 _ (by rw [vB];omega),aL]
 dsimp only
 have hmax:(if (w64 (0 - n))>n then (w64 (0 - n)) else n)=(u:Int):=by
  rw [aJ (by omega) (by omega)]
  split<;>omega
 rw [hmax]
 have loop2:∀ f,ws.length<f→iter f (((ws.sum:Int),(u:Int),(u:Int),([]:List ah),wI ws,((wI ws).length:Int),(0:Int),n,pl,()):qH) qF=some (Sum.inr (((u - (ws.map (shQ u ws.sum)).sum:Nat):Int),(List.range ws.length).map (shE u ws),n,pl,())):=by
  intro f hf
  rw [vB]
  have hle:=(left_eq (u:=u) hpos).2
  have htk:∀ i,((ws.take i).map (shQ u ws.sum)).sum≤u:=fun i=>by
   have:=MA (shQ u ws.sum) ws i
   omega
  refine bS (Inv:=fun i X=>X=((ws.sum:Int),(u:Int),((u - ((ws.take i).map (shQ u ws.sum)).sum:Nat):Int),(List.range i).map (shE u ws),wI ws,(ws.length:Int),(i:Int),n,pl,())) ws.length (fun r=>r=some (Sum.inr (((u - (ws.map (shQ u ws.sum)).sum:Nat):Int),(List.range ws.length).map (shE u ws),n,pl,()))) ?_ ?_ f 0 _ (by simp) (by omega) (by omega)
  ·rintro i _ again hi rfl ih
   unfold qF
   dsimp only
   have hw:ws[i]? =some ws[i]:=aR hi
   have hwl:=h.le _ (WU hi)
   generalize ws[i]=w at hw hwl
   have hgd:ws.getD i 0=w:=by rw [List.getD_eq_getElem?_getD,hw];rfl
   have hq:=hQ i
   rw [hgd] at hq
   have L:∀ m:Nat,m≤1000000000000000→Le 19 (m:Int):=fun m hm=>Le.int (by omega) (by omega)
   rw [aM (by omega),bM,Mf hw,Option.bind_some,fN _ (by omega) (by omega),Option.bind_some,fN _ (by omega) (by omega),Option.bind_some]
   dsimp only
   rw [gC _ _ ((L u (by omega)).w (by omega)) ((L w (by omega)).w (by omega)),Option.bind_some,fN _ (by omega) (by omega),Option.bind_some]
   dsimp only
   rw [← Wl,EH _ _ (by rw [Wl];exact ((L u (by omega)).mul (L w (by omega))).w (by omega)) ((L ws.sum (by omega)).w (by omega)) (by omega),Option.bind_some]
   dsimp only
   rw [Wk,Wk,show u*w / ws.sum=shQ u ws.sum w from rfl,show u*w % ws.sum=shR u ws.sum w from rfl,sC _ _ (by omega) (by omega),Option.bind_some,if_pos (by omega)]
   dsimp only
   rw [aT (lY (by simp;omega) (by simp;omega)),aJ (by omega) (by omega)]
   have h1:=htk (i+1)
   have e1:((ws.take (i+1)).map (shQ u ws.sum)).sum=((ws.take i).map (shQ u ws.sum)).sum+shQ u ws.sum w:=by
    rw [Xs,hw,W4,Xq];simp
   have h2:=htk i
   rw [aJ (by omega) (by omega)]
   refine ih _ ?_
   rw [e1,List.range_succ,W4]
   have e2:((u - (((ws.take i).map (shQ u ws.sum)).sum+shQ u ws.sum w):Nat):Int)=((u - ((ws.take i).map (shQ u ws.sum)).sum:Nat):Int) - (shQ u ws.sum w:Int):=by omega
   rw [e2]
   unfold shE
   simp only [W6,W7,hgd]
   rfl
  ·rintro _ again rfl
   unfold qF
   dsimp only
   rw [aN (by omega),Xv (XE _)]
 rw [loop2 _ (by rw [vB];omega),aL]
 dsimp only
 obtain ⟨o,ho,hsort⟩:=Ov (u:=u) h
 rw [hsort,Option.bind_some]
 dsimp only
 have hol:=ho.len
 generalize hlf:u - (ws.map (shQ u ws.sum)).sum=left
 rw [WY,hol,aT (by simp only [VZ,decide_eq_true_eq];omega)]
 have hg:∀ i,shG n ws i=if n<0 then -((shQ u ws.sum (ws.getD i 0)+if p6 (rS u ws) ws.length i<left then 1 else 0:Nat):Int) else ((shQ u ws.sum (ws.getD i 0)+if p6 (rS u ws) ws.length i<left then 1 else 0:Nat):Int):=fun i=>by
  unfold shG;dsimp only;rw [hu,hlf]
 have loop3:∀ f,ws.length<f→iter f (((left:Int),o.map (shE u ws),(ws.length:Int),(0:Int),n,pl,List.replicate (Int.toNat (ws.length:Int)) ((0,0):ak),()):qN) qP=some (Sum.inr ((gE n ws).map fun x=>(x,pl),())):=by
  intro f hf
  refine bS (Inv:=fun c X=>X=((left:Int),o.map (shE u ws),(ws.length:Int),(c:Int),n,pl,(List.range ws.length).map (fun i=>if p6 (rS u ws) ws.length i<c then (shG n ws i,pl) else ((0,0):ak)),())) ws.length (fun r=>r=some (Sum.inr ((gE n ws).map fun x=>(x,pl),()))) ?_ ?_ f 0 _ ?_ (by omega) (by omega)
  ·rintro c _ again hc rfl ih
   unfold qP
   dsimp only
   have hoc:o[c]? =some (o[c]'(by omega)):=aR (by omega)
   generalize (o[c]'(by omega))=i at hoc
   have hin:i<ws.length:=ho.mem.1 (List.mem_of_getElem? hoc)
   have hrk:=ho.T9 hoc
   have hget:(o.map (shE u ws))[c]? =some (shE u ws i):=by rw [List.getElem?_map,hoc];rfl
   have hqi:=hQ i
   have hset:((List.range ws.length).map (fun j=>if p6 (rS u ws) ws.length j<c then (shG n ws j,pl) else ((0,0):ak))).set i (shG n ws i,pl)=(List.range ws.length).map (fun j=>if p6 (rS u ws) ws.length j<c+1 then (shG n ws j,pl) else ((0,0):ak)):=by
    refine Cp _ _ _ _ _ (fun j hj hji=> ?_) (by simp only [hrk];rw [if_pos (by omega)])
    have hjr:=ho.PO hj
    have hne:p6 (rS u ws) ws.length j≠c:=fun e=>by
     rw [e,hoc] at hjr;cases hjr;exact hji rfl
    by_cases h1:p6 (rS u ws) ws.length j<c
    ·rw [if_pos h1,if_pos (by omega)]
    ·rw [if_neg h1,if_neg (by omega)]
   rw [aM (by omega),aT (by simp only [VZ,decide_eq_true_eq,WY,hol];omega),Wo,hget,Option.bind_some]
   have hlast:∀ z:Int,z=shG n ws i→again ((left:Int),o.map (shE u ws),(ws.length:Int),w64 ((c:Int)+1),n,pl,((List.range ws.length).map (fun j=>if p6 (rS u ws) ws.length j<c then (shG n ws j,pl) else ((0,0):ak))).set i (z,pl),())=some (Sum.inr ((gE n ws).map fun x=>(x,pl),())):=fun z hz=>by
    rw [hz,hset,aJ (by omega) (by omega)]
    exact ih _ rfl
   have hgi:=hg i
   rw [hrk] at hgi
   have hlenm:((List.range ws.length).map (fun j=>if p6 (rS u ws) ws.length j<c then (shG n ws j,pl) else ((0,0):ak))).length=ws.length:=by simp
   have hgetm:∃ y,((List.range ws.length).map (fun j=>if p6 (rS u ws) ws.length j<c then (shG n ws j,pl) else ((0,0):ak)))[i]? =some y:=⟨_,aR (by rw [hlenm];exact hin)⟩
   obtain ⟨y0,hy0⟩:=hgetm
   have e1:(shE u ws i).1=(i:Int):=rfl
   have e2:(shE u ws i).2.1=(shQ u ws.sum (ws.getD i 0):Int):=rfl
   rw [e1,e2]
   by_cases hcl:c<left
   ·rw [if_pos hcl] at hgi
    rw [aM (by omega),aL]
    dsimp only
    rw [aJ (by omega) (by omega)]
    by_cases hneg:n<0
    ·rw [if_pos hneg] at hgi
     rw [aM hneg,aL]
     dsimp only
     rw [aJ (by omega) (by omega),hlenm,aT (by simp only [VZ,decide_eq_true_eq];omega),Wo,hy0,Option.bind_some]
     exact hlast _ (by omega)
    ·rw [if_neg hneg] at hgi
     rw [aN hneg,aL]
     dsimp only
     rw [hlenm,aT (by simp only [VZ,decide_eq_true_eq];omega),Wo,hy0,Option.bind_some]
     exact hlast _ (by omega)
   ·rw [if_neg hcl] at hgi
    rw [aN (by omega),aL]
    dsimp only
    by_cases hneg:n<0
    ·rw [if_pos hneg] at hgi
     rw [aM hneg,aL]
     dsimp only
     rw [aJ (by omega) (by omega),hlenm,aT (by simp only [VZ,decide_eq_true_eq];omega),Wo,hy0,Option.bind_some]
     exact hlast _ (by omega)
    ·rw [if_neg hneg] at hgi
     rw [aN hneg,aL]
     dsimp only
     rw [hlenm,aT (by simp only [VZ,decide_eq_true_eq];omega),Wo,hy0,Option.bind_some]
     exact hlast _ (by omega)
  ·rintro _ again rfl
   unfold qP
   dsimp only
   rw [aN (by omega),Oz,List.map_map]
   congr 3
   apply W5
   intro i hi
   rw [Xi] at hi
   have hr:=ho.PO hi
   have:=(List.getElem?_eq_some_iff.1 hr).1
   rw [if_pos (by omega)]
   rfl
  ·simp only [XQ,Yd,Wo]
   congr 7
   rw [List.map_const',W1]
 have e:=loop3 ((Int.natAbs (left:Int))+((o.map (shE u ws)).length+(Int.natAbs (ws.length:Int)+(Int.natAbs (0:Int)+(Int.natAbs n+(Int.natAbs pl+((List.replicate (Int.toNat (ws.length:Int)) ((0,0):ak)).length+2))))))) (by simp;omega)
 rw [WY,hol] at e
 rw [e,aL]
end Go.Md
