/-
  Plain facts: the sheet of an invoice. No condition.
-/
import Derived.Test.YtcpmaicaibdafaaGreatDoorZr2
import Derived.Test.YtcpmaicaibdafaaGreatDoorZf
import Derived.Test.YtcpmaicaibdafaaGreatDoorZq
set_option linter.all false
namespace Go.Md
open Go.Dn
abbrev Br:=List (Nat×Int)
def atB (l:Br) (k:Nat):Int:=match l with
 | []=>0
 | p::r=>(if p.1=k then p.2 else 0)+atB r k
theorem KL:∀ (a b:Br) (k:Nat),atB (a++b) k=atB a k+atB b k
 | [],b,k=>by simp[atB]
 | p::a,b,k=>by simp only[ahk,atB,KL a b];omega
def aZ (n:Nat) (l:Br):List Int:=(List.range n).map (atB l)
theorem ja (n:Nat) (l:Br):(aZ n l).length=n:=by simp[aZ]
theorem wW {n:Nat} (l:Br) {k:Nat} (h:k<n):(aZ n l)[k]? =some (atB l k):=by
 unfold aZ
 rw[ahI,ahJ h];rfl
theorem P5 {n:Nat} (l:Br) {k:Nat} (d:Int):(aZ n l).set k (atB l k+d)=aZ n (l++[(k,d)]):=by
 apply aht
 intro i
 by_cases hi:i<n
 ·rw[wW _ hi]
  by_cases e:k=i
  ·subst e
   rw[ahN (by rw[ja];exact hi),KL];simp[atB]
  ·rw[ahM e,wW _ hi,KL];simp[atB,e]
 ·rw[ahG (by rw[ahY,ja];omega),ahG (by rw[ja];omega)]
def shQ (u W w:Nat):Nat:=u*w / W
def shR (u W w:Nat):Nat:=u*w % W
def ahead (r:Nat→Nat) (i j:Nat):Prop:=r j<r i∨(r i=r j∧i<j)
instance (r:Nat→Nat) (i j:Nat):Decidable (ahead r i j):=by unfold ahead;infer_instance
theorem PY {r:Nat→Nat} {i j k:Nat} (h:ahead r i j) (g:ahead r j k):ahead r i k:=by unfold ahead at *;omega
theorem MS {r:Nat→Nat} {i:Nat}:¬ ahead r i i:=by unfold ahead;omega
theorem YN (r:Nat→Nat) {i j:Nat} (h:i≠j):ahead r i j∨ahead r j i:=by unfold ahead;omega
def s6 (r:Nat→Nat) (n i:Nat):Nat:=((List.range n).filter fun j=>decide (ahead r j i)).length
structure CC (r:Nat→Nat) (n:Nat) (o:List Nat):Prop where
 perm:(List.range n).Perm o
 srt:o.Pairwise (ahead r)
theorem CC.mem {r:Nat→Nat} {n:Nat} {o:List Nat} (h:CC r n o) {i:Nat}:i∈o↔i<n:=by
 rw[← h.perm.mem_iff,aii]
theorem CC.len {r:Nat→Nat} {n:Nat} {o:List Nat} (h:CC r n o):o.length=n:=by rw[← h.perm.length_eq,ahX]
theorem CC.Vg {r:Nat→Nat} {n:Nat} {o:List Nat} (h:CC r n o) {a b i j:Nat} (ha:o[a]? =some i) (hb:o[b]? =some j) (hab:a<b):ahead r i j:=by
 obtain⟨ha1,ha2⟩:=ahH.1 ha
 obtain⟨hb1,hb2⟩:=ahH.1 hb
 subst ha2;subst hb2
 exact aio.1 h.srt a b ha1 hb1 hab
theorem CC.ad0 {r:Nat→Nat} {n:Nat} {o:List Nat} (h:CC r n o) {a i:Nat} (ha:o[a]? =some i):s6 r n i=a:=by
 unfold s6
 rw[(h.perm.filter _).length_eq]
 have hal:=(ahH.1 ha).1
 have e:o=o.take a++o.drop a:=(aiA a o).symm
 have h1:(o.take a).filter (fun j=>decide (ahead r j i))=o.take a:=by
  rw[List.filter_eq_self]
  intro j hj
  obtain⟨b,hb⟩:=aic.1 hj
  have hbl:b<a:=by have:=(ahH.1 hb).1;rw[ahZ] at this;omega
  rw[ahP hbl] at hb
  exact ajr (h.Vg hb ha hbl)
 have h2:(o.drop a).filter (fun j=>decide (ahead r j i))=[]:=by
  rw[List.filter_eq_nil_iff]
  intro j hj
  obtain⟨b,hb⟩:=aic.1 hj
  rw[ahE] at hb
  rw[ajs]
  intro hh
  by_cases e:b=0
  ·subst e
   rw[aiG,ha] at hb;cases hb
   exact MS hh
  ·exact MS (PY hh (h.Vg ha hb (by omega)))
 rw[e,ahu,h1,h2,ahj,ahZ]
 omega
theorem CC.Yg {r:Nat→Nat} {n:Nat} {o:List Nat} (h:CC r n o) {i:Nat} (hi:i<n):o[s6 r n i]? =some i:=by
 obtain⟨a,ha⟩:=aic.1 (h.mem.2 hi)
 rw[h.ad0 ha];exact ha
theorem CC.exists (r:Nat→Nat) (n:Nat):∃ o,CC r n o:=by
 let le:Nat→Nat→Bool:=fun i j=>decide (i=j∨ahead r i j)
 have tr:∀ a b c,le a b=true→le b c=true→le a c=true:=by
  intro a b c h1 h2
  simp only[le,ajs] at*
  rcases h1 with rfl | h1
  ·exact h2
  ·rcases h2 with rfl | h2
   ·exact .inr h1
   ·exact .inr (PY h1 h2)
 have tot:∀ a b,(le a b||le b a)=true:=by
  intro a b
  simp only[le,agP,ajs]
  by_cases e:a=b
  ·exact .inl (.inl e)
  ·rcases YN r e with h | h
   ·exact .inl (.inr h)
   ·exact .inr (.inr h)
 have hp:(List.range n).Perm ((List.range n).mergeSort le):=(List.mergeSort_perm _ _).symm
 refine⟨(List.range n).mergeSort le,hp, ?_⟩
 have hs:=List.pairwise_mergeSort (le:=le) tr tot (List.range n)
 have hn:((List.range n).mergeSort le).Nodup:=hp.nodup_iff.1 ail
 exact (hs.and hn).imp fun {a b} h=>by
  have h1:=h.1
  simp only[le,ajs] at h1
  rcases h1 with h1 | h1
  ·exact absurd h1 h.2
  ·exact h1
def DY (u:Nat) (ws:List Nat):List Nat:=
 let q:=ws.map (shQ u ws.sum)
 let left:=u - q.sum
 let r:=fun i=>shR u ws.sum (ws.getD i 0)
 (List.range ws.length).map fun i=>shQ u ws.sum (ws.getD i 0)+if s6 r ws.length i<left then 1 else 0
def gw (n:Int) (ws:List Nat):List Int:=(DY n.natAbs ws).map fun (x:Nat)=>if n<0 then -(x:Int) else (x:Int)
theorem JC {α:Type} (f g:α→Nat):∀ l:List α,(l.map fun x=>f x+g x).sum=(l.map f).sum+(l.map g).sum
 | []=>rfl
 | x::l=>by simp only[ah2,aiw,JC f g l];omega
theorem JD {α:Type} (f:α→Nat) (c:Nat):∀ l:List α,(l.map fun x=>c*f x).sum=c*(l.map f).sum
 | []=>rfl
 | x::l=>by simp only[ah2,aiw,JD f c l,Nat.mul_add]
theorem agk (u W w:Nat):W*shQ u W w+shR u W w=u*w:=by unfold shQ shR;exact Nat.div_add_mod _ _
theorem left_eq {u:Nat} {ws:List Nat} (h:0<ws.sum):ws.sum*(u - (ws.map (shQ u ws.sum)).sum)=(ws.map (shR u ws.sum)).sum∧(ws.map (shQ u ws.sum)).sum≤u:=by
 have h1:(ws.map fun w=>ws.sum*shQ u ws.sum w+shR u ws.sum w).sum=ws.sum*(ws.map (shQ u ws.sum)).sum+(ws.map (shR u ws.sum)).sum:=by
  rw[JC (fun w=>ws.sum*shQ u ws.sum w),JD]
 have h2:(ws.map fun w=>ws.sum*shQ u ws.sum w+shR u ws.sum w).sum=u*ws.sum:=by
  rw[show (fun w=>ws.sum*shQ u ws.sum w+shR u ws.sum w)=fun w=>u*w from funext fun w=>agk ..]
  have:=JD (fun w:Nat=>w) u ws
  simpa using this
 rw[h1,aiZ u] at h2
 have hle:(ws.map (shQ u ws.sum)).sum≤u:=by
  have:ws.sum*(ws.map (shQ u ws.sum)).sum≤ws.sum*u:=by omega
  exact Nat.le_of_mul_le_mul_left this h
 refine⟨?_,hle⟩
 rw[Nat.mul_sub];omega
theorem TF {W:Nat}:∀ (l:List Nat),(∀ x∈l,x<W)→l.sum+l.length≤W*l.length
 | [],_=>by simp
 | x::l,h=>by
  have h1:=TF l fun y hy=>h y (ah8 _ hy)
  have h2:=h x ah9
  simp only[aiw,ahT,Nat.mul_succ];omega
theorem ae0 {u:Nat} {ws:List Nat} (h:0<ws.sum):u - (ws.map (shQ u ws.sum)).sum≤ws.length:=by
 have h1:=(left_eq (u:=u) h).1
 have h2:=TF (W:=ws.sum) (ws.map (shR u ws.sum)) (by
  intro x hx
  obtain⟨w,_,rfl⟩:=aid.1 hx
  exact aiY _ h)
 rw[ahU] at h2
 have:ws.sum*(u - (ws.map (shQ u ws.sum)).sum)≤ws.sum*ws.length:=by omega
 exact Nat.le_of_mul_le_mul_left this h
theorem adP (l:List Nat) (f:Nat→Nat):(List.range l.length).map (fun i=>f (l.getD i 0))=l.map f:=by
 apply aht
 intro i
 by_cases hi:i<l.length
 ·rw[ahI,ahJ hi,ahI,ahF hi]
  simp[ahy,ahF hi]
 ·rw[ahG (by simp;omega),ahG (by simp;omega)]
theorem VM {α:Type}:∀ l:List α,(l.map fun _=>1).sum=l.length
 | []=>rfl
 | x::l=>by simp only[ah2,aiw,ahT,VM l];omega
theorem acQ {a b:List Nat} (h:a.Perm b):a.sum=b.sum:=by
 induction h with
 | nil=>rfl
 | cons x _ ih=>simp[ih]
 | swap x y l=>simp only[aiw];omega
 | trans _ _ ih1 ih2=>exact ih1.trans ih2
theorem aaI {r:Nat→Nat} {n m:Nat} (h:m≤n):((List.range n).map fun i=>if s6 r n i<m then 1 else 0).sum=m:=by
 obtain⟨o,ho⟩:=CC.exists r n
 rw[acQ (ho.perm.map _)]
 have e:o.map (fun i=>if s6 r n i<m then 1 else 0)=(List.range n).map fun a=>if a<m then 1 else 0:=by
  apply aht
  intro a
  by_cases ha:a<n
  ·have hg:o[a]? =some (o[a]'(by rw[ho.len];exact ha)):=ahF _
   rw[ahI,ahI,ahJ ha,hg]
   simp only[aji,ho.ad0 hg]
  ·rw[ahG (by rw[ahU,ho.len];omega),ahG (by simp;omega)]
 rw[e]
 clear e ho o
 induction n with
 | zero=>simp;omega
 | succ n ih=>
  rw[List.range_succ,ah0,aiv]
  by_cases hm:m≤n
  ·rw[ih hm];simp;omega
  ·obtain rfl:m=n+1:=by omega
   have:((List.range n).map fun a=>if a<n+1 then 1 else 0)=(List.range n).map fun _=>1:=by
    apply ah1
    intro a ha
    rw[aii] at ha
    rw[ajz (by omega)]
   rw[this,VM]
   simp
theorem Jv {u:Nat} {ws:List Nat} (h:0<ws.sum):(DY u ws).sum=u:=by
 unfold DY
 dsimp only
 rw[JC (fun i=>shQ u ws.sum (ws.getD i 0)),adP ws (shQ u ws.sum),aaI (ae0 h)]
 have:=(left_eq (u:=u) h).2
 omega
theorem Zw (u:Nat) (ws:List Nat):(DY u ws).length=ws.length:=by simp[DY]
theorem Qn (n:Int) (ws:List Nat):(gw n ws).length=ws.length:=by simp[gw,Zw]
theorem Yq:∀ l:List Nat,(l.map fun (x:Nat)=>(x:Int)).sum=(l.sum:Int)
 | []=>rfl
 | x::l=>by simp only[ah2,aiw,Yq l];omega
theorem VL:∀ l:List Nat,(l.map fun (x:Nat)=> -(x:Int)).sum= -(l.sum:Int)
 | []=>rfl
 | x::l=>by simp only[ah2,aiw,VL l];omega
theorem Zy {n:Int} {ws:List Nat} (h:0<ws.sum):(gw n ws).sum=n:=by
 unfold gw
 by_cases hn:n<0
 ·simp only[ajz hn]
  rw[VL,Jv h];omega
 ·simp only[ajy hn]
  rw[Yq,Jv h];omega
theorem TA {u:Nat} {ws:List Nat} (h:0<ws.sum) {x:Nat} (hx:x∈DY u ws):x≤u:=by
 have h1:=Jv (u:=u) h
 have:∀ (l:List Nat) (x:Nat),x∈l→x≤l.sum:=by
  intro l
  induction l with
  | nil=>intro x hx;cases hx
  | cons y l ih=>
   intro x hx
   rcases ah7.1 hx with rfl | hx
   ·simp
   ·have:=ih x hx;simp;omega
 have:=this _ _ hx
 omega
theorem TB {n:Int} {ws:List Nat} (h:0<ws.sum) {x:Int} (hx:x∈gw n ws):x.natAbs≤n.natAbs:=by
 unfold gw at hx
 obtain⟨y,hy,rfl⟩:=aid.1 hx
 have:=TA h hy
 split<;>omega
theorem Zx {n:Int} {ws:List Nat} (h:0<ws.sum):gw (-n) ws=(gw n ws).map fun x=> -x:=by
 unfold gw
 rw[ag2,ah3]
 apply ah1
 intro x hx
 have hx2:=TA h hx
 simp only[Function.comp]
 by_cases h1:n<0
 ·rw[ajz h1,ajy (by omega)];omega
 ·rw[ajy h1]
  by_cases h2: -n<0
  ·rw[ajz h2]
  ·rw[ajy h2];omega
end Go.Md
namespace Go.Md
open Go.Dn
abbrev aA (v:ah):List aD:=v.2.2.2.2.2.2.1
abbrev bN (v:ah):List au:=v.2.2.2.2.2.2.2.1
abbrev cZ (v:ah):List ax:=v.2.2.2.2.2.2.2.2
abbrev kG (v:ah):Int:=v.2.2.2.2.1
abbrev vPl (v:ah):Int:=v.2.2.2.1
abbrev tZ (v:ah):Bool:=v.2.2.2.2.2.1
def MW:Nat:=1000000000
def mZ (n:Int):Bool:=decide (n.natAbs≤MU)
def bF (l:List Int):Bool:=l.all mZ
def eW (v:ah):List au→Option Br
 | []=>some []
 | x::r=>match Al v x with
  | some n=>(eW v r).map fun l=>((jk (·.1) x.2.2.2.2.2.2.2.2 (aA v)).getD 0,n)::l
  | none=>none
def vu (v:ah) (lines:List Int) (x:ax):Int:=match jk (·.1) x.2.2 (aA v) with
 | some k=>lines.getD k 0
 | none=>lines.sum
def iP:Nat→List Int→Br
 | _,[]=>[]
 | k,x::r=>if x=0 then iP (k+1) r else (k,x)::iP (k+1) r
def sE (o:Option Nat) (d:Int) (lines:List Int):Int ⊕ (Int×Br×List Nat):=
 bif mZ d then
  match o with
  | some k=> .inr (d,[(k,d)],[k])
  | none=>
   bif lines.all fun b=>b==0 then .inr (d,[(0,d)],bif d==0 then [] else [0])
   else bif lines.any fun b=>decide (MW<b.natAbs) then .inl 2
   else .inr (d,iP 0 (gw d (lines.map Int.natAbs)),(iP 0 (gw d (lines.map Int.natAbs))).map (·.1))
 else .inl 1
def uJ (v:ah) (lines:List Int) (x:ax):Int ⊕ (Int×Br×List Nat):=
 sE (jk (·.1) x.2.2 (aA v)) (iK (kG v) (vPl v) (vu v lines x) x) lines
abbrev ESt:=Br×List Nat×List Int
def gW (v:ah) (lines:List Int):List ax→ESt→Int ⊕ ESt
 | [],s=> .inr s
 | x::r,s=>match uJ v lines x with
  | .inl f=> .inl f
  | .inr t=>bif bF (aZ (aA v).length (s.1++t.2.1)) then gW v lines r (s.1++t.2.1,s.2.1++t.2.2,s.2.2++[t.1]) else .inl 1
def xJ (way:Int) (pc:ai) (k:Nat):Br→Int
 | []=>0
 | p::r=>(if p.1=k then sY way p.2 pc else 0)+xJ way pc k r
def yM (v:ah) (k:Nat):ai:=((aA v).getD k ([],(0,0))).2
def Yw (v:ah) (sh:Br) (k:Nat):Int:=if tZ v=true then xJ (kG v) (yM v k) k sh else sY (kG v) (atB sh k) (yM v k)
def pV (v:ah) (sh:Br):List Int:=(List.range (aA v).length).map (Yw v sh)
structure ShZ where
 nets:List Int
 br:Br
 fl:List Nat
 am:List Int
 taxes:List Int
def AR (v:ah):Int ⊕ ShZ:=
 match eW v (bN v) with
 | none=> .inl 1
 | some lb=>
  bif bF (aZ (aA v).length lb) then
   match gW v (aZ (aA v).length lb) (cZ v) (lb,lb.map (·.1),[]) with
   | .inl f=> .inl f
   | .inr s=>bif bF (pV v s.1) then .inr ⟨lb.map (·.2),s.1,s.2.1,s.2.2,pV v s.1⟩ else .inl 1
  else .inl 1
def sK (s:ShZ):List Int:=[s.nets.sum,s.am.sum,s.nets.sum+s.am.sum,s.taxes.sum,s.nets.sum+s.am.sum+s.taxes.sum]
def xd (v:ah):Int ⊕ ShZ:=match AR v with
 | .inl f=> .inl f
 | .inr s=>bif bF (sK s) then .inr s else .inl 1
def IA (v:ah) (n:Int):ai:=(n,vPl v)
theorem XX:∀ (l:List Int) (k:Nat),((iP k l).map (·.2)).sum=l.sum
 | [],k=>rfl
 | x::l,k=>by
  have ih:=XX l (k+1)
  simp only[iP]
  split
  ·rename_i hx;rw[ih];simp[hx]
  ·simp[ih]
theorem Rm:∀ (l:List Int) (k:Nat) (p:Nat×Int),p∈iP k l→k≤p.1∧p.1<k+l.length∧p.2∈l∧p.2≠0
 | [],k,p,h=>by cases h
 | x::l,k,p,h=>by
  simp only[iP] at h
  have ih:=fun hh=>Rm l (k+1) p hh
  split at h
  ·have:=ih h;simp only[ahT,ah7];exact⟨by omega,by omega,.inr this.2.2.1,this.2.2.2⟩
  ·rename_i hx
   rcases ah7.1 h with rfl | h
   ·exact⟨aiN _,by simp only[ahT];omega,ah9,hx⟩
   ·have:=ih h;simp only[ahT,ah7];exact⟨by omega,by omega,.inr this.2.2.1,this.2.2.2⟩
end Go.Md
set_option linter.all false
namespace Go.Md.SA
open Go.Dn Go.Md
section
variable {k:ak→Int} {ok:ak→Prop}
def AU (k:ak→Int) (ok:ak→Prop):Prop:=∀ a b,ok a→ok b→∃ c,l7 a b=some (c,())∧(c<0↔k a<k b)
theorem aco (hc:AU k ok) (a:Nat) (bI:Int) (iI:Int) (X:List ak) (hX:X.length=a):∀ (n:Nat) (P1:List ak) (x:ak) (B:List ak),P1.length<n→(X++P1++x::B).length<1000000000→ok x→(∀ y∈P1,ok y)→
 ∃ P2 P3,P1=P2++P3∧(∀ y∈P3,k x<k y)∧(∀ y,P2.getLast? =some y→k y≤k x)∧
 iter (X:=eC) (β:=er) n ((a:Int),bI,(),iI,((a+P1.length:Nat):Int),X++P1++x::B,()) ef=some (Sum.inr ((a:Int),bI,(),iI,X++P2++x::(P3++B),())):=by
 intro n
 induction n with
 | zero=>intro P1 x B h;omega
 | succ n ih=>
  intro P1 x B hn hlen hx hP
  rw[bY]
  generalize hag:(fun y=>iter n y ef)=again
  unfold ef
  dsimp only
  rcases List.eq_nil_or_concat P1 with rfl | ⟨P,y,rfl⟩
  ·rw[aO (by simp)]
   exact⟨[],[],rfl,by simp,by simp,by simp⟩
  ·rw[List.concat_eq_append] at*
   simp only[ahS,ahT,ahV] at hlen hn ⊢
   have e1:w64 (((a+(P.length+1):Nat):Int) - 1)=(((X++P).length:Nat):Int):=by rw[aC (by omega) (by omega)];simp[hX];omega
   have e2:(((a+(P.length+1):Nat):Int))=(((X++P).length+1:Nat):Int):=by simp[hX];omega
   have el:X++(P++[y])++x::B=(X++P)++y::x::B:=by simp
   obtain⟨c,hcc,hlt⟩:=hc x y hx (hP y (by simp))
   rw[aP (by omega),e1,e2,el]
   simp only[ahc,get_at,OY,ajb,hcc]
   rw[aW (by simp only[agC,ajs,ahS,ahT,ahY,ahV];omega),aW (by simp only[agC,ajs,ahS,ahT,ahY,ahV];omega)]
   by_cases hk:k x<k y
   ·rw[aP (hlt.2 hk),aW (by simp only[agC,ajs,ahS,ahT,ahY,ahV];omega),aW (by simp only[agC,ajs,ahS,ahT,ahY,ahV];omega),aW (by simp only[agC,ajs,ahS,ahT,ahY,ahV];omega),
     aW (by simp only[agC,ajs,ahS,ahT,ahY,ahV];omega)]
    have hg:(((X++P)++y::x::B).set ((X++P).length+1) y)[(X++P).length]? =some y:=by rw[ahM (by omega),get_at]
    rw[hg,ajb,Ys, ← hag]
    obtain⟨P2,P3,h1,h2,h3,h4⟩:=ih P x (y::B) (by omega) (by simp;omega) hx (fun z hz=>hP z (by simp[hz]))
    refine⟨P2,P3++[y],by rw[h1];simp, ?_,h3, ?_⟩
    ·intro z hz
     rcases ah6.1 hz with hz | hz
     ·exact h2 z hz
     ·rw[aij.1 hz];exact hk
    ·have e3:(((X++P).length:Nat):Int)=((a+P.length:Nat):Int):=by simp[hX]
     rw[e3]
     show iter n _ _=_
     rw[h4];simp
   ·rw[aO (fun h=>hk (hlt.1 h))]
    refine⟨P++[y],[],by simp,by simp,fun z hz=> ?_,by simp⟩
    simp at hz
    subst hz;omega
theorem N2 (hc:AU k ok) (X S Y:List ak) (hlen:(X++S++Y).length<1000000000) (hok:∀ y∈S,ok y):
 ∃ S',dn (X++S++Y) (X.length:Int) ((X.length+S.length:Nat):Int) ()=some (X++S'++Y,())∧Srt k S'∧cR k S S':=by
 simp only[ahS] at hlen
 have loop:∀ (n:Nat) (Q P:List ak) (l:List ak),Q.length<n→l=X++P++Q++Y→P.length+Q.length=S.length→Srt k P→(∀ y∈P,ok y)→(∀ y∈Q,ok y)→
  ∃ S',iter (X:=eA) (β:=eo) n ((X.length:Int),((X.length+S.length:Nat):Int),(),((X.length+P.length:Nat):Int),l,()) cL=some (Sum.inr (X++S'++Y,()))∧Srt k S'∧cR k (P++Q) S':=by
  intro n
  induction n with
  | zero=>intro Q P l h;omega
  | succ n ih=>
   intro Q P l hn hl hPQ hs hokP hokQ
   rw[bY]
   generalize hag:(fun y=>iter n y cL)=again
   unfold cL
   dsimp only
   cases Q with
   | nil=>
    rw[aO (by simp at hPQ;omega)]
    exact⟨P,by rw[hl];simp,hs,by simpa using cR.refl k P⟩
   | cons x Q=>
    simp only[ahT] at hn hPQ
    rw[aP (by omega)]
    have hl':l=X++P++x::(Q++Y):=by rw[hl];simp
    obtain⟨P2,P3,h1,h2,h3,h4⟩:=aco hc X.length ((X.length+S.length:Nat):Int) ((X.length+P.length:Nat):Int) X rfl
     (Int.natAbs (X.length:Int)+(Int.natAbs ((X.length+S.length:Nat):Int)+(Int.natAbs ((X.length+P.length:Nat):Int)+(Int.natAbs ((X.length+P.length:Nat):Int)+(List.length l+2))))) P x (Q++Y) (by omega) (by simp;omega) (hokQ x (by simp)) hokP
    rw[← hl'] at h4
    rw[h4,aS]
    dsimp only
    have e1:w64 (((X.length+P.length:Nat):Int)+1)=((X.length+(P2++x::P3).length:Nat):Int):=by
     rw[aC (by omega) (by omega),h1];simp;omega
    rw[e1, ← hag]
    rw[h1] at hs hokP
    obtain⟨hs',hsam⟩:=adF hs h2 h3
    obtain⟨S',g1,g2,g3⟩:=ih Q (P2++x::P3) (X++P2++x::(P3++(Q++Y))) (by omega) (by simp) (by rw[h1] at hPQ;simp at hPQ ⊢;omega) hs' (fun y hy=>by
     rcases hsam.mem.1 hy |> ah6.1 with h | h
     ·exact hokP y h
     ·rw[aij.1 h];exact hokQ x (by simp)) (fun y hy=>hokQ y (by simp[hy]))
    refine⟨S',g1,g2, ?_⟩
    have:cR k (P++x::Q) (P2++x::P3++Q):=by
     rw[h1]
     have:=hsam.append (cR.refl k Q)
     simpa using this
    exact this.trans g3
 unfold dn
 cases S with
 | nil=>
  have e1:w64 ((X.length:Int)+1)=((X.length+1:Nat):Int):=by rw[aC (by omega) (by omega)];omega
  rw[e1]
  obtain⟨n,hn⟩:∃ n,(Int.natAbs (X.length:Int)+(Int.natAbs ((X.length+([]:List ak).length:Nat):Int)+(Int.natAbs ((X.length+1:Nat):Int)+(List.length (X++[]++Y)+2))))=n+1:=⟨_,rfl⟩
  rw[hn,bY]
  unfold cL
  dsimp only
  rw[aO (by simp;omega)]
  exact⟨[],rfl,List.Pairwise.nil,cR.refl _ _⟩
 | cons x S=>
  have e1:w64 ((X.length:Int)+1)=((X.length+[x].length:Nat):Int):=by rw[aC (by omega) (by omega)];simp
  rw[e1]
  obtain⟨S',g1,g2,g3⟩:=loop (Int.natAbs (X.length:Int)+(Int.natAbs ((X.length+(x::S).length:Nat):Int)+(Int.natAbs ((X.length+[x].length:Nat):Int)+(List.length (X++(x::S)++Y)+2)))) S [x] (X++(x::S)++Y) (by simp;omega) (by simp) (by simp;omega) (List.pairwise_singleton _ _) (fun y hy=>hok y (by simp at hy;simp[hy])) (fun y hy=>hok y (by simp[hy]))
  rw[g1,aS]
  exact⟨S',rfl,g2,by simpa using g3⟩
theorem HF (X M Y:List ak):∀ (P Q:List ak),P.length=Q.length→(X++P++M++Q++Y).length<1000000000→
 cW (X++P++M++Q++Y) (X.length:Int) ((X.length+P.length+M.length:Nat):Int) (P.length:Int) ()=some (X++Q++M++P++Y,()):=by
 intro P Q hPQ hlen
 simp only[ahS] at hlen
 have loop:∀ (n:Nat) (P1 P2 Q1 Q2:List ak) (l:List ak),P2.length<n→P1.length+P2.length=P.length→P1.length=Q1.length→P2.length=Q2.length→l=X++P1++P2++M++Q1++Q2++Y→
  iter (X:=fA) (β:=fq) n ((X.length:Int),((X.length+P.length+M.length:Nat):Int),(P.length:Int),(P1.length:Int),l,()) fo=some (Sum.inr (X++P1++Q2++M++Q1++P2++Y,())):=by
  intro n
  induction n with
  | zero=>intro P1 P2 Q1 Q2 l h;omega
  | succ n ih=>
   intro P1 P2 Q1 Q2 l hn h1 h2 h3 hl
   rw[bY]
   generalize hag:(fun y=>iter n y fo)=again
   unfold fo
   dsimp only
   cases P2 with
   | nil=>
    have:Q2=[]:=ahs (by simpa using h3.symm)
    subst this
    rw[aO (by simp at h1;omega),hl]
   | cons p P2=>
    cases Q2 with
    | nil=>simp at h3
    | cons q Q2=>
     simp only[ahT] at hn h1 h3
     have ll:l.length=X.length+P.length+M.length+Q.length+Y.length:=by rw[hl];simp;omega
     have e1:w64 (((X.length+P.length+M.length:Nat):Int)+(P1.length:Int))=(((X++P1++p::P2++M++Q1).length:Nat):Int):=by rw[aC (by omega) (by omega)];simp;omega
     have e2:w64 ((X.length:Int)+(P1.length:Int))=(((X++P1).length:Nat):Int):=by rw[aC (by omega) (by omega)];simp
     have l1:l=(X++P1++p::P2++M++Q1)++q::(Q2++Y):=by rw[hl];simp
     have l2:l=(X++P1)++p::(P2++M++Q1++q::(Q2++Y)):=by rw[hl];simp
     have g1:l[(X++P1++p::P2++M++Q1).length]? =some q:=by rw[l1];exact get_at _ _ _
     have g2:l[(X++P1).length]? =some p:=by rw[l2];exact get_at _ _ _
     have g3:l.set (X++P1).length q=(X++P1++q::P2++M++Q1)++q::(Q2++Y):=by
      rw[l2,aai];simp
     have hlq:(X++P1++p::P2++M++Q1).length=(X++P1++q::P2++M++Q1).length:=by simp
     have g4:(l.set (X++P1).length q)[(X++P1++p::P2++M++Q1).length]? =some q:=by rw[g3,hlq];exact get_at _ _ _
     have g5:(l.set (X++P1).length q).set (X++P1++p::P2++M++Q1).length p=X++(P1++[q])++P2++M++(Q1++[p])++Q2++Y:=by rw[g3,hlq,aai];simp
     rw[aP (by omega),e1,e2]
     simp only[ahc,g1,g2,g4,g5,ajb,ahY,ll]
     have lq:(X++P1++p::P2++M++Q1).length<X.length+P.length+M.length+Q.length+Y.length:=by simp;omega
     have lp:(X++P1).length<X.length+P.length+M.length+Q.length+Y.length:=by simp;omega
     rw[aW (by simp only[agC,ajs];omega),aW (by simp only[agC,ajs];omega),aW (by simp only[agC,ajs];omega),aW (by simp only[agC,ajs];omega)]
     have e3:w64 ((P1.length:Int)+1)=(((P1++[q]).length:Nat):Int):=by rw[aC (by omega) (by omega)];simp
     rw[e3, ← hag]
     show iter n _ _=_
     rw[ih (P1++[q]) P2 (Q1++[p]) Q2 _ (by omega) (by simp;omega) (by simp;omega) (by omega) rfl]
     simp
 unfold cW
 rw[show (0:Int)=((([]:List ak).length:Nat):Int) from rfl,loop _ [] P [] Q (X++P++M++Q++Y) (by simp;omega) (by simp) rfl hPQ (by simp),aS]
 simp
theorem Zu (m:Nat):∀ (n:Nat) (X U V Y:List ak),U.length+V.length<n→0<U.length→0<V.length→X.length+U.length=m→(X++U++V++Y).length<1000000000→
 ∃ (X' U' V' Y':List ak),iter (X:=gE) (β:=gD) n ((m:Int),(),(U.length:Int),(V.length:Int),X++U++V++Y,()) gC=some (Sum.inr ((m:Int),(),(U'.length:Int),X'++U'++V'++Y',()))∧U'.length=V'.length∧X'.length+U'.length=m∧X'++V'++U'++Y'=X++V++U++Y∧(X'++U'++V'++Y').length<1000000000:=by
 intro n
 induction n with
 | zero=>intro X U V Y h;omega
 | succ n ih=>
  intro X U V Y hn hU hV hm hlen
  rw[bY]
  generalize hag:(fun y=>iter n y gC)=again
  unfold gC
  dsimp only
  by_cases he:U.length=V.length
  ·have hb:((U.length:Int) != (V.length:Int))=false:=by simp[he]
   rw[hb,ajn]
   exact⟨X,U,V,Y,rfl,he,hm,rfl,hlen⟩
  ·have hb:((U.length:Int) != (V.length:Int))=true:=by simp;omega
   rw[hb,ajo]
   simp only[ahS] at hlen
   have e1:w64 ((m:Int) - (U.length:Int))=(X.length:Int):=by rw[aC (by omega) (by omega)];omega
   rw[e1]
   by_cases hgt:V.length<U.length
   ·rw[aP (by omega)]
    obtain⟨U1,U2,rfl,hU1⟩:=tX (l:=U) (n:=V.length) (by omega)
    simp only[ahS] at*
    have hsw:=HF X U2 Y U1 V hU1 (by simp;omega)
    rw[show ((X.length+U1.length+U2.length:Nat):Int)=(m:Int) by omega,hU1] at hsw
    rw[show X++(U1++U2)++V++Y=X++U1++U2++V++Y by simp,hsw,ajb]
    have e2:w64 (((U1.length+U2.length:Nat):Int) - (V.length:Int))=(U2.length:Int):=by rw[aC (by omega) (by omega)];omega
    rw[e2, ← hag]
    obtain⟨X',U',V',Y',h1,h2,h3,h4,h5⟩:=ih (X++V) U2 U1 Y (by omega) (by omega) (by omega) (by simp;omega) (by simp;omega)
    refine⟨X',U',V',Y', ?_,h2,h3,by rw[h4];simp,h5⟩
    rw[← hU1]
    exact h1
   ·rw[aO (by omega)]
    obtain⟨V1,V2,rfl,hV1⟩:=tX (l:=V) (n:=V.length - U.length) (by omega)
    simp only[ahS] at*
    have e3:w64 (w64 ((m:Int)+((V1.length+V2.length:Nat):Int)) - (U.length:Int))=((X.length+U.length+V1.length:Nat):Int):=by
     rw[aC (n:=(m:Int)+((V1.length+V2.length:Nat):Int)) (by omega) (by omega),aC (by omega) (by omega)];omega
    have hsw:=HF X V1 Y U V2 (by omega) (by simp;omega)
    rw[e3,show X++U++(V1++V2)++Y=X++U++V1++V2++Y by simp,hsw,ajb]
    have e2:w64 (((V1.length+V2.length:Nat):Int) - (U.length:Int))=(V1.length:Int):=by rw[aC (by omega) (by omega)];omega
    rw[e2, ← hag]
    obtain⟨X',U',V',Y',h1,h2,h3,h4,h5⟩:=ih X V2 V1 (U++Y) (by omega) (by omega) (by omega) (by omega) (by simp;omega)
    refine⟨X',U',V',Y', ?_,h2,h3,by rw[h4];simp,h5⟩
    rw[show ((U.length:Nat):Int)=(V2.length:Int) by omega,show X++V2++V1++U++Y=X++V2++V1++(U++Y) by simp]
    exact h1
theorem acY (X U V Y:List ak) (hU:0<U.length) (hV:0<V.length) (hlen:(X++U++V++Y).length<1000000000):
 iJ (X++U++V++Y) (X.length:Int) ((X.length+U.length:Nat):Int) ((X.length+U.length+V.length:Nat):Int) ()=some (X++V++U++Y,()):=by
 unfold iJ
 simp only[ahS] at hlen
 have e1:w64 (((X.length+U.length:Nat):Int) - (X.length:Int))=(U.length:Int):=by rw[aC (by omega) (by omega)];omega
 have e2:w64 (((X.length+U.length+V.length:Nat):Int) - ((X.length+U.length:Nat):Int))=(V.length:Int):=by rw[aC (by omega) (by omega)];omega
 rw[e1,e2]
 obtain⟨X',U',V',Y',h1,h2,h3,h4,h5⟩:=Zu (X.length+U.length) (Int.natAbs ((X.length+U.length:Nat):Int)+(Int.natAbs (U.length:Int)+(Int.natAbs (V.length:Int)+(List.length (X++U++V++Y)+2)))) X U V Y (by omega) hU hV rfl (by simp;omega)
 rw[h1,aS]
 dsimp only
 simp only[ahS] at h5
 have e3:w64 (((X.length+U.length:Nat):Int) - (U'.length:Int))=(X'.length:Int):=by rw[aC (by omega) (by omega)];omega
 have hsw:=HF X' [] Y' U' V' h2 (by simp;omega)
 simp only[ahj,ahV,aiG] at hsw
 rw[e3,show ((X.length+U.length:Nat):Int)=((X'.length+U'.length:Nat):Int) by omega,hsw,ajb,h4]
theorem ae2 (i:Nat):∀ (n:Nat) (A V Y:List ak) (x:ak),V.length<n→A.length+1+V.length=i→(A++x::V++Y).length<1000000000→
 iter (X:=fP) (β:=fN) n ((i:Int),(A.length:Int),A++x::V++Y,()) fL=some (Sum.inr (A++V++x::Y,())):=by
 intro n
 induction n with
 | zero=>intro A V Y x h;omega
 | succ n ih=>
  intro A V Y x hn hi hlen
  rw[bY]
  generalize hag:(fun y=>iter n y fL)=again
  unfold fL
  dsimp only
  simp only[ahS,ahT] at hlen
  have e0:w64 ((i:Int) - 1)=(i:Int) - 1:=aC (by omega) (by omega)
  rw[e0]
  cases V with
  | nil=>rw[aO (by simp at hi;omega)];simp
  | cons v V=>
   simp only[ahT] at hn hi hlen
   have e1:w64 ((A.length:Int)+1)=((A.length+1:Nat):Int):=by rw[aC (by omega) (by omega)];omega
   have el:A++x::(v::V)++Y=A++x::v::(V++Y):=by simp
   have hg:((A++x::v::(V++Y)).set A.length v)[A.length+1]? =some v:=by rw[ahM (by omega),OY]
   rw[aP (by omega),e1,el]
   simp only[ahc,get_at,OY,ajb,hg,adg,ahY]
   rw[aW (by simp only[agC,ajs,ahS,ahT];omega),aW (by simp only[agC,ajs,ahS,ahT];omega),aW (by simp only[agC,ajs,ahS,ahT];omega),aW (by simp only[agC,ajs,ahS,ahT];omega), ← hag]
   have:=ih (A++[v]) V Y x (by omega) (by simp;omega) (by simp;omega)
   simp only[ahS,ahT,ahV,ai7] at this
   show iter n _ _=_
   rw[show A++v::x::(V++Y)=A++[v]++x::V++Y by simp,this]
   simp
theorem acF (A:List ak):∀ (n:Nat) (U Y:List ak) (y:ak),U.length<n→(A++U++y::Y).length<1000000000→
 iter (X:=fG) (β:=fD) n ((A.length:Int),((A.length+U.length:Nat):Int),A++U++y::Y,()) fB=some (Sum.inr (A++y::U++Y,())):=by
 intro n
 induction n with
 | zero=>intro U Y y h;omega
 | succ n ih=>
  intro U Y y hn hlen
  rw[bY]
  generalize hag:(fun y=>iter n y fB)=again
  unfold fB
  dsimp only
  simp only[ahS,ahT] at hlen
  rcases List.eq_nil_or_concat U with rfl | ⟨V,u,rfl⟩
  ·rw[aO (by simp)];simp
  ·rw[List.concat_eq_append] at*
   simp only[ahS,ahT,ahV] at hn hlen ⊢
   have e1:w64 (((A.length+(V.length+(0+1)):Nat):Int) - 1)=(((A++V).length:Nat):Int):=by rw[aC (by omega) (by omega)];simp;omega
   have e2:((A.length+(V.length+(0+1)):Nat):Int)=(((A++V).length+1:Nat):Int):=by simp;omega
   have el:A++(V++[u])++y::Y=(A++V)++u::y::Y:=by simp
   have hg:(((A++V)++u::y::Y).set ((A++V).length+1) u)[(A++V).length]? =some u:=by rw[ahM (by omega),get_at]
   rw[aP (by omega),e1,e2,el]
   simp only[ahc,get_at,OY,ajb,hg,Ys,ahY]
   rw[aW (by simp only[agC,ajs,ahS,ahT];omega),aW (by simp only[agC,ajs,ahS,ahT];omega),aW (by simp only[agC,ajs,ahS,ahT];omega),aW (by simp only[agC,ajs,ahS,ahT];omega), ← hag]
   have:=ih V (u::Y) y (by omega) (by simp;omega)
   show iter n _ _=_
   rw[show (((A++V).length:Nat):Int)=((A.length+V.length:Nat):Int) by simp,this]
   simp
theorem Uy (hc:AU k ok) (X R Y:List ak) (x:ak) (hlen:(X++[x]++R++Y).length<1000000000) (hR:Srt k R) (hx:ok x) (hok:∀ y∈R,ok y) (n:Nat) (hn:R.length<n):
 ∃ R1 R2,R=R1++R2∧(∀ y∈R1,k y<k x)∧(∀ y∈R2,k x≤k y)∧iter (X:=fO) (β:=fM) n ((X.length:Int),(),((X.length+1:Nat):Int),((X.length+1+R.length:Nat):Int),X++[x]++R++Y,()) dK=some (Sum.inr ((X.length:Int),((X.length+1+R1.length:Nat):Int),X++[x]++R++Y,())):=by
 simp only[ahS,ahT,ahV] at hlen
 have hx0:(X++[x]++R++Y)[X.length]? =some x:=by simp
 have hRt:∀ i (h:i<R.length),(X++[x]++R++Y)[X.length+1+i]? =some R[i]:=fun i h=>aaP X [x] R Y h
 obtain⟨r,h1,h2,h3,h4,h5⟩:=bsearch (f:=dK) (fun i j=>((X.length:Int),(),(i:Int),(j:Int),X++[x]++R++Y,())) (fun i=>some (Sum.inr ((X.length:Int),(i:Int),X++[x]++R++Y,())))
  (fun t=>k ((R[t - (X.length+1)]?).getD (0,0,false,[]))<k x) (X.length+1) (X.length+1+R.length) (by
    intro i j again hi hij hj
    unfold dK
    dsimp only
    have hh:(i+j) / 2 - (X.length+1)<R.length:=by omega
    have hg:=hRt _ hh
    rw[show X.length+1+((i+j) / 2 - (X.length+1))=(i+j) / 2 by omega] at hg
    rw[aP (by omega),O2 i j (by omega)]
    simp only[ahc,hg,hx0,ajb]
    obtain⟨c,hcc,hlt⟩:=hc R[(i+j) / 2 - (X.length+1)] x (hok _ (ahR _)) hx
    rw[hcc,aW (by simp only[agC,ajs,ahS,ahT];omega),aW (by simp only[agC,ajs,ahS,ahT];omega),ajb,ahF hh]
    dsimp only[Option.getD]
    by_cases hk:k R[(i+j) / 2 - (X.length+1)]<k x
    ·rw[aP (hlt.2 hk),ajz hk,aC (by omega) (by omega)];rfl
    ·rw[aO (fun h=>hk (hlt.1 h)),ajy hk])
  (by
    intro i again _ _
    unfold dK
    dsimp only
    rw[aO (by omega)])
  (by
    intro s t hs hst ht hP
    rw[ahF (by omega)] at hP ⊢
    have:=hR.get (i:=s - (X.length+1)) (j:=t - (X.length+1)) (by omega) (by omega)
    simp only[ajc] at hP ⊢
    omega)
  n (X.length+1) (X.length+1+R.length) (by omega) (aiN _) (by omega) (aiN _) (fun t h1 h2=>by omega) (fun t h1 h2=>by omega)
 obtain⟨R1,R2,rfl,hR1⟩:=tX (l:=R) (n:=r - (X.length+1)) (by omega)
 refine⟨R1,R2,rfl, ?_, ?_, ?_⟩
 ·intro y hy
  obtain⟨i,hi,rfl⟩:=aib.1 hy
  have:=h4 (X.length+1+i) (by omega) (by omega)
  rw[show X.length+1+i - (X.length+1)=i by omega,ahA hi,ahF hi] at this
  exact this
 ·intro y hy
  obtain⟨i,hi,rfl⟩:=aib.1 hy
  have:=h5 (X.length+1+(R1.length+i)) (by omega) (by simp;omega)
  rw[show X.length+1+(R1.length+i) - (X.length+1)=R1.length+i by omega,ahB (by omega),show R1.length+i - R1.length=i by omega,ahF hi] at this
  simp only[ajc] at this
  omega
 ·rw[h1,show X.length+1+R1.length=r by omega]
theorem S9 (hc:AU k ok) (X L Y:List ak) (y:ak) (hlen:(X++L++[y]++Y).length<1000000000) (hL:Srt k L) (hy:ok y) (hok:∀ z∈L,ok z) (n:Nat) (hn:L.length<n):
 ∃ L1 L2,L=L1++L2∧(∀ z∈L1,k z≤k y)∧(∀ z∈L2,k y<k z)∧iter (X:=fF) (β:=fC) n (((X.length+L.length:Nat):Int),(),(X.length:Int),((X.length+L.length:Nat):Int),X++L++[y]++Y,()) dz=some (Sum.inr (((X.length+L.length:Nat):Int),((X.length+L1.length:Nat):Int),X++L++[y]++Y,())):=by
 simp only[ahS,ahT,ahV] at hlen
 have hy0:(X++L++[y]++Y)[X.length+L.length]? =some y:=by
  have:=aaP X L [y] Y (i:=0) (by simp)
  simpa using this
 have hLt:∀ i (h:i<L.length),(X++L++[y]++Y)[X.length+i]? =some L[i]:=fun i h=>aej X L [y] Y h
 obtain⟨r,h1,h2,h3,h4,h5⟩:=bsearch (f:=dz) (fun i j=>(((X.length+L.length:Nat):Int),(),(i:Int),(j:Int),X++L++[y]++Y,())) (fun i=>some (Sum.inr (((X.length+L.length:Nat):Int),(i:Int),X++L++[y]++Y,())))
  (fun t=>¬ k y<k ((L[t - X.length]?).getD (0,0,false,[]))) X.length (X.length+L.length) (by
    intro i j again hi hij hj
    unfold dz
    dsimp only
    have hh:(i+j) / 2 - X.length<L.length:=by omega
    have hg:=hLt _ hh
    rw[show X.length+((i+j) / 2 - X.length)=(i+j) / 2 by omega] at hg
    rw[aP (by omega),O2 i j (by omega)]
    simp only[ahc,hg,hy0,ajb]
    obtain⟨c,hcc,hlt⟩:=hc y L[(i+j) / 2 - X.length] hy (hok _ (ahR _))
    rw[hcc,aW (by simp only[agC,ajs,ahS,ahT];omega),aW (by simp only[agC,ajs,ahS,ahT];omega),ajb,ahF hh]
    dsimp only[Option.getD]
    by_cases hk:k y<k L[(i+j) / 2 - X.length]
    ·rw[ajr (hlt.2 hk),agN,ajn,ajy (fun h=>h hk)]
    ·rw[ajq (fun h=>hk (hlt.1 h)),agM,ajo,ajz hk,aC (by omega) (by omega)];rfl)
  (by
    intro i again _ _
    unfold dz
    dsimp only
    rw[aO (by omega)])
  (by
    intro s t hs hst ht hP
    rw[ahF (by omega)] at hP ⊢
    have:=hL.get (i:=s - X.length) (j:=t - X.length) (by omega) (by omega)
    simp only[ajc] at hP ⊢
    omega)
  n X.length (X.length+L.length) (by omega) (aiN _) (by omega) (aiN _) (fun t h1 h2=>by omega) (fun t h1 h2=>by omega)
 obtain⟨L1,L2,rfl,hL1⟩:=tX (l:=L) (n:=r - X.length) (by omega)
 refine⟨L1,L2,rfl, ?_, ?_, ?_⟩
 ·intro z hz
  obtain⟨i,hi,rfl⟩:=aib.1 hz
  have:=h4 (X.length+i) (by omega) (by omega)
  rw[show X.length+i - X.length=i by omega,ahA hi,ahF hi] at this
  simp only[ajc] at this
  omega
 ·intro z hz
  obtain⟨i,hi,rfl⟩:=aib.1 hz
  have:=h5 (X.length+(L1.length+i)) (by omega) (by simp;omega)
  rw[show X.length+(L1.length+i) - X.length=L1.length+i by omega,ahB (by omega),show L1.length+i - L1.length=i by omega,ahF hi] at this
  simp only[ajc] at this
  omega
 ·rw[h1,show X.length+L1.length=r by omega]
theorem XR (hc:AU k ok) (X L R Y:List ak) (hlen:(X++L++R++Y).length<1000000000) (hL:Srt k L) (hR:Srt k R) (hokL:∀ z∈L,ok z) (hokR:∀ z∈R,ok z) (mid lo hi:Nat) (hmid:mid=(X.length+(X.length+L.length+R.length)) / 2)
 (hcase:(mid<X.length+L.length∧lo+R.length=mid∧hi=mid∧X.length≤lo)∨(X.length+L.length≤mid∧lo=X.length∧hi=X.length+L.length)) (n:Nat) (hn:hi<n):
 ∃ s:Nat,iter (X:=fH) (β:=fE) n ((X.length:Int),((X.length+L.length:Nat):Int),((X.length+L.length+R.length:Nat):Int),(),(mid:Int),((mid+(X.length+L.length):Nat):Int),(lo:Int),(hi:Int),((mid+(X.length+L.length):Nat):Int) - 1,X++L++R++Y,()) dA=some (Sum.inr ((X.length:Int),((X.length+L.length:Nat):Int),((X.length+L.length+R.length:Nat):Int),(),(mid:Int),((mid+(X.length+L.length):Nat):Int),(s:Int),X++L++R++Y,()))∧
  lo≤s∧s≤hi∧(∀ i j (_:i<L.length) (_:j<R.length),X.length+i+1=s→j+s=mid→k L[i]≤k R[j])∧(∀ i j (_:i<L.length) (_:j<R.length),X.length+i=s→j+1+s=mid→k R[j]<k L[i]):=by
 simp only[ahS] at hlen
 have hLt:∀ i (h:i<L.length),(X++L++R++Y)[X.length+i]? =some L[i]:=fun i h=>aej X L R Y h
 have hRt:∀ i (h:i<R.length),(X++L++R++Y)[X.length+L.length+i]? =some R[i]:=fun i h=>aaP X L R Y h
 obtain⟨r,h1,h2,h3,h4,h5⟩:=bsearch (f:=dA) (fun i j=>((X.length:Int),((X.length+L.length:Nat):Int),((X.length+L.length+R.length:Nat):Int),(),(mid:Int),((mid+(X.length+L.length):Nat):Int),(i:Int),(j:Int),((mid+(X.length+L.length):Nat):Int) - 1,X++L++R++Y,()))
  (fun s=>some (Sum.inr ((X.length:Int),((X.length+L.length:Nat):Int),((X.length+L.length+R.length:Nat):Int),(),(mid:Int),((mid+(X.length+L.length):Nat):Int),(s:Int),X++L++R++Y,())))
  (fun t=>¬ k ((R[mid - 1 - t]?).getD (0,0,false,[]))<k ((L[t - X.length]?).getD (0,0,false,[]))) lo hi (by
    intro i j again hi1 hij hj
    unfold dA
    dsimp only
    generalize hh0:(i+j) / 2=h
    have hhL:h - X.length<L.length:=by omega
    have hhR:mid - 1 - h<R.length:=by omega
    have hg:=hLt _ hhL
    rw[show X.length+(h - X.length)=h by omega] at hg
    have hg2:=hRt _ hhR
    rw[aP (by omega),O2 i j (by omega),hh0]
    have e1:w64 (((mid+(X.length+L.length):Nat):Int) - 1 - (h:Int))=((X.length+L.length+(mid - 1 - h):Nat):Int):=by rw[aC (by omega) (by omega)];omega
    rw[e1]
    simp only[ahc,hg,hg2,ajb]
    obtain⟨c,hcc,hlt⟩:=hc R[mid - 1 - h] L[h - X.length] (hokR _ (ahR _)) (hokL _ (ahR _))
    rw[hcc,aW (by simp only[agC,ajs,ahS];omega),aW (by simp only[agC,ajs,ahS];omega),ajb,ahF hhL,ahF hhR]
    dsimp only[Option.getD]
    by_cases hk:k R[mid - 1 - h]<k L[h - X.length]
    ·rw[ajr (hlt.2 hk),agN,ajn,ajy (fun h=>h hk)]
    ·rw[ajq (fun h=>hk (hlt.1 h)),agM,ajo,ajz hk,aC (by omega) (by omega)];rfl)
  (by
    intro i again _ _
    unfold dA
    dsimp only
    rw[aO (by omega)])
  (by
    intro s t hs hst ht hP
    rw[ahF (show t - X.length<L.length by omega),ahF (show mid - 1 - t<R.length by omega)] at hP
    rw[ahF (show s - X.length<L.length by omega),ahF (show mid - 1 - s<R.length by omega)]
    have a1:=hL.get (i:=s - X.length) (j:=t - X.length) (by omega) (by omega)
    have a2:=hR.get (i:=mid - 1 - t) (j:=mid - 1 - s) (by omega) (by omega)
    simp only[ajc] at hP ⊢
    omega)
  n lo hi (by omega) (aiN _) (by omega) (aiN _) (fun t h1 h2=>by omega) (fun t h1 h2=>by omega)
 refine⟨r,h1,h2,h3, ?_, ?_⟩
 ·intro i j hi' hj' e1 e2
  have:=h4 (X.length+i) (by omega) (by omega)
  rw[show X.length+i - X.length=i by omega,show mid - 1 - (X.length+i)=j by omega,ahF hi',ahF hj'] at this
  simp only[ajc] at this
  omega
 ·intro i j hi' hj' e1 e2
  have:=h5 (X.length+i) (by omega) (by omega)
  rw[show X.length+i - X.length=i by omega,show mid - 1 - (X.length+i)=j by omega,ahF hi',ahF hj'] at this
  simp only[ajc] at this
  omega
def Yt (self:((List ak)×Int×Int×Int×Unit×Unit)→Option ((List ak)×Unit)) (x:(List ak)×Int×Int×Int×Unit×Unit):=cn self x.1 x.2.1 x.2.2.1 x.2.2.2.1 x.2.2.2.2.1
set_option maxHeartbeats 4000000 in
theorem Yu (hc:AU k ok):∀ (n:Nat) (X L R Y:List ak),L.length+R.length<n+2→0<L.length→0<R.length→(X++L++R++Y).length<1000000000→Srt k L→Srt k R→(∀ z∈L,ok z)→(∀ z∈R,ok z)→
 ∃ S,Hr Yt n (X++L++R++Y,(X.length:Int),((X.length+L.length:Nat):Int),((X.length+L.length+R.length:Nat):Int),(),())=some (X++S++Y,())∧Srt k S∧cR k (L++R) S:=by
 intro n
 induction n with
 | zero=>intro X L R Y h h1 h2;omega
 | succ n ih=>
  intro X L R Y hn hL0 hR0 hlen hL hR hokL hokR
  have hlen':=hlen
  simp only[ahS] at hlen
  show ∃ S,Yt (Hr Yt n) _=_∧_
  generalize hself:Hr Yt n=self at ih
  unfold Yt cn
  dsimp only
  have e1:w64 (((X.length+L.length:Nat):Int) - (X.length:Int))=(L.length:Int):=by rw[aC (by omega) (by omega)];omega
  have e2:w64 (((X.length+L.length+R.length:Nat):Int) - ((X.length+L.length:Nat):Int))=(R.length:Int):=by rw[aC (by omega) (by omega)];omega
  rw[e1,e2]
  by_cases hL1:L.length=1
  ·obtain⟨x,rfl⟩:∃ x,L=[x]:=List.length_eq_one_iff.1 hL1
   rw[show ((([x].length:Nat):Int)==1)=true by simp,ajo]
   obtain⟨R1,R2,rfl,h1,h2,h3⟩:=Uy hc X R Y x hlen' hR (hokL x (by simp)) hokR (Int.natAbs (X.length:Int)+(Int.natAbs ((X.length+[x].length:Nat):Int)+(Int.natAbs ((X.length+[x].length+R.length:Nat):Int)+(List.length (X++[x]++R++Y)+2)))) (by simp;omega)
   simp only[ahT,ahV,ai7] at h3 ⊢
   rw[h3,aS]
   dsimp only
   have hmv:=ae2 (X.length+1+R1.length) (Int.natAbs ((X.length+1+R1.length:Nat):Int)+(Int.natAbs (X.length:Int)+(List.length (X++[x]++(R1++R2)++Y)+2))) X R1 (R2++Y) x (by simp;omega) rfl (by simp at hlen ⊢;omega)
   rw[show X++x::R1++(R2++Y)=X++[x]++(R1++R2)++Y by simp] at hmv
   rw[hmv,aS]
   refine⟨R1++x::R2,by simp, ?_, ?_⟩
   ·exact hR.left.append (ain.2 ⟨h2,hR.right⟩) (fun y hy z hz=>by
     rcases ah7.1 hz with rfl | hz
     ·have:=h1 y hy;omega
     ·exact hR.OR y hy z hz)
   ·have:=(cR.swap (k:=k) (u:=[x]) (v:=R1) (fun y hy z hz=>by rw[aij.1 hy];have:=h1 z hz;omega)).append (cR.refl k R2)
    simpa using this
  ·rw[show (((L.length:Nat):Int)==1)=false by simp;omega,ajn]
   by_cases hR1:R.length=1
   ·obtain⟨y,rfl⟩:∃ x,R=[x]:=List.length_eq_one_iff.1 hR1
    rw[show ((([y].length:Nat):Int)==1)=true by simp,ajo]
    obtain⟨L1,L2,rfl,h1,h2,h3⟩:=S9 hc X L Y y hlen' hL (hokR y (by simp)) hokL (Int.natAbs ((X.length+L.length:Nat):Int)+(Int.natAbs (X.length:Int)+(Int.natAbs ((X.length+L.length:Nat):Int)+(List.length (X++L++[y]++Y)+2)))) (by omega)
    rw[h3,aS]
    dsimp only
    have hmv:=acF (X++L1) (Int.natAbs ((X.length+L1.length:Nat):Int)+(Int.natAbs ((X.length+(L1++L2).length:Nat):Int)+(List.length (X++(L1++L2)++[y]++Y)+2))) L2 Y y (by simp;omega) (by simp at hlen ⊢;omega)
    rw[show X++L1++L2++y::Y=X++(L1++L2)++[y]++Y by simp,show (((X++L1).length:Nat):Int)=((X.length+L1.length:Nat):Int) by simp,show (((X++L1).length+L2.length:Nat):Int)=((X.length+(L1++L2).length:Nat):Int) by simp;omega] at hmv
    rw[hmv,aS]
    refine⟨L1++y::L2,by simp, ?_, ?_⟩
    ·exact hL.left.append (ain.2 ⟨fun z hz=>by have:=h2 z hz;omega,hL.right⟩) (fun z hz w hw=>by
      rcases ah7.1 hw with rfl | hw
      ·exact h1 z hz
      ·exact hL.OR z hz w hw)
    ·have:=(cR.refl k L1).append (cR.swap (k:=k) (u:=L2) (v:=[y]) (fun z hz w hw=>by rw[aij.1 hw];have:=h2 z hz;omega))
     simpa using this
   ·rw[show (((R.length:Nat):Int)==1)=false by simp;omega,ajn]
    have eh:=O2 X.length (X.length+L.length+R.length) (by omega)
    rw[eh]
    generalize hmid:(X.length+(X.length+L.length+R.length)) / 2=mid
    have e3:w64 ((mid:Int)+((X.length+L.length:Nat):Int))=((mid+(X.length+L.length):Nat):Int):=by rw[aC (by omega) (by omega)];omega
    rw[e3]
    obtain⟨lo,hi,hcase,hv⟩:∃ lo hi:Nat,((mid<X.length+L.length∧lo+R.length=mid∧hi=mid∧X.length≤lo)∨(X.length+L.length≤mid∧lo=X.length∧hi=X.length+L.length))∧
     (bif decide (((X.length+L.length:Nat):Int)>(mid:Int)) then
       (some (Sum.inr ((X.length:Int),((X.length+L.length:Nat):Int),((X.length+L.length+R.length:Nat):Int),(),(mid:Int),((mid+(X.length+L.length):Nat):Int),w64 (((mid+(X.length+L.length):Nat):Int) - ((X.length+L.length+R.length:Nat):Int)),(mid:Int),X++L++R++Y,())):Option (((List ak)×Unit) ⊕ (Int×Int×Int×Unit×Int×Int×Int×Int×(List ak)×Unit)))
     else some (Sum.inr ((X.length:Int),((X.length+L.length:Nat):Int),((X.length+L.length+R.length:Nat):Int),(),(mid:Int),((mid+(X.length+L.length):Nat):Int),(X.length:Int),((X.length+L.length:Nat):Int),X++L++R++Y,())))=some (Sum.inr ((X.length:Int),((X.length+L.length:Nat):Int),((X.length+L.length+R.length:Nat):Int),(),(mid:Int),((mid+(X.length+L.length):Nat):Int),(lo:Int),(hi:Int),X++L++R++Y,())):=by
     by_cases hm:mid<X.length+L.length
     ·refine⟨mid - R.length,mid,.inl ⟨hm,by omega,rfl,by omega⟩, ?_⟩
      rw[aP (by omega),aC (by omega) (by omega),show ((mid+(X.length+L.length):Nat):Int) - ((X.length+L.length+R.length:Nat):Int)=((mid - R.length:Nat):Int) by omega]
     ·refine⟨X.length,X.length+L.length,.inr ⟨by omega,rfl,rfl⟩, ?_⟩
      rw[aO (by omega)]
    rw[hv,aS]
    dsimp only
    have e4:w64 (((mid+(X.length+L.length):Nat):Int) - 1)=((mid+(X.length+L.length):Nat):Int) - 1:=aC (by omega) (by omega)
    rw[e4]
    obtain⟨s,h1,h2,h3,hF2,hF1⟩:=XR hc X L R Y hlen' hL hR hokL hokR mid lo hi hmid.symm hcase (Int.natAbs (X.length:Int)+(Int.natAbs ((X.length+L.length:Nat):Int)+(Int.natAbs ((X.length+L.length+R.length:Nat):Int)+(Int.natAbs (mid:Int)+(Int.natAbs ((mid+(X.length+L.length):Nat):Int)+(Int.natAbs (lo:Int)+(Int.natAbs (hi:Int)+(Int.natAbs (((mid+(X.length+L.length):Nat):Int) - 1)+(List.length (X++L++R++Y)+2))))))))) (by omega)
    rw[h1,aS]
    dsimp only
    clear h1 hv
    obtain⟨L1,L2,rfl,hL1l⟩:=tX (l:=L) (n:=s - X.length) (by omega)
    obtain⟨R1,R2,rfl,hR1l⟩:=tX (l:=R) (n:=mid - s) (by simp only[ahS] at *;omega)
    simp only[ahS] at hn hlen hL1 hR1 hmid hcase e1 e2 e3 e4 eh hL0 hR0
    have F1:∀ y∈R1,∀ z∈L2,k y<k z:=by
     intro y hy z hz
     have hr0:0<R1.length:=ahW hy
     have hl0:0<L2.length:=ahW hz
     have:=hF1 L1.length (R1.length - 1) (by simp;omega) (by simp;omega) (by omega) (by omega)
     rw[List.getElem_append_left (show R1.length - 1<R1.length by omega),List.getElem_append_right (by omega)] at this
     obtain⟨i,hi',rfl⟩:=aib.1 hy
     obtain⟨j,hj',rfl⟩:=aib.1 hz
     have a1:=hR.left.get (i:=i) (j:=R1.length - 1) (by omega) (by omega)
     have a2:=hL.right.get (i:=L1.length - L1.length) (j:=j) (by omega) hj'
     omega
    have F2:∀ y∈L1,∀ z∈R2,k y≤k z:=by
     intro y hy z hz
     have hr0:0<L1.length:=ahW hy
     have hl0:0<R2.length:=ahW hz
     have:=hF2 (L1.length - 1) R1.length (by simp;omega) (by simp;omega) (by omega) (by omega)
     rw[List.getElem_append_left (show L1.length - 1<L1.length by omega),List.getElem_append_right (by omega)] at this
     obtain⟨i,hi',rfl⟩:=aib.1 hy
     obtain⟨j,hj',rfl⟩:=aib.1 hz
     have a1:=hL.left.get (i:=i) (j:=L1.length - 1) (by omega) (by omega)
     have a2:=hR.right.get (i:=R1.length - R1.length) (j:=j) (by omega) hj'
     omega
    have e5:w64 (((mid+(X.length+(L1++L2).length):Nat):Int) - (s:Int))=((X.length+(L1++L2).length+R1.length:Nat):Int):=by
     rw[aC (by simp;omega) (by simp;omega)];simp only[ahS];omega
    rw[e5]
    have hokL1:∀ z∈L1,ok z:=fun z hz=>hokL z (by simp[hz])
    have hokL2:∀ z∈L2,ok z:=fun z hz=>hokL z (by simp[hz])
    have hokR1:∀ z∈R1,ok z:=fun z hz=>hokR z (by simp[hz])
    have hokR2:∀ z∈R2,ok z:=fun z hz=>hokR z (by simp[hz])
    have ph1:∃ S1,(X.length<s→s<mid→self (X++L1++R1++(L2++R2++Y),(X.length:Int),(s:Int),(mid:Int),(),())=some (X++S1++(L2++R2++Y),()))∧(¬(X.length<s∧s<mid)→S1=L1++R1)∧Srt k S1∧cR k (L1++R1) S1:=by
     by_cases hb:X.length<s∧s<mid
     ·obtain⟨S1,g1,g2,g3⟩:=ih X L1 R1 (L2++R2++Y) (by omega) (by omega) (by omega) (by simp;omega) hL.left hR.left hokL1 hokR1
      rw[show ((X.length+L1.length:Nat):Int)=(s:Int) by omega,show ((X.length+L1.length+R1.length:Nat):Int)=(mid:Int) by omega] at g1
      exact⟨S1,fun _ _=>g1,fun h=>absurd hb h,g2,g3⟩
     ·refine⟨L1++R1,fun h1 h2=>absurd ⟨h1,h2⟩ hb,fun _=>rfl, ?_,cR.refl _ _⟩
      rcases (show L1.length=0∨R1.length=0 by omega) with h | h
      ·rw[ahs h];exact hR.left
      ·rw[ahs h,ahj];exact hL.left
    obtain⟨S1,hS1a,hS1b,hS1s,hS1e⟩:=ph1
    have hS1l:S1.length=L1.length+R1.length:=by rw[hS1e.length];simp
    have ph2:∃ S2,(bif decide ((mid:Int)<((X.length+(L1++L2).length+R1.length:Nat):Int)) then
     bif decide (((X.length+(L1++L2).length+R1.length:Nat):Int)<((X.length+(L1++L2).length+(R1++R2).length:Nat):Int)) then
      Option.bind (self (X++S1++(L2++R2++Y),(mid:Int),((X.length+(L1++L2).length+R1.length:Nat):Int),((X.length+(L1++L2).length+(R1++R2).length:Nat):Int),(),())) fun r38=>some (r38.1,())
     else some (X++S1++(L2++R2++Y),())
     else some (X++S1++(L2++R2++Y),()))=some (X++(S1++S2)++Y,())∧Srt k S2∧cR k (L2++R2) S2:=by
     simp only[ahS]
     by_cases hb1:0<L2.length
     ·rw[aP (by omega)]
      by_cases hb2:0<R2.length
      ·rw[aP (by omega)]
       obtain⟨S2,g1,g2,g3⟩:=ih (X++S1) L2 R2 Y (by omega) hb1 hb2 (by simp;omega) hL.right hR.right hokL2 hokR2
       rw[show (((X++S1).length:Nat):Int)=(mid:Int) by simp;omega,show (((X++S1).length+L2.length:Nat):Int)=((X.length+(L1.length+L2.length)+R1.length:Nat):Int) by simp;omega,show (((X++S1).length+L2.length+R2.length:Nat):Int)=((X.length+(L1.length+L2.length)+(R1.length+R2.length):Nat):Int) by simp;omega] at g1
       rw[show X++S1++(L2++R2++Y)=X++S1++L2++R2++Y by simp,g1]
       exact⟨S2,by simp,g2,g3⟩
      ·have:R2=[]:=ahs (by omega)
       subst this
       rw[aO (by simp)]
       exact⟨L2,by simp,hL.right,by simpa using cR.refl k L2⟩
     ·have:L2=[]:=ahs (by omega)
      subst this
      rw[aO (by simp;omega)]
      exact⟨R2,by simp,hR.right,cR.refl _ _⟩
    obtain⟨S2,hE2,hS2s,hS2e⟩:=ph2
    have fin:Srt k (S1++S2)∧cR k (L1++L2++(R1++R2)) (S1++S2):=by
     constructor
     ·refine hS1s.append hS2s fun y hy z hz=> ?_
      rcases ah6.1 (hS1e.mem.1 hy) with h | h<;>rcases ah6.1 (hS2e.mem.1 hz) with h' | h'
      ·exact hL.OR y h z h'
      ·exact F2 y h z h'
      ·have:=F1 y h z h';omega
      ·exact hR.OR y h z h'
     ·have h1:cR k (L1++(L2++R1)++R2) (L1++(R1++L2)++R2):=((cR.refl k L1).append (cR.swap fun y hy z hz=>by have:=F1 z hz y hy;omega)).append (cR.refl k R2)
      have h2:=hS1e.append hS2e
      have h3:cR k (L1++L2++(R1++R2)) (L1++R1++(L2++R2)):=by simpa using h1
      exact h3.trans h2
    refine⟨S1++S2, ?_,fin.1,fin.2⟩
    have hsL:((X.length+(L1++L2).length:Nat):Int)=((X.length+L1.length+L2.length:Nat):Int):=by simp;omega
    have tail:∀ (D:List ak),D=X++L1++R1++(L2++R2++Y)→
     (bif decide ((X.length:Int)<(s:Int)) then
       aT (β:=((List ak)×Unit)) (γ:=(Int×Unit×Int×Int×(List ak)×Unit)) (
        bif decide ((s:Int)<(mid:Int)) then
         Option.bind (self (D,(X.length:Int),(s:Int),(mid:Int),(),())) fun r35=>
         some (Sum.inr (((X.length+(L1++L2).length+(R1++R2).length:Nat):Int),(),(mid:Int),((X.length+(L1++L2).length+R1.length:Nat):Int),r35.1,()))
        else
         some (Sum.inr (((X.length+(L1++L2).length+(R1++R2).length:Nat):Int),(),(mid:Int),((X.length+(L1++L2).length+R1.length:Nat):Int),D,()))) fun v36=>
       bif decide (v36.2.2.1<v36.2.2.2.1) then
        bif decide (v36.2.2.2.1<v36.1) then
         Option.bind (self (v36.2.2.2.2.1,v36.2.2.1,v36.2.2.2.1,v36.1,v36.2.1,())) fun r37=>
         some (r37.1,())
        else
         some (v36.2.2.2.2.1,())
       else
        some (v36.2.2.2.2.1,())
     else
      bif decide ((mid:Int)<((X.length+(L1++L2).length+R1.length:Nat):Int)) then
       bif decide (((X.length+(L1++L2).length+R1.length:Nat):Int)<((X.length+(L1++L2).length+(R1++R2).length:Nat):Int)) then
        Option.bind (self (D,(mid:Int),((X.length+(L1++L2).length+R1.length:Nat):Int),((X.length+(L1++L2).length+(R1++R2).length:Nat):Int),(),())) fun r38=>
        some (r38.1,())
       else
        some (D,())
      else
       some (D,()))=some (X++(S1++S2)++Y,()):=by
     intro D hD
     by_cases hb1:X.length<s
     ·rw[aP (by omega)]
      by_cases hb2:s<mid
      ·rw[aP (by omega),hD,hS1a hb1 hb2,ajb,aS]
       exact hE2
      ·rw[aO (by omega),aS,hD]
       have:X++L1++R1++(L2++R2++Y)=X++S1++(L2++R2++Y):=by rw[hS1b (fun h=>hb2 h.2)];simp
       rw[this]
       exact hE2
     ·rw[aO (by omega),hD]
      have:X++L1++R1++(L2++R2++Y)=X++S1++(L2++R2++Y):=by rw[hS1b (fun h=>hb1 h.1)];simp
      rw[this]
      exact hE2
    by_cases hsm:s<X.length+(L1++L2).length
    ·rw[aP (by omega)]
     by_cases hme:0<R1.length
     ·have hrot:=acY (X++L1) L2 R1 (R2++Y) (by simp at hsm;omega) hme (by simp;omega)
      rw[show (((X++L1).length:Nat):Int)=(s:Int) by simp;omega,show (((X++L1).length+L2.length:Nat):Int)=((X.length+(L1++L2).length:Nat):Int) by simp;omega,show (((X++L1).length+L2.length+R1.length:Nat):Int)=((X.length+(L1++L2).length+R1.length:Nat):Int) by simp;omega,
       show X++L1++L2++R1++(R2++Y)=X++(L1++L2)++(R1++R2)++Y by simp] at hrot
      rw[aP (by omega),hrot,ajb,aS]
      exact tail _ (by simp)
     ·have:R1=[]:=ahs (by omega)
      subst this
      rw[aO (by simp),aS]
      exact tail _ (by simp)
    ·rw[aO (by omega)]
     have:L2=[]:=ahs (by simp at hsm;omega)
     subst this
     exact tail _ (by simp)
theorem Qr (hc:AU k ok) (X L R Y:List ak) (h1:0<L.length) (h2:0<R.length) (hlen:(X++L++R++Y).length<1000000000) (hL:Srt k L) (hR:Srt k R) (hokL:∀ z∈L,ok z) (hokR:∀ z∈R,ok z):
 ∃ S,eF (X++L++R++Y) (X.length:Int) ((X.length+L.length:Nat):Int) ((X.length+L.length+R.length:Nat):Int) ()=some (X++S++Y,())∧Srt k S∧cR k (L++R) S:=by
 unfold eF
 exact Yu hc _ X L R Y (by unfold iQ;simp only[ahS];omega) h1 h2 hlen hL hR hokL hokR
theorem Yn (hc:AU k ok) (N:Nat) (hN:N<100000000):∀ (n:Nat) (A Z:List ak) (j:Nat),A.length=j*20→A.length+Z.length=N→Z.length<n→ChS k 20 A→(∀ z∈A,ok z)→(∀ z∈Z,ok z)→
 ∃ A' Z' j',iter (X:=gL) (β:=gI) n ((N:Int),(),20,(A.length:Int),((A.length+20:Nat):Int),A++Z,()) gF=some (Sum.inr ((N:Int),(),20,(A'.length:Int),A'++Z',()))∧A'.length=j'*20∧Z'.length<20∧ChS k 20 A'∧cR k (A++Z) (A'++Z'):=by
 intro n
 induction n with
 | zero=>intro A Z j _ _ h;omega
 | succ n ih=>
  intro A Z j hA hAZ hn hch hokA hokZ
  rw[bY]
  generalize hag:(fun y=>iter n y gF)=again
  unfold gF
  dsimp only
  by_cases hb:20≤Z.length
  ·rw[aP (by omega)]
   obtain⟨S,Y,rfl,hS⟩:=tX (l:=Z) (n:=20) hb
   simp only[ahS] at hAZ hn
   obtain⟨S',g1,g2,g3⟩:=N2 hc A S Y (by simp;omega) (fun z hz=>hokZ z (by simp[hz]))
   rw[hS] at g1
   rw[show A++(S++Y)=A++S++Y by simp,g1,ajb]
   dsimp only
   have hS':S'.length=20:=by rw[g3.length,hS]
   have e1:w64 (((A.length+20:Nat):Int)+20)=(((A++S').length+20:Nat):Int):=by rw[aC (by omega) (by omega)];simp;omega
   rw[e1,show ((A.length+20:Nat):Int)=(((A++S').length:Nat):Int) by simp;omega, ← hag]
   obtain⟨A',Z',j',h1,h2,h3,h4,h5⟩:=ih (A++S') Y (j+1) (by simp;omega) (by simp;omega) (by omega) (hch.snoc hA g2 (by omega)) (fun z hz=>by
    rcases ah6.1 hz with h | h
    ·exact hokA z h
    ·exact hokZ z (by simp[g3.mem.1 h])) (fun z hz=>hokZ z (by simp[hz]))
   refine⟨A',Z',j',h1,h2,h3,h4, ?_⟩
   have:cR k (A++S++Y) (A++S'++Y):=((cR.refl k A).append g3).append (cR.refl k Y)
   exact this.trans h5
  ·rw[aO (by omega)]
   exact⟨A,Z,j,rfl,hA,by omega,hch,cR.refl _ _⟩
theorem ZB (hc:AU k ok) (N bs:Nat) (hN:N<100000000) (hbs:0<bs) (hbN:bs<N):∀ (n:Nat) (A Z:List ak) (j:Nat),A.length=j*(2*bs)→A.length+Z.length=N→Z.length<n→ChS k (2*bs) A→ChS k bs Z→(∀ z∈A,ok z)→(∀ z∈Z,ok z)→
 ∃ A' Z' j',iter (X:=gN) (β:=gK) n ((N:Int),(),(bs:Int),(A.length:Int),((A.length+2*bs:Nat):Int),A++Z,()) gH=some (Sum.inr ((N:Int),(),(bs:Int),(A'.length:Int),A'++Z',()))∧A'.length=j'*(2*bs)∧Z'.length<2*bs∧ChS k (2*bs) A'∧ChS k bs Z'∧cR k (A++Z) (A'++Z'):=by
 intro n
 induction n with
 | zero=>intro A Z j _ _ h;omega
 | succ n ih=>
  intro A Z j hA hAZ hn hch hcz hokA hokZ
  rw[bY]
  generalize hag:(fun y=>iter n y gH)=again
  unfold gH
  dsimp only
  by_cases hb:2*bs≤Z.length
  ·rw[aP (by omega)]
   obtain⟨L,Z1,rfl,hL⟩:=tX (l:=Z) (n:=bs) (by omega)
   obtain⟨R,Y,rfl,hR⟩:=tX (l:=Z1) (n:=bs) (by simp at hb;omega)
   simp only[ahS] at hAZ hn hb
   have sL:Srt k L:=by
    have:=hcz 0
    rw[aja,ahq, ← hL,aiB] at this
    exact this
   have sR:Srt k R:=by
    have:=hcz 1
    rw[ai3] at this
    conv at this=>arg 2;rw[show bs=L.length by omega,ahp,show L.length=R.length by omega,aiB]
    exact this
   have cY:ChS k bs Y:=by
    have:=hcz.drop 2
    rw[show L++(R++Y)=(L++R)++Y by simp,show 2*bs=(L++R).length by simp;omega,ahp] at this
    exact this
   obtain⟨S,g1,g2,g3⟩:=Qr hc A L R Y (by omega) (by omega) (by simp;omega) sL sR (fun z hz=>hokZ z (by simp[hz])) (fun z hz=>hokZ z (by simp[hz]))
   have e0:w64 ((A.length:Int)+(bs:Int))=((A.length+L.length:Nat):Int):=by rw[aC (by omega) (by omega)];omega
   rw[e0,show ((A.length+2*bs:Nat):Int)=((A.length+L.length+R.length:Nat):Int) by omega,show A++(L++(R++Y))=A++L++R++Y by simp,g1,ajb]
   dsimp only
   have hSl:S.length=2*bs:=by rw[g3.length];simp;omega
   have e1:w64 (((A.length+L.length+R.length:Nat):Int)+w64 (2*(bs:Int)))=(((A++S).length+2*bs:Nat):Int):=by
    rw[aC (n:=2*(bs:Int)) (by omega) (by omega),aC (by omega) (by omega)];simp;omega
   rw[e1,show ((A.length+L.length+R.length:Nat):Int)=(((A++S).length:Nat):Int) by simp;omega, ← hag]
   obtain⟨A',Z',j',h1,h2,h3,h4,h5,h6⟩:=ih (A++S) Y (j+1) (by rw[ahS,hA,hSl,aiF,ai3]) (by simp;omega) (by omega) (hch.snoc hA g2 (by omega)) cY (fun z hz=>by
    rcases ah6.1 hz with h | h
    ·exact hokA z h
    ·rcases ah6.1 (g3.mem.1 h) with h | h<;>exact hokZ z (by simp[h])) (fun z hz=>hokZ z (by simp[hz]))
   refine⟨A',Z',j',h1,h2,h3,h4,h5, ?_⟩
   have:cR k (A++(L++R)++Y) (A++S++Y):=((cR.refl k A).append g3).append (cR.refl k Y)
   have h7:=this.trans h6
   simpa using h7
  ·rw[aO (by omega)]
   exact⟨A,Z,j,rfl,hA,by omega,hch,hcz,cR.refl _ _⟩
theorem ZA (hc:AU k ok) (N:Nat) (hN:N<100000000):∀ (n bs:Nat) (l:List ak),l.length=N→0<bs→N<bs+n∧0<n→bs<400000000→ChS k bs l→(∀ z∈l,ok z)→
 ∃ l',iter (X:=gM) (β:=gJ) n ((N:Int),(),(bs:Int),l,()) gG=some (Sum.inr (l',()))∧Srt k l'∧cR k l l':=by
 intro n
 induction n with
 | zero=>
  intro bs l hl hbs hn hb2 hch hok
  exact absurd hn (by omega)
 | succ n ih=>
  intro bs l hl hbs hn hb2 hch hok
  rw[bY]
  generalize hag:(fun y=>iter n y gG)=again
  unfold gG
  dsimp only
  by_cases hb:bs<N
  ·rw[aP (by omega)]
   have e0:w64 (2*(bs:Int))=(((([]:List ak).length)+2*bs:Nat):Int):=by rw[aC (by omega) (by omega)];simp
   rw[e0,show (0:Int)=((([]:List ak).length:Nat):Int) from rfl]
   obtain⟨A,Z,j,h1,h2,h3,h4,h5,h6⟩:=ZB hc N bs hN hbs hb (Int.natAbs (N:Int)+(Int.natAbs (bs:Int)+(Int.natAbs ((([]:List ak).length:Nat):Int)+(Int.natAbs (((([]:List ak).length)+2*bs:Nat):Int)+(List.length l+2))))) [] l 0 (by simp) (by simpa using hl) (by omega) (ChS.nil _ _) hch (by simp) hok
   rw[aik] at h1 h6
   rw[h1,aS]
   dsimp only
   have hAZ:A.length+Z.length=N:=by have:=h6.length;simp at this;omega
   have hokAZ:∀ z∈A++Z,ok z:=fun z hz=>hok z (h6.mem.1 hz)
   have e1:w64 ((A.length:Int)+(bs:Int))=((A.length+bs:Nat):Int):=by rw[aC (by omega) (by omega)];omega
   have e2:w64 ((bs:Int)*2)=((2*bs:Nat):Int):=by rw[aC (by omega) (by omega)];omega
   rw[e1,e2]
   by_cases hlast:A.length+bs<N
   ·rw[aP (by omega)]
    obtain⟨L,R,rfl,hL⟩:=tX (l:=Z) (n:=bs) (by omega)
    simp only[ahS] at hAZ h3
    have sL:Srt k L:=by
     have:=h5 0
     rw[aja,ahq, ← hL,aiB] at this
     exact this
    have sR:Srt k R:=by
     have:=h5 1
     rw[ai3] at this
     conv at this=>arg 2;rw[show List.drop bs (L++R)=R by rw[← hL];exact ahp,aiC (by omega)]
     exact this
    obtain⟨S,g1,g2,g3⟩:=Qr hc A L R [] (by omega) (by omega) (by simp;omega) sL sR (fun z hz=>hokAZ z (by simp[hz])) (fun z hz=>hokAZ z (by simp[hz]))
    simp only[ahj] at g1
    rw[show ((A.length+bs:Nat):Int)=((A.length+L.length:Nat):Int) by omega,show ((N:Nat):Int)=((A.length+L.length+R.length:Nat):Int) by omega,show A++(L++R)=A++L++R by simp,g1,ajb, ← hag]
    have hsam:cR k l (A++S):=h6.trans (by simpa using (cR.refl k A).append g3)
    obtain⟨l',q1,q2,q3⟩:=ih (2*bs) (A++S) (by rw[hsam.length];exact hl) (by omega) ⟨by omega,by omega⟩ (by omega) (h4.snoc h2 g2 (by rw[g3.length];simp;omega)) (fun z hz=>hok z (hsam.mem.1 hz))
    rw[show ((A.length+L.length+R.length:Nat):Int)=((N:Nat):Int) by omega]
    exact⟨l',q1,q2,hsam.trans q3⟩
   ·rw[aO (by omega), ← hag]
    have sZ:Srt k Z:=by
     have:=h5 0
     rw[aja,ahq,aiC (by omega)] at this
     exact this
    obtain⟨l',q1,q2,q3⟩:=ih (2*bs) (A++Z) (by simp;omega) (by omega) ⟨by omega,by omega⟩ (by omega) (h4.snoc h2 sZ (by omega)) hokAZ
    exact⟨l',q1,q2,h6.trans q3⟩
  ·rw[aO (by omega)]
   refine⟨l,rfl, ?_,cR.refl _ _⟩
   have:=hch 0
   rw[aja,ahq,aiC (by omega)] at this
   exact this
theorem WB (hc:AU k ok) (l:List ak) (hl:l.length<100000000) (hok:∀ z∈l,ok z):∃ l',eN l ()=some (l',())∧Srt k l'∧cR k l l':=by
 unfold eN kW
 obtain⟨A,Z,j,h1,h2,h3,h4,h5⟩:=Yn hc l.length hl (Int.natAbs (l.length:Int)+(Int.natAbs (20:Int)+(Int.natAbs (0:Int)+(Int.natAbs (20:Int)+(List.length l+2))))) [] l 0 (by simp) (by simp) (by omega) (ChS.nil _ _) (by simp) hok
 simp only[ahV,aik] at h1 h5
 rw[show ((0+20:Nat):Int)=20 from rfl,show ((0:Nat):Int)=0 from rfl] at h1
 rw[h1,aS]
 dsimp only
 have hAZ:A.length+Z.length=l.length:=by have:=h5.length;simp at this;omega
 obtain⟨Z',g1,g2,g3⟩:=N2 hc A Z [] (by simp;omega) (fun z hz=>hok z (h5.mem.1 (by simp[hz])))
 simp only[ahj] at g1
 rw[show ((A.length+Z.length:Nat):Int)=(l.length:Int) by omega] at g1
 rw[g1,ajb]
 dsimp only
 have hsam:cR k l (A++Z'):=h5.trans ((cR.refl k A).append g3)
 obtain⟨l',q1,q2,q3⟩:=ZA hc l.length hl (Int.natAbs (l.length:Int)+(Int.natAbs (20:Int)+(List.length (A++Z')+2))) 20 (A++Z') hsam.length (by omega) ⟨by omega,by omega⟩ (by omega) (h4.snoc h2 g2 (by rw[g3.length];omega)) (fun z hz=>hok z (hsam.mem.1 hz))
 rw[show ((20:Nat):Int)=20 from rfl] at q1
 rw[q1,aS]
 exact⟨l',rfl,q2,hsam.trans q3⟩
end
end Go.Md.SA
namespace Go.Md
open Go.Dn
structure Eg (ws:List Nat):Prop where
 len:0<ws.length∧ws.length≤20
 le:∀ w∈ws,w≤1000000000
 pos:0<ws.sum
def wI (ws:List Nat):List Int:=ws.map fun (w:Nat)=>(w:Int)
theorem zh (ws:List Nat):(wI ws).length=ws.length:=by simp[wI]
theorem TL {ws:List Nat} {i:Nat} {w:Nat} (h:ws[i]? =some w):(wI ws)[i]? =some (w:Int):=by
 unfold wI;rw[ahI,h];rfl
theorem Fp {ws:List Nat} {i w:Nat} (h:ws[i]? =some w):(ws.take (i+1)).sum=(ws.take i).sum+w:=by
 rw[aiz,h,aiv];simp
theorem TE {c:Nat}:∀ l:List Nat,(∀ x∈l,x≤c)→l.sum≤l.length*c
 | [],_=>by simp
 | x::l,h=>by
  have h1:=TE l fun y hy=>h y (ah8 _ hy)
  have h2:=h x ah9
  simp only[aiw,ahT,aiF,ai3];omega
theorem Eg.Yr {ws:List Nat} (h:Eg ws) (i:Nat):(ws.take i).sum≤20000000000:=by
 have h1:=TE (ws.take i) fun x hx=>h.le x (aif hx)
 have h2:(ws.take i).length≤20:=by rw[ahZ];have:=h.len;omega
 have h3:(ws.take i).length*1000000000≤20*1000000000:=ai1 _ h2
 omega
theorem Eg.abw {ws:List Nat} (h:Eg ws):ws.sum≤20000000000:=by
 have:=h.Yr ws.length
 rwa [aiC (aiN _)] at this
theorem ID {ws:List Nat} (h:Eg ws):rA (wI ws)=some (0,()):=by
 have hl:=h.len
 have loop:∀ f,ws.length<f→iter f ((0,wI ws,((wI ws).length:Int),(0:Int),()):oe) oc=some (Sum.inr ((ws.sum:Int),())):=by
  intro f hf
  rw[zh]
  refine bX (Inv:=fun i X=>X=((((ws.take i).sum:Nat):Int),wI ws,(ws.length:Int),(i:Int),())) ws.length (fun r=>r=some (Sum.inr ((ws.sum:Int),()))) ?_ ?_ f 0 _ (by simp) (by omega) (by omega)
  ·rintro i _ again hi rfl ih
   unfold oc
   dsimp only
   have hw:ws[i]? =some ws[i]:=bu hi
   have hwl:=h.le _ (ahR hi)
   generalize ws[i]=w at hw hwl
   have h1:=h.Yr i
   rw[aP (by omega),bQ,TL hw,ajb,eD,ajb]
   dsimp only
   rw[aO (by omega),aC (by omega) (by omega),aC (by omega) (by omega)]
   refine ih _ ?_
   rw[Fp hw]
   simp
  ·rintro _ again rfl
   unfold oc
   dsimp only
   rw[aO (by omega),aiC (aiN _)]
 unfold rA
 rw[Kk,zh,aO (by omega),aO (by omega)]
 have e:=loop (Int.natAbs (0:Int)+((wI ws).length+(Int.natAbs (((wI ws).length:Nat):Int)+(Int.natAbs (0:Int)+2)))) (by rw[zh];omega)
 rw[zh] at e
 rw[e,aS]
 have:=h.pos
 dsimp only
 rw[show ((ws.sum:Int)==0)=false by simp;omega,ajn]
def shE (u:Nat) (ws:List Nat) (j:Nat):ak:=((j:Int),(shQ u ws.sum (ws.getD j 0):Int),W (shR u ws.sum (ws.getD j 0):Int))
def rS (u:Nat) (ws:List Nat) (j:Nat):Nat:=shR u ws.sum (ws.getD j 0)
def kS (u:Nat) (ws:List Nat) (x:ak):Int:= -(rS u ws x.1.toNat:Int)
theorem aeo {u:Nat} {ws:List Nat} (h:Eg ws) (j:Nat):rS u ws j<20000000000:=aiS (aiY _ h.pos) h.abw
theorem age {u:Nat} {ws:List Nat} (h:Eg ws):SA.AU (kS u ws) (fun x=>∃ j:Nat,x=shE u ws j):=by
 rintro _ _ ⟨i,rfl⟩ ⟨j,rfl⟩
 unfold l7 shE
 dsimp only
 have h1:=aeo (u:=u) h i
 have h2:=aeo (u:=u) h j
 unfold rS at h1 h2
 have L:∀ n:Nat,n<20000000000→((n:Int)).natAbs<4294967296 ^ 99:=fun n hn=>(Le.int (by omega) (by omega):Le 19 (n:Int)).w (by omega)
 rw[qv _ _ (L _ h2) (L _ h1),ajb]
 refine⟨_,rfl, ?_⟩
 unfold kS rS
 simp only[ahc]
 generalize shR u ws.sum (ws.getD i 0)=a
 generalize shR u ws.sum (ws.getD j 0)=b
 rcases aiV a b with hh | hh | hh
 ·rw[aha (by omega)];omega
 ·subst hh;simp
 ·rw[ag9 (by omega)];omega
theorem Ix {α:Type} {k:α→Int} {R:α→α→Prop}:∀ {l:List α},Srt k l→(∀ v,(l.filter fun x=>k x==v).Pairwise R)→l.Pairwise fun x y=>k x<k y∨(k x=k y∧R x y)
 | [],_,_=>List.Pairwise.nil
 | x::l,hs,hf=>by
  have hs':=ain.1 hs
  refine ain.2 ⟨fun y hy=> ?_,Ix hs'.2 fun v=> ?_⟩
  ·have h1:=hs'.1 y hy
   by_cases e:k x=k y
   ·refine .inr ⟨e, ?_⟩
    have:=hf (k x)
    rw[List.filter_cons_of_pos (by simp)] at this
    exact (ain.1 this).1 y (List.mem_filter.2 ⟨hy,by simp[e]⟩)
   ·exact .inl (by omega)
  ·have:=hf v
   by_cases e:(k x==v)=true
   ·simp only[List.filter_cons,e,ajA] at this
    exact (ain.1 this).2
   ·simp only[List.filter_cons,ajy e] at this;exact this
theorem WC {u:Nat} {ws:List Nat} (h:Eg ws):∃ o,CC (rS u ws) ws.length o∧eN ((List.range ws.length).map (shE u ws)) ()=some (o.map (shE u ws),()):=by
 obtain⟨l',g1,g2,g3⟩:=SA.WB (age (u:=u) h) ((List.range ws.length).map (shE u ws)) (by simp;have:=h.len;omega) (fun z hz=>by
  obtain⟨j,_,rfl⟩:=aid.1 hz;exact⟨j,rfl⟩)
 have hmem:∀ x∈l',∃ j,x=shE u ws j:=fun x hx=>by
  obtain⟨j,_,rfl⟩:=aid.1 (g3.mem.1 hx);exact⟨j,rfl⟩
 have hid:∀ j,(shE u ws j).1.toNat=j:=fun j=>by unfold shE;simp
 have hl':l'=(l'.map fun x=>x.1.toNat).map (shE u ws):=by
  rw[ah3]
  conv=>lhs;rw[← List.map_id l']
  apply ah1
  intro x hx
  obtain⟨j,rfl⟩:=hmem x hx
  simp only[Function.comp,hid,id]
 refine⟨l'.map fun x=>x.1.toNat,⟨?_, ?_⟩,by rw[← hl'];exact g1⟩
 ·have:=g3.perm.map fun x:ak=>x.1.toNat
  rw[ah3] at this
  have e:((List.range ws.length).map ((fun x:ak=>x.1.toNat) ∘ shE u ws))=List.range ws.length:=by
   conv=>rhs;rw[← List.map_id (List.range ws.length)]
   apply ah1
   intro j _
   exact hid j
  rw[e] at this
  exact this
 ·have hp:=Ix (k:=kS u ws) (R:=fun x y:ak=>x.1<y.1) g2 (fun v=>by
   rw[g3.keys v]
   refine List.Pairwise.filter _ ?_
   rw[aip]
   exact (List.pairwise_lt_range (n:=ws.length)).imp fun {a b} hab=>by
    show ((a:Nat):Int)<((b:Nat):Int)
    omega)
  rw[aip]
  refine List.Pairwise.imp_of_mem (fun {x y} hx hy hh=> ?_) hp
  obtain⟨i,rfl⟩:=hmem x hx
  obtain⟨j,rfl⟩:=hmem y hy
  rw[hid,hid]
  unfold kS at hh
  rw[hid,hid] at hh
  unfold ahead
  have e1:(shE u ws i).1=(i:Int):=rfl
  have e2:(shE u ws j).1=(j:Int):=rfl
  rw[e1,e2] at hh
  omega
theorem Fj {β:Type} (f g:Nat→β) (n i:Nat) (x:β) (hf:∀ j,j<n→j≠i→g j=f j) (hx:g i=x):((List.range n).map f).set i x=(List.range n).map g:=by
 apply aht
 intro j
 by_cases hj:j<n
 ·rw[ahI,ahJ hj]
  by_cases e:i=j
  ·subst e
   rw[ahN (by simpa using hj)];simp[hx]
  ·rw[ahM e,ahI,ahJ hj]
   simp[hf j hj (fun h=>e h.symm)]
 ·rw[ahG (by simp;omega),ahG (by simp;omega)]
def shG (n:Int) (ws:List Nat) (i:Nat):Int:=
 let q:Nat:=shQ n.natAbs ws.sum (ws.getD i 0)+if s6 (rS n.natAbs ws) ws.length i<n.natAbs - (ws.map (shQ n.natAbs ws.sum)).sum then 1 else 0
 if n<0 then -(q:Int) else (q:Int)
theorem WA (n:Int) (ws:List Nat):gw n ws=(List.range ws.length).map (shG n ws):=by
 unfold gw DY shG rS
 rw[ah3]
 rfl
theorem TI (f:Nat→Nat) (l:List Nat) (i:Nat):((l.take i).map f).sum≤(l.map f).sum:=by
 conv=>rhs;rw[← aiA i l,ah0,aiv]
 omega
theorem Qu (n pl:Int) (hn:n.natAbs≤1000000000000000) (hpl:0≤pl∧pl≤9) (ws:List Nat) (h:Eg ws):
 wC (n,pl) (wI ws)=some ((gw n ws).map fun x=>(x,pl),0,()):=by
 have hl:=h.len
 have hsum:=h.abw
 have hpos:=h.pos
 generalize hu:n.natAbs=u at*
 have hQ:∀ j,shQ u ws.sum (ws.getD j 0)≤u:=fun j=>by
  unfold shQ
  have hw:ws.getD j 0≤ws.sum:=by
   rw[ahy]
   cases hj:ws[j]? with
   | none=>simp
   | some w=>
    have h1:(ws.take (j+1)).sum≤ws.sum:=by
     conv=>rhs;rw[← aiA (j+1) ws,aiv]
     omega
    rw[Fp hj] at h1
    simp;omega
  exact Nat.div_le_of_le_mul (by rw[aiZ ws.sum];exact Nat.mul_le_mul_left u hw)
 unfold wC
 rw[gu,ajb]
 dsimp only
 rw[ajz (show cA (n,pl) from ⟨by omega,hpl.1,hpl.2⟩),zne,ajn,ID h,ajb]
 dsimp only
 rw[zne,ajn]
 have loop1:∀ f,ws.length<f→iter f ((wI ws,(0:Int),wI ws,((wI ws).length:Int),(0:Int),n,pl,()):vt) vr=some (Sum.inr (wI ws,(ws.sum:Int),n,pl,())):=by
  intro f hf
  rw[zh]
  refine bX (Inv:=fun i X=>X=(wI ws,(((ws.take i).sum:Nat):Int),wI ws,(ws.length:Int),(i:Int),n,pl,())) ws.length (fun r=>r=some (Sum.inr (wI ws,(ws.sum:Int),n,pl,()))) ?_ ?_ f 0 _ (by simp) (by omega) (by omega)
  ·rintro i _ again hi rfl ih
   unfold vr
   dsimp only
   have hw:ws[i]? =some ws[i]:=bu hi
   have hwl:=h.le _ (ahR hi)
   generalize ws[i]=w at hw hwl
   have h1:=h.Yr i
   rw[aP (by omega),bQ,TL hw,ajb,aC (by omega) (by omega),aC (by omega) (by omega)]
   refine ih _ ?_
   rw[Fp hw]
   simp
  ·rintro _ again rfl
   unfold vr
   dsimp only
   rw[aO (by omega),aiC (aiN _)]
 rw[loop1 _ (by rw[zh];omega),aS]
 dsimp only
 have BE:(if (w64 (0 - n))>n then (w64 (0 - n)) else n)=(u:Int):=by
  rw[aC (by omega) (by omega)]
  split<;>omega
 rw[BE]
 have loop2:∀ f,ws.length<f→iter f (((ws.sum:Int),(u:Int),(u:Int),([]:List ak),wI ws,((wI ws).length:Int),(0:Int),n,pl,()):um) uj=some (Sum.inr (((u - (ws.map (shQ u ws.sum)).sum:Nat):Int),(List.range ws.length).map (shE u ws),n,pl,())):=by
  intro f hf
  rw[zh]
  have hle:=(left_eq (u:=u) hpos).2
  have htk:∀ i,((ws.take i).map (shQ u ws.sum)).sum≤u:=fun i=>by
   have:=TI (shQ u ws.sum) ws i
   omega
  refine bX (Inv:=fun i X=>X=((ws.sum:Int),(u:Int),((u - ((ws.take i).map (shQ u ws.sum)).sum:Nat):Int),(List.range i).map (shE u ws),wI ws,(ws.length:Int),(i:Int),n,pl,())) ws.length (fun r=>r=some (Sum.inr (((u - (ws.map (shQ u ws.sum)).sum:Nat):Int),(List.range ws.length).map (shE u ws),n,pl,()))) ?_ ?_ f 0 _ (by simp) (by omega) (by omega)
  ·rintro i _ again hi rfl ih
   unfold uj
   dsimp only
   have hw:ws[i]? =some ws[i]:=bu hi
   have hwl:=h.le _ (ahR hi)
   generalize ws[i]=w at hw hwl
   have hgd:ws.getD i 0=w:=by rw[ahy,hw];rfl
   have hq:=hQ i
   rw[hgd] at hq
   have L:∀ m:Nat,m≤1000000000000000→Le 19 (m:Int):=fun m hm=>Le.int (by omega) (by omega)
   rw[aP (by omega),bQ,TL hw,ajb,di _ (by omega) (by omega),ajb,di _ (by omega) (by omega),ajb]
   dsimp only
   rw[dB _ _ ((L u (by omega)).w (by omega)) ((L w (by omega)).w (by omega)),ajb,di _ (by omega) (by omega),ajb]
   dsimp only
   rw[← ag4,Dh _ _ (by rw[ag4];exact ((L u (by omega)).mul (L w (by omega))).w (by omega)) ((L ws.sum (by omega)).w (by omega)) (by omega),ajb]
   dsimp only
   rw[ag1,ag1,show u*w / ws.sum=shQ u ws.sum w from rfl,show u*w % ws.sum=shR u ws.sum w from rfl,wq _ _ (by omega) (by omega),ajb,ajz (by omega)]
   dsimp only
   rw[aW (oS (by simp;omega) (by simp;omega)),aC (by omega) (by omega)]
   have h1:=htk (i+1)
   have e1:((ws.take (i+1)).map (shQ u ws.sum)).sum=((ws.take i).map (shQ u ws.sum)).sum+shQ u ws.sum w:=by
    rw[aiz,hw,ah0,aiv];simp
   have h2:=htk i
   rw[aC (by omega) (by omega)]
   refine ih _ ?_
   rw[e1,List.range_succ,ah0]
   have e2:((u - (((ws.take i).map (shQ u ws.sum)).sum+shQ u ws.sum w):Nat):Int)=((u - ((ws.take i).map (shQ u ws.sum)).sum:Nat):Int) - (shQ u ws.sum w:Int):=by omega
   rw[e2]
   unfold shE
   simp only[ah2,ah4,hgd]
   rfl
  ·rintro _ again rfl
   unfold uj
   dsimp only
   rw[aO (by omega),aiC (aiN _)]
 rw[loop2 _ (by rw[zh];omega),aS]
 dsimp only
 obtain⟨o,ho,hsort⟩:=WC (u:=u) h
 rw[hsort,ajb]
 dsimp only
 have hol:=ho.len
 generalize hlf:u - (ws.map (shQ u ws.sum)).sum=left
 rw[ahU,hol,aW (by simp only[agC,ajs];omega)]
 have hg:∀ i,shG n ws i=if n<0 then -((shQ u ws.sum (ws.getD i 0)+if s6 (rS u ws) ws.length i<left then 1 else 0:Nat):Int) else ((shQ u ws.sum (ws.getD i 0)+if s6 (rS u ws) ws.length i<left then 1 else 0:Nat):Int):=fun i=>by
  unfold shG;dsimp only;rw[hu,hlf]
 have loop3:∀ f,ws.length<f→iter f (((left:Int),o.map (shE u ws),(ws.length:Int),(0:Int),n,pl,List.replicate (Int.toNat (ws.length:Int)) ((0,0):ai),()):uo) uk=some (Sum.inr ((gw n ws).map fun x=>(x,pl),())):=by
  intro f hf
  refine bX (Inv:=fun c X=>X=((left:Int),o.map (shE u ws),(ws.length:Int),(c:Int),n,pl,(List.range ws.length).map (fun i=>if s6 (rS u ws) ws.length i<c then (shG n ws i,pl) else ((0,0):ai)),())) ws.length (fun r=>r=some (Sum.inr ((gw n ws).map fun x=>(x,pl),()))) ?_ ?_ f 0 _ ?_ (by omega) (by omega)
  ·rintro c _ again hc rfl ih
   unfold uk
   dsimp only
   have hoc:o[c]? =some (o[c]'(by omega)):=bu (by omega)
   generalize (o[c]'(by omega))=i at hoc
   have hin:i<ws.length:=ho.mem.1 (aie hoc)
   have hrk:=ho.ad0 hoc
   have hget:(o.map (shE u ws))[c]? =some (shE u ws i):=by rw[ahI,hoc];rfl
   have hqi:=hQ i
   have hset:((List.range ws.length).map (fun j=>if s6 (rS u ws) ws.length j<c then (shG n ws j,pl) else ((0,0):ai))).set i (shG n ws i,pl)=(List.range ws.length).map (fun j=>if s6 (rS u ws) ws.length j<c+1 then (shG n ws j,pl) else ((0,0):ai)):=by
    refine Fj _ _ _ _ _ (fun j hj hji=> ?_) (by simp only[hrk];rw[ajz (by omega)])
    have hjr:=ho.Yg hj
    have hne:s6 (rS u ws) ws.length j≠c:=fun e=>by
     rw[e,hoc] at hjr;cases hjr;exact hji rfl
    by_cases h1:s6 (rS u ws) ws.length j<c
    ·rw[ajz h1,ajz (by omega)]
    ·rw[ajy h1,ajy (by omega)]
   rw[aP (by omega),aW (by simp only[agC,ajs,ahU,hol];omega),ahc,hget,ajb]
   have hlast:∀ z:Int,z=shG n ws i→again ((left:Int),o.map (shE u ws),(ws.length:Int),w64 ((c:Int)+1),n,pl,((List.range ws.length).map (fun j=>if s6 (rS u ws) ws.length j<c then (shG n ws j,pl) else ((0,0):ai))).set i (z,pl),())=some (Sum.inr ((gw n ws).map fun x=>(x,pl),())):=fun z hz=>by
    rw[hz,hset,aC (by omega) (by omega)]
    exact ih _ rfl
   have hgi:=hg i
   rw[hrk] at hgi
   have hlenm:((List.range ws.length).map (fun j=>if s6 (rS u ws) ws.length j<c then (shG n ws j,pl) else ((0,0):ai))).length=ws.length:=by simp
   have hgetm:∃ y,((List.range ws.length).map (fun j=>if s6 (rS u ws) ws.length j<c then (shG n ws j,pl) else ((0,0):ai)))[i]? =some y:=⟨_,bu (by rw[hlenm];exact hin)⟩
   obtain⟨y0,hy0⟩:=hgetm
   have e1:(shE u ws i).1=(i:Int):=rfl
   have e2:(shE u ws i).2.1=(shQ u ws.sum (ws.getD i 0):Int):=rfl
   rw[e1,e2]
   by_cases hcl:c<left
   ·rw[ajz hcl] at hgi
    rw[aP (by omega),aS]
    dsimp only
    rw[aC (by omega) (by omega)]
    by_cases hneg:n<0
    ·rw[ajz hneg] at hgi
     rw[aP hneg,aS]
     dsimp only
     rw[aC (by omega) (by omega),hlenm,aW (by simp only[agC,ajs];omega),ahc,hy0,ajb]
     exact hlast _ (by omega)
    ·rw[ajy hneg] at hgi
     rw[aO hneg,aS]
     dsimp only
     rw[hlenm,aW (by simp only[agC,ajs];omega),ahc,hy0,ajb]
     exact hlast _ (by omega)
   ·rw[ajy hcl] at hgi
    rw[aO (by omega),aS]
    dsimp only
    by_cases hneg:n<0
    ·rw[ajz hneg] at hgi
     rw[aP hneg,aS]
     dsimp only
     rw[aC (by omega) (by omega),hlenm,aW (by simp only[agC,ajs];omega),ahc,hy0,ajb]
     exact hlast _ (by omega)
    ·rw[ajy hneg] at hgi
     rw[aO hneg,aS]
     dsimp only
     rw[hlenm,aW (by simp only[agC,ajs];omega),ahc,hy0,ajb]
     exact hlast _ (by omega)
  ·rintro _ again rfl
   unfold uk
   dsimp only
   rw[aO (by omega),WA,ah3]
   congr 3
   apply ah1
   intro i hi
   rw[aii] at hi
   have hr:=ho.Yg hi
   have:=(ahH.1 hr).1
   rw[ajz (by omega)]
   rfl
  ·simp only[ai2,ajx,ahc]
   congr 7
   rw[List.map_const',ahX]
 have e:=loop3 ((Int.natAbs (left:Int))+((o.map (shE u ws)).length+(Int.natAbs (ws.length:Int)+(Int.natAbs (0:Int)+(Int.natAbs n+(Int.natAbs pl+((List.replicate (Int.toNat (ws.length:Int)) ((0,0):ai)).length+2))))))) (by simp;omega)
 rw[ahU,hol] at e
 rw[e,aS]
end Go.Md
namespace Go.Md
open Go.Dn
theorem EI (z:Int):kI (W z)=some (mZ z,()):=CG z
theorem xM {zs:List Int} {i:Nat} {z:Int} (h:zs[i]? =some z):bF (zs.take (i+1))=(bF (zs.take i)&&mZ z):=by
 unfold bF
 rw[aiz,h,List.all_append];simp
theorem Ei {zs:List Int} {i:Nat} {z:Int} (h:zs[i]? =some z) (hz:mZ z=false):bF zs=false:=by
 unfold bF
 rw[List.all_eq_false]
 exact⟨z,aie h,by simp[hz]⟩
theorem contains_eq (zs:List Int) (hl:zs.length≤1000):jr (zs.map W) ()=some (!bF zs,()):=by
 unfold jr pI
 have loop:∀ f,zs.length<f→(bF zs=true∧iter f ((zs.map W,(),(zs.length:Int),(0:Int),()):ij) ig=some (Sum.inr ()))∨
  (bF zs=false∧∃ j:Nat,iter f ((zs.map W,(),(zs.length:Int),(0:Int),()):ij) ig=some (Sum.inl ((j:Int),()))):=by
  intro f hf
  refine bX (Inv:=fun i X=>X=(zs.map W,(),(zs.length:Int),(i:Int),())∧bF (zs.take i)=true) zs.length (fun r=>(bF zs=true∧r=some (Sum.inr ()))∨(bF zs=false∧∃ j:Nat,r=some (Sum.inl ((j:Int),())))) ?_ ?_ f 0 _ ⟨rfl,rfl⟩ (by omega) (by omega)
  ·rintro i _ again hi ⟨rfl,hal⟩ ih
   unfold ig
   dsimp only
   have hz:zs[i]? =some zs[i]:=bu hi
   generalize zs[i]=z at hz
   rw[aP (by omega),bQ,ahI,hz,aji,ajb]
   unfold vB
   rw[EI,ajb,ajb]
   dsimp only
   cases h:mZ z with
   | true=>
    rw[agN,ajn,aC (by omega) (by omega)]
    exact ih _ ⟨rfl,by rw[xM hz,hal,h];rfl⟩
   | false=>exact .inr ⟨Ei hz h,i,rfl⟩
  ·rintro _ again ⟨rfl,hal⟩
   unfold ig
   dsimp only
   rw[aiC (aiN _)] at hal
   rw[aO (by omega)]
   exact .inl ⟨hal,rfl⟩
 rw[ahU]
 rcases loop (zs.length+(Int.natAbs ((zs.length:Int))+(Int.natAbs (0:Int)+2))) (by omega) with ⟨h,e⟩ | ⟨h,j,e⟩
 ·rw[e,aS,ajb,h];rfl
 ·rw[e,mU,ajb,h]
  dsimp only
  rw[ajr (show (j:Int)≥0 by omega)];rfl
theorem L4 (zs:List Int) (hl:zs.length≤1000):bZ (zs.map W) ()=some (!bF zs,()):=by
 unfold bZ nS
 have loop:∀ f,zs.length<f→(bF zs=true∧iter f ((zs.map W,(),(zs.length:Int),(0:Int),()):gh) gf=some (Sum.inr ()))∨
  (bF zs=false∧∃ j:Nat,iter f ((zs.map W,(),(zs.length:Int),(0:Int),()):gh) gf=some (Sum.inl ((j:Int),()))):=by
  intro f hf
  refine bX (Inv:=fun i X=>X=(zs.map W,(),(zs.length:Int),(i:Int),())∧bF (zs.take i)=true) zs.length (fun r=>(bF zs=true∧r=some (Sum.inr ()))∨(bF zs=false∧∃ j:Nat,r=some (Sum.inl ((j:Int),())))) ?_ ?_ f 0 _ ⟨rfl,rfl⟩ (by omega) (by omega)
  ·rintro i _ again hi ⟨rfl,hal⟩ ih
   unfold gf
   dsimp only
   have hz:zs[i]? =some zs[i]:=bu hi
   generalize zs[i]=z at hz
   rw[aP (by omega),bQ,ahI,hz,aji,ajb]
   unfold yj
   rw[EI,ajb,ajb]
   dsimp only
   cases h:mZ z with
   | true=>
    rw[agN,ajn,aC (by omega) (by omega)]
    exact ih _ ⟨rfl,by rw[xM hz,hal,h];rfl⟩
   | false=>exact .inr ⟨Ei hz h,i,rfl⟩
  ·rintro _ again ⟨rfl,hal⟩
   unfold gf
   dsimp only
   rw[aiC (aiN _)] at hal
   rw[aO (by omega)]
   exact .inl ⟨hal,rfl⟩
 rw[ahU]
 rcases loop (zs.length+(Int.natAbs ((zs.length:Int))+(Int.natAbs (0:Int)+2))) (by omega) with ⟨h,e⟩ | ⟨h,j,e⟩
 ·rw[e,aS,ajb,h];rfl
 ·rw[e,mU,ajb,h]
  dsimp only
  rw[ajr (show (j:Int)≥0 by omega)];rfl
theorem VX (zs:List Int) (hl:zs.length≤1000):iX (zs.map W) ()=some (!bF zs,()):=by
 unfold iX nT
 have loop:∀ f,zs.length<f→(bF zs=true∧iter f ((zs.map W,(),(zs.length:Int),(0:Int),()):gl) gj=some (Sum.inr ()))∨
  (bF zs=false∧∃ j:Nat,iter f ((zs.map W,(),(zs.length:Int),(0:Int),()):gl) gj=some (Sum.inl ((j:Int),()))):=by
  intro f hf
  refine bX (Inv:=fun i X=>X=(zs.map W,(),(zs.length:Int),(i:Int),())∧bF (zs.take i)=true) zs.length (fun r=>(bF zs=true∧r=some (Sum.inr ()))∨(bF zs=false∧∃ j:Nat,r=some (Sum.inl ((j:Int),())))) ?_ ?_ f 0 _ ⟨rfl,rfl⟩ (by omega) (by omega)
  ·rintro i _ again hi ⟨rfl,hal⟩ ih
   unfold gj
   dsimp only
   have hz:zs[i]? =some zs[i]:=bu hi
   generalize zs[i]=z at hz
   rw[aP (by omega),bQ,ahI,hz,aji,ajb]
   unfold Bl
   rw[EI,ajb,ajb]
   dsimp only
   cases h:mZ z with
   | true=>
    rw[agN,ajn,aC (by omega) (by omega)]
    exact ih _ ⟨rfl,by rw[xM hz,hal,h];rfl⟩
   | false=>exact .inr ⟨Ei hz h,i,rfl⟩
  ·rintro _ again ⟨rfl,hal⟩
   unfold gj
   dsimp only
   rw[aiC (aiN _)] at hal
   rw[aO (by omega)]
   exact .inl ⟨hal,rfl⟩
 rw[ahU]
 rcases loop (zs.length+(Int.natAbs ((zs.length:Int))+(Int.natAbs (0:Int)+2))) (by omega) with ⟨h,e⟩ | ⟨h,j,e⟩
 ·rw[e,aS,ajb,h];rfl
 ·rw[e,mU,ajb,h]
  dsimp only
  rw[ajr (show (j:Int)≥0 by omega)];rfl
theorem VY (zs:List Int) (hl:zs.length≤1000):iY (zs.map W) ()=some (!bF zs,()):=by
 unfold iY nU
 have loop:∀ f,zs.length<f→(bF zs=true∧iter f ((zs.map W,(),(zs.length:Int),(0:Int),()):gp) gm=some (Sum.inr ()))∨
  (bF zs=false∧∃ j:Nat,iter f ((zs.map W,(),(zs.length:Int),(0:Int),()):gp) gm=some (Sum.inl ((j:Int),()))):=by
  intro f hf
  refine bX (Inv:=fun i X=>X=(zs.map W,(),(zs.length:Int),(i:Int),())∧bF (zs.take i)=true) zs.length (fun r=>(bF zs=true∧r=some (Sum.inr ()))∨(bF zs=false∧∃ j:Nat,r=some (Sum.inl ((j:Int),())))) ?_ ?_ f 0 _ ⟨rfl,rfl⟩ (by omega) (by omega)
  ·rintro i _ again hi ⟨rfl,hal⟩ ih
   unfold gm
   dsimp only
   have hz:zs[i]? =some zs[i]:=bu hi
   generalize zs[i]=z at hz
   rw[aP (by omega),bQ,ahI,hz,aji,ajb]
   unfold xu
   rw[EI,ajb,ajb]
   dsimp only
   cases h:mZ z with
   | true=>
    rw[agN,ajn,aC (by omega) (by omega)]
    exact ih _ ⟨rfl,by rw[xM hz,hal,h];rfl⟩
   | false=>exact .inr ⟨Ei hz h,i,rfl⟩
  ·rintro _ again ⟨rfl,hal⟩
   unfold gm
   dsimp only
   rw[aiC (aiN _)] at hal
   rw[aO (by omega)]
   exact .inl ⟨hal,rfl⟩
 rw[ahU]
 rcases loop (zs.length+(Int.natAbs ((zs.length:Int))+(Int.natAbs (0:Int)+2))) (by omega) with ⟨h,e⟩ | ⟨h,j,e⟩
 ·rw[e,aS,ajb,h];rfl
 ·rw[e,mU,ajb,h]
  dsimp only
  rw[ajr (show (j:Int)≥0 by omega)];rfl
theorem TW (l:List aa) (hl:l.length≤1000):ox l=some (l,()):=by
 unfold ox
 have hc:(decide ((0+l.length)*32≤140737488355328)&&decide (0+l.length≤maxLen))=true:=by
  simp only[agC,ajs];rw[Vu];omega
 rw[aW hc]
 cases l with
 | nil=>exact abD _
 | cons x r=>rfl
def shW (p:Nat×Int):aJ:=((p.1:Int),W p.2)
def dY (n:Nat) (fl:List Nat):List Bool:=(List.range n).map fun k=>fl.contains k
theorem tE (n:Nat) (fl:List Nat):(dY n fl).length=n:=by simp[dY]
theorem adC (n:Nat):dY n []=List.replicate n false:=by
 unfold dY
 apply aht
 intro i
 by_cases hi:i<n
 ·rw[ahI,ahJ hi,ahK,ajz hi];rfl
 ·rw[ahG (by simp;omega),ahG (by simp;omega)]
theorem GQ {n k:Nat} (fl:List Nat):(dY n fl).set k true=dY n (fl++[k]):=by
 apply aht
 intro i
 by_cases hi:i<n
 ·have e:∀ f,(dY n f)[i]? =some (f.contains i):=fun f=>by unfold dY;rw[ahI,ahJ hi];rfl
  rw[e]
  by_cases h:k=i
  ·subst h
   rw[ahN (by rw[tE];exact hi)];simp
  ·rw[ahM h,e]
   simp[show ¬ i=k from fun x=>h x.symm]
 ·rw[ahG (by rw[ahY,tE];omega),ahG (by rw[tE];omega)]
theorem GP {n k:Nat} (fl:List Nat) (h:k<n):(dY n fl)[k]? =some (fl.contains k):=by
 unfold dY;rw[ahI,ahJ h];rfl
theorem YQ (n:Nat):(aZ n []).map W=List.replicate n (false,[]):=by
 apply aht
 intro i
 by_cases hi:i<n
 ·rw[ahI,wW _ hi,ahK,ajz hi];rfl
 ·rw[ahG (by rw[ahU,ja];omega),ahG (by simp;omega)]
def Bx (v:ah) (nets lines bases:List Int) (sh:Br) (am:List Int) (has:List Bool) (tx:List Int):ah×(List aa)×(List aa)×(List aa)×(List aJ)×(List aa)×(List Bool)×(List aa)×Unit:=
 (v,nets.map W,lines.map W,bases.map W,sh.map shW,am.map W,has,tx.map W,())
theorem Fi (v:ah):∀ (a b:List au),eW v (a++b)=match eW v a with | some l=>(eW v b).map (l++ ·) | none=>none
 | [],b=>by simp[eW]
 | x::a,b=>by
  simp only[ahk,eW]
  cases Al v x with
  | none=>rfl
  | some n=>
   dsimp only
   rw[Fi v a b]
   cases eW v a with
   | none=>rfl
   | some l=>cases eW v b<;>rfl
def WS (v:ah) (x:au):Nat:=(jk (·.1) x.2.2.2.2.2.2.2.2 (aA v)).getD 0
theorem Zh {v:ah} {l:List au} {i:Nat} {x:au} (hx:l[i]? =some x) {b:Br} (h:eW v (l.take i)=some b):
 eW v (l.take (i+1))=(Al v x).map fun n=>b++[(WS v x,n)]:=by
 rw[aiz,hx,Fi,h]
 simp only[Option.toList,eW]
 cases Al v x<;>rfl
theorem Zg {v:ah} {l:List au} {i:Nat} (h:eW v (l.take i)=none):eW v l=none:=by
 have:=Fi v (l.take i) (l.drop i)
 rw[aiA,h] at this
 exact this
theorem KG:MU=1000000000000000:=rfl
structure jx (n:Nat) (b:Br):Prop where
 ix:∀ p∈b,p.1<n
 am:∀ p∈b,(p.2.natAbs:Int)≤MU
theorem afr {n:Nat} {b:Br} (h:jx n b) (k:Nat):(atB b k).natAbs≤b.length*1000000000000000:=by
 have am:=h.am
 have hMU:=KG
 clear h
 induction b with
 | nil=>simp[atB]
 | cons p b ih=>
  have h1:=ih fun q hq=>am q (ah8 _ hq)
  have h2:=am p ah9
  simp only[atB,ahT,aiF,ai3]
  split<;>omega
theorem WZ {n:Nat} {b:Br} (h:jx n b) (hl:b.length≤2000) (k:Nat):Le 19 (atB b k):=by
 have h1:=afr h k
 have h2:b.length*1000000000000000≤2000*1000000000000000:=ai1 _ hl
 exact Le.int (by omega) (by omega)
theorem Fy {z:Int} (h:(z.natAbs:Int)≤MU):Le 19 z:=by
 have:=KG
 exact Le.int (by omega) (by omega)
theorem W7 {v:ah} (hv:ni v) (f:Nat) (hf:(bN v).length<f) (b0:List aa) (a0 t0:List aa):
 (∃ lb,eW v (bN v)=some lb∧jx (aA v).length lb∧lb.length=(bN v).length∧iter f ((bN v,((bN v).length:Int),(0:Int),v.1,v.2.1,v.2.2.1,v.2.2.2.1,v.2.2.2.2.1,v.2.2.2.2.2.1,v.2.2.2.2.2.2.1,v.2.2.2.2.2.2.2.1,v.2.2.2.2.2.2.2.2,([]:List aa),([]:List aJ),List.replicate (Int.toNat ((aA v).length:Int)) ((false,[]):aa),List.replicate (Int.toNat ((aA v).length:Int)) false,b0,a0,t0,()):jm) lI=some (Sum.inr (v.1,v.2.1,v.2.2.1,v.2.2.2.1,v.2.2.2.2.1,v.2.2.2.2.2.1,v.2.2.2.2.2.2.1,v.2.2.2.2.2.2.2.1,v.2.2.2.2.2.2.2.2,(lb.map (·.2)).map W,lb.map shW,(aZ (aA v).length lb).map W,dY (aA v).length (lb.map (·.1)),b0,a0,t0,())))∨
 (eW v (bN v)=none∧∃ b,iter f ((bN v,((bN v).length:Int),(0:Int),v.1,v.2.1,v.2.2.1,v.2.2.2.1,v.2.2.2.2.1,v.2.2.2.2.2.1,v.2.2.2.2.2.2.1,v.2.2.2.2.2.2.2.1,v.2.2.2.2.2.2.2.2,([]:List aa),([]:List aJ),List.replicate (Int.toNat ((aA v).length:Int)) ((false,[]):aa),List.replicate (Int.toNat ((aA v).length:Int)) false,b0,a0,t0,()):jm) lI=some (Sum.inl (1,b,()))):=by
 have hrn:0<(aA v).length∧(aA v).length≤20:=hv.rn
 have hln:0<(bN v).length∧(bN v).length≤500:=hv.ln
 refine bX (Inv:=fun i X=>∃ lb,eW v ((bN v).take i)=some lb∧jx (aA v).length lb∧lb.length=i∧X=((bN v,((bN v).length:Int),(i:Int),v.1,v.2.1,v.2.2.1,v.2.2.2.1,v.2.2.2.2.1,v.2.2.2.2.2.1,v.2.2.2.2.2.2.1,v.2.2.2.2.2.2.2.1,v.2.2.2.2.2.2.2.2,(lb.map (·.2)).map W,lb.map shW,(aZ (aA v).length lb).map W,dY (aA v).length (lb.map (·.1)),b0,a0,t0,()):jm)) (bN v).length
  (fun r=>(∃ lb,eW v (bN v)=some lb∧jx (aA v).length lb∧lb.length=(bN v).length∧r=some (Sum.inr (v.1,v.2.1,v.2.2.1,v.2.2.2.1,v.2.2.2.2.1,v.2.2.2.2.2.1,v.2.2.2.2.2.2.1,v.2.2.2.2.2.2.2.1,v.2.2.2.2.2.2.2.2,(lb.map (·.2)).map W,lb.map shW,(aZ (aA v).length lb).map W,dY (aA v).length (lb.map (·.1)),b0,a0,t0,())))∨(eW v (bN v)=none∧∃ b,r=some (Sum.inl (1,b,())))) ?_ ?_ f 0 _ ⟨[],rfl,⟨by simp,by simp⟩,rfl, ?_⟩ (by omega) (by omega)
 ·rintro i _ again hi ⟨lb,h1,h2,h3,rfl⟩ ih
  unfold lI
  dsimp only
  have hx:(bN v)[i]? =some (bN v)[i]:=bu hi
  have hxm:=ahR hi
  generalize (bN v)[i]=x at hx hxm
  have hxo:=hv.lines x hxm
  have hstep:=Zh hx h1
  rw[aP (by omega),bQ,hx,ajb]
  rw[OI v,YR hv hxo,ajb]
  dsimp only
  cases hn:Al v x with
  | none=>
   rw[hn] at hstep
   exact .inr ⟨Zg hstep,_,rfl⟩
  | some d=>
   rw[hn] at hstep
   obtain⟨hd1,hd2⟩:=Vy hn
   rw[ajg,agN,ajn, ← hd1]
   obtain⟨k,hk1,hk2⟩:=DC (aA v) x.2.2.2.2.2.2.2.2 (by omega) hv.asc
   obtain⟨k',hk'⟩:=ajf.1 hxo.rate
   obtain rfl:=hk2 k' hk'
   obtain⟨rt,hrt,_⟩:=sO hk'
   have hkl:k<(aA v).length:=(ahH.1 hrt).1
   have hrk:WS v x=k:=by unfold WS;rw[hk'];rfl
   rw[hk1,ajb]
   dsimp only
   have hcm:(dY (aA v).length (lb.map (·.1)))[k]? =some ((lb.map (·.1)).contains k):=GP _ hkl
   have hbm:((aZ (aA v).length lb).map W)[k]? =some (W (atB lb k)):=by rw[ahI,wW _ hkl];rfl
   have hck:(decide (0≤(k:Int))&&decide ((k:Int)<(((aZ (aA v).length lb).map W).length:Int)))=true:=by
    rw[ahU,ja];simp only[agC,ajs];omega
   rw[aW (oS (by simp;omega) (by simp;omega)),aW hck,ahc,hbm,ajb,cO _ _ ((WZ h2 (by omega) k).w (by omega)) ((Fy hd2).w (by omega)),ajb,aW hck,ajb,aW (oS (by simp;omega) (by simp;omega)),aW (by rw[tE];simp only[agC,ajs];omega),hcm,ajb,aC (by omega) (by omega)]
   refine ih _ ⟨lb++[(k,d)],by rw[hstep,hrk];rfl,⟨?_, ?_⟩,by simp[h3], ?_⟩
   ·intro p hp
    rcases ah6.1 hp with hp | hp
    ·exact h2.ix p hp
    ·rw[aij.1 hp];exact hkl
   ·intro p hp
    rcases ah6.1 hp with hp | hp
    ·exact h2.am p hp
    ·rw[aij.1 hp];exact hd2
   ·dsimp only
    rw[← ah5,P5,GQ]
    simp only[ah0,ah2,ah4,shW]
    rfl
 ·rintro _ again ⟨lb,h1,h2,h3,rfl⟩
  unfold lI
  dsimp only
  rw[aO (by omega)]
  rw[aiC (aiN _)] at h1
  exact .inl ⟨lb,h1,h2,h3,rfl⟩
 ·simp only[ah4,adC,YQ,ahc]
  rfl
theorem RY {v:ah} (hv:ni v):
 (∃ lb,eW v (bN v)=some lb∧jx (aA v).length lb∧lb.length=(bN v).length∧bF (aZ (aA v).length lb)=true∧oC (v,[],[],[],[],[],[],[],())=some (0,Bx v (lb.map (·.2)) (aZ (aA v).length lb) (aZ (aA v).length lb) lb [] (dY (aA v).length (lb.map (·.1))) [],()))∨
 ((eW v (bN v)=none∨∃ lb,eW v (bN v)=some lb∧bF (aZ (aA v).length lb)=false)∧∃ b,oC (v,[],[],[],[],[],[],[],())=some (1,b,())):=by
 have hrn:0<(aA v).length∧(aA v).length≤20:=hv.rn
 have hrn':=hv.rn
 unfold oC
 dsimp only
 rw[aW (by simp only[agC,ajs];omega),aW (by simp only[agC,ajs];omega)]
 rcases W7 hv ((bN v).length+(Int.natAbs (((bN v).length:Int))+(Int.natAbs (0:Int)+(v.1.length+(v.2.1.length+(v.2.2.1.natAbs+(v.2.2.2.1.natAbs+(v.2.2.2.2.1.natAbs+(v.2.2.2.2.2.2.1.length+(v.2.2.2.2.2.2.2.1.length+(v.2.2.2.2.2.2.2.2.length+(List.length ([]:List aa)+(List.length ([]:List aJ)+(List.length (List.replicate (Int.toNat ((aA v).length:Int)) ((false,[]):aa))+(List.length (List.replicate (Int.toNat ((aA v).length:Int)) false)+(List.length ([]:List aa)+(List.length ([]:List aa)+(List.length ([]:List aa)+2)))))))))))))))))) (by omega) [] [] [] with ⟨lb,h1,h2,h3,e⟩ | ⟨h1,b,e⟩
 ·rw[e,aS]
  dsimp only
  have hbl:=ja (aA v).length lb
  rw[contains_eq _ (by rw[hbl];omega),ajb]
  dsimp only
  cases ha:bF (aZ (aA v).length lb) with
  | true=>
   rw[agN,ajn,TW _ (by rw[ahU,hbl];omega),ajb]
   exact .inl ⟨lb,h1,h2,h3,ha,rfl⟩
  | false=>exact .inr ⟨.inr ⟨lb,h1,ha⟩,_,rfl⟩
 ·rw[e,mU]
  exact .inr ⟨.inl h1,b,rfl⟩
end Go.Md
namespace Go.Md
open Go.Dn
def ZM (v5:((List Int)×Bool×Bool×(List Int)×Bys×Bys×Int×Int×Int×Bool×(List aD)×(List au)×(List ax)×(List aa)×(List aa)×(List aa)×(List aJ)×(List aa)×(List Bool)×(List aa)×Unit)):Option (Int×(ah×(List aa)×(List aa)×(List aa)×(List aJ)×(List aa)×(List Bool)×(List aa)×Unit)×Unit):=
 bif !v5.2.1 then
  Option.bind (gR ((v5.2.2.2.2.1,v5.2.2.2.2.2.1,v5.2.2.2.2.2.2.1,v5.2.2.2.2.2.2.2.1,v5.2.2.2.2.2.2.2.2.1,v5.2.2.2.2.2.2.2.2.2.1,v5.2.2.2.2.2.2.2.2.2.2.1,v5.2.2.2.2.2.2.2.2.2.2.2.1,v5.2.2.2.2.2.2.2.2.2.2.2.2.1),v5.2.2.2.2.2.2.2.2.2.2.2.2.2.2.1,v5.2.2.2.2.2.2.2.2.2.2.2.2.2.1,v5.2.2.2.2.2.2.2.2.2.2.2.2.2.2.2.1,v5.2.2.2.2.2.2.2.2.2.2.2.2.2.2.2.2.1,v5.2.2.2.2.2.2.2.2.2.2.2.2.2.2.2.2.2.1,v5.2.2.2.2.2.2.2.2.2.2.2.2.2.2.2.2.2.2.1,v5.2.2.2.2.2.2.2.2.2.2.2.2.2.2.2.2.2.2.2.1,()) 0 (v5.2.2.1,v5.2.2.2.1)) fun r6=>
  chk (decide (0≤(0:Int))&&decide ((0:Int)<(r6.1.2.2.2.2.2.2.1.length:Int))) <|
  Option.bind (r6.1.2.2.2.2.2.2.1[0]?) fun y7=>
  bif y7 then
   chk (decide (0≤(0:Int))&&decide ((0:Int)<(r6.1.2.2.2.2.2.2.1.length:Int))) <|
   Option.bind (r6.1.2.2.2.2.2.2.1[0]?) fun _=>
   some (0,(r6.1.1,r6.1.2.1,r6.1.2.2.1,r6.1.2.2.2.1,r6.1.2.2.2.2.1,r6.1.2.2.2.2.2.1,List.set r6.1.2.2.2.2.2.2.1 0 true,r6.1.2.2.2.2.2.2.2.1,()),())
  else
   Option.bind (aG (v5.2.2.1,v5.2.2.2.1)) fun r9=>
   chk (decide (0≤(0:Int))&&decide ((0:Int)<(r6.1.2.2.2.2.2.2.1.length:Int))) <|
   Option.bind (r6.1.2.2.2.2.2.2.1[0]?) fun _=>
   some (0,(r6.1.1,r6.1.2.1,r6.1.2.2.1,r6.1.2.2.2.1,r6.1.2.2.2.2.1,r6.1.2.2.2.2.2.1,List.set r6.1.2.2.2.2.2.2.1 0 (r9.1 != 0),r6.1.2.2.2.2.2.2.2.1,()),())
 else
  Option.bind (jH v5.1 ()) fun r11=>
  bif r11.1 then
   some (2,((v5.2.2.2.2.1,v5.2.2.2.2.2.1,v5.2.2.2.2.2.2.1,v5.2.2.2.2.2.2.2.1,v5.2.2.2.2.2.2.2.2.1,v5.2.2.2.2.2.2.2.2.2.1,v5.2.2.2.2.2.2.2.2.2.2.1,v5.2.2.2.2.2.2.2.2.2.2.2.1,v5.2.2.2.2.2.2.2.2.2.2.2.2.1),v5.2.2.2.2.2.2.2.2.2.2.2.2.2.2.1,v5.2.2.2.2.2.2.2.2.2.2.2.2.2.1,v5.2.2.2.2.2.2.2.2.2.2.2.2.2.2.2.1,v5.2.2.2.2.2.2.2.2.2.2.2.2.2.2.2.2.1,v5.2.2.2.2.2.2.2.2.2.2.2.2.2.2.2.2.2.1,v5.2.2.2.2.2.2.2.2.2.2.2.2.2.2.2.2.2.2.1,v5.2.2.2.2.2.2.2.2.2.2.2.2.2.2.2.2.2.2.2.1,()),())
  else
   Option.bind (oa (v5.2.2.1,v5.2.2.2.1) v5.2.2.2.2.2.2.2.1) fun r12=>
   Option.bind (wC r12.1 v5.1) fun r13=>
   bif r13.2.1 != 0 then
    some (r13.2.1,((v5.2.2.2.2.1,v5.2.2.2.2.2.1,v5.2.2.2.2.2.2.1,v5.2.2.2.2.2.2.2.1,v5.2.2.2.2.2.2.2.2.1,v5.2.2.2.2.2.2.2.2.2.1,v5.2.2.2.2.2.2.2.2.2.2.1,v5.2.2.2.2.2.2.2.2.2.2.2.1,v5.2.2.2.2.2.2.2.2.2.2.2.2.1),v5.2.2.2.2.2.2.2.2.2.2.2.2.2.2.1,v5.2.2.2.2.2.2.2.2.2.2.2.2.2.1,v5.2.2.2.2.2.2.2.2.2.2.2.2.2.2.2.1,v5.2.2.2.2.2.2.2.2.2.2.2.2.2.2.2.2.1,v5.2.2.2.2.2.2.2.2.2.2.2.2.2.2.2.2.2.1,v5.2.2.2.2.2.2.2.2.2.2.2.2.2.2.2.2.2.2.1,v5.2.2.2.2.2.2.2.2.2.2.2.2.2.2.2.2.2.2.2.1,()),())
   else
    aT (β:=(Int×(ah×(List aa)×(List aa)×(List aa)×(List aJ)×(List aa)×(List Bool)×(List aa)×Unit)×Unit)) (γ:=(Bys×Bys×Int×Int×Int×Bool×(List aD)×(List au)×(List ax)×(List aa)×(List aa)×(List aa)×(List aJ)×(List aa)×(List Bool)×(List aa)×Unit)) (
     iter (X:=jq) (β:=oQ) (r13.1.length+(Int.natAbs ((r13.1.length:Int))+(Int.natAbs (0:Int)+(v5.2.2.2.2.1.length+(v5.2.2.2.2.2.1.length+(v5.2.2.2.2.2.2.1.natAbs+(v5.2.2.2.2.2.2.2.1.natAbs+(v5.2.2.2.2.2.2.2.2.1.natAbs+(v5.2.2.2.2.2.2.2.2.2.2.1.length+(v5.2.2.2.2.2.2.2.2.2.2.2.1.length+(v5.2.2.2.2.2.2.2.2.2.2.2.2.1.length+(v5.2.2.2.2.2.2.2.2.2.2.2.2.2.2.1.length+(v5.2.2.2.2.2.2.2.2.2.2.2.2.2.1.length+(v5.2.2.2.2.2.2.2.2.2.2.2.2.2.2.2.1.length+(v5.2.2.2.2.2.2.2.2.2.2.2.2.2.2.2.2.1.length+(v5.2.2.2.2.2.2.2.2.2.2.2.2.2.2.2.2.2.1.length+(v5.2.2.2.2.2.2.2.2.2.2.2.2.2.2.2.2.2.2.1.length+(v5.2.2.2.2.2.2.2.2.2.2.2.2.2.2.2.2.2.2.2.1.length+2)))))))))))))))))) (r13.1,(r13.1.length:Int),0,v5.2.2.2.2.1,v5.2.2.2.2.2.1,v5.2.2.2.2.2.2.1,v5.2.2.2.2.2.2.2.1,v5.2.2.2.2.2.2.2.2.1,v5.2.2.2.2.2.2.2.2.2.1,v5.2.2.2.2.2.2.2.2.2.2.1,v5.2.2.2.2.2.2.2.2.2.2.2.1,v5.2.2.2.2.2.2.2.2.2.2.2.2.1,v5.2.2.2.2.2.2.2.2.2.2.2.2.2.2.1,v5.2.2.2.2.2.2.2.2.2.2.2.2.2.1,v5.2.2.2.2.2.2.2.2.2.2.2.2.2.2.2.1,v5.2.2.2.2.2.2.2.2.2.2.2.2.2.2.2.2.1,v5.2.2.2.2.2.2.2.2.2.2.2.2.2.2.2.2.2.1,v5.2.2.2.2.2.2.2.2.2.2.2.2.2.2.2.2.2.2.1,v5.2.2.2.2.2.2.2.2.2.2.2.2.2.2.2.2.2.2.2.1,()) (lJ)) fun v19=>
    some (0,((v19.1,v19.2.1,v19.2.2.1,v19.2.2.2.1,v19.2.2.2.2.1,v19.2.2.2.2.2.1,v19.2.2.2.2.2.2.1,v19.2.2.2.2.2.2.2.1,v19.2.2.2.2.2.2.2.2.1),v19.2.2.2.2.2.2.2.2.2.1,v19.2.2.2.2.2.2.2.2.2.2.1,v19.2.2.2.2.2.2.2.2.2.2.2.1,v19.2.2.2.2.2.2.2.2.2.2.2.2.1,v19.2.2.2.2.2.2.2.2.2.2.2.2.2.1,v19.2.2.2.2.2.2.2.2.2.2.2.2.2.2.1,v19.2.2.2.2.2.2.2.2.2.2.2.2.2.2.2.1,()),())
def Vc (v8:(Int×Bool×Bool×Int×Int×Bys×Bool×(List Int)×Bys×Bys×Int×Int×Int×Bool×(List aD)×(List au)×(List ax)×(List aa)×(List aa)×(List aa)×(List aJ)×(List aa)×(List Bool)×(List aa)×Unit)):Option (Int×(ah×(List aa)×(List aa)×(List aa)×(List aJ)×(List aa)×(List Bool)×(List aa)×Unit)×Unit):=
 Option.bind (mQ (v8.2.2.2.1,v8.2.2.2.2.1) (if v8.2.2.2.2.1>v8.2.2.2.2.2.2.2.2.2.2.2.1 then v8.2.2.2.2.1 else v8.2.2.2.2.2.2.2.2.2.2.2.1)) fun r9=>
 aT (β:=(Int×(ah×(List aa)×(List aa)×(List aa)×(List aJ)×(List aa)×(List Bool)×(List aa)×Unit)×Unit)) (γ:=(Int×Bool×Bool×(List Int)×Bys×Bys×Int×Int×Int×Bool×(List aD)×(List au)×(List ax)×(List aa)×(List aa)×(List aa)×(List aJ)×(List aa)×(List Bool)×(List aa)×Unit)) (
  bif v8.2.2.1 then
   Option.bind (sB (v8.2.2.2.2.2.2.2.2.1,v8.2.2.2.2.2.2.2.2.2.1,v8.2.2.2.2.2.2.2.2.2.2.1,v8.2.2.2.2.2.2.2.2.2.2.2.1,v8.2.2.2.2.2.2.2.2.2.2.2.2.1,v8.2.2.2.2.2.2.2.2.2.2.2.2.2.1,v8.2.2.2.2.2.2.2.2.2.2.2.2.2.2.1,v8.2.2.2.2.2.2.2.2.2.2.2.2.2.2.2.1,v8.2.2.2.2.2.2.2.2.2.2.2.2.2.2.2.2.1) (v8.2.2.2.2.2.2.1,v8.2.2.2.2.2.2.2.1) (v8.2.2.2.1,v8.2.2.2.2.1)) fun r10=>
   some (Sum.inr (v8.1,v8.2.1,r10.1.1,r10.1.2,v8.2.2.2.2.2.2.2.2.1,v8.2.2.2.2.2.2.2.2.2.1,v8.2.2.2.2.2.2.2.2.2.2.1,v8.2.2.2.2.2.2.2.2.2.2.2.1,v8.2.2.2.2.2.2.2.2.2.2.2.2.1,v8.2.2.2.2.2.2.2.2.2.2.2.2.2.1,v8.2.2.2.2.2.2.2.2.2.2.2.2.2.2.1,v8.2.2.2.2.2.2.2.2.2.2.2.2.2.2.2.1,v8.2.2.2.2.2.2.2.2.2.2.2.2.2.2.2.2.1,v8.2.2.2.2.2.2.2.2.2.2.2.2.2.2.2.2.2.1,v8.2.2.2.2.2.2.2.2.2.2.2.2.2.2.2.2.2.2.1,v8.2.2.2.2.2.2.2.2.2.2.2.2.2.2.2.2.2.2.2.1,v8.2.2.2.2.2.2.2.2.2.2.2.2.2.2.2.2.2.2.2.2.1,v8.2.2.2.2.2.2.2.2.2.2.2.2.2.2.2.2.2.2.2.2.2.1,v8.2.2.2.2.2.2.2.2.2.2.2.2.2.2.2.2.2.2.2.2.2.2.1,v8.2.2.2.2.2.2.2.2.2.2.2.2.2.2.2.2.2.2.2.2.2.2.2.1,()))
  else
   some (Sum.inr (v8.1,v8.2.1,r9.1.1,r9.1.2,v8.2.2.2.2.2.2.2.2.1,v8.2.2.2.2.2.2.2.2.2.1,v8.2.2.2.2.2.2.2.2.2.2.1,v8.2.2.2.2.2.2.2.2.2.2.2.1,v8.2.2.2.2.2.2.2.2.2.2.2.2.1,v8.2.2.2.2.2.2.2.2.2.2.2.2.2.1,v8.2.2.2.2.2.2.2.2.2.2.2.2.2.2.1,v8.2.2.2.2.2.2.2.2.2.2.2.2.2.2.2.1,v8.2.2.2.2.2.2.2.2.2.2.2.2.2.2.2.2.1,v8.2.2.2.2.2.2.2.2.2.2.2.2.2.2.2.2.2.1,v8.2.2.2.2.2.2.2.2.2.2.2.2.2.2.2.2.2.2.1,v8.2.2.2.2.2.2.2.2.2.2.2.2.2.2.2.2.2.2.2.1,v8.2.2.2.2.2.2.2.2.2.2.2.2.2.2.2.2.2.2.2.2.1,v8.2.2.2.2.2.2.2.2.2.2.2.2.2.2.2.2.2.2.2.2.2.1,v8.2.2.2.2.2.2.2.2.2.2.2.2.2.2.2.2.2.2.2.2.2.2.1,v8.2.2.2.2.2.2.2.2.2.2.2.2.2.2.2.2.2.2.2.2.2.2.2.1,()))) fun v11=>
 Option.bind (kI (v11.2.2.1,v11.2.2.2.1)) fun r12=>
 bif !r12.1 then
  some (1,((v11.2.2.2.2.1,v11.2.2.2.2.2.1,v11.2.2.2.2.2.2.1,v11.2.2.2.2.2.2.2.1,v11.2.2.2.2.2.2.2.2.1,v11.2.2.2.2.2.2.2.2.2.1,v11.2.2.2.2.2.2.2.2.2.2.1,v11.2.2.2.2.2.2.2.2.2.2.2.1,v11.2.2.2.2.2.2.2.2.2.2.2.2.1),v11.2.2.2.2.2.2.2.2.2.2.2.2.2.2.1,v11.2.2.2.2.2.2.2.2.2.2.2.2.2.1,v11.2.2.2.2.2.2.2.2.2.2.2.2.2.2.2.1,v11.2.2.2.2.2.2.2.2.2.2.2.2.2.2.2.2.1,v11.2.2.2.2.2.2.2.2.2.2.2.2.2.2.2.2.2.1,v11.2.2.2.2.2.2.2.2.2.2.2.2.2.2.2.2.2.2.1,v11.2.2.2.2.2.2.2.2.2.2.2.2.2.2.2.2.2.2.2.1,()),())
 else
  chk (decide (((v11.2.2.2.2.2.2.2.2.2.2.2.2.2.2.2.2.2.1.length)+1)*32≤140737488355328)&&decide ((v11.2.2.2.2.2.2.2.2.2.2.2.2.2.2.2.2.2.1.length)+1≤maxLen)) <|
  bif v11.2.1 then
   Option.bind (gR ((v11.2.2.2.2.1,v11.2.2.2.2.2.1,v11.2.2.2.2.2.2.1,v11.2.2.2.2.2.2.2.1,v11.2.2.2.2.2.2.2.2.1,v11.2.2.2.2.2.2.2.2.2.1,v11.2.2.2.2.2.2.2.2.2.2.1,v11.2.2.2.2.2.2.2.2.2.2.2.1,v11.2.2.2.2.2.2.2.2.2.2.2.2.1),v11.2.2.2.2.2.2.2.2.2.2.2.2.2.2.1,v11.2.2.2.2.2.2.2.2.2.2.2.2.2.1,v11.2.2.2.2.2.2.2.2.2.2.2.2.2.2.2.1,v11.2.2.2.2.2.2.2.2.2.2.2.2.2.2.2.2.1,v11.2.2.2.2.2.2.2.2.2.2.2.2.2.2.2.2.2.1++[(v11.2.2.1,v11.2.2.2.1)],v11.2.2.2.2.2.2.2.2.2.2.2.2.2.2.2.2.2.2.1,v11.2.2.2.2.2.2.2.2.2.2.2.2.2.2.2.2.2.2.2.1,()) v11.1 (v11.2.2.1,v11.2.2.2.1)) fun r13=>
   chk (decide (0≤v11.1)&&decide (v11.1<(r13.1.2.2.2.2.2.2.1.length:Int))) <|
   Option.bind (r13.1.2.2.2.2.2.2.1[v11.1.toNat]?) fun _=>
   Option.bind (bZ r13.1.2.2.2.1 ()) fun r15=>
   bif r15.1 then
    some (1,(r13.1.1,r13.1.2.1,r13.1.2.2.1,r13.1.2.2.2.1,r13.1.2.2.2.2.1,r13.1.2.2.2.2.2.1,List.set r13.1.2.2.2.2.2.2.1 v11.1.toNat true,r13.1.2.2.2.2.2.2.2.1,()),())
   else
    some (0,(r13.1.1,r13.1.2.1,r13.1.2.2.1,r13.1.2.2.2.1,r13.1.2.2.2.2.1,r13.1.2.2.2.2.2.1,List.set r13.1.2.2.2.2.2.2.1 v11.1.toNat true,r13.1.2.2.2.2.2.2.2.1,()),())
  else
   Option.bind (je ((v11.2.2.2.2.1,v11.2.2.2.2.2.1,v11.2.2.2.2.2.2.1,v11.2.2.2.2.2.2.2.1,v11.2.2.2.2.2.2.2.2.1,v11.2.2.2.2.2.2.2.2.2.1,v11.2.2.2.2.2.2.2.2.2.2.1,v11.2.2.2.2.2.2.2.2.2.2.2.1,v11.2.2.2.2.2.2.2.2.2.2.2.2.1),v11.2.2.2.2.2.2.2.2.2.2.2.2.2.2.1,v11.2.2.2.2.2.2.2.2.2.2.2.2.2.1,v11.2.2.2.2.2.2.2.2.2.2.2.2.2.2.2.1,v11.2.2.2.2.2.2.2.2.2.2.2.2.2.2.2.2.1,v11.2.2.2.2.2.2.2.2.2.2.2.2.2.2.2.2.2.1++[(v11.2.2.1,v11.2.2.2.1)],v11.2.2.2.2.2.2.2.2.2.2.2.2.2.2.2.2.2.2.1,v11.2.2.2.2.2.2.2.2.2.2.2.2.2.2.2.2.2.2.2.1,()) (v11.2.2.1,v11.2.2.2.1)) fun r16=>
   bif r16.1 != 0 then
    some (r16.1,(r16.2.1.1,r16.2.1.2.1,r16.2.1.2.2.1,r16.2.1.2.2.2.1,r16.2.1.2.2.2.2.1,r16.2.1.2.2.2.2.2.1,r16.2.1.2.2.2.2.2.2.1,r16.2.1.2.2.2.2.2.2.2.1,()),())
   else
    Option.bind (bZ r16.2.1.2.2.2.1 ()) fun r17=>
    bif r17.1 then
     some (1,(r16.2.1.1,r16.2.1.2.1,r16.2.1.2.2.1,r16.2.1.2.2.2.1,r16.2.1.2.2.2.2.1,r16.2.1.2.2.2.2.2.1,r16.2.1.2.2.2.2.2.2.1,r16.2.1.2.2.2.2.2.2.2.1,()),())
    else
     some (0,(r16.2.1.1,r16.2.1.2.1,r16.2.1.2.2.1,r16.2.1.2.2.2.1,r16.2.1.2.2.2.2.1,r16.2.1.2.2.2.2.2.1,r16.2.1.2.2.2.2.2.2.1,r16.2.1.2.2.2.2.2.2.2.1,()),())
def EC (v11:(Int×Bool×Bool×(List Int)×Bys×Bys×Int×Int×Int×Bool×(List aD)×(List au)×(List ax)×(List aa)×(List aa)×(List aa)×(List aJ)×(List aa)×(List Bool)×(List aa)×Unit)):Option (Int×(ah×(List aa)×(List aa)×(List aa)×(List aJ)×(List aa)×(List Bool)×(List aa)×Unit)×Unit):=
 Option.bind (kI (v11.2.2.1,v11.2.2.2.1)) fun r12=>
 bif !r12.1 then
  some (1,((v11.2.2.2.2.1,v11.2.2.2.2.2.1,v11.2.2.2.2.2.2.1,v11.2.2.2.2.2.2.2.1,v11.2.2.2.2.2.2.2.2.1,v11.2.2.2.2.2.2.2.2.2.1,v11.2.2.2.2.2.2.2.2.2.2.1,v11.2.2.2.2.2.2.2.2.2.2.2.1,v11.2.2.2.2.2.2.2.2.2.2.2.2.1),v11.2.2.2.2.2.2.2.2.2.2.2.2.2.2.1,v11.2.2.2.2.2.2.2.2.2.2.2.2.2.1,v11.2.2.2.2.2.2.2.2.2.2.2.2.2.2.2.1,v11.2.2.2.2.2.2.2.2.2.2.2.2.2.2.2.2.1,v11.2.2.2.2.2.2.2.2.2.2.2.2.2.2.2.2.2.1,v11.2.2.2.2.2.2.2.2.2.2.2.2.2.2.2.2.2.2.1,v11.2.2.2.2.2.2.2.2.2.2.2.2.2.2.2.2.2.2.2.1,()),())
 else
  chk (decide (((v11.2.2.2.2.2.2.2.2.2.2.2.2.2.2.2.2.2.1.length)+1)*32≤140737488355328)&&decide ((v11.2.2.2.2.2.2.2.2.2.2.2.2.2.2.2.2.2.1.length)+1≤maxLen)) <|
  bif v11.2.1 then
   Option.bind (gR ((v11.2.2.2.2.1,v11.2.2.2.2.2.1,v11.2.2.2.2.2.2.1,v11.2.2.2.2.2.2.2.1,v11.2.2.2.2.2.2.2.2.1,v11.2.2.2.2.2.2.2.2.2.1,v11.2.2.2.2.2.2.2.2.2.2.1,v11.2.2.2.2.2.2.2.2.2.2.2.1,v11.2.2.2.2.2.2.2.2.2.2.2.2.1),v11.2.2.2.2.2.2.2.2.2.2.2.2.2.2.1,v11.2.2.2.2.2.2.2.2.2.2.2.2.2.1,v11.2.2.2.2.2.2.2.2.2.2.2.2.2.2.2.1,v11.2.2.2.2.2.2.2.2.2.2.2.2.2.2.2.2.1,v11.2.2.2.2.2.2.2.2.2.2.2.2.2.2.2.2.2.1++[(v11.2.2.1,v11.2.2.2.1)],v11.2.2.2.2.2.2.2.2.2.2.2.2.2.2.2.2.2.2.1,v11.2.2.2.2.2.2.2.2.2.2.2.2.2.2.2.2.2.2.2.1,()) v11.1 (v11.2.2.1,v11.2.2.2.1)) fun r13=>
   chk (decide (0≤v11.1)&&decide (v11.1<(r13.1.2.2.2.2.2.2.1.length:Int))) <|
   Option.bind (r13.1.2.2.2.2.2.2.1[v11.1.toNat]?) fun _=>
   Option.bind (bZ r13.1.2.2.2.1 ()) fun r15=>
   bif r15.1 then
    some (1,(r13.1.1,r13.1.2.1,r13.1.2.2.1,r13.1.2.2.2.1,r13.1.2.2.2.2.1,r13.1.2.2.2.2.2.1,List.set r13.1.2.2.2.2.2.2.1 v11.1.toNat true,r13.1.2.2.2.2.2.2.2.1,()),())
   else
    some (0,(r13.1.1,r13.1.2.1,r13.1.2.2.1,r13.1.2.2.2.1,r13.1.2.2.2.2.1,r13.1.2.2.2.2.2.1,List.set r13.1.2.2.2.2.2.2.1 v11.1.toNat true,r13.1.2.2.2.2.2.2.2.1,()),())
  else
   Option.bind (je ((v11.2.2.2.2.1,v11.2.2.2.2.2.1,v11.2.2.2.2.2.2.1,v11.2.2.2.2.2.2.2.1,v11.2.2.2.2.2.2.2.2.1,v11.2.2.2.2.2.2.2.2.2.1,v11.2.2.2.2.2.2.2.2.2.2.1,v11.2.2.2.2.2.2.2.2.2.2.2.1,v11.2.2.2.2.2.2.2.2.2.2.2.2.1),v11.2.2.2.2.2.2.2.2.2.2.2.2.2.2.1,v11.2.2.2.2.2.2.2.2.2.2.2.2.2.1,v11.2.2.2.2.2.2.2.2.2.2.2.2.2.2.2.1,v11.2.2.2.2.2.2.2.2.2.2.2.2.2.2.2.2.1,v11.2.2.2.2.2.2.2.2.2.2.2.2.2.2.2.2.2.1++[(v11.2.2.1,v11.2.2.2.1)],v11.2.2.2.2.2.2.2.2.2.2.2.2.2.2.2.2.2.2.1,v11.2.2.2.2.2.2.2.2.2.2.2.2.2.2.2.2.2.2.2.1,()) (v11.2.2.1,v11.2.2.2.1)) fun r16=>
   bif r16.1 != 0 then
    some (r16.1,(r16.2.1.1,r16.2.1.2.1,r16.2.1.2.2.1,r16.2.1.2.2.2.1,r16.2.1.2.2.2.2.1,r16.2.1.2.2.2.2.2.1,r16.2.1.2.2.2.2.2.2.1,r16.2.1.2.2.2.2.2.2.2.1,()),())
   else
    Option.bind (bZ r16.2.1.2.2.2.1 ()) fun r17=>
    bif r17.1 then
     some (1,(r16.2.1.1,r16.2.1.2.1,r16.2.1.2.2.1,r16.2.1.2.2.2.1,r16.2.1.2.2.2.2.1,r16.2.1.2.2.2.2.2.1,r16.2.1.2.2.2.2.2.2.1,r16.2.1.2.2.2.2.2.2.2.1,()),())
    else
     some (0,(r16.2.1.1,r16.2.1.2.1,r16.2.1.2.2.1,r16.2.1.2.2.2.1,r16.2.1.2.2.2.2.1,r16.2.1.2.2.2.2.2.1,r16.2.1.2.2.2.2.2.2.1,r16.2.1.2.2.2.2.2.2.2.1,()),())
theorem RI (z:Int) (h:z.natAbs<4294967296 ^ 99):Be (W z)=some (W (z.natAbs:Int),()):=by
 unfold Be
 have hl:=aec h
 rw[kZ _ (W z).2 (fI _) (by omega)]
 simp only[ajb,agG,ajx]
 congr 3
 simp only[W,fK]
theorem R9 (zs:List Nat) (hl:zs.length≤1000):jH (wI zs) ()=some (zs.any fun z=>decide (1000000000<z),()):=by
 unfold jH uX
 have loop:∀ f,zs.length<f→((zs.any fun z=>decide (1000000000<z))=false∧iter f ((wI zs,(),(zs.length:Int),(0:Int),()):jK) jJ=some (Sum.inr ()))∨
  ((zs.any fun z=>decide (1000000000<z))=true∧∃ j:Nat,iter f ((wI zs,(),(zs.length:Int),(0:Int),()):jK) jJ=some (Sum.inl ((j:Int),()))):=by
  intro f hf
  refine bX (Inv:=fun i X=>X=(wI zs,(),(zs.length:Int),(i:Int),())∧((zs.take i).any fun z=>decide (1000000000<z))=false) zs.length (fun r=>((zs.any fun z=>decide (1000000000<z))=false∧r=some (Sum.inr ()))∨((zs.any fun z=>decide (1000000000<z))=true∧∃ j:Nat,r=some (Sum.inl ((j:Int),())))) ?_ ?_ f 0 _ ⟨rfl,rfl⟩ (by omega) (by omega)
  ·rintro i _ again hi ⟨rfl,hal⟩ ih
   unfold jJ
   dsimp only
   have hz:zs[i]? =some zs[i]:=bu hi
   generalize zs[i]=z at hz
   rw[aP (by omega),bQ,TL hz,ajb]
   unfold xo
   rw[ajb]
   dsimp only
   by_cases h:(z:Int)>1000000000
   ·rw[aP h]
    refine .inr ⟨?_,i,rfl⟩
    rw[ahh]
    exact⟨z,aie hz,by rw[ajs];omega⟩
   ·rw[aO h,aC (by omega) (by omega)]
    refine ih _ ⟨rfl, ?_⟩
    rw[aiz,hz,List.any_append,hal]
    simp;omega
  ·rintro _ again ⟨rfl,hal⟩
   unfold jJ
   dsimp only
   rw[aiC (aiN _)] at hal
   rw[aO (by omega)]
   exact .inl ⟨hal,rfl⟩
 rw[zh]
 rcases loop (zs.length+(Int.natAbs ((zs.length:Int))+(Int.natAbs (0:Int)+2))) (by omega) with ⟨h,e⟩ | ⟨h,j,e⟩
 ·rw[e,aS,ajb,h];rfl
 ·rw[e,mU,ajb,h]
  dsimp only
  rw[ajr (show (j:Int)≥0 by omega)]
theorem jx.snoc {n:Nat} {b:Br} (h:jx n b) {k:Nat} {d:Int} (hk:k<n) (hd:(d.natAbs:Int)≤MU):jx n (b++[(k,d)]):=by
 refine⟨fun p hp=> ?_,fun p hp=> ?_⟩
 ·rcases ah6.1 hp with hp | hp
  ·exact h.ix p hp
  ·rw[aij.1 hp];exact hk
 ·rcases ah6.1 hp with hp | hp
  ·exact h.am p hp
  ·rw[aij.1 hp];exact hd
theorem QB (v:ah) (nets lines:List Int) {n:Nat} (hn:n≤20) {sh:Br} (hsh:jx n sh) (hl:sh.length≤1999) (am:List Int) (has:List Bool) (tx:List Int) {k:Nat} (hk:k<n) {d:Int} (hd:(d.natAbs:Int)≤MU):
 gR (Bx v nets lines (aZ n sh) sh am has tx) (k:Int) (W d)=some (Bx v nets lines (aZ n (sh++[(k,d)])) (sh++[(k,d)]) am has tx,()):=by
 unfold gR Bx
 dsimp only
 have hbm:((aZ n sh).map W)[k]? =some (W (atB sh k)):=by rw[ahI,wW _ hk];rfl
 have hck:(decide (0≤(k:Int))&&decide ((k:Int)<(((aZ n sh).map W).length:Int)))=true:=by
  rw[ahU,ja];simp only[agC,ajs];omega
 rw[aW hck,ahc,hbm,ajb,cO _ _ ((WZ hsh (by omega) k).w (by omega)) ((Fy hd).w (by omega)),ajb,aW hck,ajb,aW (oS (by simp;omega) (by simp;omega))]
 dsimp only
 rw[← ah5,P5,ah0]
 rfl
theorem Y1 {v:ah} {lines:List Int} (hl:lines.length≤20) (hal:bF lines=true) (a:aa) (N L B:List aa) (S:List aJ) (A:List aa) (H:List Bool) (T:List aa) (f:Nat) (hf:lines.length<f):
 iter f (([],false,lines.map W,(lines.length:Int),(0:Int),a.1,a.2,v.1,v.2.1,v.2.2.1,v.2.2.2.1,v.2.2.2.2.1,v.2.2.2.2.2.1,v.2.2.2.2.2.2.1,v.2.2.2.2.2.2.2.1,v.2.2.2.2.2.2.2.2,N,L,B,S,A,H,T,()):mg) p9=
  some (Sum.inr (wI (lines.map Int.natAbs), !(lines.all fun b=>b==0),a.1,a.2,v.1,v.2.1,v.2.2.1,v.2.2.2.1,v.2.2.2.2.1,v.2.2.2.2.2.1,v.2.2.2.2.2.2.1,v.2.2.2.2.2.2.2.1,v.2.2.2.2.2.2.2.2,N,L,B,S,A,H,T,())):=by
 refine bX (Inv:=fun i X=>X=((wI ((lines.take i).map Int.natAbs), !((lines.take i).all fun b=>b==0),lines.map W,(lines.length:Int),(i:Int),a.1,a.2,v.1,v.2.1,v.2.2.1,v.2.2.2.1,v.2.2.2.2.1,v.2.2.2.2.2.1,v.2.2.2.2.2.2.1,v.2.2.2.2.2.2.2.1,v.2.2.2.2.2.2.2.2,N,L,B,S,A,H,T,()):mg)) lines.length
  (fun r=>r=some (Sum.inr (wI (lines.map Int.natAbs), !(lines.all fun b=>b==0),a.1,a.2,v.1,v.2.1,v.2.2.1,v.2.2.2.1,v.2.2.2.2.1,v.2.2.2.2.2.1,v.2.2.2.2.2.2.1,v.2.2.2.2.2.2.2.1,v.2.2.2.2.2.2.2.2,N,L,B,S,A,H,T,()))) ?_ ?_ f 0 _ rfl (by omega) (by omega)
 ·rintro i _ again hi rfl ih
  unfold p9
  dsimp only
  have hz:lines[i]? =some lines[i]:=bu hi
  have hzm:mZ lines[i]=true:=ahe.1 hal _ (ahR hi)
  generalize lines[i]=z at hz hzm
  have hzb:(z.natAbs:Int)≤MU:=by unfold mZ at hzm;exact ajF hzm
  have hMU:=KG
  have hw:=Fy hzb
  rw[aP (by omega),bQ,ahI,hz,aji,ajb,RI _ (hw.w (by omega)),ajb]
  dsimp only
  rw[wq _ _ (by omega) (by omega),ajb,ajz (by omega)]
  dsimp only
  rw[aW (oS (by rw[zh];simp;omega) (by rw[zh];simp;omega)),aC (by omega) (by omega)]
  have e1:wI ((lines.take i).map Int.natAbs)++[(z.natAbs:Int)]=wI ((lines.take (i+1)).map Int.natAbs):=by
   rw[aiz,hz,ah0]
   unfold wI
   rw[ah0]
   rfl
  have e2:((lines.take (i+1)).all fun b=>b==0)=(((lines.take i).all fun b=>b==0)&&(z==0)):=by
   rw[aiz,hz,List.all_append];simp
  have:=ih _ rfl
  rw[← e1,e2] at this
  cases hx:((lines.take i).all fun b=>b==0) with
  | false=>rw[hx] at this;exact this
  | true=>
   rw[hx,agQ] at this
   rw[agN,ajn]
   have e3:decide ((z.natAbs:Int)>0)= !(z==0):=by
    by_cases h:z=0
    ·subst h;rfl
    ·rw[ajr (by omega),show (z==0)=false by simpa using h];rfl
   rw[e3];exact this
 ·rintro _ again rfl
  unfold p9
  dsimp only
  rw[aO (by omega),aiC (aiN _)]
theorem aaK {v:ah} {nets lines am tx:List Int} {n:Nat} (hn:n≤20) {sh:Br} (hsh:jx n sh) (hl:sh.length≤1900) (fl:List Nat) {xs:List Int} {pl:Int} (hxl:xs.length=n) (hxs:∀ x∈xs,(x.natAbs:Int)≤MU) (f:Nat) (hf:xs.length<f):
 iter f ((xs.map (fun x=>(x,pl)),(xs.length:Int),(0:Int),v.1,v.2.1,v.2.2.1,v.2.2.2.1,v.2.2.2.2.1,v.2.2.2.2.2.1,v.2.2.2.2.2.2.1,v.2.2.2.2.2.2.2.1,v.2.2.2.2.2.2.2.2,nets.map W,lines.map W,(aZ n sh).map W,sh.map shW,am.map W,dY n fl,tx.map W,()):jq) lJ=
  some (Sum.inr (v.1,v.2.1,v.2.2.1,v.2.2.2.1,v.2.2.2.2.1,v.2.2.2.2.2.1,v.2.2.2.2.2.2.1,v.2.2.2.2.2.2.2.1,v.2.2.2.2.2.2.2.2,nets.map W,lines.map W,(aZ n (sh++iP 0 xs)).map W,(sh++iP 0 xs).map shW,am.map W,dY n (fl++(iP 0 xs).map (·.1)),tx.map W,())):=by
 have nz_snoc:∀ (l:List Int) (k:Nat) (x:Int),iP k (l++[x])=iP k l++(if x=0 then [] else [(k+l.length,x)]):=by
  intro l
  induction l with
  | nil=>intro k x;simp[iP]
  | cons y l ih=>
   intro k x
   simp only[ahk,iP,ih (k+1) x,ahT]
   rw[show k+1+l.length=k+(l.length+1) by omega]
   split<;>simp
 have nz_len:∀ (l:List Int) (k:Nat),(iP k l).length≤l.length:=by
  intro l
  induction l with
  | nil=>intro k;simp[iP]
  | cons y l ih=>
   intro k
   have:=ih (k+1)
   simp only[iP]
   split<;>simp<;>omega
 refine bX (Inv:=fun i X=>jx n (sh++iP 0 (xs.take i))∧X=((xs.map (fun x=>(x,pl)),(xs.length:Int),(i:Int),v.1,v.2.1,v.2.2.1,v.2.2.2.1,v.2.2.2.2.1,v.2.2.2.2.2.1,v.2.2.2.2.2.2.1,v.2.2.2.2.2.2.2.1,v.2.2.2.2.2.2.2.2,nets.map W,lines.map W,(aZ n (sh++iP 0 (xs.take i))).map W,(sh++iP 0 (xs.take i)).map shW,am.map W,dY n (fl++(iP 0 (xs.take i)).map (·.1)),tx.map W,()):jq)) xs.length
  (fun r=>r=some (Sum.inr (v.1,v.2.1,v.2.2.1,v.2.2.2.1,v.2.2.2.2.1,v.2.2.2.2.2.1,v.2.2.2.2.2.2.1,v.2.2.2.2.2.2.2.1,v.2.2.2.2.2.2.2.2,nets.map W,lines.map W,(aZ n (sh++iP 0 xs)).map W,(sh++iP 0 xs).map shW,am.map W,dY n (fl++(iP 0 xs).map (·.1)),tx.map W,()))) ?_ ?_ f 0 _ ⟨by simpa [iP] using hsh,by simp[iP]⟩ (by omega) (by omega)
 ·rintro i _ again hi ⟨hok,rfl⟩ ih
  unfold lJ
  dsimp only
  have hx:xs[i]? =some xs[i]:=bu hi
  have hxm:=hxs _ (ahR hi)
  generalize xs[i]=x at hx hxm
  have hMU:=KG
  have hbl:=nz_len (xs.take i) 0
  rw[ahZ] at hbl
  have hsl:(sh++iP 0 (xs.take i)).length≤1999:=by rw[ahS];omega
  have hnext:=nz_snoc (xs.take i) 0 x
  have htk:xs.take (i+1)=xs.take i++[x]:=by rw[aiz,hx];rfl
  have hlt:(xs.take i).length=i:=by rw[ahZ];omega
  rw[← htk,hlt,ai7] at hnext
  rw[aP (by omega),bQ,ahI,hx,aji,ajb]
  dsimp only
  have hin:i<n:=by omega
  by_cases h0:x=0
  ·rw[ajz h0,ahj] at hnext
   rw[show (x != 0)=false by simpa using h0,ajn,aC (by omega) (by omega)]
   refine ih _ ⟨by rw[hnext];exact hok,by rw[hnext];rfl⟩
  ·rw[ajy h0] at hnext
   have hb:=QB v nets lines hn hok hsl am (dY n (fl++(iP 0 (xs.take i)).map (·.1))) tx hin hxm
   unfold Bx at hb
   rw[show (x != 0)=true by simpa using h0,ajo,di _ (by omega) (by omega),ajb]
   dsimp only
   rw[OI v,hb,ajb]
   dsimp only
   rw[aW (by rw[tE];simp only[agC,ajs];omega),ahc,GP _ hin,ajb,aC (by omega) (by omega),GQ]
   refine ih _ ⟨by rw[hnext, ← ahi];exact hok.snoc hin hxm, ?_⟩
   rw[hnext]
   simp only[ahi,ah0,ah2,ah4]
   rfl
 ·rintro _ again ⟨_,rfl⟩
  unfold lJ
  dsimp only
  rw[aO (by omega),aiC (aiN _)]
end Go.Md
namespace Go.Md
open Go.Dn
theorem ad3 {way:Int} {b:Nat} (hb:0<b):rnd way 0 b=0:=by
 unfold rnd F5
 simp only[Int.natAbs_zero,Nat.zero_div,Nat.zero_mod,Int.lt_irrefl,ajt,agM,agQ,Bool.false_and,Nat.lt_irrefl]
 have h1:¬ b≤2*0:=by omega
 have h2:¬ (b<2*0∨(2*0=b∧0 % 2=1)):=by omega
 simp[h1]
theorem aah {way:Int} (hw:way≠5∧way≠6) (a:Int) {b:Nat} (hb:0<b):rnd way (-a) b= -rnd way a b:=by
 by_cases h0:a=0
 ·subst h0;rw[Int.neg_zero,ad3 hb];rfl
 ·have hu:∀ p q r s,F5 way p r s b=F5 way q r s b:=by
   intro p q r s
   unfold F5
   simp[hw.1,hw.2]
  unfold rnd
  rw[ag2]
  dsimp only
  rw[hu (decide (-a<0)) (decide (a<0))]
  by_cases h:a<0
  ·rw[ajz h,ajy (by omega)];omega
  ·rw[ajy h,ajz (by omega)]
def qK (l:Br):Br:=l.map fun p=>(p.1, -p.2)
theorem TS:∀ (l:Br) (k:Nat),atB (qK l) k= -atB l k
 | [],_=>rfl
 | p::l,k=>by
  have ih:=TS l k
  unfold qK at ih ⊢
  simp only[ah2,atB,ih]
  split<;>omega
theorem P4 (n:Nat) (l:Br):aZ n (qK l)=(aZ n l).map fun x=> -x:=by
 unfold aZ
 rw[ah3]
 exact ah1 fun k _=>TS l k
theorem Zj (a b:Br):qK (a++b)=qK a++qK b:=ah0
theorem XS (a:Br):(qK a).map (·.1)=a.map (·.1):=by unfold qK;rw[ah3];rfl
theorem adS (a:Br):(qK a).map (·.2)=(a.map (·.2)).map fun x=> -x:=by unfold qK;rw[ah3,ah3];rfl
theorem Ii (l:List Int):bF (l.map fun x=> -x)=bF l:=by
 unfold bF
 rw[List.all_map]
 congr 1
 funext x
 simp[mZ,Function.comp]
theorem sum_neg:∀ l:List Int,(l.map fun x=> -x).sum= -l.sum
 | []=>rfl
 | x::l=>by simp only[ah2,aiw,sum_neg l];omega
def Hu (d:ai):ai:=(-d.1,d.2)
def lE (x:ax):ax:=(x.1,if x.1=true then x.2.1 else Hu x.2.1,x.2.2)
def xF (x:au):au:=(x.1,x.2.1,x.2.2.1,Hu x.2.2.2.1,x.2.2.2.2.1,x.2.2.2.2.2.1,x.2.2.2.2.2.2.1,x.2.2.2.2.2.2.2.1.map lE,x.2.2.2.2.2.2.2.2)
def pH (v:ah) (number:Bys) (day:Int):ah:=
 (number,v.2.1,day,vPl v,kG v,tZ v,aA v,(bN v).map xF,(cZ v).map lE)
def B3 (v:ah):Prop:=kG v≠5∧kG v≠6
theorem ach {v:ah} (hw:B3 v) (n:Bys) (dy:Int) {x:au} (hx:yf (vPl v) (aA v) x):wJ (pH v n dy) (xF x)= -wJ v x:=by
 unfold wJ
 show rnd (kG v) (-x.2.2.2.1.1*x.2.2.2.2.2.1.1*10 ^ (vPl v).toNat) _=_
 rw[ag6,ag6]
 exact aah hw _ (Vh (v:=v) hx).1
theorem RA {way n:Int} (hw:way≠5∧way≠6) {d:ai} (hd:cA d):sY way (-n) d= -sY way n d:=by
 unfold sY
 rw[ag6]
 exact aah hw _ (X9 d hd).1
theorem ZG {way pl g:Int} (hw:way≠5∧way≠6) {x:ax} (hx:Fw pl x):iK way pl (-g) (lE x)= -iK way pl g x:=by
 unfold iK lE
 cases h:x.1 with
 | true=>simp only[ajA];exact RA hw hx.dec
 | false=>simp only[agG,ajx,Hu,ag6]
theorem XU {way pl g:Int} (hw:way≠5∧way≠6):∀ (l:List ax) (n:Int),(∀ x∈l,Fw pl x)→vO (iK way pl (-g)) (l.map lE) (-n)=(vO (iK way pl g) l n).map fun x=> -x
 | [],n,_=>rfl
 | x::r,n,h=>by
  have hx:=ZG (g:=g) hw (h x ah9)
  have ih:=XU (g:=g) hw r (n+iK way pl g x) fun y hy=>h y (ah8 _ hy)
  simp only[ah2,vO,hx,ag2]
  rw[show -n+ -iK way pl g x= -(n+iK way pl g x) by omega,ag2]
  split
  ·exact ih
  ·rfl
theorem ae4 {v:ah} (hw:B3 v) (n:Bys) (dy:Int) {x:au} (hx:yf (vPl v) (aA v) x):Al (pH v n dy) (xF x)=(Al v x).map fun z=> -z:=by
 unfold Al
 rw[ach hw n dy hx,ag2]
 split
 ·exact XU hw _ _ fun y hy=>((sJ hx.ext).2 y hy).1
 ·rfl
theorem S5 {v:ah} (hw:B3 v) (n:Bys) (dy:Int):∀ (l:List au),(∀ x∈l,yf (vPl v) (aA v) x)→eW (pH v n dy) (l.map xF)=(eW v l).map qK
 | [],_=>rfl
 | x::r,h=>by
  have ih:=S5 hw n dy r fun y hy=>h y (ah8 _ hy)
  simp only[ah2,eW,ae4 hw n dy (h x ah9),ih]
  cases Al v x with
  | none=>rfl
  | some z=>cases eW v r<;>rfl
theorem adB (l:List Int) (k:Nat):(l.map fun x=> -x).getD k 0= -l.getD k 0:=by
 simp only[ahy,ahI]
 cases l[k]? <;>simp
theorem adp (v:ah) (n:Bys) (dy:Int) (lines:List Int) (x:ax):vu (pH v n dy) (lines.map fun b=> -b) (lE x)= -vu v lines x:=by
 unfold vu
 show (match jk (·.1) x.2.2 (aA v) with | some k=>_ | none=>_)=_
 cases jk (·.1) x.2.2 (aA v) with
 | some k=>exact adB ..
 | none=>exact sum_neg _
theorem XW:∀ (l:List Int) (k:Nat),iP k (l.map fun x=> -x)=qK (iP k l)
 | [],_=>rfl
 | x::l,k=>by
  have ih:=XW l (k+1)
  simp only[ah2,iP,ih]
  by_cases hx:x=0
  ·simp[hx]
  ·rw[ajy hx,ajy (by omega)];rfl
def aa7 (s:Int×Br×List Nat):Int×Br×List Nat:=(-s.1,qK s.2.1,s.2.2)
theorem WY (l:List Int):((l.map fun b=> -b).all fun b=>b==0)=l.all fun b=>b==0:=by
 rw[List.all_map]
 congr 1
 funext x
 simp only[Function.comp]
 by_cases h:x=0
 ·subst h;rfl
 ·rw[show (x==0)=false by simpa using h,show (-x==0)=false by simp;omega]
theorem aaz (l:List Int):((l.map fun b=> -b).any fun b=>decide (MW<b.natAbs))=l.any fun b=>decide (MW<b.natAbs):=by
 rw[List.any_map]
 congr 1
 funext x
 simp[Function.comp]
theorem YM (l:List Int):(l.map fun b=> -b).map Int.natAbs=l.map Int.natAbs:=by
 rw[ah3]
 apply ah1
 intro x _
 simp[Function.comp]
theorem Eh:∀ {l:List Int},(l.all fun b=>b==0)=false→0<(l.map Int.natAbs).sum
 | [],h=>by simp at h
 | x::l,h=>by
  by_cases hx:x=0
  ·subst hx
   have:=Eh (l:=l) (by simpa using h)
   simp only[ah2,aiw];omega
  ·simp only[ah2,aiw];omega
def aa9:Int ⊕ (Int×Br×List Nat)→Int ⊕ (Int×Br×List Nat)
 | .inl f=> .inl f
 | .inr s=> .inr (aa7 s)
theorem adH (d:Int):mZ (-d)=mZ d:=by simp[mZ]
theorem aaC (o:Option Nat) (d:Int) (lines:List Int):sE o (-d) (lines.map fun b=> -b)=aa9 (sE o d lines):=by
 unfold sE
 rw[adH]
 cases mZ d with
 | false=>rfl
 | true=>
  cases o with
  | some k=>rfl
  | none=>
   simp only[ajo]
   rw[WY,aaz,YM]
   cases h1:(lines.all fun b=>b==0) with
   | true=>
    simp only[ajo,aa9,aa7,qK,ah2,ah4]
    by_cases hd:d=0
    ·subst hd;rfl
    ·rw[show (d==0)=false by simpa using hd,show (-d==0)=false by simp;omega]
   | false=>
    cases h2:(lines.any fun b=>decide (MW<b.natAbs)) with
    | true=>rfl
    | false=>rw[ajn,ajn,Zx (Eh h1),XW,XS];rfl
theorem abG {v:ah} (hw:B3 v) (n:Bys) (dy:Int) (lines:List Int) {x:ax} (hx:Fw (vPl v) x):
 uJ (pH v n dy) (lines.map fun b=> -b) (lE x)=aa9 (uJ v lines x):=by
 unfold uJ
 rw[adp]
 show sE (jk (·.1) x.2.2 (aA v)) (iK (kG v) (vPl v) (-vu v lines x) (lE x)) _=_
 rw[ZG hw hx,aaC]
def UA (s:ESt):ESt:=(qK s.1,s.2.1,s.2.2.map fun x=> -x)
def afE:Int ⊕ ESt→Int ⊕ ESt
 | .inl f=> .inl f
 | .inr s=> .inr (UA s)
theorem SD {v:ah} (hw:B3 v) (n:Bys) (dy:Int) (lines:List Int):∀ (l:List ax) (s:ESt),(∀ x∈l,Fw (vPl v) x)→
 gW (pH v n dy) (lines.map fun b=> -b) (l.map lE) (UA s)=afE (gW v lines l s)
 | [],s,_=>rfl
 | x::r,s,h=>by
  simp only[ah2,gW]
  rw[abG hw n dy lines (h x ah9)]
  cases uJ v lines x with
  | inl f=>rfl
  | inr t=>
   simp only[aa9]
   rw[show (UA s).1++(aa7 t).2.1=qK (s.1++t.2.1) from (Zj ..).symm]
   rw[show (aA (pH v n dy)).length=(aA v).length from rfl,P4,Ii]
   cases bF (aZ (aA v).length (s.1++t.2.1)) with
   | false=>rfl
   | true=>
    simp only[ajo]
    have ih:=SD hw n dy lines r (s.1++t.2.1,s.2.1++t.2.2,s.2.2++[t.1]) fun y hy=>h y (ah8 _ hy)
    rw[← ih]
    simp only[UA,aa7,ah0,ah2,ah4]
theorem Yx {way:Int} (hw:way≠5∧way≠6) {pc:ai} (hp:cA pc) (k:Nat):∀ l:Br,xJ way pc k (qK l)= -xJ way pc k l
 | []=>rfl
 | p::l=>by
  have ih:=Yx hw hp k l
  unfold qK at ih ⊢
  simp only[ah2,xJ,ih,RA hw hp]
  split<;>omega
def aa8 (s:ShZ):ShZ:=⟨s.nets.map fun x=> -x,qK s.br,s.fl,s.am.map fun x=> -x,s.taxes.map fun x=> -x⟩
theorem UK {v:ah} (hv:ni v) (k:Nat):cA (yM v k):=by
 unfold yM
 rw[ahy]
 cases h:(aA v)[k]? with
 | none=>exact⟨by simp,by simp,by simp⟩
 | some r=>
  have:=hv.rates r (aie h)
  unfold inR at this
  rw[ajs] at this
  exact this.1
theorem adj {v:ah} (hw:B3 v) (hv:ni v) (n:Bys) (dy:Int) (l:Br):pV (pH v n dy) (qK l)=(pV v l).map fun x=> -x:=by
 unfold pV
 rw[ah3]
 apply ah1
 intro k _
 show Yw (pH v n dy) (qK l) k= -Yw v l k
 have hp:=UK hv k
 unfold Yw
 show (if tZ v=true then xJ (kG v) (yM v k) k _ else sY (kG v) _ (yM v k))=_
 split
 ·exact Yx hw hp k l
 ·rw[TS];exact RA hw hp
def XT:Int ⊕ ShZ→Int ⊕ ShZ
 | .inl f=> .inl f
 | .inr s=> .inr (aa8 s)
theorem ac6 {v:ah} (hw:B3 v) (hv:ni v) (n:Bys) (dy:Int):AR (pH v n dy)=XT (AR v):=by
 unfold AR
 rw[show bN (pH v n dy)=(bN v).map xF from rfl,show cZ (pH v n dy)=(cZ v).map lE from rfl,show (aA (pH v n dy))=aA v from rfl,S5 hw n dy _ hv.lines]
 cases eW v (bN v) with
 | none=>rfl
 | some lb=>
  simp only[aji]
  rw[P4,XS,Ii]
  cases bF (aZ (aA v).length lb) with
  | false=>rfl
  | true=>
   simp only[ajo]
   have he:=SD hw n dy (aZ (aA v).length lb) (cZ v) (lb,lb.map (·.1),[]) fun x hx=>((sJ hv.ext).2 x hx).1
   rw[show UA (lb,lb.map (·.1),[])=(qK lb,lb.map (·.1),[]) from rfl] at he
   rw[he]
   cases gW v (aZ (aA v).length lb) (cZ v) (lb,lb.map (·.1),[]) with
   | inl f=>rfl
   | inr t=>
    simp only[afE]
    rw[show (UA t).1=qK t.1 from rfl,adj hw hv,Ii,adS]
    cases bF (pV v t.1)<;>rfl
theorem Xy (s:ShZ):sK (aa8 s)=(sK s).map fun x=> -x:=by
 simp only[sK,aa8,sum_neg,ah2,ah4]
 congr 3
 ·omega
 ·congr 2;omega
theorem abu {v:ah} (hw:B3 v) (hv:ni v) (n:Bys) (dy:Int):xd (pH v n dy)=XT (xd v):=by
 unfold xd
 rw[ac6 hw hv]
 cases AR v with
 | inl f=>rfl
 | inr s=>
  simp only[XT]
  rw[Xy,Ii]
  cases bF (sK s)<;>rfl
end Go.Md
namespace Go.Md
open Go.Dn
theorem XC {n k:Nat} {fl:List Nat} (h:fl.contains k=true):dY n (fl++[k])=dY n fl:=by
 unfold dY
 apply ah1
 intro i _
 by_cases e:i=k
 ·subst e;rw[h];simp
 ·simp[e]
theorem aci {n k:Nat} {fl:List Nat} (hk:k<n) (h:fl.contains k=false):(dY n fl).set k false=dY n fl:=by
 apply aht
 intro i
 by_cases e:k=i
 ·subst e
  rw[ahN (by rw[tE];exact hk),GP _ hk,h]
 ·rw[ahM e]
theorem ZH (lines:List Int):((lines.map Int.natAbs).any fun z=>decide (1000000000<z))=lines.any fun b=>decide (MW<b.natAbs):=by
 rw[List.any_map];rfl
theorem vL {d:Int}:mZ d=true↔(d.natAbs:Int)≤MU:=by unfold mZ;rw[ajs]
theorem ab5 {v:ah} (hv:ni v) (nets am tx:List Int) {n:Nat} (hn0:0<n) (hn:n≤20) {lines:List Int} (hll:lines.length=n) (hal:bF lines=true) {sh:Br} (hsh:jx n sh) (hl:sh.length≤1900) (fl:List Nat) {d:Int} (hd:(d.natAbs:Int)≤MU):
 (∃ p g,sE none d lines= .inr (d,p,g)∧jx n (sh++p)∧p.length≤20∧je (Bx v nets lines (aZ n sh) sh am (dY n fl) tx) (W d)=some (0,Bx v nets lines (aZ n (sh++p)) (sh++p) am (dY n (fl++g)) tx,()))∨
 (sE none d lines= .inl 2∧∃ b,je (Bx v nets lines (aZ n sh) sh am (dY n fl) tx) (W d)=some (2,b,())):=by
 have hpl:=hv.pl
 have hMU:=KG
 have hb:je (Bx v nets lines (aZ n sh) sh am (dY n fl) tx) (W d)=ZM (wI (lines.map Int.natAbs), !(lines.all fun b=>b==0),(W d).1,(W d).2,v.1,v.2.1,v.2.2.1,v.2.2.2.1,v.2.2.2.2.1,v.2.2.2.2.2.1,v.2.2.2.2.2.2.1,v.2.2.2.2.2.2.2.1,v.2.2.2.2.2.2.2.2,lines.map W,nets.map W,(aZ n sh).map W,sh.map shW,am.map W,dY n fl,tx.map W,()):=by
  unfold je Bx
  dsimp only
  rw[ahU,Y1 (v:=v) (by omega) hal (W d) (lines.map W) (nets.map W) ((aZ n sh).map W) (sh.map shW) (am.map W) (dY n fl) (tx.map W) _ ?_,aS]
  ·rfl
  ·simp;omega
 rw[hb]
 have him:mZ d=true:=vL.2 hd
 unfold ZM sE
 rw[him,ajo]
 dsimp only
 cases hz:(lines.all fun b=>b==0) with
 | true=>
  rw[agN,agM,ajo,ajo]
  refine .inl ⟨[(0,d)],bif d==0 then [] else [0],rfl,hsh.snoc hn0 hd,by simp, ?_⟩
  have hbr:gR (Bx v nets lines (aZ n sh) sh am (dY n fl) tx) 0 (W d)=some (Bx v nets lines (aZ n (sh++[(0,d)])) (sh++[(0,d)]) am (dY n fl) tx,()):=QB v nets lines hn hsh (by omega) am (dY n fl) tx (k:=0) hn0 hd
  unfold Bx at hbr ⊢
  rw[OI v,show ((W d).1,(W d).2)=W d from rfl,hbr,ajb]
  dsimp only
  have hg0:(dY n fl)[0]? =some (fl.contains 0):=GP _ hn0
  rw[aW (by rw[tE];simp only[agC,ajs];omega),hg0,ajb]
  cases hc:fl.contains 0 with
  | true=>
   rw[ajo,aW (by rw[tE];simp only[agC,ajs];omega),ajb,GQ,XC hc]
   cases hd0:d==0 with
   | true=>rw[ajo,ahj]
   | false=>rw[ajn,XC hc]
  | false=>
   rw[ajn,iu,ajb,aW (by rw[tE];simp only[agC,ajs];omega),ajb]
   dsimp only
   by_cases hd0:d=0
   ·subst hd0
    rw[show ((Int.sign 0) != 0)=false from rfl,aci hn0 hc,show ((0:Int)==0)=true from rfl,ajo,ahj]
   ·have hs:(d.sign != 0)=true:=by
     have:=mt Int.sign_eq_zero_iff_zero.1 hd0
     simpa using this
    rw[hs,GQ,show (d==0)=false by simpa using hd0,ajn]
 | false=>
  rw[agM,agN,ajn,ajn,R9 _ (by simp;omega),ajb,ZH]
  dsimp only
  cases hw:(lines.any fun b=>decide (MW<b.natAbs)) with
  | true=>rw[ajo,ajo];exact .inr ⟨rfl,_,rfl⟩
  | false=>
   rw[ajn,ajn,show ((W d).1,(W d).2)=W d from rfl,zo,ajb,ajz (by omega)]
   dsimp only
   have hws:Eg (lines.map Int.natAbs):=by
    refine⟨by simp;omega,fun w hwm=> ?_,Eh hz⟩
    have:=hw
    rw[← ZH,ahg] at this
    have h1:=this w hwm
    simpa using h1
   rw[Qu d v.2.2.2.1 (by omega) (by omega) _ hws,ajb]
   dsimp only
   rw[zne,ajn]
   have hxl:(gw d (lines.map Int.natAbs)).length=n:=by rw[Qn,ahU,hll]
   have hxs:∀ x∈gw d (lines.map Int.natAbs),(x.natAbs:Int)≤MU:=fun x hx=>by
    have:=TB (n:=d) hws.pos hx
    omega
   have hmem:=Rm (gw d (lines.map Int.natAbs)) 0
   have hlenz:(iP 0 (gw d (lines.map Int.natAbs))).length≤20:=by
    have nz_len:∀ (l:List Int) (k:Nat),(iP k l).length≤l.length:=by
     intro l
     induction l with
     | nil=>intro k;simp[iP]
     | cons y l ih=>
      intro k
      have:=ih (k+1)
      simp only[iP]
      split<;>simp<;>omega
    have:=nz_len (gw d (lines.map Int.natAbs)) 0
    omega
   refine .inl ⟨_,_,rfl,⟨fun p hp=> ?_,fun p hp=> ?_⟩,hlenz, ?_⟩
   ·rcases ah6.1 hp with hp | hp
    ·exact hsh.ix p hp
    ·have:=(hmem p hp).2.1;omega
   ·rcases ah6.1 hp with hp | hp
    ·exact hsh.am p hp
    ·exact hxs _ (hmem p hp).2.2.1
   ·rw[ahU,aaK (v:=v) (nets:=nets) (lines:=lines) (am:=am) (tx:=tx) hn hsh hl fl (pl:=v.2.2.2.1) hxl hxs _ ?_,aS]
    ·rfl
    ·simp;omega
theorem Xu {v:ah} (hv:ni v) (nets:List Int) (am tx:List Int) {n:Nat} (hn0:0<n) (hn:n≤20) {lines:List Int} (hll:lines.length=n) (hal:bF lines=true) {sh:Br} (hsh:jx n sh) (hl:sh.length≤1900) (hal2:am.length≤1000) (fl:List Nat)
 (o:Option Nat) (k:Nat) (ho:∀ k',o=some k'→k=k'∧k'<n) (d:Int):
 (∃ p g,sE o d lines= .inr (d,p,g)∧jx n (sh++p)∧p.length≤20∧EC ((k:Int),o.isSome,(W d).1,(W d).2,v.1,v.2.1,v.2.2.1,v.2.2.2.1,v.2.2.2.2.1,v.2.2.2.2.2.1,v.2.2.2.2.2.2.1,v.2.2.2.2.2.2.2.1,v.2.2.2.2.2.2.2.2,lines.map W,nets.map W,(aZ n sh).map W,sh.map shW,am.map W,dY n fl,tx.map W,())=
   some (bif bF (aZ n (sh++p)) then 0 else 1,Bx v nets lines (aZ n (sh++p)) (sh++p) (am++[d]) (dY n (fl++g)) tx,()))∨
 (∃ f b,f≠0∧sE o d lines= .inl f∧EC ((k:Int),o.isSome,(W d).1,(W d).2,v.1,v.2.1,v.2.2.1,v.2.2.2.1,v.2.2.2.2.1,v.2.2.2.2.2.1,v.2.2.2.2.2.2.1,v.2.2.2.2.2.2.2.1,v.2.2.2.2.2.2.2.2,lines.map W,nets.map W,(aZ n sh).map W,sh.map shW,am.map W,dY n fl,tx.map W,())=some (f,b,())):=by
 unfold EC
 dsimp only
 rw[show ((W d).1,(W d).2)=W d from rfl,EI,ajb]
 dsimp only
 cases him:mZ d with
 | false=>
  refine .inr ⟨1,_,by omega, ?_,rfl⟩
  unfold sE;rw[him];rfl
 | true=>
  have hd:=vL.1 him
  rw[agN,ajn,aW (oS (by simp;omega) (by simp;omega))]
  rw[OI v,show am.map W++[W d]=(am++[d]).map W by simp]
  cases o with
  | some k'=>
   obtain⟨rfl,hk⟩:=ho k' rfl
   have hb:=QB v nets lines hn hsh (by omega) (am++[d]) (dY n fl) tx hk hd
   unfold Bx at hb
   rw[ajg,ajo,hb,ajb]
   dsimp only
   rw[aW (by rw[tE];simp only[agC,ajs];omega),ahc,GP _ hk,ajb,L4 _ (by rw[ja];omega),ajb,GQ]
   dsimp only
   refine .inl ⟨[(k,d)],[k],by unfold sE;rw[him];rfl,hsh.snoc hk hd,by simp, ?_⟩
   unfold Bx
   cases bF (aZ n (sh++[(k,d)]))<;>rfl
  | none=>
   rw[Option.isSome_none,ajn]
   rcases ab5 hv nets (am++[d]) tx hn0 hn hll hal hsh hl fl hd with ⟨p,g,h1,h2,h3,h4⟩ | ⟨h1,b,h4⟩
   ·unfold Bx at h4
    rw[h4,ajb]
    dsimp only
    rw[zne,ajn,L4 _ (by rw[ja];omega),ajb]
    dsimp only
    refine .inl ⟨p,g,h1,h2,h3, ?_⟩
    unfold Bx
    cases bF (aZ n (sh++p))<;>rfl
   ·unfold Bx at h4
    rw[h4,ajb]
    exact .inr ⟨2,_,by omega,h1,rfl⟩
end Go.Md
namespace Go.Md
open Go.Dn
theorem Xt {v:ah} (hv:ni v) {x:ax} (hx:Fw (vPl v) x) (nb:Bool) (k:Int) {g:Int} (hg:Le 40 g) (L N B:List aa) (S:List aJ) (A:List aa) (H:List Bool) (T:List aa):
 Vc (k,nb,x.1,x.2.1.1,x.2.1.2,x.2.2,(W g).1,(W g).2,v.1,v.2.1,v.2.2.1,v.2.2.2.1,v.2.2.2.2.1,v.2.2.2.2.2.1,v.2.2.2.2.2.2.1,v.2.2.2.2.2.2.2.1,v.2.2.2.2.2.2.2.2,L,N,B,S,A,H,T,())=
  EC (k,nb,(W (iK (kG v) (vPl v) g x)).1,(W (iK (kG v) (vPl v) g x)).2,v.1,v.2.1,v.2.2.1,v.2.2.2.1,v.2.2.2.2.1,v.2.2.2.2.2.1,v.2.2.2.2.2.2.1,v.2.2.2.2.2.2.2.1,v.2.2.2.2.2.2.2.2,L,N,B,S,A,H,T,()):=by
 have hpl:=hv.pl
 have hd1:=hx.dec.1;have hd2:=hx.dec.2
 unfold Vc
 dsimp only
 have hmx:(if x.2.1.2>v.2.2.2.1 then x.2.1.2 else v.2.2.2.1)=max v.2.2.2.1 x.2.1.2:=by omega
 rw[hmx,show (x.2.1.1,x.2.1.2)=x.2.1 from rfl,vq _ _ (by omega) (by omega) (by omega) (by omega) (by omega),ajb]
 dsimp only
 cases hp:x.1 with
 | true=>
  rw[ajo,OI v,show ((W g).1,(W g).2)=W g from rfl,CI v g _ hx.dec (hg.mono (by omega)),ajb,aS]
  unfold iK
  rw[hp,ajz rfl]
  rfl
 | false=>
  have hpp:x.2.1.2≤v.2.2.2.1:=hx.place hp
  rw[ajn,aS,show max v.2.2.2.1 x.2.1.2=v.2.2.2.1 by omega]
  unfold iK
  rw[hp,ajy (by simp)]
  rfl
theorem Kz {l:List Int} {i:Nat} {x:Int} (h:l[i]? =some x):(l.take (i+1)).sum=(l.take i).sum+x:=by
 rw[aiz,h,aiv];simp
theorem Ci {l:List Int} (hl:l.length≤1000) (h:bF l=true):Le 19 l.sum:=by
 have key:∀ l:List Int,bF l=true→l.sum.natAbs≤l.length*1000000000000000:=by
  intro l
  induction l with
  | nil=>intro _;simp
  | cons x l ih=>
   intro h
   unfold bF at h ih
   simp only[ahd,agC] at h
   have h1:=ih h.2
   have h2:=vL.1 h.1
   have:=KG
   simp only[aiw,ahT,aiF,ai3]
   omega
 have h1:=key l h
 have h2:l.length*1000000000000000≤1000*1000000000000000:=ai1 _ hl
 exact Le.int (by omega) (by omega)
theorem RP {l:List Int} (h:bF l=true) (i:Nat):bF (l.take i)=true:=by
 unfold bF at*
 rw[ahe] at*
 exact fun x hx=>h x (aif hx)
theorem ace {v:ah} (x:ax) (k:Int) {lines:List Int} (hl:lines.length≤1000) (hal:bF lines=true) (L N B:List aa) (S:List aJ) (A:List aa) (H:List Bool) (T:List aa) (f:Nat) (hf:lines.length<f):
 iter f ((k,false,lines.map W,(lines.length:Int),(0:Int),x.1,x.2.1.1,x.2.1.2,x.2.2,(W 0).1,(W 0).2,v.1,v.2.1,v.2.2.1,v.2.2.2.1,v.2.2.2.2.1,v.2.2.2.2.2.1,v.2.2.2.2.2.2.1,v.2.2.2.2.2.2.2.1,v.2.2.2.2.2.2.2.2,L,N,B,S,A,H,T,()):nx) rD=
  some (Sum.inr (k,false,x.1,x.2.1.1,x.2.1.2,x.2.2,(W lines.sum).1,(W lines.sum).2,v.1,v.2.1,v.2.2.1,v.2.2.2.1,v.2.2.2.2.1,v.2.2.2.2.2.1,v.2.2.2.2.2.2.1,v.2.2.2.2.2.2.2.1,v.2.2.2.2.2.2.2.2,L,N,B,S,A,H,T,())):=by
 refine bX (Inv:=fun i X=>X=((k,false,lines.map W,(lines.length:Int),(i:Int),x.1,x.2.1.1,x.2.1.2,x.2.2,(W (lines.take i).sum).1,(W (lines.take i).sum).2,v.1,v.2.1,v.2.2.1,v.2.2.2.1,v.2.2.2.2.1,v.2.2.2.2.2.1,v.2.2.2.2.2.2.1,v.2.2.2.2.2.2.2.1,v.2.2.2.2.2.2.2.2,L,N,B,S,A,H,T,()):nx)) lines.length
  (fun r=>r=some (Sum.inr (k,false,x.1,x.2.1.1,x.2.1.2,x.2.2,(W lines.sum).1,(W lines.sum).2,v.1,v.2.1,v.2.2.1,v.2.2.2.1,v.2.2.2.2.1,v.2.2.2.2.2.1,v.2.2.2.2.2.2.1,v.2.2.2.2.2.2.2.1,v.2.2.2.2.2.2.2.2,L,N,B,S,A,H,T,()))) ?_ ?_ f 0 _ rfl (by omega) (by omega)
 ·rintro i _ again hi rfl ih
  unfold rD
  dsimp only
  have hz:lines[i]? =some lines[i]:=bu hi
  have hzm:mZ lines[i]=true:=ahe.1 hal _ (ahR hi)
  generalize lines[i]=z at hz hzm
  have h1:=Ci (l:=lines.take i) (by rw[ahZ];omega) (RP hal i)
  have h2:=Fy (vL.1 hzm)
  rw[aP (by omega),bQ,ahI,hz,aji,ajb,show ((W (lines.take i).sum).1,(W (lines.take i).sum).2)=W (lines.take i).sum from rfl,cO _ _ (h1.w (by omega)) (h2.w (by omega)),ajb,aC (by omega) (by omega), ← Kz hz]
  exact ih _ rfl
 ·rintro _ again rfl
  unfold rD
  dsimp only
  rw[aO (by omega),aiC (aiN _)]
theorem adz {v:ah} (hv:ni v) (nets am tx:List Int) {lines:List Int} (hll:lines.length=(aA v).length) (hal:bF lines=true) {sh:Br} (hsh:jx (aA v).length sh) (hl:sh.length≤1900) (hal2:am.length≤1000) (fl:List Nat) {x:ax} (hx:Fw (vPl v) x):
 (∃ d p g,uJ v lines x= .inr (d,p,g)∧jx (aA v).length (sh++p)∧p.length≤20∧nK (Bx v nets lines (aZ (aA v).length sh) sh am (dY (aA v).length fl) tx) x=
   some (bif bF (aZ (aA v).length (sh++p)) then 0 else 1,Bx v nets lines (aZ (aA v).length (sh++p)) (sh++p) (am++[d]) (dY (aA v).length (fl++g)) tx,()))∨
 (∃ f b,f≠0∧uJ v lines x= .inl f∧nK (Bx v nets lines (aZ (aA v).length sh) sh am (dY (aA v).length fl) tx) x=some (f,b,())):=by
 have hrn:0<(aA v).length∧(aA v).length≤20:=hv.rn
 obtain⟨k,hk1,hk2⟩:=DC (aA v) x.2.2 (by omega) hv.asc
 have hg:Le 40 (vu v lines x):=by
  unfold vu
  cases ho:jk (·.1) x.2.2 (aA v) with
  | some k'=>
   dsimp only
   rw[ahy]
   cases hz:lines[k']? with
   | none=>exact (show Le 40 0 by unfold Le;simp)
   | some z=>exact (Fy (vL.1 (ahe.1 hal _ (aie hz)))).mono (by omega)
  | none=>exact (Ci (by omega) hal).mono (by omega)
 have hred:nK (Bx v nets lines (aZ (aA v).length sh) sh am (dY (aA v).length fl) tx) x=EC ((k:Int),(jk (·.1) x.2.2 (aA v)).isSome,(W (iK (kG v) (vPl v) (vu v lines x) x)).1,(W (iK (kG v) (vPl v) (vu v lines x) x)).2,v.1,v.2.1,v.2.2.1,v.2.2.2.1,v.2.2.2.2.1,v.2.2.2.2.2.1,v.2.2.2.2.2.2.1,v.2.2.2.2.2.2.2.1,v.2.2.2.2.2.2.2.2,lines.map W,nets.map W,(aZ (aA v).length sh).map W,sh.map shW,am.map W,dY (aA v).length fl,tx.map W,()):=by
  rw[← Xt hv hx]
  ·unfold nK Bx
   dsimp only
   rw[di 0 (by omega) (by omega),ajb]
   have hk1':tC v.2.2.2.2.2.2.1 x.2.2=some ((k:Int),(jk (·.1) x.2.2 (aA v)).isSome,()):=hk1
   rw[hk1',ajb]
   dsimp only
   cases ho:jk (·.1) x.2.2 (aA v) with
   | some k'=>
    obtain rfl:=hk2 k' ho
    obtain⟨rt,hrt,_⟩:=sO ho
    have hkl:k<lines.length:=by rw[hll];exact (ahH.1 hrt).1
    have hz:lines[k]? =some lines[k]:=bu hkl
    rw[ajg,ajo,bQ,ahI,hz,aji,ajb,aS]
    have hbase:vu v lines x=lines[k]:=by
     unfold vu;rw[ho];dsimp only;rw[ahy,hz];rfl
    rw[hbase]
    rfl
   | none=>
    have hbase:vu v lines x=lines.sum:=by
     unfold vu;rw[ho]
    rw[hbase]
    rw[Option.isSome_none,ajn,ahU,ace (v:=v) x (k:Int) (by omega) hal (lines.map W) (nets.map W) ((aZ (aA v).length sh).map W) (sh.map shW) (am.map W) (dY (aA v).length fl) (tx.map W) _ ?_,aS,aS]
    ·rfl
    ·simp;omega
  ·exact hg
 rw[hred]
 unfold uJ
 rcases Xu hv nets am tx hrn.1 hrn.2 hll hal hsh hl hal2 fl (jk (·.1) x.2.2 (aA v)) k (fun k' h=>⟨hk2 k' h,by obtain⟨rt,hrt,_⟩:=sO h;exact (ahH.1 hrt).1⟩) (iK (kG v) (vPl v) (vu v lines x) x) with ⟨p,g,h1,h2,h3,h4⟩ | ⟨f,b,h1,h2,h3⟩
 ·exact .inl ⟨_,p,g,h1,h2,h3,h4⟩
 ·exact .inr ⟨f,b,h1,h2,h3⟩
end Go.Md
namespace Go.Md
open Go.Dn
theorem afw {α:Type} {b:Bool} (h:b=true) (x y:α):(bif b then x else y)=x:=by rw[h];rfl
theorem afv {α:Type} {b:Bool} (h:b=false) (x y:α):(bif b then x else y)=y:=by rw[h];rfl
theorem aex {α:Type} {b:Bool} (h:b=true) (x y:α):(bif !b then x else y)=y:=by rw[h];rfl
theorem aew {α:Type} {b:Bool} (h:b=false) (x y:α):(bif !b then x else y)=x:=by rw[h];rfl
def K35:Nat:=10 ^ 35
theorem Le.k35 {z:Int} (h:Le 35 z):z.natAbs≤K35:=h
theorem afn {z:Int} {c:Nat} (hc:c≤1000) (h:z.natAbs≤c*K35):Le 38 z:=by
 unfold Le
 have h1:c*K35≤1000*K35:=ai1 _ hc
 have h2:1000*K35=10 ^ 38:=by unfold K35;decide
 omega
theorem JE (way:Int) (pc:ai) (k:Nat):∀ (a b:Br),xJ way pc k (a++b)=xJ way pc k a+xJ way pc k b
 | [],b=>by simp[xJ]
 | p::a,b=>by simp only[ahk,xJ,JE way pc k a b];omega
theorem aan {way:Int} {pc:ai} (hp:cA pc) (k:Nat):∀ {b:Br},(∀ p∈b,(p.2.natAbs:Int)≤MU)→(xJ way pc k b).natAbs≤b.length*K35
 | [],_=>by simp[xJ]
 | p::b,h=>by
  have h1:=aan (way:=way) hp k (b:=b) fun q hq=>h q (ah8 _ hq)
  have h2:(sY way p.2 pc).natAbs≤K35:=(UJ (Fy (h p ah9)) hp:Le 35 _).k35
  simp only[xJ,ahT,aiF,ai3]
  split<;>omega
theorem Ya {v:ah} {k:Nat} {r:aD} (h:(aA v)[k]? =some r):yM v k=r.2:=by
 unfold yM;rw[ahy,h];rfl
theorem adh {v:ah} (hv:ni v) {br:Br} (hbr:jx (aA v).length br) (hl:br.length≤1000) (L N:List aa) (S:List aJ) (A:List aa) (H:List Bool) (f:Nat) (hf:(aA v).length<f):
 iter f ((aA v,((aA v).length:Int),(0:Int),v.1,v.2.1,v.2.2.1,v.2.2.2.1,v.2.2.2.2.1,v.2.2.2.2.2.1,v.2.2.2.2.2.2.1,v.2.2.2.2.2.2.2.1,v.2.2.2.2.2.2.2.2,L,List.replicate (Int.toNat ((aA v).length:Int)) ((false,[]):aa),N,(aZ (aA v).length br).map W,S,A,H,()):pO) uv=
  some (Sum.inr (v.1,v.2.1,v.2.2.1,v.2.2.2.1,v.2.2.2.2.1,v.2.2.2.2.2.1,v.2.2.2.2.2.2.1,v.2.2.2.2.2.2.2.1,v.2.2.2.2.2.2.2.2,L,((List.range (aA v).length).map fun k=>if tZ v=true then 0 else sY (kG v) (atB br k) (yM v k)).map W,N,(aZ (aA v).length br).map W,S,A,H,())):=by
 have hrn:0<(aA v).length∧(aA v).length≤20:=hv.rn
 refine bX (Inv:=fun i X=>X=((aA v,((aA v).length:Int),(i:Int),v.1,v.2.1,v.2.2.1,v.2.2.2.1,v.2.2.2.2.1,v.2.2.2.2.2.1,v.2.2.2.2.2.2.1,v.2.2.2.2.2.2.2.1,v.2.2.2.2.2.2.2.2,L,((List.range (aA v).length).map fun k=>if tZ v=true∨i≤k then 0 else sY (kG v) (atB br k) (yM v k)).map W,N,(aZ (aA v).length br).map W,S,A,H,()):pO)) (aA v).length
  (fun r=>r=some (Sum.inr (v.1,v.2.1,v.2.2.1,v.2.2.2.1,v.2.2.2.2.1,v.2.2.2.2.2.1,v.2.2.2.2.2.2.1,v.2.2.2.2.2.2.2.1,v.2.2.2.2.2.2.2.2,L,((List.range (aA v).length).map fun k=>if tZ v=true then 0 else sY (kG v) (atB br k) (yM v k)).map W,N,(aZ (aA v).length br).map W,S,A,H,()))) ?_ ?_ f 0 _ ?_ (by omega) (by omega)
 ·rintro i _ again hi rfl ih
  unfold uv
  dsimp only
  have hr:(aA v)[i]? =some (aA v)[i]:=bu hi
  have hrm:=ahR hi
  generalize (aA v)[i]=r at hr hrm
  have hpc:=Ya hr
  have hpo:=UK hv i
  rw[aP (by omega),bQ,hr,ajb]
  rcases Bool.eq_false_or_eq_true v.2.2.2.2.2.1 with hper | hper
  ·rw[aex hper,aC (by omega) (by omega)]
   refine ih _ ?_
   have hp:tZ v=true:=hper
   simp only[hp,true_or,ajA]
   rfl
  ·have hp:tZ v=false:=hper
   have hbm:((aZ (aA v).length br).map W)[i]? =some (W (atB br i)):=by rw[ahI,wW _ hi];rfl
   have htm:∃ y,(((List.range (aA v).length).map fun k=>if tZ v=true∨i≤k then 0 else sY (kG v) (atB br k) (yM v k)).map W)[i]? =some y:=⟨_,bu (by simp;omega)⟩
   obtain⟨y0,hy0⟩:=htm
   rw[aew hper,aW (by rw[ahU,ja];simp only[agC,ajs];omega),ahc,hbm,ajb]
   rw[OI v, ← hpc,CI v _ _ hpo ((WZ hbr (by omega) i).mono (by omega)),ajb]
   dsimp only
   rw[aW (by simp only[ahU,ahX,agC,ajs];omega),hy0,ajb,aC (by omega) (by omega), ← ah5]
   refine ih _ ?_
   congr 13
   refine congrArg (fun z:List Int=>(z.map W,_)) ?_
   refine Fj _ _ _ _ _ (fun j hj hji=> ?_) ?_
   ·simp only[hp,agG,ajw]
    by_cases h1:i≤j
    ·rw[ajz h1,ajz (by omega)]
    ·rw[ajy h1,ajy (by omega)]
   ·simp only[hp,agG,ajw]
    rw[ajy (by omega)]
 ·rintro _ again rfl
  unfold uv
  dsimp only
  rw[aO (by omega)]
  congr 12
  refine congrArg (fun z:List Int=>(z.map W,_)) ?_
  apply ah1
  intro k hk
  rw[aii] at hk
  by_cases hp:tZ v=true
  ·rw[ajz (.inl hp),ajz hp]
  ·rw[ajy (fun h=>h.elim hp (fun h=>by omega)),ajy hp]
 ·simp only[ai8,or_true,ajA]
  congr 13
  rw[ahc]
  refine congrArg (fun z:List aa=>(z,_)) ?_
  apply aht
  intro i
  by_cases hi:i<(aA v).length
  ·rw[ahI,ahI,ahJ hi,ahK,ajz hi];rfl
  ·rw[ahG (by simp;omega),ahG (by simp;omega)]
def HG (v:ah) (br:Br) (i k:Nat):Int:=if tZ v=true then xJ (kG v) (yM v k) k (br.take i) else sY (kG v) (atB br k) (yM v k)
theorem adi {v:ah} (hv:ni v) {br:Br} (hbr:jx (aA v).length br) (hl:br.length≤1000) (L N B:List aa) (A:List aa) (H:List Bool) (f:Nat) (hf:br.length<f):
 iter f (((br.length:Int),(0:Int),v.1,v.2.1,v.2.2.1,v.2.2.2.1,v.2.2.2.2.1,v.2.2.2.2.2.1,v.2.2.2.2.2.2.1,v.2.2.2.2.2.2.2.1,v.2.2.2.2.2.2.2.2,L,((List.range (aA v).length).map (HG v br 0)).map W,N,B,br.map shW,A,H,()):pP) uw=
  some (Sum.inr (v.1,v.2.1,v.2.2.1,v.2.2.2.1,v.2.2.2.2.1,v.2.2.2.2.2.1,v.2.2.2.2.2.2.1,v.2.2.2.2.2.2.2.1,v.2.2.2.2.2.2.2.2,L,(pV v br).map W,N,B,br.map shW,A,H,())):=by
 refine bX (Inv:=fun i X=>X=(((br.length:Int),(i:Int),v.1,v.2.1,v.2.2.1,v.2.2.2.1,v.2.2.2.2.1,v.2.2.2.2.2.1,v.2.2.2.2.2.2.1,v.2.2.2.2.2.2.2.1,v.2.2.2.2.2.2.2.2,L,((List.range (aA v).length).map (HG v br i)).map W,N,B,br.map shW,A,H,()):pP)) br.length
  (fun r=>r=some (Sum.inr (v.1,v.2.1,v.2.2.1,v.2.2.2.1,v.2.2.2.2.1,v.2.2.2.2.2.1,v.2.2.2.2.2.2.1,v.2.2.2.2.2.2.2.1,v.2.2.2.2.2.2.2.2,L,(pV v br).map W,N,B,br.map shW,A,H,()))) ?_ ?_ f 0 _ rfl (by omega) (by omega)
 ·rintro i _ again hi rfl ih
  unfold uw
  dsimp only
  have hp:br[i]? =some br[i]:=bu hi
  have hpm:=ahR hi
  generalize br[i]=p at hp hpm
  have hpx:=hbr.ix p hpm
  have hpa:=hbr.am p hpm
  have hsm:(br.map shW)[i]? =some (shW p):=by rw[ahI,hp];rfl
  rw[aP (by omega),aW (by rw[ahU];simp only[agC,ajs];omega),ahc,hsm,ajb]
  have e1:(shW p).1=(p.1:Int):=rfl
  have e2:(shW p).2=W p.2:=rfl
  rw[e1,e2]
  rcases Bool.eq_false_or_eq_true v.2.2.2.2.2.1 with hper | hper
  ·have hpr:tZ v=true:=hper
   have hr:(aA v)[p.1]? =some (aA v)[p.1]:=bu hpx
   generalize (aA v)[p.1]=r at hr
   have hpc:=Ya hr
   have hpo:=UK hv p.1
   have htl:=aan (way:=kG v) hpo p.1 (b:=br.take i) fun q hq=>hbr.am q (aif hq)
   have htl2:=afn (show (br.take i).length≤1000 by rw[ahZ];omega) htl
   have hpt:Le 38 (sY (kG v) p.2 (yM v p.1)):=(UJ (Fy hpa) hpo:Le 35 _).mono (by omega)
   have hget:(((List.range (aA v).length).map (HG v br i)).map W)[p.1]? =some (W (xJ (kG v) (yM v p.1) p.1 (br.take i))):=by
    rw[ahI,ahI,ahJ hpx]
    unfold HG
    simp only[aji,hpr,ajA]
   have hck:(decide (0≤(p.1:Int))&&decide ((p.1:Int)<((((List.range (aA v).length).map (HG v br i)).map W).length:Int)))=true:=by
    simp only[ahU,ahX,agC,ajs];omega
   rw[afw hper,aW hck,ahc,hget,ajb,bQ,show v.2.2.2.2.2.2.1=aA v from rfl,hr,ajb]
   rw[show (v.1,v.2.1,v.2.2.1,v.2.2.2.1,v.2.2.2.2.1,v.2.2.2.2.2.1,aA v,v.2.2.2.2.2.2.2.1,v.2.2.2.2.2.2.2.2)=v from rfl, ← hpc,CI v _ _ hpo ((Fy hpa).mono (by omega)),ajb]
   dsimp only
   rw[cO _ _ (htl2.w (by omega)) (hpt.w (by omega)),ajb,aW hck,ajb,aC (by omega) (by omega), ← ah5]
   refine ih _ ?_
   congr 12
   refine congrArg (fun z:List Int=>(z.map W,_)) ?_
   have htk:br.take (i+1)=br.take i++[p]:=by rw[aiz,hp];rfl
   refine Fj _ _ _ _ _ (fun j hj hji=> ?_) ?_
   ·unfold HG
    simp only[hpr,ajA,htk,JE,xJ]
    rw[ajy (fun e=>hji e.symm)];omega
   ·unfold HG
    simp only[hpr,ajA,htk,JE,xJ]
    omega
  ·have hpr:tZ v=false:=hper
   rw[afv hper,aC (by omega) (by omega)]
   refine ih _ ?_
   congr 12
   refine congrArg (fun z:List Int=>(z.map W,_)) ?_
   apply ah1
   intro k _
   unfold HG
   simp[hpr]
 ·rintro _ again rfl
  unfold uw
  dsimp only
  rw[aO (by omega)]
  congr 12
  refine congrArg (fun z:List Int=>(z.map W,_)) ?_
  apply ah1
  intro k _
  unfold HG Yw
  rw[aiC (aiN _)]
theorem afT {v:ah} (hv:ni v) (nets lines am:List Int) {br:Br} (hbr:jx (aA v).length br) (hl:br.length≤1000) (has:List Bool):
 zz (Bx v nets lines (aZ (aA v).length br) br am has [])=some (bif bF (pV v br) then 0 else 1,Bx v nets lines (aZ (aA v).length br) br am has (pV v br),()):=by
 have hrn:0<(aA v).length∧(aA v).length≤20:=hv.rn
 unfold zz Bx
 dsimp only
 rw[ahU,ja,aW (by simp only[agC,ajs];omega),adh hv hbr hl (lines.map W) (nets.map W) (br.map shW) (am.map W) has _ ?_,aS]
 ·dsimp only
  have e0:((List.range (aA v).length).map fun k=>if tZ v=true then 0 else sY (kG v) (atB br k) (yM v k))=(List.range (aA v).length).map (HG v br 0):=by
   apply ah1
   intro k _
   unfold HG
   split<;>rfl
  rw[e0,ahU,adi hv hbr hl (lines.map W) (nets.map W) ((aZ (aA v).length br).map W) (am.map W) has _ ?_,aS]
  ·dsimp only
   rw[VX _ (by unfold pV;simp;omega),ajb]
   dsimp only
   cases bF (pV v br)<;>rfl
  ·simp;omega
 ·simp;omega
end Go.Md
namespace Go.Md
open Go.Dn
theorem DK (v:ah) (lines:List Int):∀ (a b:List ax) (s:ESt),gW v lines (a++b) s=match gW v lines a s with | .inl f=> .inl f | .inr t=>gW v lines b t
 | [],b,s=>rfl
 | x::a,b,s=>by
  simp only[ahk,gW]
  cases uJ v lines x with
  | inl f=>rfl
  | inr t=>
   dsimp only
   cases bF (aZ (aA v).length (s.1++t.2.1)) with
   | true=>simp only[ajo];exact DK v lines a b _
   | false=>rfl
theorem Xv {v:ah} {lines:List Int} {l:List ax} {i:Nat} {x:ax} (hx:l[i]? =some x) {s t:ESt} (h:gW v lines (l.take i) s= .inr t):
 gW v lines (l.take (i+1)) s=match uJ v lines x with | .inl f=> .inl f | .inr r=>bif bF (aZ (aA v).length (t.1++r.2.1)) then .inr (t.1++r.2.1,t.2.1++r.2.2,t.2.2++[r.1]) else .inl 1:=by
 rw[aiz,hx,DK,h]
 simp only[Option.toList,gW]
 all_goals (cases uJ v lines x<;>rfl)
theorem NK {v:ah} {lines:List Int} {l:List ax} {i:Nat} {s:ESt} {f:Int} (h:gW v lines (l.take i) s= .inl f):gW v lines l s= .inl f:=by
 have:=DK v lines (l.take i) (l.drop i) s
 rw[aiA,h] at this
 exact this
def AQ (v:ah) (lines:List Int) (s:ShZ):gy:=(v,s.nets.map W,lines.map W,(aZ (aA v).length s.br).map W,s.br.map shW,s.am.map W,dY (aA v).length s.fl,s.taxes.map W)
theorem Y4 {v:ah} (hv:ni v) (nets lines:List Int) (hll:lines.length=(aA v).length) (hal:bF lines=true) {lb:Br} (hlb:jx (aA v).length lb) (hlbl:lb.length≤500) (fl0:List Nat) (ar:List gy) (f:Nat) (hf:(cZ v).length<f):
 (∃ s:ESt,gW v lines (cZ v) (lb,fl0,[])= .inr s∧jx (aA v).length s.1∧s.1.length≤900∧
   iter f ((cZ v,((cZ v).length:Int),(0:Int),v.1,v.2.1,v.2.2.1,v.2.2.2.1,v.2.2.2.2.1,v.2.2.2.2.2.1,v.2.2.2.2.2.2.1,v.2.2.2.2.2.2.2.1,v.2.2.2.2.2.2.2.2,nets.map W,lines.map W,(aZ (aA v).length lb).map W,lb.map shW,([]:List aa),dY (aA v).length fl0,([]:List aa),ar,()):mN) pQ=
    some (Sum.inr (v.1,v.2.1,v.2.2.1,v.2.2.2.1,v.2.2.2.2.1,v.2.2.2.2.2.1,v.2.2.2.2.2.2.1,v.2.2.2.2.2.2.2.1,v.2.2.2.2.2.2.2.2,nets.map W,lines.map W,(aZ (aA v).length s.1).map W,s.1.map shW,s.2.2.map W,dY (aA v).length s.2.1,([]:List aa),ar,())))∨
 (∃ fa,fa≠0∧gW v lines (cZ v) (lb,fl0,[])= .inl fa∧
   iter f ((cZ v,((cZ v).length:Int),(0:Int),v.1,v.2.1,v.2.2.1,v.2.2.2.1,v.2.2.2.2.1,v.2.2.2.2.2.1,v.2.2.2.2.2.2.1,v.2.2.2.2.2.2.2.1,v.2.2.2.2.2.2.2.2,nets.map W,lines.map W,(aZ (aA v).length lb).map W,lb.map shW,([]:List aa),dY (aA v).length fl0,([]:List aa),ar,()):mN) pQ=some (Sum.inl (none,fa,ar,()))):=by
 have hxl:(cZ v).length≤20:=(sJ hv.ext).1
 have hxe:=(sJ hv.ext).2
 refine bX (Inv:=fun i X=>∃ s:ESt,gW v lines ((cZ v).take i) (lb,fl0,[])= .inr s∧jx (aA v).length s.1∧s.1.length≤500+20*i∧s.2.2.length=i∧X=((cZ v,((cZ v).length:Int),(i:Int),v.1,v.2.1,v.2.2.1,v.2.2.2.1,v.2.2.2.2.1,v.2.2.2.2.2.1,v.2.2.2.2.2.2.1,v.2.2.2.2.2.2.2.1,v.2.2.2.2.2.2.2.2,nets.map W,lines.map W,(aZ (aA v).length s.1).map W,s.1.map shW,s.2.2.map W,dY (aA v).length s.2.1,([]:List aa),ar,()):mN)) (cZ v).length
  (fun r=>(∃ s:ESt,gW v lines (cZ v) (lb,fl0,[])= .inr s∧jx (aA v).length s.1∧s.1.length≤900∧r=some (Sum.inr (v.1,v.2.1,v.2.2.1,v.2.2.2.1,v.2.2.2.2.1,v.2.2.2.2.2.1,v.2.2.2.2.2.2.1,v.2.2.2.2.2.2.2.1,v.2.2.2.2.2.2.2.2,nets.map W,lines.map W,(aZ (aA v).length s.1).map W,s.1.map shW,s.2.2.map W,dY (aA v).length s.2.1,([]:List aa),ar,())))∨
    (∃ fa,fa≠0∧gW v lines (cZ v) (lb,fl0,[])= .inl fa∧r=some (Sum.inl (none,fa,ar,())))) ?_ ?_ f 0 _ ⟨(lb,fl0,[]),rfl,hlb,by simpa using hlbl,rfl,rfl⟩ (by omega) (by omega)
 ·rintro i _ again hi ⟨s,h1,h2,h3,h4,rfl⟩ ih
  unfold pQ
  dsimp only
  have hx:(cZ v)[i]? =some (cZ v)[i]:=bu hi
  have hxm:=ahR hi
  generalize (cZ v)[i]=x at hx hxm
  have hxo:=(hxe x hxm).1
  have hst:=Xv hx h1
  rw[aP (by omega),bQ,hx,ajb]
  have he:=adz hv nets s.2.2 [] hll hal h2 (by omega) (by omega) s.2.1 hxo
  unfold Bx at he
  rw[OI v]
  rcases he with ⟨d,p,g,g1,g2,g3,g4⟩ | ⟨fa,b,g0,g1,g4⟩
  ·rw[g1] at hst
   dsimp only at hst
   rw[show ([]:List aa)=([]:List Int).map W from rfl,g4,ajb]
   dsimp only
   cases ha:bF (aZ (aA v).length (s.1++p)) with
   | true=>
    rw[ha,ajo] at hst
    rw[ajo,zne,ajn,aC (by omega) (by omega)]
    exact ih _ ⟨_,hst,g2,by rw[ahS];omega,by rw[ahS];simp[h4],rfl⟩
   | false=>
    rw[ha,ajn] at hst
    rw[ajn,show ((1:Int) != 0)=true from rfl,ajo]
    exact .inr ⟨1,by omega,NK hst,rfl⟩
  ·rw[g1] at hst
   rw[show ([]:List aa)=([]:List Int).map W from rfl,g4,ajb]
   dsimp only
   rw[show (fa != 0)=true by simpa using g0,ajo]
   exact .inr ⟨fa,g0,NK hst,rfl⟩
 ·rintro _ again ⟨s,h1,h2,h3,h4,rfl⟩
  unfold pQ
  dsimp only
  rw[aO (by omega)]
  rw[aiC (aiN _)] at h1
  exact .inl ⟨s,h1,h2,by omega,rfl⟩
theorem Ft {v:ah} (h0:eH v=0):
 (∃ lines s,AR v= .inr s∧jx (aA v).length s.br∧s.br.length≤900∧nL v []=some (some 0,0,[AQ v lines s],()))∨
 (∃ f,f≠0∧AR v= .inl f∧nL v []=some (none,f,[],())):=by
 have hv:=sN h0
 have hrn:0<(aA v).length∧(aA v).length≤20:=hv.rn
 have hln:0<(bN v).length∧(bN v).length≤500:=hv.ln
 unfold nL AR
 rw[gz,ajb]
 dsimp only
 rw[h0,zne,ajn]
 rcases RY hv with ⟨lb,h1,h2,h3,h4,e⟩ | ⟨h1,b,e⟩
 ·rw[e,ajb,h1]
  unfold Bx
  dsimp only
  rw[zne,ajn,h4,ajo]
  have hll:=ja (aA v).length lb
  have hve:(cZ v).length=v.2.2.2.2.2.2.2.2.length:=rfl
  rcases Y4 hv (lb.map (·.2)) (aZ (aA v).length lb) hll h4 h2 (by omega) (lb.map (·.1)) [] (v.2.2.2.2.2.2.2.2.length+(Int.natAbs ((v.2.2.2.2.2.2.2.2.length:Int))+(Int.natAbs (0:Int)+(v.1.length+(v.2.1.length+(v.2.2.1.natAbs+(v.2.2.2.1.natAbs+(v.2.2.2.2.1.natAbs+(v.2.2.2.2.2.2.1.length+(v.2.2.2.2.2.2.2.1.length+(v.2.2.2.2.2.2.2.2.length+(List.length ((lb.map (·.2)).map W)+(List.length ((aZ (aA v).length lb).map W)+(List.length ((aZ (aA v).length lb).map W)+(List.length (lb.map shW)+(List.length ([]:List aa)+(List.length (dY (aA v).length (lb.map (·.1)))+(List.length ([]:List aa)+(List.length ([]:List gy)+2))))))))))))))))))) (by omega) with ⟨s,g1,g2,g3,g4⟩ | ⟨fa,g0,g1,g4⟩
  ·rw[g1]
   dsimp only
   rw[show ([]:List Int).map W=([]:List aa) from rfl,g4,aS]
   dsimp only
   have ht:=afT hv (lb.map (·.2)) (aZ (aA v).length lb) s.2.2 g2 (by omega) (dY (aA v).length s.2.1)
   unfold Bx at ht
   rw[show ([]:List Int).map W=([]:List aa) from rfl] at ht
   rw[OI v,ht,ajb]
   dsimp only
   cases ha:bF (pV v s.1) with
   | true=>
    rw[ajo,ajo,zne,ajn]
    exact .inl ⟨_,_,rfl,g2,g3,rfl⟩
   | false=>
    rw[ajn,ajn,show ((1:Int) != 0)=true from rfl,ajo]
    exact .inr ⟨1,by omega,rfl,rfl⟩
  ·rw[g1]
   dsimp only
   rw[show ([]:List Int).map W=([]:List aa) from rfl,g4,mU]
   exact .inr ⟨fa,g0,rfl,rfl⟩
 ·rw[e,ajb]
  dsimp only
  rw[show ((1:Int) != 0)=true from rfl,ajo]
  refine .inr ⟨1,by omega, ?_,rfl⟩
  rcases h1 with h1 | ⟨lb,h1,h2⟩
  ·rw[h1]
  ·rw[h1]
   dsimp only
   rw[h2];rfl
end Go.Md
namespace Go.Md
open Go.Dn
theorem Vq {v:ah} (hv:ni v):∀ {l:List au} {lb:Br},(∀ x∈l,x∈bN v)→eW v l=some lb→jx (aA v).length lb∧lb.length=l.length∧∀ (i:Nat) (x:au) (p:Nat×Int),l[i]? =some x→lb[i]? =some p→Al v x=some p.2∧p.1=WS v x
 | [],lb,_,h=>by simp only[eW,Option.some.injEq] at h;subst h;exact⟨⟨by simp,by simp⟩,rfl,by simp⟩
 | x::l,lb,hm,h=>by
  simp only[eW] at h
  cases hn:Al v x with
  | none=>rw[hn] at h;cases h
  | some z=>
   rw[hn] at h
   simp only at h
   cases hl:eW v l with
   | none=>rw[hl] at h;cases h
   | some lb'=>
    rw[hl] at h
    simp only[aji,Option.some.injEq] at h
    subst h
    obtain⟨h1,h2,h3⟩:=Vq hv (fun y hy=>hm y (ah8 _ hy)) hl
    have hxo:=hv.lines x (hm x ah9)
    obtain⟨k,hk⟩:=ajf.1 hxo.rate
    obtain⟨rt,hrt,_⟩:=sO hk
    have hkl:k<(aA v).length:=(ahH.1 hrt).1
    refine⟨⟨fun p hp=> ?_,fun p hp=> ?_⟩,by simp[h2],fun i y p hi hp=> ?_⟩
    ·rcases ah7.1 hp with rfl | hp
     ·show (jk (·.1) x.2.2.2.2.2.2.2.2 (aA v)).getD 0<_
      rw[hk];exact hkl
     ·exact h1.ix p hp
    ·rcases ah7.1 hp with rfl | hp
     ·exact (Vy hn).2
     ·exact h1.am p hp
    ·cases i with
     | zero=>
      simp only[ahD,Option.some.injEq] at hi hp
      subst hi;subst hp;exact⟨hn,rfl⟩
     | succ i=>
      simp only[ahC] at hi hp
      exact h3 i y p hi hp
theorem XV:∀ (l:List Int) (k:Nat),(iP k l).length≤l.length
 | [],k=>by simp[iP]
 | y::l,k=>by
  have:=XV l (k+1)
  simp only[iP]
  split<;>simp<;>omega
theorem abF {n:Nat} (hn0:0<n) (hn:n≤20) {o:Option Nat} (ho:∀ k,o=some k→k<n) {lines:List Int} (hll:lines.length=n) {d d':Int} {p:Br} {g:List Nat} (h:sE o d lines= .inr (d',p,g)):
 d'=d∧mZ d=true∧jx n p∧p.length≤20∧(p.map (·.2)).sum=d∧∀ q∈p,q.2≠0→q.1∈g:=by
 unfold sE at h
 cases him:mZ d with
 | false=>rw[him] at h;cases h
 | true=>
  rw[him,ajo] at h
  have hd:=vL.1 him
  cases o with
  | some k=>
   simp only[Sum.inr.injEq,Prod.mk.injEq] at h
   obtain⟨rfl,rfl,rfl⟩:=h
   exact⟨rfl,rfl,⟨by simpa using ho k rfl,by simpa using hd⟩,by simp,by simp,by simp⟩
  | none=>
   dsimp only at h
   cases hz:(lines.all fun b=>b==0) with
   | true=>
    rw[hz,ajo] at h
    simp only[Sum.inr.injEq,Prod.mk.injEq] at h
    obtain⟨rfl,rfl,rfl⟩:=h
    refine⟨rfl,rfl,⟨by simpa using hn0,by simpa using hd⟩,by simp,by simp,fun q hq hq0=> ?_⟩
    rw[aij.1 hq] at hq0 ⊢
    rw[show (d==0)=false by simpa using hq0,ajn]
    simp
   | false=>
    rw[hz,ajn] at h
    cases hw:(lines.any fun b=>decide (MW<b.natAbs)) with
    | true=>rw[hw] at h;cases h
    | false=>
     rw[hw,ajn] at h
     simp only[Sum.inr.injEq,Prod.mk.injEq] at h
     obtain⟨rfl,rfl,rfl⟩:=h
     have hpos:=Eh hz
     have hmem:=Rm (gw d (lines.map Int.natAbs)) 0
     have hxl:(gw d (lines.map Int.natAbs)).length=n:=by rw[Qn,ahU,hll]
     refine⟨rfl,rfl,⟨fun q hq=> ?_,fun q hq=> ?_⟩, ?_, ?_,fun q hq _=>List.mem_map_of_mem hq⟩
     ·have:=(hmem q hq).2.1;omega
     ·have:=TB (n:=d) hpos (hmem q hq).2.2.1;omega
     ·have:=XV (gw d (lines.map Int.natAbs)) 0;omega
     ·rw[XX,Zy hpos]
theorem jx.append {n:Nat} {a b:Br} (ha:jx n a) (hb:jx n b):jx n (a++b):=
 ⟨fun p hp=>(ah6.1 hp).elim (ha.ix p) (hb.ix p),fun p hp=>(ah6.1 hp).elim (ha.am p) (hb.am p)⟩
theorem SC {v:ah} (hv:ni v) {lines:List Int} (hll:lines.length=(aA v).length):∀ (l:List ax) (s t:ESt),gW v lines l s= .inr t→jx (aA v).length s.1→bF s.2.2=true→(∀ q∈s.1,q.2≠0→q.1∈s.2.1)→bF (aZ (aA v).length s.1)=true→
 jx (aA v).length t.1∧t.1.length≤s.1.length+20*l.length∧bF t.2.2=true∧t.2.2.length=s.2.2.length+l.length∧(t.1.map (·.2)).sum=(s.1.map (·.2)).sum+(t.2.2.sum - s.2.2.sum)∧(∀ q∈t.1,q.2≠0→q.1∈t.2.1)∧bF (aZ (aA v).length t.1)=true
 | [],s,t,h,h1,h2,h3,h4=>by
  simp only[gW,Sum.inr.injEq] at h
  subst h
  exact⟨h1,by simp,h2,by simp,by omega,h3,h4⟩
 | x::l,s,t,h,h1,h2,h3,h4=>by
  have hrn:0<(aA v).length∧(aA v).length≤20:=hv.rn
  simp only[gW] at h
  cases hb:uJ v lines x with
  | inl f=>rw[hb] at h;cases h
  | inr r=>
   obtain⟨d,p,g⟩:=r
   rw[hb] at h
   dsimp only at h
   unfold uJ at hb
   have hbo:=abF hrn.1 hrn.2 (fun k hk=>by obtain⟨rt,hrt,_⟩:=sO hk;exact (ahH.1 hrt).1) hll hb
   obtain⟨rfl,g1,g2,g3,g4,g5⟩:=hbo
   cases ha:bF (aZ (aA v).length (s.1++p)) with
   | false=>rw[ha] at h;cases h
   | true=>
    rw[ha,ajo] at h
    generalize iK (kG v) (vPl v) (vu v lines x) x=d at*
    obtain⟨k1,k2,k3,k4,k5,k6,k7⟩:=SC hv hll l _ t h (h1.append g2) (by unfold bF at *;rw[List.all_append,h2];simpa using g1) (fun q hq hq0=>by
     rcases ah6.1 hq with hq | hq
     ·exact ah6.2 (.inl (h3 q hq hq0))
     ·exact ah6.2 (.inr (g5 q hq hq0))) ha
    dsimp only at k2 k4 k5
    refine⟨k1, ?_,k3, ?_, ?_,k6,k7⟩
    ·rw[ahS] at k2;simp only[ahT];omega
    ·rw[ahS] at k4;simp only[ahT,ahV] at k4 ⊢;omega
    ·rw[k5,ah0,aiv,g4,aiv];simp;omega
structure SOk (v:ah) (s:ShZ):Prop where
 nets:bF s.nets=true
 netl:s.nets.length=(bN v).length
 neti:∀ (i:Nat) (x:au) (z:Int),(bN v)[i]? =some x→s.nets[i]? =some z→Al v x=some z
 br:jx (aA v).length s.br
 brl:s.br.length≤900
 bs:bF (aZ (aA v).length s.br)=true
 am:bF s.am=true
 aml:s.am.length≤20
 tx:bF s.taxes=true
 txe:s.taxes=pV v s.br
 sum:(s.br.map (·.2)).sum=s.nets.sum+s.am.sum
 fl:∀ q∈s.br,q.2≠0→q.1∈s.fl
theorem ac5 {v:ah} (hv:ni v) {s:ShZ} (h:AR v= .inr s):SOk v s:=by
 have hln:0<(bN v).length∧(bN v).length≤500:=hv.ln
 have hxl:(cZ v).length≤20:=(sJ hv.ext).1
 unfold AR at h
 cases hl:eW v (bN v) with
 | none=>rw[hl] at h;cases h
 | some lb=>
  rw[hl] at h
  dsimp only at h
  cases ha:bF (aZ (aA v).length lb) with
  | false=>rw[ha] at h;cases h
  | true=>
   rw[ha,ajo] at h
   cases he:gW v (aZ (aA v).length lb) (cZ v) (lb,lb.map (·.1),[]) with
   | inl f=>rw[he] at h;cases h
   | inr t=>
    rw[he] at h
    dsimp only at h
    cases ht:bF (pV v t.1) with
    | false=>rw[ht] at h;cases h
    | true=>
     rw[ht,ajo] at h
     cases h
     obtain⟨b1,b2,b3⟩:=Vq hv (fun x hx=>hx) hl
     obtain⟨k1,k2,k3,k4,k5,k6,k7⟩:=SC hv (ja _ _) _ _ t he b1 rfl (fun q hq _=>List.mem_map_of_mem hq) ha
     dsimp only at k2 k4 k5
     refine⟨?_,by simp[b2],fun i x z hx hz=> ?_,k1,by show t.1.length≤900;omega,k7,k3,by show t.2.2.length≤20;simp only[ahV] at k4;omega,ht,rfl,by rw[k5];simp,k6⟩
     ·show bF (lb.map (·.2))=true
      unfold bF
      rw[ahe]
      intro z hz
      obtain⟨p,hp,rfl⟩:=aid.1 hz
      exact vL.2 (b1.am p hp)
     ·simp only[ahI] at hz
      cases hp:lb[i]? with
      | none=>rw[hp] at hz;cases hz
      | some p=>
       rw[hp] at hz
       simp only[aji,Option.some.injEq] at hz
       subst hz
       exact (b3 i x p hx hp).1
def Yy (v:ah) (s:ShZ):yd:=(IA v s.nets.sum,IA v s.am.sum,IA v (s.nets.sum+s.am.sum),IA v s.taxes.sum,IA v (s.nets.sum+s.am.sum+s.taxes.sum))
theorem IK {l:List Int} (hl:l.length≤1000) (hal:bF l=true):DD (l.map W)=some (W l.sum,()):=by
 unfold DD
 rw[di 0 (by omega) (by omega),ajb]
 dsimp only
 have loop:∀ f,l.length<f→iter f ((l.map W,(l.length:Int),(0:Int),false,([]:List Int),(W 0).1,(W 0).2,()):AG) El=some (Sum.inr (false,([]:List Int),(W l.sum).1,(W l.sum).2,())):=by
  intro f hf
  refine bX (Inv:=fun i X=>X=((l.map W,(l.length:Int),(i:Int),false,([]:List Int),(W (l.take i).sum).1,(W (l.take i).sum).2,()):AG)) l.length (fun r=>r=some (Sum.inr (false,([]:List Int),(W l.sum).1,(W l.sum).2,()))) ?_ ?_ f 0 _ rfl (by omega) (by omega)
  ·rintro i _ again hi rfl ih
   unfold El
   dsimp only
   have hz:l[i]? =some l[i]:=bu hi
   have hzm:mZ l[i]=true:=ahe.1 hal _ (ahR hi)
   generalize l[i]=z at hz hzm
   have h1:=Ci (l:=l.take i) (by rw[ahZ];omega) (RP hal i)
   have h2:=Fy (vL.1 hzm)
   rw[aP (by omega),bQ,ahI,hz,aji,ajb,show ((W (l.take i).sum).1,(W (l.take i).sum).2)=W (l.take i).sum from rfl,cO _ _ (h1.w (by omega)) (h2.w (by omega)),ajb,aC (by omega) (by omega), ← Kz hz]
   exact ih _ rfl
  ·rintro _ again rfl
   unfold El
   dsimp only
   rw[aO (by omega),aiC (aiN _)]
 rw[ahU,loop _ (by omega),aS]
theorem yl (v:ah) (lines:List Int) (s:ShZ) {z:Int} (hz:mZ z=true):kJ (some 0) (W z) [AQ v lines s]=some (IA v z,()):=by
 have h:=vL.1 hz
 have:=KG
 unfold kJ
 rw[ajb,show ([AQ v lines s]:List gy)[0]? =some (AQ v lines s) from rfl,ajb,zo,ajz (by omega),ajb]
 rfl
theorem TU {v:ah} (hv:ni v) (lines:List Int) {s:ShZ} (hs:SOk v s):
 ux (some 0) [AQ v lines s]=some (bif bF (sK s) then (Yy v s,0,()) else (((0,0),(0,0),(0,0),(0,0),0,0),1,())):=by
 have hln:0<(bN v).length∧(bN v).length≤500:=hv.ln
 have hrn:0<(aA v).length∧(aA v).length≤20:=hv.rn
 have htl:s.taxes.length≤20:=by rw[hs.txe];unfold pV;simp;omega
 have hnl:=hs.netl;have haml:=hs.aml
 have n1:=Ci (by omega) hs.nets
 have n2:=Ci (by omega) hs.am
 have n3:=Ci (by omega) hs.tx
 have n4:=(n1.add n2)
 have n5:=(n4.add (n3.mono (show 19≤20 by omega)))
 unfold ux
 have hg:([AQ v lines s]:List gy)[0]? =some (AQ v lines s):=rfl
 simp only[ajb,hg]
 rw[show (AQ v lines s).2.1=s.nets.map W from rfl,IK (by omega) hs.nets,ajb]
 rw[show (AQ v lines s).2.2.2.2.2.1=s.am.map W from rfl,IK (by omega) hs.am,ajb]
 rw[show (AQ v lines s).2.2.2.2.2.2.2=s.taxes.map W from rfl,IK (by omega) hs.tx,ajb]
 dsimp only
 rw[cO _ _ (n1.w (by omega)) (n2.w (by omega)),ajb]
 dsimp only
 rw[cO _ _ (n4.w (by omega)) (n3.w (by omega)),ajb]
 dsimp only
 rw[show [W s.nets.sum,W s.am.sum,W (s.nets.sum+s.am.sum),W s.taxes.sum,W (s.nets.sum+s.am.sum+s.taxes.sum)]=(sK s).map W from rfl,VY _ (by unfold sK;simp),ajb]
 dsimp only
 cases ha:bF (sK s) with
 | false=>rfl
 | true=>
  have hal:=ha
  unfold bF sK at hal
  simp only[ahd,List.all_nil,agE,agC] at hal
  obtain⟨a1,a2,a3,a4,a5⟩:=hal
  rw[agN,ajn,yl v lines s a1,ajb,yl v lines s a2,ajb,yl v lines s a3,ajb,yl v lines s a4,ajb,yl v lines s a5,ajb]
  rfl
def aer:yd:=((0,0),(0,0),(0,0),(0,0),0,0)
def UU (v:ah):yd×Int×Unit:=if eH v≠0 then (aer,eH v,()) else match xd v with | .inl f=>(aer,f,()) | .inr s=>(Yy v s,0,())
theorem TN {v:ah} (h:eH v≠0):nL v []=some (none,eH v,[],()):=by
 unfold nL
 rw[gz,ajb]
 dsimp only
 rw[show (eH v != 0)=true by simpa using h,ajo]
theorem JQ (v:ah):AE v=some (UU v):=by
 unfold AE UU
 by_cases h0:eH v=0
 ·rw[ajy (by simpa using h0)]
  have hv:=sN h0
  unfold xd
  rcases Ft h0 with ⟨lines,s,h1,h2,h3,e⟩ | ⟨f,hf,h1,e⟩
  ·have hs:=ac5 hv h1
   rw[e,ajb,h1]
   dsimp only
   rw[zne,ajn,TU hv lines hs,ajb]
   cases ha:bF (sK s)<;>rfl
  ·rw[e,ajb,h1]
   dsimp only
   rw[show (f != 0)=true by simpa using hf,ajo]
   rfl
 ·rw[ajz h0,TN h0,ajb]
  dsimp only
  rw[show (eH v != 0)=true by simpa using h0,ajo]
  rfl
end Go.Md
namespace Go.Md
open Go.Dn
theorem ac4 {α:Type} {l:List α} {i:Nat} {y:α} (h:l[i]? =some y):l.set i y=l:=by
 obtain⟨hi,rfl⟩:=ahH.1 h
 exact ait hi
theorem adO {n r:Nat} (h:0<r):n<n+r:=by omega
theorem acB {n a r:Nat} (h:n<r):n<a+r:=by omega
theorem abZ {l:List ax} (hl:l.length≤1000):ov l=some (l,()):=by
 unfold ov
 rw[aW (oS (by omega) (by omega))]
 cases l with
 | nil=>rw[Ik];rfl
 | cons a l=>rfl
theorem aaF {l:List au} (hl:l.length≤1000):jj l=some (l,()):=by
 unfold jj
 rw[aW (oS (by omega) (by omega))]
 cases l with
 | nil=>rw[Ik];rfl
 | cons a l=>rfl
theorem aaG {l:List aD} (hl:l.length≤1000):fR l=some (l,()):=by
 unfold fR
 rw[aW (oS (by omega) (by omega))]
 cases l with
 | nil=>rw[Ik];rfl
 | cons a l=>rfl
theorem LZ {d:ai} (h:cA d):CH d=some (Hu d,()):=by
 unfold CH Hu
 have:=h.1
 rw[aC (by omega) (by omega),show 0 - d.1= -d.1 by omega]
def upto {α:Type} (g:α→α) (l:List α) (i:Nat):List α:=(l.take i).map g++l.drop i
theorem YF {α:Type} (g:α→α) (l:List α) (i:Nat):(upto g l i).length=l.length:=by
 unfold upto
 rw[ahS,ahU,ahZ,List.length_drop];omega
theorem YE {α:Type} (g:α→α) {l:List α} {i:Nat} (h:i<l.length):(upto g l i)[i]? =l[i]? :=by
 unfold upto
 rw[ahB (by rw[ahU,ahZ];omega),ahE,ahU,ahZ]
 congr 1;omega
theorem YG {α:Type} (g:α→α) {l:List α} {i:Nat} (h:i<l.length):(upto g l i).set i (g l[i])=upto g l (i+1):=by
 unfold upto
 have h1:((l.take i).map g).length=i:=by rw[ahU,ahZ];omega
 rw[List.set_append_right _ _ (by omega),h1,Nat.sub_self,aiz,bu h,ah0,ahi]
 congr 1
 rw[aho h]
 rfl
theorem VQ {α:Type} (g:α→α) (l:List α):upto g l 0=l:=by simp[upto]
theorem YD {α:Type} (g:α→α) (l:List α):upto g l l.length=l.map g:=by simp[upto]
theorem Gx {pl:Int} {l:List ax} (hl:l.length≤20) (h:∀ x∈l,Fw pl x):pF l=some (l.map lE,()):=by
 unfold pF
 rw[abZ (by omega),ajb]
 dsimp only
 have loop:∀ f,l.length<f→iter f (((l.length:Int),(0:Int),l,()):qD) vA=some (Sum.inr (l.map lE,())):=by
  intro f hf
  refine bX (Inv:=fun i X=>X=(((l.length:Int),(i:Int),upto lE l i,()):qD)) l.length (fun r=>r=some (Sum.inr (l.map lE,()))) ?_ ?_ f 0 _ (by rw[VQ];rfl) (by omega) (by omega)
  ·rintro i _ again hi rfl ih
   have hy:=YE lE hi
   have hm:l[i]∈l:=ahR hi
   have hs:=YG lE hi
   rw[bu hi] at hy
   generalize l[i]=y at hy hm hs
   have hd:=(h y hm).dec
   unfold vA
   dsimp only
   rw[aP (by omega),YF,aW (by simp only[agC,ajs];omega),ahc,hy,ajb,aC (by omega) (by omega)]
   cases hp:y.1 with
   | false=>
    rw[agM,ajo,LZ hd,ajb]
    dsimp only
    rw[aW (by simp only[agC,ajs];omega),ajb]
    refine ih _ ?_
    rw[← hs]
    unfold lE
    rw[hp]
    rfl
   | true=>
    rw[agN,ajn]
    refine ih _ ?_
    rw[← hs,show lE y=y by unfold lE;rw[hp,ajz rfl, ← hp],show (upto lE l i).set i y=upto lE l i from ac4 hy]
    rfl
  ·rintro _ again rfl
   unfold vA
   dsimp only
   rw[aO (by omega),YD]
 rw[loop _ (by rw[ag1];omega),aS]
def zeroV:ah:=([],[],0,0,0,false,[],[],[])
def UN (v:ah) (n:Bys) (d:Int):ah×Int×Unit:=
 if eH v≠0 then (zeroV,eH v,()) else if cM n=false then (zeroV,5,()) else if n=v.1 then (zeroV,12,()) else if d<v.2.2.1∨3652059<d then (zeroV,1,())
 else if eH (pH v n d)≠0 then (zeroV,eH (pH v n d),()) else (pH v n d,0,())
theorem Qz (v:ah) (n:Bys) (d:Int):AY v n d=some (UN v n d):=by
 unfold AY UN
 rw[gz,ajb]
 dsimp only
 by_cases h0:eH v=0
 ·rw[ajy (by simpa using h0),show (eH v != 0)=false by simpa using h0,ajn,mW,ajb]
  dsimp only
  cases hn:cM n with
  | false=>rw[ajz rfl,agM,ajo];rfl
  | true=>
   rw[ajy (by simp),agN,ajn]
   by_cases he:n=v.1
   ·rw[ajz he,show (n==v.1)=true by simpa using he,ajo];rfl
   ·rw[ajy he,show (n==v.1)=false by simpa using he,ajn,eD,ajb]
    dsimp only
    by_cases hd:d<v.2.2.1∨3652059<d
    ·rw[ajz hd,aP hd];rfl
    ·rw[ajy hd,aO hd]
     have hv:=sN h0
     have hln:0<(bN v).length∧(bN v).length≤500:=hv.ln
     have hrn:0<(aA v).length∧(aA v).length≤20:=hv.rn
     have hx:=sJ hv.ext
     have e1:fR (aA v)=some (aA v,()):=aaG (by omega)
     have e2:jj (bN v)=some (bN v,()):=aaF (by omega)
     have e3:pF (cZ v)=some ((cZ v).map lE,()):=Gx hx.1 fun x h=>(hx.2 x h).1
     rw[e1,ajb,e2,ajb,e3,ajb]
     dsimp only
     have loop:∀ f,(bN v).length<f→iter f ((((bN v).length:Int),(0:Int),[],[],0,0,0,false,[],[],[],n,v.2.1,d,vPl v,kG v,tZ v,(cZ v).map lE,aA v,bN v,()):pL) pK=
      some (Sum.inr ([],[],0,0,0,false,[],[],[],n,v.2.1,d,vPl v,kG v,tZ v,(cZ v).map lE,aA v,(bN v).map xF,())):=by
      intro f hf
      refine bX (Inv:=fun i X=>X=((((bN v).length:Int),(i:Int),[],[],0,0,0,false,[],[],[],n,v.2.1,d,vPl v,kG v,tZ v,(cZ v).map lE,aA v,upto xF (bN v) i,()):pL)) (bN v).length (fun r=>r=some (Sum.inr ([],[],0,0,0,false,[],[],[],n,v.2.1,d,vPl v,kG v,tZ v,(cZ v).map lE,aA v,(bN v).map xF,()))) ?_ ?_ f 0 _ (by rw[VQ];rfl) (by omega) (by omega)
      ·rintro i _ again hi rfl ih
       have hy:=YE xF hi
       have hm:(bN v)[i]∈bN v:=ahR hi
       have hs:=YG xF hi
       rw[bu hi] at hy
       generalize (bN v)[i]=y at hy hm hs
       have hlo:yf (vPl v) (aA v) y:=hv.lines y hm
       have hye:=sJ hlo.ext
       have e4:pF y.2.2.2.2.2.2.2.1=some (y.2.2.2.2.2.2.2.1.map lE,()):=Gx hye.1 fun x h=>(hye.2 x h).1
       have hlen:((upto xF (bN v) i)).length=(bN v).length:=YF _ _ _
       have e:pK (((bN v).length:Int),(i:Int),[],[],0,0,0,false,[],[],[],n,v.2.1,d,vPl v,kG v,tZ v,(cZ v).map lE,aA v,upto xF (bN v) i,()) again=again (((bN v).length:Int),((i+1:Nat):Int),[],[],0,0,0,false,[],[],[],n,v.2.1,d,vPl v,kG v,tZ v,(cZ v).map lE,aA v,upto xF (bN v) (i+1),()):=by
        unfold pK
        dsimp only
        rw[aP (by omega),hlen,aW (by simp only[agC,ajs];omega),ahc,hy,ajb,LZ hlo.q,ajb,e4,ajb]
        dsimp only
        rw[aW (by simp only[agC,ajs];omega),ajb,ahY,hlen,aW (by simp only[agC,ajs];omega),ahN (by omega),ajb,aC (by omega) (by omega),aiu]
        dsimp only
        rw[show ((y.1,y.2.1,y.2.2.1,Hu y.2.2.2.1,y.2.2.2.2.1,y.2.2.2.2.2.1,y.2.2.2.2.2.2.1,List.map lE y.2.2.2.2.2.2.2.1,y.2.2.2.2.2.2.2.2):au)=xF y from rfl,hs]
        rfl
       rw[e]
       exact ih _ rfl
      ·rintro _ again rfl
       unfold pK
       dsimp only
       rw[aO (by omega),YD]
     rw[loop _ (by rw[ag1];with_reducible apply adO;repeat (with_reducible first | exact ai9 | apply acB)),aS]
     dsimp only
     rw[show ((n,v.2.1,d,vPl v,kG v,tZ v,aA v,List.map xF (bN v),List.map lE (cZ v)):ah)=pH v n d from rfl,gz,ajb]
     dsimp only
     by_cases h1:eH (pH v n d)=0
     ·rw[ajy (by simpa using h1),show (eH (pH v n d) != 0)=false by simpa using h1,ajn]
     ·rw[ajz h1,show (eH (pH v n d) != 0)=true by simpa using h1,ajo]
      rfl
 ·rw[ajz h0,show (eH v != 0)=true by simpa using h0,ajo]
  rfl
end Go.Md
namespace Go.Md
open Go.Dn
theorem abt {v:ah} {s:ShZ} (h:xd v= .inr s):bF (sK s)=true:=by
 unfold xd at h
 split at h
 ·cases h
 ·rename_i t _
  cases ha:bF (sK t) with
  | true=>rw[ha,ajo] at h;cases h;exact ha
  | false=>rw[ha,ajn] at h;cases h
theorem WG {v:ah} (h0:eH v=0) {f:Int} (h:xd v= .inl f):f≠0:=by
 unfold xd at h
 rcases Ft h0 with ⟨lines,s,h1,_⟩ | ⟨g,hg,h1,_⟩
 ·rw[h1] at h
  dsimp only at h
  cases ha:bF (sK s) with
  | true=>rw[ha,ajo] at h;cases h
  | false=>rw[ha,ajn] at h;cases h;omega
 ·rw[h1] at h;cases h;exact hg
end Go.Md
