/-
  Plain facts: masses and weights. No condition.
-/
import Derived.Test.YtbjhpnieokphbaaGreatDoorYt
import Derived.Test.YtbjhpnieokphbaaGreatDoorYn
import Derived.Test.YtbjhpnieokphbaaGreatDoorYr
import Derived.Test.YtbjhpnieokphbaaGreatDoorYq
set_option linter.all false
namespace Go.Md
open Go.Dn
end Go.Md
namespace Go.Md
open Go.Dn
structure QOk (d:ai):Prop where
 dec:cA d
 pl:d.2≤3
theorem QD {d:ai} {z:Bool} (h:qOk d z=true):QOk d:=by
 unfold qOk at h
 rw[T9] at h
 have h1:=h.1
 unfold inR at h1
 rw[WI] at h1
 exact⟨h1.1,h1.2.1⟩
structure TD (p:aa):Prop where
 t:QOk p.2.2.1
 n:p.2.2.2.length≤100
 c:∀ c∈p.2.2.2,QOk c.2.2.2
end Go.Md
namespace Go.Md
open Go.Dn
def pick (l:List aa) (L:List Nat):List aa:=L.filterMap fun i=>l[i]?
end Go.Md
namespace Go.Md
open Go.Dn
theorem G6 (a:bg) (hf:Oi a) (h:pT a=0) (t:List UInt8):iu a t true=some (if t=[]∨(ff (·.1) t a.2.2.2).isSome=true then 0 else 9,()):=by
 unfold iu
 rw[lE a hf,Wq]
 dsimp only
 have hok:=Jy h
 have:=hok.len
 obtain⟨q,h1,h2⟩:=oE a t (by omega) hok.asc
 rw[h,show ((0:Int) != 0)=false from rfl,WC,h1,Wq]
 dsimp only
 cases (ff (fun x:aa=>x.1) t a.2.2.2).isSome with
 | true=>simp
 | false=>cases t<;>simp
theorem Lf {a:bg} (h:F3 a) {i T:Nat} (hi:i<a.2.2.2.length) {t:List UInt8} (ht:t≠[]) (hT:ff (·.1) t a.2.2.2=some T):gf a (i:Int) t=some (decide (T∈i::lg a.2.2.2 i),()):=by
 unfold gf
 have hy:a.2.2.2[i]? =some a.2.2.2[i]:=az hi
 have hlab:=Qj h.asc hT hi
 rw[IP hy] at hlab
 rw[show (t==[])=false by cases t<;>simp_all,WC,bF,hy,Wq,Dt h hi hT,Wq]
 by_cases e:a.2.2.2[i].1=t
 ·have:=hlab.1 e
  subst this
  rw[show (a.2.2.2[i].1==t)=true by simpa using e,WD]
  simp
 ·have hne:¬ i=T:=fun h=>e (hlab.2 h)
  rw[show (a.2.2.2[i].1==t)=false by simpa using e,WC]
  have hne':¬ T=i:=fun h=>hne h.symm
  simp[hne']
theorem EM {l:List aX} (h:uZ l=0):l.length≤100∧∀ c∈l,QOk c.2.2.2:=by
 unfold uZ at h
 split at h
 ·omega
 rename_i h1
 refine⟨by omega,fun c hc=> ?_⟩
 obtain⟨i,hi⟩:=Vy.1 hc
 have:=iI h i c hi
 unfold DM at this
 split at this
 ·omega
 split at this
 ·omega
 split at this
 ·omega
 split at this
 ·omega
 split at this
 ·rename_i hq;exact QD hq
 ·omega
theorem Sh {a:bg} (h:pT a=0):∀ p∈a.2.2.2,TD p:=by
 unfold pT at h
 split at h
 ·omega
 split at h
 ·omega
 split at h
 ·omega
 split at h
 ·omega
 split at h
 ·omega
 have h3:dy (kU a.2.2.2) 0 a.2.2.2=0:=by omega
 intro p hp
 obtain⟨i,hi⟩:=Vy.1 hp
 have:=iI h3 i p hi
 unfold kU at this
 split at this
 ·omega
 split at this
 ·omega
 split at this
 ·omega
 rename_i hq
 have hc:=EM this
 exact⟨QD (z:=true) (by simpa using hq),hc.1,hc.2⟩
def HY (l:List aa) (t:List UInt8) (i:Nat):Bool:=if t=[] then true else match ff (·.1) t l with
 | some T=>decide (T∈i::lg l i)
 | none=>false
end Go.Md
set_option linter.all false
namespace Go.Md.SI
open Go.Dn Go.Md
section
variable {k:Int→Int} {ar:List qj} {ok:Int→Prop}
end
end Go.Md.SI
set_option linter.all false
namespace Go.Md.SP
open Go.Dn Go.Md
structure rq (k:Int→Int) (l l':List Int):Prop where
 perm:l.Perm l'
section
variable {k:Int→Int} {ar:List qj} {ok:Int→Prop}
end
end Go.Md.SP
namespace Go.Md
open Go.Dn
def v9 (d:ai):Int:=d.1*10 ^ ((9:Int) - d.2).toNat
theorem Pu {d:ai} (h:cA d):Le 24 (v9 d):=(Le.dec h).mul ((Le.pow (9 - d.2).toNat).mono (show (9 - d.2).toNat≤9 by have:=h.2;omega))
def opn (y:qj):ai:=y.2.2.2.2.2.2.2.2.2
end Go.Md
namespace Go.Md
open Go.Dn
end Go.Md
namespace Go.Md
open Go.Dn
def Low (os os':List Int):Prop:=os'.length=os.length∧∀ (i:Nat) (x y:Int),os[i]? =some x→os'[i]? =some y→0≤y∧y≤x
theorem Low.trans {a b c:List Int} (h:Low a b) (g:Low b c):Low a c:=by
 refine⟨g.1.trans h.1,fun i x y hx hy=> ?_⟩
 have hi:i<b.length:=by have:=(U7.1 hx).1;have:=h.1;omega
 have hb:b[i]? =some b[i]:=az hi
 have h1:=h.2 i x _ hx hb
 have h2:=g.2 i _ y hb hy
 omega
theorem Low.refl {a:List Int} (h:∀ x∈a,0≤x):Low a a:=by
 refine⟨rfl,fun i x y hx hy=> ?_⟩
 rw[hx] at hy;cases hy
 exact⟨h _ (VA hx),Up _⟩
theorem Low.set {a:List Int} (h:∀ x∈a,0≤x) {k:Nat} {x z:Int} (hk:a[k]? =some x) (hz:0≤z) (hz':z≤x):Low a (a.set k z):=by
 refine⟨by simp,fun i u v hu hv=> ?_⟩
 by_cases e:k=i
 ·subst e
  rw[hk] at hu;cases hu
  rw[Vc (U7.1 hk).1] at hv
  cases hv;exact⟨hz,hz'⟩
 ·rw[Vb e,hu] at hv
  cases hv;exact⟨h _ (VA hu),Up _⟩
theorem Low.le {k:Nat} {a b:List Int} (h:Low a b) (ha:∀ x∈a,Le k x):∀ x∈b,Le k x:=by
 intro x hx
 obtain⟨i,hi⟩:=Vy.1 hx
 have hlt:i<a.length:=by have:=(U7.1 hi).1;have:=h.1;omega
 have h1:=h.2 i _ x (az hlt) hi
 have h2:=ha _ (Vh hlt)
 unfold Le at*
 omega
end Go.Md
namespace Go.Md
open Go.Dn
end Go.Md
namespace Go.Md
open Go.Dn
def My:List Aw→Int
 | []=>0
 | x::r=>v9 x.2.2+My r
def pQ (z:Int):ai:=((few 9 z).1,((few 9 z).2:Int))
theorem Kf (z:Int):v9 (pQ z)=z:=by
 obtain⟨h1,h2,_⟩:=tF 9 z
 unfold v9 pQ
 dsimp only
 rw[show ((9:Int) - ((few 9 z).2:Int)).toNat=9 - (few 9 z).2 by omega]
 exact h2
theorem MB {z:Int} (h:(few 9 z).1.natAbs≤1000000000000000):cA (pQ z):=by
 obtain⟨h1,_⟩:=tF 9 z
 exact⟨h,by unfold pQ;dsimp only;omega,by unfold pQ;dsimp only;omega⟩
theorem I9 {z:Int} (hz:Le 42 z):uD (W z)=some (if (few 9 z).1.natAbs≤1000000000000000 then (pQ z,0,()) else ((0,0),1,())):=by
 unfold uD
 rw[show (9:Int)=((9:Nat):Int) from rfl,w6 z (hz.w (by omega)) 9 (by omega),Wq]
 split<;>rfl
end Go.Md
namespace Go.Md
open Go.Dn
end Go.Md
namespace Go.Md
open Go.Dn
def Tg:List Ax→Int
 | []=>0
 | x::r=>v9 x.2.1+Tg r
def SD (lines:List qj) (x:Ax):Prop:=cA x.2.1∧∃ s∈lines,s.1=x.1∧v9 x.2.1≤v9 (opn s)
end Go.Md
namespace Go.Md
open Go.Dn
structure TN (items:List Aw) (lines:List qj) (out:List Ax) (left:List Aw):Prop where
 ilen:items.length≤100
 iok:∀ y∈items,cA y.2.2
 llen:lines.length≤500
 lok:∀ y∈lines,cA (opn y)
 olen:out.length≤500
 ook:∀ x∈out,SD lines x
 rlen:left.length≤100
 rok:∀ y∈left,cA y.2.2
 sum:My items=My left+Tg out
theorem BR {a b:ai} (ha:cA a) (hb:cA b):sQ a b=some (decide (v9 a≤v9 b),()):=by
 unfold sQ Jb
 rw[J8 a 9 ha ha.2.2 (by omega),J8 b 9 hb hb.2.2 (by omega),Wq,Wq]
 dsimp only
 have h1:=(Pu ha).n (by omega);have h2:=(Pu hb).n (by omega)
 unfold v9 at*
 rw[QH _ _ (by omega) (by omega),Wq,Wq]
 congr 2
 generalize a.1*10 ^ ((9:Int) - a.2).toNat=x
 generalize b.1*10 ^ ((9:Int) - b.2).toNat=y
 rcases Int.lt_trichotomy x y with h | h | h
 ·rw[Uz (by omega)];simp;omega
 ·subst h;simp
 ·rw[UA (by omega)];simp;omega
end Go.Md
