/-
  Plain facts: masses and weights. No condition.
-/
import Derived.Test.YtnamfglkolhhgacGreatDoorYt
import Derived.Test.YtnamfglkolhhgacGreatDoorYn
import Derived.Test.YtnamfglkolhhgacGreatDoorYr
import Derived.Test.YtnamfglkolhhgacGreatDoorYq
set_option linter.all false
namespace Go.Md
open Go.Dn
end Go.Md
namespace Go.Md
open Go.Dn
structure QOk (d:aj):Prop where
 dec:er d
 pl:d.2≤3
theorem Po {d:aj} {z:Bool} (h:qOk d z=true):QOk d:=by
 unfold qOk at h
 rw[SX] at h
 have h1:=h.1
 unfold inR at h1
 rw[VB] at h1
 exact⟨h1.1,h1.2.1⟩
structure Rr (p:aa):Prop where
 t:QOk p.2.2.1
 n:p.2.2.2.length≤100
 c:∀ c∈p.2.2.2,QOk c.2.2.2
end Go.Md
namespace Go.Md
open Go.Dn
def pick (l:List aa) (L:List Nat):List aa:=L.filterMap fun i=>l[i]?
end Go.Md
namespace Go.Md
open Go.Dn
theorem Hi (a:ak) (hf:oM a) (h:cm a=0) (t:List UInt8):cR a t true=some (if t=[]∨(dn (·.1) t a.2.2.2).isSome=true then 0 else 9,()):=by
 unfold cR
 rw[eo a hf,Vl]
 dsimp only
 have hok:=gM h
 have:=hok.len
 obtain⟨q,h1,h2⟩:=b7 a t (by omega) hok.asc
 rw[h,show ((0:Int) != 0)=false from rfl,Vw,h1,Vl]
 dsimp only
 cases (dn (fun x:aa=>x.1) t a.2.2.2).isSome with
 | true=>simp
 | false=>cases t<;>simp
theorem KQ {a:ak} (h:Gc a) {i T:Nat} (hi:i<a.2.2.2.length) {t:List UInt8} (ht:t≠[]) (hT:dn (·.1) t a.2.2.2=some T):iw a (i:Int) t=some (decide (T∈i::fA a.2.2.2 i),()):=by
 unfold iw
 have hy:a.2.2.2[i]? =some a.2.2.2[i]:=aI hi
 have hlab:=LB h.asc hT hi
 rw[xo hy] at hlab
 rw[show (t==[])=false by cases t<;>simp_all,Vw,bL,hy,Vl,o9 h hi hT,Vl]
 by_cases e:a.2.2.2[i].1=t
 ·have:=hlab.1 e
  subst this
  rw[show (a.2.2.2[i].1==t)=true by simpa using e,Vx]
  simp
 ·have hne:¬ i=T:=fun h=>e (hlab.2 h)
  rw[show (a.2.2.2[i].1==t)=false by simpa using e,Vw]
  have hne':¬ T=i:=fun h=>hne h.symm
  simp[hne']
theorem EP {l:List ah} (h:vg l=0):l.length≤100∧∀ c∈l,QOk c.2.2.2:=by
 unfold vg at h
 split at h
 ·omega
 rename_i h1
 refine⟨by omega,fun c hc=> ?_⟩
 obtain⟨i,hi⟩:=Uo.1 hc
 have:=eU h i c hi
 unfold DP at this
 split at this
 ·omega
 split at this
 ·omega
 split at this
 ·omega
 split at this
 ·omega
 split at this
 ·rename_i hq;exact Po hq
 ·omega
theorem sB {a:ak} (h:cm a=0):∀ p∈a.2.2.2,Rr p:=by
 unfold cm at h
 split at h
 ·omega
 split at h
 ·omega
 split at h
 ·omega
 split at h
 ·omega
 split at h
 ·omega
 have h3:eA (kC a.2.2.2) 0 a.2.2.2=0:=by omega
 intro p hp
 obtain⟨i,hi⟩:=Uo.1 hp
 have:=eU h3 i p hi
 unfold kC at this
 split at this
 ·omega
 split at this
 ·omega
 split at this
 ·omega
 rename_i hq
 have hc:=EP this
 exact⟨Po (z:=true) (by simpa using hq),hc.1,hc.2⟩
def wj (l:List aa) (t:List UInt8) (i:Nat):Bool:=if t=[] then true else match dn (·.1) t l with
 | some T=>decide (T∈i::fA l i)
 | none=>false
end Go.Md
set_option linter.all false
namespace Go.Md.SI
open Go.Dn Go.Md
section
variable {k:Int→Int} {ar:List qD} {ok:Int→Prop}
end
end Go.Md.SI
set_option linter.all false
namespace Go.Md.SP
open Go.Dn Go.Md
structure rE (k:Int→Int) (l l':List Int):Prop where
 perm:l.Perm l'
section
variable {k:Int→Int} {ar:List qD} {ok:Int→Prop}
end
end Go.Md.SP
namespace Go.Md
open Go.Dn
def v9 (d:aj):Int:=d.1*10 ^ ((9:Int) - d.2).toNat
theorem Sg {d:aj} (h:er d):Le 24 (v9 d):=(Le.dec h).mul ((Le.pow (9 - d.2).toNat).mono (show (9 - d.2).toNat≤9 by have:=h.2;omega))
def opn (y:qD):aj:=y.2.2.2.2.2.2.2.2.2
end Go.Md
namespace Go.Md
open Go.Dn
end Go.Md
namespace Go.Md
open Go.Dn
def Low (os os':List Int):Prop:=os'.length=os.length∧∀ (i:Nat) (x y:Int),os[i]? =some x→os'[i]? =some y→0≤y∧y≤x
theorem Low.trans {a b c:List Int} (h:Low a b) (g:Low b c):Low a c:=by
 refine⟨g.1.trans h.1,fun i x y hx hy=> ?_⟩
 have hi:i<b.length:=by have:=(TU.1 hx).1;have:=h.1;omega
 have hb:b[i]? =some b[i]:=aI hi
 have h1:=h.2 i x _ hx hb
 have h2:=g.2 i _ y hb hy
 omega
theorem Low.refl {a:List Int} (h:∀ x∈a,0≤x):Low a a:=by
 refine⟨rfl,fun i x y hx hy=> ?_⟩
 rw[hx] at hy;cases hy
 exact⟨h _ (Uq hx),Ti _⟩
theorem Low.set {a:List Int} (h:∀ x∈a,0≤x) {k:Nat} {x z:Int} (hk:a[k]? =some x) (hz:0≤z) (hz':z≤x):Low a (a.set k z):=by
 refine⟨by simp,fun i u v hu hv=> ?_⟩
 by_cases e:k=i
 ·subst e
  rw[hk] at hu;cases hu
  rw[TZ (TU.1 hk).1] at hv
  cases hv;exact⟨hz,hz'⟩
 ·rw[TY e,hu] at hv
  cases hv;exact⟨h _ (Uq hu),Ti _⟩
theorem Low.le {k:Nat} {a b:List Int} (h:Low a b) (ha:∀ x∈a,Le k x):∀ x∈b,Le k x:=by
 intro x hx
 obtain⟨i,hi⟩:=Uo.1 hx
 have hlt:i<a.length:=by have:=(TU.1 hi).1;have:=h.1;omega
 have h1:=h.2 i _ x (aI hlt) hi
 have h2:=ha _ (T6 hlt)
 unfold Le at*
 omega
end Go.Md
namespace Go.Md
open Go.Dn
end Go.Md
namespace Go.Md
open Go.Dn
def Qp:List AI→Int
 | []=>0
 | x::r=>v9 x.2.2+Qp r
def HP (z:Int):aj:=((few 9 z).1,((few 9 z).2:Int))
theorem IZ {z:Int} (hz:Le 42 z):uX (W z)=some (if (few 9 z).1.natAbs≤1000000000000000 then (HP z,0,()) else ((0,0),1,())):=by
 unfold uX
 rw[show (9:Int)=((9:Nat):Int) from rfl,E7 z (hz.w (by omega)) 9 (by omega),Vl]
 split<;>rfl
end Go.Md
namespace Go.Md
open Go.Dn
end Go.Md
namespace Go.Md
open Go.Dn
def RZ:List AJ→Int
 | []=>0
 | x::r=>v9 x.2.1+RZ r
def Rs (lines:List qD) (x:AJ):Prop:=er x.2.1∧∃ s∈lines,s.1=x.1∧v9 x.2.1≤v9 (opn s)
end Go.Md
namespace Go.Md
open Go.Dn
structure Sx (items:List AI) (lines:List qD) (out:List AJ) (left:List AI):Prop where
 ilen:items.length≤100
 iok:∀ y∈items,er y.2.2
 llen:lines.length≤500
 lok:∀ y∈lines,er (opn y)
 olen:out.length≤500
 ook:∀ x∈out,Rs lines x
 rlen:left.length≤100
 rok:∀ y∈left,er y.2.2
 sum:Qp items=Qp left+RZ out
end Go.Md
