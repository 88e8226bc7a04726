/-
  Plain facts: masses and weights. No condition.
-/
import Derived.Test.YtfeonoiibclkiabGreatDoorYt
import Derived.Test.YtfeonoiibclkiabGreatDoorYn
import Derived.Test.YtfeonoiibclkiabGreatDoorYr
import Derived.Test.YtfeonoiibclkiabGreatDoorYq
set_option linter.all false
namespace Go.Md
open Go.Dn
end Go.Md
namespace Go.Md
open Go.Dn
structure QOk (d:az):Prop where
 dec:eN d
 pl:d.2≤3
theorem Rh {d:az} {z:Bool} (h:qOk d z=true):QOk d:=by
 unfold qOk at h
 rw[Us] at h
 have h1:=h.1
 unfold inR at h1
 rw[WI] at h1
 exact⟨h1.1,h1.2.1⟩
structure TU (p:ah):Prop where
 t:QOk p.2.2.1
 n:p.2.2.2.length≤100
 c:∀ c∈p.2.2.2,QOk c.2.2.2
end Go.Md
namespace Go.Md
open Go.Dn
def pick (l:List ah) (L:List Nat):List ah:=L.filterMap fun i=>l[i]?
end Go.Md
namespace Go.Md
open Go.Dn
theorem JJ (a:aq) (hf:Bl a) (h:gx a=0) (t:List UInt8):jU a t true=some (if t=[]∨(fG (·.1) t a.2.2.2).isSome=true then 0 else 9,()):=by
 unfold jU
 rw[gJ a hf,Wt]
 dsimp only
 have hok:=rM h
 have:=hok.len
 obtain⟨q,h1,h2⟩:=jm a t (by omega) hok.asc
 rw[h,show ((0:Int) != 0)=false from rfl,WD,h1,Wt]
 dsimp only
 cases (fG (fun x:ah=>x.1) t a.2.2.2).isSome with
 | true=>simp
 | false=>cases t<;>simp
theorem MS {a:aq} (h:ug a) {i T:Nat} (hi:i<a.2.2.2.length) {t:List UInt8} (ht:t≠[]) (hT:fG (·.1) t a.2.2.2=some T):iN a (i:Int) t=some (decide (T∈i::jc a.2.2.2 i),()):=by
 unfold iN
 have hy:a.2.2.2[i]? =some a.2.2.2[i]:=aK hi
 have hlab:=QV h.asc hT hi
 rw[KR hy] at hlab
 rw[show (t==[])=false by cases t<;>simp_all,WD,bN,hy,Wt,FT h hi hT,Wt]
 by_cases e:a.2.2.2[i].1=t
 ·have:=hlab.1 e
  subst this
  rw[show (a.2.2.2[i].1==t)=true by simpa using e,WE]
  simp
 ·have hne:¬ i=T:=fun h=>e (hlab.2 h)
  rw[show (a.2.2.2[i].1==t)=false by simpa using e,WD]
  have hne':¬ T=i:=fun h=>hne h.symm
  simp[hne']
theorem Ho {l:List aj} (h:xO l=0):l.length≤100∧∀ c∈l,QOk c.2.2.2:=by
 unfold xO at h
 split at h
 ·omega
 rename_i h1
 refine⟨by omega,fun c hc=> ?_⟩
 obtain⟨i,hi⟩:=VE.1 hc
 have:=ku h i c hi
 unfold I7 at this
 split at this
 ·omega
 split at this
 ·omega
 split at this
 ·omega
 split at this
 ·omega
 split at this
 ·rename_i hq;exact Rh hq
 ·omega
theorem SE {a:aq} (h:gx a=0):∀ p∈a.2.2.2,TU p:=by
 unfold gx at h
 split at h
 ·omega
 split at h
 ·omega
 split at h
 ·omega
 split at h
 ·omega
 split at h
 ·omega
 have h3:fQ (nK a.2.2.2) 0 a.2.2.2=0:=by omega
 intro p hp
 obtain⟨i,hi⟩:=VE.1 hp
 have:=ku h3 i p hi
 unfold nK at this
 split at this
 ·omega
 split at this
 ·omega
 split at this
 ·omega
 rename_i hq
 have hc:=Ho this
 exact⟨Rh (z:=true) (by simpa using hq),hc.1,hc.2⟩
def ym (l:List ah) (t:List UInt8) (i:Nat):Bool:=if t=[] then true else match fG (·.1) t l with
 | some T=>decide (T∈i::jc l i)
 | none=>false
end Go.Md
set_option linter.all false
namespace Go.Md.SI
open Go.Dn Go.Md
section
variable {k:Int→Int} {ar:List tF} {ok:Int→Prop}
end
end Go.Md.SI
set_option linter.all false
namespace Go.Md.SP
open Go.Dn Go.Md
structure rL (k:Int→Int) (l l':List Int):Prop where
 perm:l.Perm l'
section
variable {k:Int→Int} {ar:List tF} {ok:Int→Prop}
end
end Go.Md.SP
namespace Go.Md
open Go.Dn
def v9 (d:az):Int:=d.1*10 ^ ((9:Int) - d.2).toNat
theorem TR {d:az} (h:eN d):Le 24 (v9 d):=(Le.dec h).mul ((Le.pow (9 - d.2).toNat).mono (show (9 - d.2).toNat≤9 by have:=h.2;omega))
def opn (y:tF):az:=y.2.2.2.2.2.2.2.2.2
end Go.Md
namespace Go.Md
open Go.Dn
end Go.Md
namespace Go.Md
open Go.Dn
def Low (os os':List Int):Prop:=os'.length=os.length∧∀ (i:Nat) (x y:Int),os[i]? =some x→os'[i]? =some y→0≤y∧y≤x
theorem Low.trans {a b c:List Int} (h:Low a b) (g:Low b c):Low a c:=by
 refine⟨g.1.trans h.1,fun i x y hx hy=> ?_⟩
 have hi:i<b.length:=by have:=(Ve.1 hx).1;have:=h.1;omega
 have hb:b[i]? =some b[i]:=aK hi
 have h1:=h.2 i x _ hx hb
 have h2:=g.2 i _ y hb hy
 omega
theorem Low.refl {a:List Int} (h:∀ x∈a,0≤x):Low a a:=by
 refine⟨rfl,fun i x y hx hy=> ?_⟩
 rw[hx] at hy;cases hy
 exact⟨h _ (VG hx),UG _⟩
theorem Low.set {a:List Int} (h:∀ x∈a,0≤x) {k:Nat} {x z:Int} (hk:a[k]? =some x) (hz:0≤z) (hz':z≤x):Low a (a.set k z):=by
 refine⟨by simp,fun i u v hu hv=> ?_⟩
 by_cases e:k=i
 ·subst e
  rw[hk] at hu;cases hu
  rw[Vj (Ve.1 hk).1] at hv
  cases hv;exact⟨hz,hz'⟩
 ·rw[Vi e,hu] at hv
  cases hv;exact⟨h _ (VG hu),UG _⟩
theorem Low.le {k:Nat} {a b:List Int} (h:Low a b) (ha:∀ x∈a,Le k x):∀ x∈b,Le k x:=by
 intro x hx
 obtain⟨i,hi⟩:=VE.1 hx
 have hlt:i<a.length:=by have:=(Ve.1 hi).1;have:=h.1;omega
 have h1:=h.2 i _ x (aK hlt) hi
 have h2:=ha _ (Vn hlt)
 unfold Le at*
 omega
end Go.Md
namespace Go.Md
open Go.Dn
end Go.Md
namespace Go.Md
open Go.Dn
def IM:List Cu→Int
 | []=>0
 | x::r=>v9 x.2.2+IM r
def uF (z:Int):az:=((few 9 z).1,((few 9 z).2:Int))
theorem Rw (z:Int):v9 (uF z)=z:=by
 obtain⟨h1,h2,_⟩:=Gi 9 z
 unfold v9 uF
 dsimp only
 rw[show ((9:Int) - ((few 9 z).2:Int)).toNat=9 - (few 9 z).2 by omega]
 exact h2
theorem R2 {z:Int} (h:(few 9 z).1.natAbs≤1000000000000000):eN (uF z):=by
 obtain⟨h1,_⟩:=Gi 9 z
 exact⟨h,by unfold uF;dsimp only;omega,by unfold uF;dsimp only;omega⟩
theorem K9 {z:Int} (hz:Le 42 z):xF (W z)=some (if (few 9 z).1.natAbs≤1000000000000000 then (uF z,0,()) else ((0,0),1,())):=by
 unfold xF
 rw[show (9:Int)=((9:Nat):Int) from rfl,HH z (hz.w (by omega)) 9 (by omega),Wt]
 split<;>rfl
end Go.Md
namespace Go.Md
open Go.Dn
end Go.Md
namespace Go.Md
open Go.Dn
def TA:List Cv→Int
 | []=>0
 | x::r=>v9 x.2.1+TA r
def S5 (lines:List tF) (x:Cv):Prop:=eN x.2.1∧∃ s∈lines,s.1=x.1∧v9 x.2.1≤v9 (opn s)
end Go.Md
namespace Go.Md
open Go.Dn
structure T9 (items:List Cu) (lines:List tF) (out:List Cv) (left:List Cu):Prop where
 ilen:items.length≤100
 iok:∀ y∈items,eN y.2.2
 llen:lines.length≤500
 lok:∀ y∈lines,eN (opn y)
 olen:out.length≤500
 ook:∀ x∈out,S5 lines x
 rlen:left.length≤100
 rok:∀ y∈left,eN y.2.2
 sum:IM items=IM left+TA out
end Go.Md
