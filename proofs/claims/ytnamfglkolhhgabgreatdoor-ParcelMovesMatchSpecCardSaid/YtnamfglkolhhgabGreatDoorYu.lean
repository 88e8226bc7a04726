/-
  Plain facts: masses and weights. No condition.
-/
import Derived.Test.YtnamfglkolhhgabGreatDoorYt
import Derived.Test.YtnamfglkolhhgabGreatDoorYn
import Derived.Test.YtnamfglkolhhgabGreatDoorYr
import Derived.Test.YtnamfglkolhhgabGreatDoorYq
set_option linter.all false
namespace Go.Md
open Go.Dn
end Go.Md
namespace Go.Md
open Go.Dn
structure QOk (d:ai):Prop where
 dec:cK d
 pl:d.2≤3
theorem VZ {d:ai} {z:Bool} (h:qOk d z=true):QOk d:=by
 unfold qOk at h
 rw[Zd] at h
 have h1:=h.1
 unfold inR at h1
 rw[abG] at h1
 exact⟨h1.1,h1.2.1⟩
structure Wi (p:aa):Prop where
 t:QOk p.2.2.1
 n:p.2.2.2.length≤100
 c:∀ c∈p.2.2.2,QOk c.2.2.2
end Go.Md
namespace Go.Md
open Go.Dn
def pick (l:List aa) (L:List Nat):List aa:=L.filterMap fun i=>l[i]?
end Go.Md
namespace Go.Md
open Go.Dn
theorem RT {l:List ah} (h:eY l=0):l.length≤100∧∀ c∈l,QOk c.2.2.2:=by
 unfold eY at h
 split at h
 ·omega
 rename_i h1
 refine⟨by omega,fun c hc=> ?_⟩
 obtain⟨i,hi⟩:=aaA.1 hc
 have:=dO h i c hi
 unfold wR at this
 split at this
 ·omega
 split at this
 ·omega
 split at this
 ·omega
 split at this
 ·omega
 split at this
 ·rename_i hq;exact VZ hq
 ·omega
theorem uj {a:an} (h:bV a=0):∀ p∈a.2.2.2,Wi p:=by
 unfold bV at h
 split at h
 ·omega
 split at h
 ·omega
 split at h
 ·omega
 split at h
 ·omega
 split at h
 ·omega
 have h3:bS (gN a.2.2.2) 0 a.2.2.2=0:=by omega
 intro p hp
 obtain⟨i,hi⟩:=aaA.1 hp
 have:=dO h3 i p hi
 unfold gN at this
 split at this
 ·omega
 split at this
 ·omega
 split at this
 ·omega
 rename_i hq
 have hc:=RT this
 exact⟨VZ (z:=true) (by simpa using hq),hc.1,hc.2⟩
end Go.Md
set_option linter.all false
namespace Go.Md.SI
open Go.Dn Go.Md
section
variable {k:Int→Int} {ar:List rQ} {ok:Int→Prop}
end
end Go.Md.SI
set_option linter.all false
namespace Go.Md.SP
open Go.Dn Go.Md
structure tq (k:Int→Int) (l l':List Int):Prop where
 perm:l.Perm l'
section
variable {k:Int→Int} {ar:List rQ} {ok:Int→Prop}
end
end Go.Md.SP
namespace Go.Md
open Go.Dn
def v9 (d:ai):Int:=d.1*10 ^ ((9:Int) - d.2).toNat
def opn (y:rQ):ai:=y.2.2.2.2.2.2.2.2.2
end Go.Md
namespace Go.Md
open Go.Dn
end Go.Md
namespace Go.Md
open Go.Dn
def Low (os os':List Int):Prop:=os'.length=os.length∧∀ (i:Nat) (x y:Int),os[i]? =some x→os'[i]? =some y→0≤y∧y≤x
theorem Low.trans {a b c:List Int} (h:Low a b) (g:Low b c):Low a c:=by
 refine⟨g.1.trans h.1,fun i x y hx hy=> ?_⟩
 have hi:i<b.length:=by have:=(Z6.1 hx).1;have:=h.1;omega
 have hb:b[i]? =some b[i]:=aJ hi
 have h1:=h.2 i x _ hx hb
 have h2:=g.2 i _ y hb hy
 omega
theorem Low.refl {a:List Int} (h:∀ x∈a,0≤x):Low a a:=by
 refine⟨rfl,fun i x y hx hy=> ?_⟩
 rw[hx] at hy;cases hy
 exact⟨h _ (aaC hx),Zt _⟩
theorem Low.set {a:List Int} (h:∀ x∈a,0≤x) {k:Nat} {x z:Int} (hk:a[k]? =some x) (hz:0≤z) (hz':z≤x):Low a (a.set k z):=by
 refine⟨by simp,fun i u v hu hv=> ?_⟩
 by_cases e:k=i
 ·subst e
  rw[hk] at hu;cases hu
  rw[aab (Z6.1 hk).1] at hv
  cases hv;exact⟨hz,hz'⟩
 ·rw[aaa e,hu] at hv
  cases hv;exact⟨h _ (aaC hu),Zt _⟩
theorem Low.le {k:Nat} {a b:List Int} (h:Low a b) (ha:∀ x∈a,Le k x):∀ x∈b,Le k x:=by
 intro x hx
 obtain⟨i,hi⟩:=aaA.1 hx
 have hlt:i<a.length:=by have:=(Z6.1 hi).1;have:=h.1;omega
 have h1:=h.2 i _ x (aJ hlt) hi
 have h2:=ha _ (aaf hlt)
 unfold Le at*
 omega
end Go.Md
namespace Go.Md
open Go.Dn
end Go.Md
namespace Go.Md
open Go.Dn
def W4:List Di→Int
 | []=>0
 | x::r=>v9 x.2.2+W4 r
end Go.Md
namespace Go.Md
open Go.Dn
end Go.Md
namespace Go.Md
open Go.Dn
def Yt:List Dj→Int
 | []=>0
 | x::r=>v9 x.2.1+Yt r
def X3 (lines:List rQ) (x:Dj):Prop:=cK x.2.1∧∃ s∈lines,s.1=x.1∧v9 x.2.1≤v9 (opn s)
end Go.Md
namespace Go.Md
open Go.Dn
structure YT (items:List Di) (lines:List rQ) (out:List Dj) (left:List Di):Prop where
 ilen:items.length≤100
 iok:∀ y∈items,cK y.2.2
 llen:lines.length≤500
 lok:∀ y∈lines,cK (opn y)
 olen:out.length≤500
 ook:∀ x∈out,X3 lines x
 rlen:left.length≤100
 rok:∀ y∈left,cK y.2.2
 sum:W4 items=W4 left+Yt out
end Go.Md
