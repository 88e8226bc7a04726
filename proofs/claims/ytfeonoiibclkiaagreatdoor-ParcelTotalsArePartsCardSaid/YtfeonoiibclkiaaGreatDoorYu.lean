/-
  Plain facts: masses and weights. No condition.
-/
import Derived.Test.YtfeonoiibclkiaaGreatDoorYt
import Derived.Test.YtfeonoiibclkiaaGreatDoorYn
import Derived.Test.YtfeonoiibclkiaaGreatDoorYr
import Derived.Test.YtfeonoiibclkiaaGreatDoorYq
set_option linter.all false
namespace Go.Md
open Go.Dn
end Go.Md
namespace Go.Md
open Go.Dn
structure QOk (d:ak):Prop where
 dec:cN d
 pl:d.2≤3
theorem Pc {d:ak} {z:Bool} (h:qOk d z=true):QOk d:=by
 unfold qOk at h
 rw[Sx] at h
 have h1:=h.1
 unfold inR at h1
 rw[U9] at h1
 exact⟨h1.1,h1.2.1⟩
structure RX (p:aa):Prop where
 t:QOk p.2.2.1
 n:p.2.2.2.length≤100
 c:∀ c∈p.2.2.2,QOk c.2.2.2
end Go.Md
namespace Go.Md
open Go.Dn
def pick (l:List aa) (L:List Nat):List aa:=L.filterMap fun i=>l[i]?
end Go.Md
namespace Go.Md
open Go.Dn
theorem Gj (a:aC) (hf:zX a) (h:cR a=0) (t:List UInt8):cZ a t true=some (if t=[]∨(dF (·.1) t a.2.2.2).isSome=true then 0 else 9,()):=by
 unfold cZ
 rw[kZ a hf,UT]
 dsimp only
 have hok:=fK h
 have:=hok.len
 obtain⟨q,h1,h2⟩:=gH a t (by omega) hok.asc
 rw[h,show ((0:Int) != 0)=false from rfl,U4,h1,UT]
 dsimp only
 cases (dF (fun x:aa=>x.1) t a.2.2.2).isSome with
 | true=>simp
 | false=>cases t<;>simp
theorem Kb {a:aC} (h:Fo a) {i T:Nat} (hi:i<a.2.2.2.length) {t:List UInt8} (ht:t≠[]) (hT:dF (·.1) t a.2.2.2=some T):gp a (i:Int) t=some (decide (T∈i::cq a.2.2.2 i),()):=by
 unfold gp
 have hy:a.2.2.2[i]? =some a.2.2.2[i]:=au hi
 have hlab:=KU h.asc hT hi
 rw[oI hy] at hlab
 rw[show (t==[])=false by cases t<;>simp_all,U4,bD,hy,UT,uR h hi hT,UT]
 by_cases e:a.2.2.2[i].1=t
 ·have:=hlab.1 e
  subst this
  rw[show (a.2.2.2[i].1==t)=true by simpa using e,U5]
  simp
 ·have hne:¬ i=T:=fun h=>e (hlab.2 h)
  rw[show (a.2.2.2[i].1==t)=false by simpa using e,U4]
  have hne':¬ T=i:=fun h=>hne h.symm
  simp[hne']
theorem D6 {l:List aX} (h:wF l=0):l.length≤100∧∀ c∈l,QOk c.2.2.2:=by
 unfold wF at h
 split at h
 ·omega
 rename_i h1
 refine⟨by omega,fun c hc=> ?_⟩
 obtain⟨i,hi⟩:=T3.1 hc
 have:=iC h i c hi
 unfold FG at this
 split at this
 ·omega
 split at this
 ·omega
 split at this
 ·omega
 split at this
 ·omega
 split at this
 ·rename_i hq;exact Pc hq
 ·omega
theorem QO {a:aC} (h:cR a=0):∀ p∈a.2.2.2,RX p:=by
 unfold cR at h
 split at h
 ·omega
 split at h
 ·omega
 split at h
 ·omega
 split at h
 ·omega
 split at h
 ·omega
 have h3:dR (kN a.2.2.2) 0 a.2.2.2=0:=by omega
 intro p hp
 obtain⟨i,hi⟩:=T3.1 hp
 have:=iC h3 i p hi
 unfold kN at this
 split at this
 ·omega
 split at this
 ·omega
 split at this
 ·omega
 rename_i hq
 have hc:=D6 this
 exact⟨Pc (z:=true) (by simpa using hq),hc.1,hc.2⟩
def wD (l:List aa) (t:List UInt8) (i:Nat):Bool:=if t=[] then true else match dF (·.1) t l with
 | some T=>decide (T∈i::cq l i)
 | none=>false
end Go.Md
set_option linter.all false
namespace Go.Md.SI
open Go.Dn Go.Md
section
variable {k:Int→Int} {ar:List pK} {ok:Int→Prop}
end
end Go.Md.SI
set_option linter.all false
namespace Go.Md.SP
open Go.Dn Go.Md
structure nL (k:Int→Int) (l l':List Int):Prop where
 perm:l.Perm l'
section
variable {k:Int→Int} {ar:List pK} {ok:Int→Prop}
end
end Go.Md.SP
namespace Go.Md
open Go.Dn
def v9 (d:ak):Int:=d.1*10 ^ ((9:Int) - d.2).toNat
theorem N7 {d:ak} (h:cN d):Le 24 (v9 d):=(Le.dec h).mul ((Le.pow (9 - d.2).toNat).mono (show (9 - d.2).toNat≤9 by have:=h.2;omega))
def opn (y:pK):ak:=y.2.2.2.2.2.2.2.2.2
end Go.Md
namespace Go.Md
open Go.Dn
end Go.Md
namespace Go.Md
open Go.Dn
def Low (os os':List Int):Prop:=os'.length=os.length∧∀ (i:Nat) (x y:Int),os[i]? =some x→os'[i]? =some y→0≤y∧y≤x
theorem Low.trans {a b c:List Int} (h:Low a b) (g:Low b c):Low a c:=by
 refine⟨g.1.trans h.1,fun i x y hx hy=> ?_⟩
 have hi:i<b.length:=by have:=(TC.1 hx).1;have:=h.1;omega
 have hb:b[i]? =some b[i]:=au hi
 have h1:=h.2 i x _ hx hb
 have h2:=g.2 i _ y hb hy
 omega
theorem Low.refl {a:List Int} (h:∀ x∈a,0≤x):Low a a:=by
 refine⟨rfl,fun i x y hx hy=> ?_⟩
 rw[hx] at hy;cases hy
 exact⟨h _ (T6 hx),SM _⟩
theorem Low.set {a:List Int} (h:∀ x∈a,0≤x) {k:Nat} {x z:Int} (hk:a[k]? =some x) (hz:0≤z) (hz':z≤x):Low a (a.set k z):=by
 refine⟨by simp,fun i u v hu hv=> ?_⟩
 by_cases e:k=i
 ·subst e
  rw[hk] at hu;cases hu
  rw[TH (TC.1 hk).1] at hv
  cases hv;exact⟨hz,hz'⟩
 ·rw[TG e,hu] at hv
  cases hv;exact⟨h _ (T6 hu),SM _⟩
theorem Low.le {k:Nat} {a b:List Int} (h:Low a b) (ha:∀ x∈a,Le k x):∀ x∈b,Le k x:=by
 intro x hx
 obtain⟨i,hi⟩:=T3.1 hx
 have hlt:i<a.length:=by have:=(TC.1 hi).1;have:=h.1;omega
 have h1:=h.2 i _ x (au hlt) hi
 have h2:=ha _ (TL hlt)
 unfold Le at*
 omega
end Go.Md
namespace Go.Md
open Go.Dn
end Go.Md
namespace Go.Md
open Go.Dn
def fH:List fh→Int
 | []=>0
 | x::r=>v9 x.2.2+fH r
theorem Ej:∀ (a b:List fh),fH (a++b)=fH a+fH b
 | [],b=>by simp[fH]
 | x::a,b=>by simp only[Td,fH,Ej a b];omega
theorem Py {l:List fh} {i:Nat} {y:fh} (h:l[i]? =some y):fH (l.take (i+1))=fH (l.take i)+v9 y.2.2:=by
 rw[List.take_add_one,h,Ej];simp[fH]
def qD (z:Int):ak:=((few 9 z).1,((few 9 z).2:Int))
theorem Pz (z:Int):v9 (qD z)=z:=by
 obtain⟨h1,h2,_⟩:=C8 9 z
 unfold v9 qD
 dsimp only
 rw[show ((9:Int) - ((few 9 z).2:Int)).toNat=9 - (few 9 z).2 by omega]
 exact h2
theorem Qh {z:Int} (h:(few 9 z).1.natAbs≤1000000000000000):cN (qD z):=by
 obtain⟨h1,_⟩:=C8 9 z
 exact⟨h,by unfold qD;dsimp only;omega,by unfold qD;dsimp only;omega⟩
theorem H6 {z:Int} (hz:Le 42 z):tW (W z)=some (if (few 9 z).1.natAbs≤1000000000000000 then (qD z,0,()) else ((0,0),1,())):=by
 unfold tW
 rw[show (9:Int)=((9:Nat):Int) from rfl,El z (hz.w (by omega)) 9 (by omega),UT]
 split<;>rfl
end Go.Md
namespace Go.Md
open Go.Dn
end Go.Md
namespace Go.Md
open Go.Dn
def RD:List zW→Int
 | []=>0
 | x::r=>v9 x.2.1+RD r
def Q8 (lines:List pK) (x:zW):Prop:=cN x.2.1∧∃ s∈lines,s.1=x.1∧v9 x.2.1≤v9 (opn s)
end Go.Md
namespace Go.Md
open Go.Dn
structure R9 (items:List fh) (lines:List pK) (out:List zW) (left:List fh):Prop where
 ilen:items.length≤100
 iok:∀ y∈items,cN y.2.2
 llen:lines.length≤500
 lok:∀ y∈lines,cN (opn y)
 olen:out.length≤500
 ook:∀ x∈out,Q8 lines x
 rlen:left.length≤100
 rok:∀ y∈left,cN y.2.2
 sum:fH items=fH left+RD out
theorem Lj {d:ak} (h:cN d):yt d=some (N (v9 d),()):=by
 unfold yt
 rw[Pg d 9 h h.2.2 (by omega)]
 rfl
def K24:Nat:=10 ^ 24
theorem Le.k24 {z:Int} (h:Le 24 z):z.natAbs≤K24:=h
theorem M7:∀ (l:List fh),(∀ x∈l,cN x.2.2)→(fH l).natAbs≤l.length*K24
 | [],_=>by simp[fH]
 | x::l,h=>by
  have h1:=M7 l fun y hy=>h y (TY _ hy)
  have h2:=(N7 (h x TZ)).k24
  simp only[fH,TN,Uq,UN]
  omega
end Go.Md
