/-
  Plain facts: masses and weights. No condition.
-/
import Derived.Test.YtfghdjdpccoleabGreatDoorYt
import Derived.Test.YtfghdjdpccoleabGreatDoorYn
import Derived.Test.YtfghdjdpccoleabGreatDoorYr
import Derived.Test.YtfghdjdpccoleabGreatDoorYq
set_option linter.all false
namespace Go.Md
open Go.Dn
end Go.Md
namespace Go.Md
open Go.Dn
structure QOk (d:ax):Prop where
 dec:cc d
 pl:d.2<=3
theorem abE {d:ax} {z:Bool} (h:qOk d z=true):QOk d:=by
 unfold qOk at h
 rw[afv] at h
 have h1:=h.1
 unfold inR at h1
 rw[ait] at h1
 exact⟨h1.1,h1.2.1⟩
structure afe (p:ak):Prop where
 t:QOk p.2.2.1
 n:p.2.2.2.length<=100
 c:∀ c∈p.2.2.2,QOk c.2.2.2
end Go.Md
namespace Go.Md
open Go.Dn
def pick (l:List ak) (L:List Nat):List ak:=L.filterMap fun i=>l[i]?
theorem Pj (z:Int) (hz:Le 300 z):CN (N z)=some (if (few 9 z).1.natAbs<=1000000000000000 then (((few 9 z).1,((few 9 z).2:Int)),0,()) else ((0,0),1,())):=by
 unfold CN
 have loop:∀ (p f:Nat) (y:Int),p<f->p<=9->Le 300 y->iter f (((p:Int),(N y).1,(N y).2,(0:Int),(0:Int),()):Dl) vk=some (Sum.inr (((few p y).2:Int),(N (few p y).1).1,(N (few p y).1).2,0,0,())):=by
  intro p
  induction p with
  | zero=>
   intro f y hf _ hy
   obtain⟨f,rfl⟩:∃ g,f=g+1:=⟨f - 1,by omega⟩
   rfl
  | succ p ih=>
   intro f y hf hp hy
   obtain⟨f,rfl⟩:∃ g,f=g+1:=⟨f - 1,by omega⟩
   show vk _ (fun y=>iter f y vk)=_
   generalize hag:(fun y=>iter f y vk)=again
   unfold vk
   dsimp only
   have e0:(false,(N y).2)=N (y.natAbs:Int):=by rw[Zy];rfl
   have h10:Le 2 ((10:Nat):Int):=by unfold Le;decide
   rw[av (by omega),uq 10 (by omega) (by omega),aib]
   dsimp only
   rw[e0,show (N 10)=N ((10:Nat):Int) from rfl,XF y.natAbs 10 (by omega) ((Le.nat (k:=300) hy).mono (by omega)) (h10.mono (by omega)),aib]
   dsimp only
   rw[BR,aib]
   dsimp only
   by_cases hm:y % 10=0
   ·have hd:y.natAbs % 10=0:=by omega
    rw[hd,show ((Int.sign ((0:Nat):Int)) != 0)=false from rfl,ain]
    have hf':few (p+1) y=few p (y / 10):=by rw[few,aiB hm]
    rw[hf']
    have hyd:Le 300 (y / 10):=by unfold Le at *;omega
    have hih:=ih f (y / 10) (by omega) (by omega) hyd
    have e2:(N ((y.natAbs / 10:Nat):Int)).2=(N (y / 10)).2:=by
     show dg6 _=dg6 _
     congr 1;omega
    rw[au (by omega) (by omega),show ((p+1:Nat):Int) - 1=(p:Int) by omega,e2]
    by_cases hn:y<0
    ·rw[show (N y).1=true from ais hn,aio,BR,aib]
     dsimp only
     have e3:((Int.sign ((y.natAbs / 10:Nat):Int)) != 0)=(N (y / 10)).1:=by
      show _=decide (y / 10<0)
      rw[ais (by omega)]
      rw[afV (by omega)];rfl
     rw[e3, <- hag]
     exact hih
    ·rw[show (N y).1=false from aiq hn,ain]
     have e3:(N (y / 10)).1=false:=aiq (by omega)
     rw[<- hag]
     rw[e3] at hih
     exact hih
   ·have hd:¬ y.natAbs % 10=0:=by omega
    have hs:((Int.sign ((y.natAbs % 10:Nat):Int)) != 0)=true:=by
     rw[afV (by omega)];rfl
    rw[hs,aio]
    have hf':few (p+1) y=(y,p+1):=by rw[few,aiA hm]
    rw[hf']
 have h9:=loop 9 (Int.natAbs (9:Int)+(List.length (N z).2+(Int.natAbs (0:Int)+(Int.natAbs (0:Int)+2)))) z (by omega) (by omega) hz
 rw[show ((9:Nat):Int)=9 from rfl] at h9
 rw[h9,az]
 dsimp only
 have hfz:Le 300 (few 9 z).1:=ahK (I9 9 z).2.2 hz
 rw[show ((N (few 9 z).1).1,(N (few 9 z).1).2)=N (few 9 z).1 from rfl,YJ _ _ (by omega) (by omega) (hfz.mono (by omega)),aib]
 by_cases h:((few 9 z).1.natAbs:Int)<=1000000000000000
 ·rw[aiB h,aiB (by omega)];rfl
 ·rw[aiA h,aiA (by omega)];rfl
end Go.Md
namespace Go.Md
open Go.Dn
theorem Ya {l:List aa} (h:aX l=0):l.length<=100/\∀ c∈l,QOk c.2.2.2:=by
 unfold aX at h
 split at h
 ·omega
 rename_i h1
 refine⟨by omega,fun c hc=> ?_⟩
 obtain⟨i,hi⟩:=ag8.1 hc
 have:=gF h i c hi
 unfold E6 at this
 split at this
 ·omega
 split at this
 ·omega
 split at this
 ·omega
 split at this
 ·omega
 split at this
 ·rename_i hq;exact abE hq
 ·omega
end Go.Md
set_option linter.all false
namespace Go.Md.SI
open Go.Dn Go.Md
section
variable {k:Int->Int} {ar:List yR} {ok:Int->Prop}
end
end Go.Md.SI
set_option linter.all false
namespace Go.Md.SP
open Go.Dn Go.Md
structure bK (k:Int->Int) (l l':List Int):Prop where
 perm:l.Perm l'
section
variable {k:Int->Int} {ar:List yR} {ok:Int->Prop}
theorem bK.refl (k:Int->Int) (l:List Int):bK k l l:=⟨List.Perm.refl _⟩
theorem bK.trans {a b c:List Int} (h:bK k a b) (g:bK k b c):bK k a c:=⟨h.perm.trans g.perm⟩
theorem bK.append {a b c d:List Int} (h:bK k a b) (g:bK k c d):bK k (a++c) (b++d):=⟨h.perm.append g.perm⟩
theorem bK.mem {a b:List Int} (h:bK k a b) {x:Int}:x∈b↔x∈a:=h.perm.mem_iff.symm
theorem bK.length {a b:List Int} (h:bK k a b):b.length=a.length:=h.perm.length_eq.symm
theorem bK.swap {u v:List Int}:bK k (u++v) (v++u):=⟨List.perm_append_comm⟩
def Srt (_:Int->Int) (_:List Int):Prop:=True
theorem Srt.left {a b:List Int} (_:Srt k (a++b)):Srt k a:=trivial
theorem Srt.right {a b:List Int} (_:Srt k (a++b)):Srt k b:=trivial
def ChS (_:Int->Int) (_:Nat) (_:List Int):Prop:=True
theorem ChS.nil (k:Int->Int) (n:Nat):ChS k n []:=trivial
theorem Qp {P2 P3:List Int} {x:Int}:Srt k (P2++x::P3)/\bK k (P2++P3++[x]) (P2++x::P3):=by
 refine⟨trivial, ?_⟩
 rw[af3]
 exact (bK.refl k P2).append (by simpa using bK.swap (k:=k) (u:=P3) (v:=[x]))
end
end Go.Md.SP
namespace Go.Md
open Go.Dn
def v9 (d:ax):Int:=d.1*10 ^ ((9:Int) - d.2).toNat
theorem A6 {d:ax} (h:cc d):rK d=some (W (v9 d),()):=by
 unfold rK
 have h1:=h.1;have h2:=h.2
 rw[FD d 9 (by omega) (by omega) (by omega) (by omega) (by omega),aib]
 rfl
theorem Ot {d:ax} (h:cc d):Le 24 (v9 d):=(Le.dec h).mul ((Le.pow (9 - d.2).toNat).mono (show (9 - d.2).toNat<=9 by have:=h.2;omega))
def opn (y:yR):ax:=y.2.2.2.2.2.2.2.2.2
end Go.Md
namespace Go.Md
open Go.Dn
end Go.Md
namespace Go.Md
open Go.Dn
def Low (os os':List Int):Prop:=os'.length=os.length/\∀ (i:Nat) (x y:Int),os[i]? =some x->os'[i]? =some y->0<=y/\y<=x
theorem Low.trans {a b c:List Int} (h:Low a b) (g:Low b c):Low a c:=by
 refine⟨g.1.trans h.1,fun i x y hx hy=> ?_⟩
 have hi:i<b.length:=by have:=(agB.1 hx).1;have:=h.1;omega
 have hb:b[i]? =some b[i]:=aD hi
 have h1:=h.2 i x _ hx hb
 have h2:=g.2 i _ y hb hy
 omega
theorem Low.refl {a:List Int} (h:∀ x∈a,0<=x):Low a a:=by
 refine⟨rfl,fun i x y hx hy=> ?_⟩
 rw[hx] at hy;cases hy
 exact⟨h _ (aha hx),afL _⟩
theorem Low.set {a:List Int} (h:∀ x∈a,0<=x) {k:Nat} {x z:Int} (hk:a[k]? =some x) (hz:0<=z) (hz':z<=x):Low a (a.set k z):=by
 refine⟨by simp,fun i u v hu hv=> ?_⟩
 by_cases e:k=i
 ·subst e
  rw[hk] at hu;cases hu
  rw[agH (agB.1 hk).1] at hv
  cases hv;exact⟨hz,hz'⟩
 ·rw[agG e,hu] at hv
  cases hv;exact⟨h _ (aha hu),afL _⟩
theorem Low.le {k:Nat} {a b:List Int} (h:Low a b) (ha:∀ x∈a,Le k x):∀ x∈b,Le k x:=by
 intro x hx
 obtain⟨i,hi⟩:=ag8.1 hx
 have hlt:i<a.length:=by have:=(agB.1 hi).1;have:=h.1;omega
 have h1:=h.2 i _ x (aD hlt) hi
 have h2:=ha _ (agL hlt)
 unfold Le at*
 omega
end Go.Md
namespace Go.Md
open Go.Dn
end Go.Md
namespace Go.Md
open Go.Dn
def acT:List JS->Int
 | []=>0
 | x::r=>v9 x.2.2+acT r
def nN (z:Int):ax:=((few 9 z).1,((few 9 z).2:Int))
theorem Jj {z:Int} (hz:Le 42 z):ze (W z)=some (if (few 9 z).1.natAbs<=1000000000000000 then (nN z,0,()) else ((0,0),1,())):=by
 unfold ze
 rw[show (9:Int)=((9:Nat):Int) from rfl,PD z (hz.w (by omega)) 9 (by omega),aib]
 split<;>rfl
end Go.Md
namespace Go.Md
open Go.Dn
end Go.Md
namespace Go.Md
open Go.Dn
def aez:List JT->Int
 | []=>0
 | x::r=>v9 x.2.1+aez r
def adY (lines:List yR) (x:JT):Prop:=cc x.2.1/\∃ s∈lines,s.1=x.1/\v9 x.2.1<=v9 (opn s)
end Go.Md
namespace Go.Md
open Go.Dn
structure ae9 (items:List JS) (lines:List yR) (out:List JT) (left:List JS):Prop where
 ilen:items.length<=100
 iok:∀ y∈items,cc y.2.2
 llen:lines.length<=500
 lok:∀ y∈lines,cc (opn y)
 olen:out.length<=500
 ook:∀ x∈out,adY lines x
 rlen:left.length<=100
 rok:∀ y∈left,cc y.2.2
 sum:acT items=acT left+aez out
theorem xe {d:ax} (h:cc d):iO d=some (N (v9 d),()):=by
 unfold iO
 rw[abJ d 9 h h.2.2 (by omega)]
 rfl
end Go.Md
