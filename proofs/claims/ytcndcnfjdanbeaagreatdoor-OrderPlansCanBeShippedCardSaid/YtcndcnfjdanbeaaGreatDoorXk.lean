/-
  Plain facts: the book of the reference; the plain law is true of all data. No condition.
-/
import Derived.Test.YtcndcnfjdanbeaaGreatDoorXu
import Derived.Test.YtcndcnfjdanbeaaGreatDoorXx
import Derived.Test.YtcndcnfjdanbeaaGreatDoorXt
import Derived.Test.YtcndcnfjdanbeaaGreatDoorXq
import Derived.Test.YtcndcnfjdanbeaaGreatDoorXr
set_option linter.all false
set_option linter.all false
namespace Go.Md
open Go.Dn
structure US (l:List aa) (P:Int→List au) (x:ai) (y:dz):Prop where
 st:y.1=DZ x
 wish:y.2.1=x.wish
 off0:x.ono=0→y.2.2.1= -1
 off1:x.ono≠0→∃ (j:Nat) (d:aa),y.2.2.1=(j:Int)∧l[j]? =some d∧dNo d=x.ono∧aU (dQ d)=x.oq∧jO d=x.ount∧aV d=7
 ev:y.2.2.2=P x.no
structure NN (l:List aa) (P:Int→List au) (A:List ai) (L:List dz):Prop where
 len:L.length=(fJ A).length
 rel:∀ (k:Nat) x y,(fJ A)[k]? =some x→L[k]? =some y→US l P x y
theorem NN.get {l:List aa} {P:Int→List au} {A:List ai} {L:List dz} (h:NN l P A L) {k:Nat} {x:ai} (hx:(fJ A)[k]? =some x):∃ y,L[k]? =some y∧US l P x y:=by
 have hlt:=(WX.1 hx).1
 have:k<L.length:=by rw[h.len];exact hlt
 exact⟨_,WV this,h.rel k x _ hx (WV this)⟩
variable {o:aj} {l:List aa} {A:List ai} {L:List dz} {ref:List ah} {P:Int→List au}
end Go.Md
set_option linter.all false
namespace Go.Md
open Go.Dn
theorem bs {α β:Type} {e:Option α} {f:α→Option β} {r:α} {z:Option β} (h:e=some r) (h2:f r=z):Option.bind e f=z:=by rw[h];exact h2
end Go.Md
set_option linter.all false
namespace Go.Md
open Go.Dn
variable {o:aj} {l:List aa} {A:List ai} {L:List dz} {ref:List ah} {P:Int→List au}
end Go.Md
set_option linter.all false
namespace Go.Md
open Go.Dn
variable {o:aj} {l:List aa} {A:List ai} {L:List dz} {ref:List ah} {P:Int→List au}
end Go.Md
set_option linter.all false
namespace Go.Md
open Go.Dn
variable {o:aj} {l:List aa} {A:List ai} {L:List dz} {ref:List ah} {P:Int→List au}
end Go.Md
set_option linter.all false
namespace Go.Md
open Go.Dn
end Go.Md
set_option linter.all false
namespace Go.Md
open Go.Dn
end Go.Md
set_option linter.all false
namespace Go.Md
open Go.Dn
def Bj {α:Type} (k:α→Int) (v:Int):List α→Nat
 | []=>0
 | y::r=>if v<k y then Bj k v r else r.length+1
theorem L7 {α:Type} (k:α→Int) (v:Int):∀ r:List α,Bj k v r≤r.length
 | []=>XZ _
 | y::r=>by
  have:=L7 k v r
  simp only[Bj,Xe]
  split<;>omega
theorem KU {α:Type} (k:α→Int) (v:Int):∀ r:List α,(∀ y,y∈r.take (r.length - Bj k v r)→v<k y)∧(r.Pairwise (fun a b=>k b≤k a)→∀ y,y∈r.drop (r.length - Bj k v r)→k y≤v)
 | []=>⟨fun y hy=>by simp at hy,fun _ y hy=>by simp at hy⟩
 | x::r=>by
  obtain⟨h1,h2⟩:=KU k v r
  have hle:=L7 k v r
  simp only[Bj,Xe]
  split
  ·rename_i c
   rw[show r.length+1 - Bj k v r=(r.length - Bj k v r)+1 by omega]
   refine⟨fun y hy=> ?_,fun hp y hy=> ?_⟩
   ·rw[List.take_succ_cons] at hy
    rcases Xp.1 hy with rfl | hy
    ·exact c
    ·exact h1 y hy
   ·rw[List.drop_succ_cons] at hy
    exact h2 (XC.1 hp).2 y hy
  ·rename_i c
   rw[Nat.sub_self]
   refine⟨fun y hy=>by simp at hy,fun hp y hy=> ?_⟩
   rw[WH] at hy
   rcases Xp.1 hy with rfl | hy
   ·omega
   ·have:=(XC.1 hp).1 y hy;omega
def QO {α:Type} (k:α→Int) (x:α) (out:List α):List α:=out.take (Bj k (k x) out.reverse)++x::out.drop (Bj k (k x) out.reverse)
theorem Tj {α:Type} {k:α→Int} {x:α} {out:List α} (h:Srt k out):Srt k (QO k x out)∧bn k (out++[x]) (QO k x out):=by
 obtain⟨h1,h2⟩:=KU k (k x) out.reverse
 have hle:=L7 k (k x) out.reverse
 have h2:=h2 (by rw[List.pairwise_reverse];exact h)
 unfold QO
 generalize Bj k (k x) out.reverse=p at h1 h2 hle
 rw[List.length_reverse] at h1 h2 hle
 have e1:∀ y,y∈out.take p→k y≤k x:=fun y hy=>h2 y (by
  rw[List.drop_reverse,show out.length - (out.length - p)=p by omega]
  simpa using hy)
 have e2:∀ y,y∈out.drop p→k x<k y:=fun y hy=>h1 y (by
  rw[List.take_reverse,show out.length - (out.length - p)=p by omega]
  simpa using hy)
 have hs:Srt k (out.take p++out.drop p):=by rw[XL];exact h
 refine⟨?_, ?_⟩
 ·refine Srt.append hs.left (XC.2 ⟨fun y hy=>Int.le_of_lt (e2 y hy),hs.right⟩) fun a ha b hb=> ?_
  rcases Xp.1 hb with rfl | hb
  ·exact e1 a ha
  ·exact hs.Ef a ha b hb
 ·have:bn k (out.take p++(out.drop p++[x])) (out.take p++([x]++out.drop p)):=(bn.refl k _).append (bn.swap fun a ha b hb=>by
   simp only[Xz] at hb;subst hb
   have:=e2 a ha;omega)
  rw[← Wy,XL] at this
  exact this
def Kx {α:Type} (k:α→Int) (l out:List α):List α:=l.foldl (fun out x=>QO k x out) out
theorem QN {α:Type} {k:α→Int} (l:List α):∀ {out:List α},Srt k out→Srt k (Kx k l out)∧bn k (out++l) (Kx k l out):=by
 unfold Kx
 induction l with
 | nil=>intro out h;rw[Wz];exact⟨h,bn.refl _ _⟩
 | cons x l ih=>
  intro out h
  obtain⟨h1,h2⟩:=Tj (x:=x) h
  obtain⟨h3,h4⟩:=ih h1
  refine⟨h3, ?_⟩
  have:=(h2.append (bn.refl k l)).trans h4
  rw[Wy] at this
  exact this
theorem Srt.OA {α β:Type} {k:β→Int} {f:α→β} {l:List α} (h:Srt (fun x=>k (f x)) l):Srt k (l.map f):=by
 unfold Srt
 rw[XE];exact h
theorem bn.OA {α β:Type} {k:β→Int} {f:α→β} {l l':List α} (h:bn (fun x=>k (f x)) l l'):bn k (l.map f) (l'.map f):=
 ⟨h.perm.map f,fun v=>by
   rw[List.filter_map,List.filter_map]
   exact congrArg (List.map f) (h.keys v)⟩
end Go.Md
set_option linter.all false
namespace Go.Md
open Go.Dn
end Go.Md
set_option linter.all false
namespace Go.Md
open Go.Dn
end Go.Md
set_option linter.all false
namespace Go.Md
open Go.Dn
end Go.Md
set_option linter.all false
namespace Go.Md
open Go.Dn
variable {l:List aa} {A:List ai}
end Go.Md
