/-
  Plain facts: the book of the reference. No condition.
-/
import Derived.Test.YtcpmaicaibdafaaGreatDoorZu
import Derived.Test.YtcpmaicaibdafaaGreatDoorZx
import Derived.Test.YtcpmaicaibdafaaGreatDoorZt
import Derived.Test.YtcpmaicaibdafaaGreatDoorZq
import Derived.Test.YtcpmaicaibdafaaGreatDoorZr
set_option linter.all false
set_option linter.all false
namespace Go.Md
open Go.Dn
structure afo (l:List aj) (P:Int→List aX) (x:az) (y:gQ):Prop where
 st:y.1=jO x
 wish:y.2.1=x.wish
 off0:x.ono=0→y.2.2.1= -1
 off1:x.ono≠0→∃ (j:Nat) (d:aj),y.2.2.1=(j:Int)∧l[j]? =some d∧dNo d=x.ono∧bV (dQ d)=x.oq∧sH d=x.ount∧ck d=7
 ev:y.2.2.2=P x.no
structure afl (l:List aj) (P:Int→List aX) (A:List az) (L:List gQ):Prop where
 len:L.length=(kF A).length
 rel:∀ (k:Nat) x y,(kF A)[k]? =some x→L[k]? =some y→afo l P x y
theorem afl.get {l:List aj} {P:Int→List aX} {A:List az} {L:List gQ} (h:afl l P A L) {k:Nat} {x:az} (hx:(kF A)[k]? =some x):∃ y,L[k]? =some y∧afo l P x y:=by
 have hlt:=(ahH.1 hx).1
 have:k<L.length:=by rw[h.len];exact hlt
 exact⟨_,ahF this,h.rel k x _ hx (ahF this)⟩
variable {o:av} {l:List aj} {A:List az} {L:List gQ} {ref:List ai} {P:Int→List aX}
end Go.Md
set_option linter.all false
namespace Go.Md
open Go.Dn
theorem bs {α β:Type} {e:Option α} {f:α→Option β} {r:α} {z:Option β} (h:e=some r) (h2:f r=z):Option.bind e f=z:=by rw[h];exact h2
end Go.Md
set_option linter.all false
namespace Go.Md
open Go.Dn
variable {o:av} {l:List aj} {A:List az} {L:List gQ} {ref:List ai} {P:Int→List aX}
end Go.Md
set_option linter.all false
namespace Go.Md
open Go.Dn
variable {o:av} {l:List aj} {A:List az} {L:List gQ} {ref:List ai} {P:Int→List aX}
end Go.Md
set_option linter.all false
namespace Go.Md
open Go.Dn
variable {o:av} {l:List aj} {A:List az} {L:List gQ} {ref:List ai} {P:Int→List aX}
end Go.Md
set_option linter.all false
namespace Go.Md
open Go.Dn
end Go.Md
set_option linter.all false
namespace Go.Md
open Go.Dn
end Go.Md
set_option linter.all false
namespace Go.Md
open Go.Dn
end Go.Md
set_option linter.all false
namespace Go.Md
open Go.Dn
theorem adr {l:List ai} (hl:l.length≤1000) (h:∀ d,d∈l→cA d):pX l=some (0,()):=by
 unfold pX
 have:∀ n,l.length<n→iter (X:=ki) (β:=nk) n (l,(l.length:Int),0,()) nj=some (Sum.inr ()):=by
  intro n hn
  refine bX (Inv:=fun i X=>X=((l,(l.length:Int),(i:Int),()):ki)) l.length (fun z=>z=some (Sum.inr ())) ?_ ?_ n 0 _ rfl (ai8 _) (by omega)
  ·rintro i X again hi rfl hag
   unfold nj
   dsimp only
   have hy:l[i]? =some l[i]:=ahF hi
   rw[ajr (show (i:Int)<(l.length:Int) by omega),ajo,gX hy,ajb,gu,ajz (h _ (aie hy)),ajb]
   dsimp only
   rw[zne,ajn,aC (n:=(i:Int)+1) (by omega) (by omega)]
   exact hag _ rfl
  ·rintro X again rfl
   unfold nj
   dsimp only
   rw[ajq (show ¬(l.length:Int)<(l.length:Int) by omega),ajn]
 rw[this _ (by omega),aS]
def jW (l:List ai):Int:=l.foldl (fun m d=>if d.2>m then d.2 else m) 0
theorem acD (l:List ai) (d:ai):jW (l++[d])=if d.2>jW l then d.2 else jW l:=by unfold jW;rw[List.foldl_append];rfl
theorem adA (l:List ai):∀ m:Int,m≤l.foldl (fun m d=>if d.2>m then d.2 else m) m∧(∀ d,d∈l→d.2≤l.foldl (fun m d=>if d.2>m then d.2 else m) m)∧(m≤9→(∀ d,d∈l→d.2≤9)→l.foldl (fun m d=>if d.2>m then d.2 else m) m≤9):=by
 induction l with
 | nil=>intro m;exact⟨agV _,fun d hd=>(nomatch hd),fun h _=>h⟩
 | cons a l ih=>
  intro m
  rw[List.foldl_cons]
  obtain⟨h1,h2,h3⟩:=ih (if a.2>m then a.2 else m)
  have hm:m≤(if a.2>m then a.2 else m)∧a.2≤(if a.2>m then a.2 else m):=by split<;>omega
  refine⟨by omega,fun d hd=> ?_,fun h h'=>h3 (by have:=h' a (by simp);split<;>omega) fun d hd=>h' d (by simp[hd])⟩
  rcases ah7.1 hd with rfl | hd
  ·omega
  ·exact h2 d hd
def rf (p:Int) (l:List ai):Int:=l.foldl (fun s d=>s+d.1*10 ^ (p - d.2).toNat) 0
theorem adf (p:Int) (l:List ai) (d:ai):rf p (l++[d])=rf p l+d.1*10 ^ (p - d.2).toNat:=by unfold rf;rw[List.foldl_append];rfl
theorem aao {d:ai} {p:Int} (hd:cA d) (hp:p≤9):(d.1*10 ^ (p - d.2).toNat).natAbs≤1000000000000000*1000000000:=by
 have h1:=hd.1;have h2:=hd.2
 rw[ag0,ag3]
 refine ai0 h1 ?_
 have:=ai5 (n:=(10:Int).natAbs) (by decide) (show (p - d.2).toNat≤9 by omega)
 exact aiO this (by decide)
theorem afi {p:Int} (hp:p≤9) (l:List ai) (hl:∀ d,d∈l→cA d):(rf p l).natAbs≤l.length*(1000000000000000*1000000000):=by
 suffices ∀ (l:List ai) (s:Int),(∀ d,d∈l→cA d)→(l.foldl (fun s d=>s+d.1*10 ^ (p - d.2).toNat) s).natAbs≤s.natAbs+l.length*(1000000000000000*1000000000) by
  have:=this l 0 hl
  unfold rf;simpa using this
 intro l
 induction l with
 | nil=>intro s _;simp
 | cons a l ih=>
  intro s h
  rw[List.foldl_cons,ahT]
  have h1:=ih (s+a.1*10 ^ (p - a.2).toNat) fun d hd=>h d (by simp[hd])
  have h2:=aao (p:=p) (h a (by simp)) hp
  have h3:=Int.natAbs_add_le s (a.1*10 ^ (p - a.2).toNat)
  omega
def Yp (l:List ai):ai×Int:=if (rf (jW l) l).natAbs≤1000000000000000 then ((rf (jW l) l,jW l),0) else ((0,0),1)
theorem aeZ {p:Int} (hp:p≤9) (l:List ai) (hn:l.length≤500) (hl:∀ d,d∈l→cA d):Le 30 (rf p l):=by
 have:=afi hp l hl
 unfold Le
 have h2:l.length*(1000000000000000*1000000000)≤500*(1000000000000000*1000000000):=ai1 _ hn
 have h3:500*(1000000000000000*1000000000)≤10 ^ 30:=by decide
 omega
end Go.Md
set_option linter.all false
namespace Go.Md
open Go.Dn
theorem LY {l:List ai} (hl:l.length≤500) (h:∀ d,d∈l→cA d):zq l=some ((Yp l).1,(Yp l).2,()):=by
 unfold zq Yp
 rw[ajq (show ¬(l.length:Int)>1000 by omega),ajn,adr (by omega) h,ajb]
 dsimp only
 rw[zne,ajn]
 obtain⟨f1,f2,f3⟩:=adA l 0
 have f3:=f3 (by omega) fun d hd=>(h d hd).2.2
 change 0≤jW l at f1
 change ∀ d,d∈l→d.2≤jW l at f2
 change jW l≤9 at f3
 have loop1:∀ n,l.length<n→iter (X:=wD) (β:=AX) n (l,0,l,(l.length:Int),0,0,0,()) AW=some (Sum.inr (l,jW l,0,0,())):=by
  intro n hn
  refine bX (Inv:=fun i X=>X=((l,jW (l.take i),l,(l.length:Int),(i:Int),0,0,()):wD)) l.length (fun z=>z=some (Sum.inr (l,jW l,0,0,()))) ?_ ?_ n 0 _ rfl (ai8 _) (by omega)
  ·rintro i X again hi rfl hag
   unfold AW
   dsimp only
   have hy:l[i]? =some l[i]:=ahF hi
   rw[ajr (show (i:Int)<(l.length:Int) by omega),ajo,gX hy,ajb,aC (n:=(i:Int)+1) (by omega) (by omega), ← acD, ← F8 hy]
   exact hag _ rfl
  ·rintro X again rfl
   unfold AW
   dsimp only
   rw[ajq (show ¬(l.length:Int)<(l.length:Int) by omega),ajn,List.take_length]
 have loop2:∀ n,l.length<n→iter (X:=uD) (β:=zw) n (jW l,l,(l.length:Int),0,0,0,(W 0).1,(W 0).2,()) zu=some (Sum.inr (jW l,0,0,(W (rf (jW l) l)).1,(W (rf (jW l) l)).2,())):=by
  intro n hn
  refine bX (Inv:=fun i X=>X=((jW l,l,(l.length:Int),(i:Int),0,0,(W (rf (jW l) (l.take i))).1,(W (rf (jW l) (l.take i))).2,()):uD)) l.length (fun z=>z=some (Sum.inr (jW l,0,0,(W (rf (jW l) l)).1,(W (rf (jW l) l)).2,()))) ?_ ?_ n 0 _ rfl (ai8 _) (by omega)
  ·rintro i X again hi rfl hag
   unfold zu
   dsimp only
   have hy:l[i]? =some l[i]:=ahF hi
   have hm:=aie hy
   have hd:=h _ hm
   have h1:=hd.1;have h2:=hd.2;have h3:=f2 _ hm
   rw[ajr (show (i:Int)<(l.length:Int) by omega),ajo,gX hy,ajb,vq _ _ (by omega) (by omega) (by omega) (by omega) ⟨by omega,by omega⟩,ajb]
   have e:=cO (rf (jW l) (l.take i)) (l[i].1*10 ^ (jW l - l[i].2).toNat) ((aeZ f3 (l.take i) (by rw[ahZ];omega) fun d hd=>h d (aif hd)).w (by omega)) (Le.w (k:=30) (by
    have:=aao (p:=jW l) hd f3
    unfold Le
    have h3:1000000000000000*1000000000≤10 ^ 30:=by decide
    omega) (by omega))
   rw[show (((W (rf (jW l) (l.take i))).1,(W (rf (jW l) (l.take i))).2):aa)=W (rf (jW l) (l.take i)) from rfl,e,ajb,aC (n:=(i:Int)+1) (by omega) (by omega), ← adf, ← F8 hy]
   exact hag _ rfl
  ·rintro X again rfl
   unfold zu
   dsimp only
   rw[ajq (show ¬(l.length:Int)<(l.length:Int) by omega),ajn,List.take_length]
 rw[loop1 _ (by omega),aS]
 dsimp only
 rw[di 0 (by omega) (by omega),ajb]
 dsimp only
 rw[loop2 _ (by omega),aS]
 dsimp only
 rw[show (((W (rf (jW l) l)).1,(W (rf (jW l) l)).2):aa)=W (rf (jW l) l) from rfl,zo,ajb]
 split<;>rfl
end Go.Md
set_option linter.all false
namespace Go.Md
open Go.Dn
end Go.Md
set_option linter.all false
namespace Go.Md
open Go.Dn
variable {l:List aj} {A:List az}
end Go.Md
