/-
  Plain facts: what is due. No condition.
-/
import Derived.Test.YtcpmaicaibdafaaGreatDoorZx
import Derived.Test.YtcpmaicaibdafaaGreatDoorZq
import Derived.Test.YtcpmaicaibdafaaGreatDoorZk
set_option linter.all false
set_option linter.all false
namespace Go.Md.SL
open Go.Dn Go.Md
section
variable {k:Option Nat→Int} {ar:List bA} {ok:Option Nat→Prop}
end
end Go.Md.SL
set_option linter.all false
namespace Go.Md
open Go.Dn
theorem Srt.congr {α:Type} {k k':α→Int} {l:List α} (h:∀ x,x∈l→k x=k' x) (hs:Srt k l):Srt k' l:=
 List.Pairwise.imp_of_mem (fun {a b} ha hb hab=>by rw[← h a ha, ← h b hb];exact hab) hs
theorem cR.congr {α:Type} {k k':α→Int} {l l':List α} (h:∀ x,x∈l→k x=k' x) (hs:cR k l l'):cR k' l l':=
 ⟨hs.perm,fun v=>by
   have e1:l'.filter (fun x=>k' x==v)=l'.filter (fun x=>k x==v):=List.filter_congr fun x hx=>by rw[h x (hs.mem.1 hx)]
   have e2:l.filter (fun x=>k' x==v)=l.filter (fun x=>k x==v):=List.filter_congr fun x hx=>by rw[h x hx]
   rw[e1,e2];exact hs.keys v⟩
variable {l:List aj} {A:List az}
end Go.Md
set_option linter.all false
namespace Go.Md
open Go.Dn
end Go.Md
set_option linter.all false
namespace Go.Md
open Go.Dn
theorem Jw (l:List iM) (hl:l.length≤2001):pn l l=some (true,()):=by
 unfold pn
 rw[show ((l.length:Int) != (l.length:Int))=false by simp,ajn]
 have:∀ n,l.length<n→iter (X:=jI) (β:=mD) n (l,l,(l.length:Int),0,()) mC=some (Sum.inr ()):=by
  intro n hn
  refine bX (Inv:=fun i X=>X=((l,l,(l.length:Int),(i:Int),()):jI)) l.length (fun z=>z=some (Sum.inr ())) ?_ ?_ n 0 _ rfl (ai8 _) (by omega)
  ·rintro i X again hi rfl hag
   unfold mC
   dsimp only
   have hy:l[i]? =some l[i]:=ahF hi
   rw[ajr (show (i:Int)<(l.length:Int) by omega),ajo,gX hy,ajb,ajb]
   simp only[beq_self_eq_true,Bool.and_self,agN,ajn]
   rw[aC (n:=(i:Int)+1) (by omega) (by omega)]
   exact hag _ rfl
  ·rintro X again rfl
   unfold mC
   dsimp only
   rw[ajq (show ¬(l.length:Int)<(l.length:Int) by omega),ajn]
 rw[this _ (by omega),aS]
end Go.Md
