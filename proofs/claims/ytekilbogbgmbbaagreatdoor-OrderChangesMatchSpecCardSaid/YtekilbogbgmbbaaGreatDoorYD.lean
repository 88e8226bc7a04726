/-
  Plain facts: numbers and decimals written. No condition.
-/
import Derived.Test.YtekilbogbgmbbaaGreatDoorYo
import Derived.Test.YtekilbogbgmbbaaGreatDoorYd
import Derived.Shelf.Strings.OnBuilder
import Derived.Test.YtekilbogbgmbbaaGreatDoorYp
import Derived.Lib.ItoaNum
import Derived.Lib.Repeat
import Derived.Test.YtekilbogbgmbbaaGreatDoorYr
import Derived.Test.YtekilbogbgmbbaaGreatDoorYq
import Derived.Test.YtekilbogbgmbbaaGreatDoorYs
import Derived.Lib.Join
set_option linter.all false
namespace Go.Md
open Go.Dn
noncomputable section
end
end Go.Md
namespace Go.Md
open Go.Dn
end Go.Md
namespace Go.Dn
open Go Go.Md Go.Proofs Go.Shelf
end Go.Dn
set_option linter.all false
namespace Go.Md
open Go.Dn
noncomputable section
end
end Go.Md
namespace Go.Md
open Go.Dn
end Go.Md
namespace Go.Md
open Go.Dn
end Go.Md
namespace Go.Md
open Go.Dn
end Go.Md
namespace Go.Md
open Go.Dn
end Go.Md
namespace Go.Md
open Go.Dn
end Go.Md
namespace Go.Md
open Go.Dn
def rdF:Nat->Nat->List Int
 | 0,_=>[]
 | f+1,n=>if n=0 then [] else ((48+n % 10:Nat):Int)::rdF f (n / 10)
def rd (n:Nat):List Int:=rdF n n
end Go.Md
namespace Go.Md
open Go.Dn
end Go.Md
namespace Go.Md
open Go.Dn
theorem NK {s:Bys} (h:cK s=true):s≠[]/\s.length<=40/\∀ c,c∈s->nmB c=true:=by
 unfold cK eP at h
 by_cases h1:(s.length:Int)<1
 ·rw[bF h1] at h;cases h
 rw[bW h1] at h
 by_cases h2:(s.length:Int)>40
 ·rw[bF h2] at h;cases h
 rw[bW h2] at h
 refine⟨fun e=>h1 (by rw[e];decide),by omega, ?_⟩
 have ht:gB s [97,98,99,100,101,102,103,104,105,106,107,108,109,110,111,112,113,114,115,116,117,118,119,120,121,122,48,49,50,51,52,53,54,55,56,57,45]=some (Lib.trimS s nmC,()):=by
  unfold gB
  rw[show (decide (s.length<=9223372036854775807))=true by simp;omega]
  rfl
 cases hs:qv s 0 with
 | none=>rw[hs] at h;cases h
 | some c1=>
  rw[hs,afO] at h
  cases h3:decide ((c1.toNat:Int)<97) with
  | true=>rw[h3] at h;cases h
  | false=>
   rw[h3,af1,afO] at h
   cases h4:decide ((c1.toNat:Int)>122) with
   | true=>rw[h4] at h;cases h
   | false=>
    rw[h4,af1,ht,afO] at h
    have h5:(Lib.trimS s nmC==[])=true:=h
    rw[Q9] at h5
    exact adQ.1 h5
def one (b:Bool) (w:Bys):List Bys:=bif b then [w] else []
end Go.Md
