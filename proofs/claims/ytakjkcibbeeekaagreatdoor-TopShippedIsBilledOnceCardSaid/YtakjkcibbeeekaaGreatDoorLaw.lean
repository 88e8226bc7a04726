/-
  TopShippedIsBilledOnce returns true at every input, and each argument reads behind the call as it read before (the tied card). No condition of its own.
-/
import Derived.Test.YtakjkcibbeeekaaGreatDoorLgb
import Derived.Test.YtakjkcibbeeekaaGreatDoorCards
import Derived.Test.YtakjkcibbeeekaaGreatDoorTie
set_option maxRecDepth 100000
namespace Go.Proofs.YtakjkcibbeeekaaGreatDoor.lawTopShippedIsBilledOnce
open Go Go.Dn Go.Md Go.Proofs Go.ChangeShapes Go.WideShapes Go.ChangeAt Go.RowKit
theorem plain (f:FuncId) (fn:Func) (hf:Tryz.pinned.checked.prog.funcNamed Tryz.f3.name=some f) (hfn:Tryz.pinned.checked.prog.funcs[f]? =some fn): false=Tryz.pinned.checked.prog.looks []/\∀ (j:Nat) t,fn.params[j]? =some t->Tryz.pinned.checked.prog.wantsStandIn t=false:=by
 obtain rfl:f=3:=Option.some.inj ((show Tryz.prog.funcNamed Tryz.f3.name=some 3 by kernel_rfl).symm.trans hf) |>.symm
 obtain rfl:fn=Tryz.f3:=(Option.some.inj (Tryz.func3.symm.trans hfn)).symm
 refine⟨by kernel_rfl,fun j t ht=> ?_⟩
 have hall:(Tryz.f3.params.toList.all fun t=> !Tryz.prog.wantsStandIn t)=true:=by kernel_rfl
 have:=ahH.1 hall t (agX.2 (Array.mem_of_getElem? ht))
 exact (ahb _).mp this
theorem card:Rows.TopShippedIsBilledOnceCardSaid:=
 Claim7.holds_tied_plain_at .later [] _ _ _ _ said (fun _ h=>by cases h) (by kernel_rfl) (fun _ h=>by cases h) topShippedIsBilledOnce_row_tie rfl ⟨rfl,rfl⟩ (by kernel_rfl) rfl plain (by kernel_rfl)
end Go.Proofs.YtakjkcibbeeekaaGreatDoor.lawTopShippedIsBilledOnce
