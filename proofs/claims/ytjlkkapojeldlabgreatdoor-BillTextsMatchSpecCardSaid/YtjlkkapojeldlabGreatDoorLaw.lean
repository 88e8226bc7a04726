/-
  BillTextsMatchSpec returns true at every input, and each argument reads behind the call as it read before (the tied card). No condition of its own.
-/
import Derived.Test.YtjlkkapojeldlabGreatDoorLgb
import Derived.Test.YtjlkkapojeldlabGreatDoorCards
import Derived.Test.YtjlkkapojeldlabGreatDoorTie
set_option maxRecDepth 100000
namespace Go.Proofs.YtjlkkapojeldlabGreatDoor.lawBillTextsMatchSpec
open Go Go.Dn Go.Md Go.Proofs Go.ChangeShapes Go.WideShapes Go.ChangeAt Go.RowKit
theorem plain (f:FuncId) (fn:Func) (hf:Tryz.pinned.checked.prog.funcNamed Tryz.f4.name=some f) (hfn:Tryz.pinned.checked.prog.funcs[f]? =some fn): true=Tryz.pinned.checked.prog.looks []/\∀ (j:Nat) t,fn.params[j]? =some t->Tryz.pinned.checked.prog.wantsStandIn t=false:=by
 obtain rfl:f=4:=Option.some.inj ((show Tryz.prog.funcNamed Tryz.f4.name=some 4 by kernel_rfl).symm.trans hf) |>.symm
 obtain rfl:fn=Tryz.f4:=(Option.some.inj (Tryz.func4.symm.trans hfn)).symm
 refine⟨by kernel_rfl,fun j t ht=> ?_⟩
 have hall:(Tryz.f4.params.toList.all fun t=> !Tryz.prog.wantsStandIn t)=true:=by kernel_rfl
 have:=adQ.1 hall t (adf.2 (Array.mem_of_getElem? ht))
 exact (adt _).mp this
theorem card:Rows.BillTextsMatchSpecCardSaid:=
 Claim7.holds_tied_plain_at .later [] _ _ _ _ said (fun _ h=>by cases h) (by kernel_rfl) (fun _ h=>by cases h) billTextsMatchSpec_row_tie rfl ⟨rfl,rfl⟩ (by kernel_rfl) rfl plain (by kernel_rfl)
end Go.Proofs.YtjlkkapojeldlabGreatDoor.lawBillTextsMatchSpec
