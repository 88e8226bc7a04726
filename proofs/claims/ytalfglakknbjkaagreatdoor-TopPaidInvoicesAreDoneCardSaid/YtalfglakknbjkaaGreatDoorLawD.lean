/-
  TopPaidInvoicesAreDone returns true at every input, and each argument reads behind the call as it read before (the tied card). No condition of its own.
-/
import Derived.Test.YtalfglakknbjkaaGreatDoorTv
import Derived.Test.YtalfglakknbjkaaGreatDoorTd
import Derived.Test.YtalfglakknbjkaaGreatDoorTu
import Derived.Test.YtalfglakknbjkaaGreatDoorCards
import Derived.Test.YtalfglakknbjkaaGreatDoorTie
set_option linter.all false
set_option maxRecDepth 100000
namespace Go.Proofs.YtalfglakknbjkaaGreatDoor.lawTopPaidInvoicesAreDone
open Go Go.Dn Go.Md Go.Proofs Go.ChangeShapes Go.WideShapes Go.ChangeAt Go.RowKit
theorem law_true (x:gO (pms [b7,tI])) (_hx:S5 [b7,tI] x):∃ y,kE x.1 x.2.1=some (true,y):=by
 exact ⟨(),Jd x.1 x.2.1⟩
theorem own:ownKnob Tryz.prog.godebug=none:=by kernel_rfl
theorem kids:Kids Tryz.prog (· <Tryz.prog.types.size):=kids_rows (by kernel_rfl) (by kernel_rfl)
theorem full:∀ t e,t<Tryz.prog.types.size→Tryz.prog.underlying t=some (.slice e)→0<Tryz.prog.cellsOf e:=slices_full_of Tryz.prog (by kernel_rfl)
theorem contract (H:Type) (enc:TypeId×Value→H) (W:World) (base:Nat) (args:Array Value) (ds gs:List (DataW H)) (before:List MemPlace)
 (hval:∀ (j:Nat) t v,Tryz.f6.params[j]? =some t→args[j]? =some v→Value.okWide Tryz.prog W .any base t v)
 (hW:DataW.Whole enc Tryz.prog Tryz.f6.params.toList Rows.topPaidInvoicesAreDoneSpec.vars false W args.toList ds gs before):
 Calls Tryz.prog 6 args W fun e W'=>∃ v,e= .returned v∧Rows.topPaidInvoicesAreDoneSpec.post enc Tryz.prog Tryz.f6 false true false false W args v W':=by
 have hlen:ds.length=2:=by
  obtain ⟨p,q,hA,_⟩:=hW
  have:=LY hA
  rw [show Tryz.f6.params.toList.length=2 by kernel_rfl] at this
  omega
 refine law_calls (ts:=[b7,tI]) (fn:=Tryz.f6) SeatS.AG (fun x hx=> ?_) (by kernel_rfl) (tb:=4) (by kernel_rfl) (by kernel_rfl) kids full (by decide) rfl ?_ hval hW
 ·exact law_true x hx
 ·match ds,hlen with
  | [_,_],_=>rfl
noncomputable def Jp (os:Os):World:=VR Tryz.prog Rows.topPaidInvoicesAreDoneRow.laid (World.holding Tryz.prog os ⟨#[], #[],[]⟩)
theorem UF (os:Os):laidMet Tryz.prog Rows.topPaidInvoicesAreDoneRow.laid ((Jp os).forCall (fun _ _=>0) ⟨#[], #[.agg #[.string ⟨#[]⟩,.string ⟨#[]⟩,.int .i64 0,.int .i64 0,.int .i64 0,.bool false,.slice none 0 0,.slice none 0 0,.slice none 0 0],.int .i64 0],[]⟩).memory:=
 laidMet_of_run' 8 (by kernel_rfl) (by kernel_rfl)
theorem reads (os:Os) {H:Type} (enc:TypeId×Value→H):∃ places,DataW.whole enc Tryz.prog ((Jp os).forCall (fun _ _=>0) ⟨#[], #[.agg #[.string ⟨#[]⟩,.string ⟨#[]⟩,.int .i64 0,.int .i64 0,.int .i64 0,.bool false,.slice none 0 0,.slice none 0 0,.slice none 0 0],.int .i64 0],[]⟩).memory Tryz.f6.params.toList Rows.topPaidInvoicesAreDoneSpec.vars false (#[.agg #[.string ⟨#[]⟩,.string ⟨#[]⟩,.int .i64 0,.int .i64 0,.int .i64 0,.bool false,.slice none 0 0,.slice none 0 0,.slice none 0 0],.int .i64 0]:Array Value).toList 8=some ([.agg [.lit (.string []),.lit (.string []),.lit (.int .i64 0),.lit (.int .i64 0),.lit (.int .i64 0),.lit (.bool false),.nil,.nil,.nil],.lit (.int .i64 0)],[],places):=
 ⟨[],by kernel_rfl⟩
theorem lifted (os:Os) (started:os.Started) (H:Type) (enc:TypeId×Value→H) (F:Stop.Interp):
 ReturnsInHanded {} Tryz.checked os 6 .any ((OpenSpec.ofChange Rows.topPaidInvoicesAreDoneSpec).preRow enc Tryz.prog Tryz.f6 Rows.topPaidInvoicesAreDoneRow.domain false Rows.topPaidInvoicesAreDoneRow.laid) (((OpenSpec.ofChange Rows.topPaidInvoicesAreDoneSpec).at F).post enc Tryz.prog Tryz.f6 false true false false):=by
 obtain ⟨places,hx⟩:=reads os enc
 refine returnsInHanded_of_row (C:=Tryz.checked) (s:=(OpenSpec.ofChange Rows.topPaidInvoicesAreDoneSpec)) own started (by kernel_rfl) Tryz.func6
  (witness_row_at (enc:=enc) (C:=Tryz.checked) false (Jp os) #[.agg #[.string ⟨#[]⟩,.string ⟨#[]⟩,.int .i64 0,.int .i64 0,.int .i64 0,.bool false,.slice none 0 0,.slice none 0 0,.slice none 0 0],.int .i64 0] rfl (by kernel_rfl) (by kernel_rfl) (by kernel_rfl)
    (OpenSpec.preRow_of_cond 8 hx (by kernel_rfl) (fun k hk=>by cases hk) (by kernel_rfl) (UF os))) ?_
 intro W base args ds gs before hval hW _ _ _ hL _ _
 exact contract H enc W base args ds gs before hval hW
theorem said:Rows.TopPaidInvoicesAreDoneSaid:=
 OpenClaim.holds_of_cond 6 Tryz.f6 rfl rfl rfl rfl rfl rfl rfl ⟨rfl,rfl,rfl,rfl,rfl⟩ rfl rfl rfl rfl rfl (by kernel_rfl) Tryz.func6 (by kernel_rfl)
  (YR (by kernel_rfl)) (by unfold Func.isWrapper;first | (rw [if_pos (by decide +kernel)];kernel_rfl) | (rw [if_neg (by decide +kernel)];exact ⟨rfl,rfl⟩))
  (fun os started H enc _ F=>by rw [OpenClaim.pre_eq_preRow];exact lifted os started H enc F)
theorem plain (f:FuncId) (fn:Func) (hf:Tryz.pinned.checked.prog.funcNamed Tryz.f6.name=some f) (hfn:Tryz.pinned.checked.prog.funcs[f]? =some fn):
 false=Tryz.pinned.checked.prog.looks []∧∀ (j:Nat) t,fn.params[j]? =some t→Tryz.pinned.checked.prog.wantsStandIn t=false:=by
 obtain rfl:f=6:=Option.some.inj ((show Tryz.prog.funcNamed Tryz.f6.name=some 6 by kernel_rfl).symm.trans hf) |>.symm
 obtain rfl:fn=Tryz.f6:=(Option.some.inj (Tryz.func6.symm.trans hfn)).symm
 refine ⟨by kernel_rfl,fun j t ht=> ?_⟩
 have hall:(Tryz.f6.params.toList.all fun t=> !Tryz.prog.wantsStandIn t)=true:=by kernel_rfl
 have:=WS.1 hall t (Wk.2 (Array.mem_of_getElem? ht))
 exact (Ww _).mp this
theorem card:Rows.TopPaidInvoicesAreDoneCardSaid:=
 Claim7.holds_tied_plain_at .later [] _ _ _ _ said (fun _ h=>by cases h) (by kernel_rfl) (fun _ h=>by cases h) topPaidInvoicesAreDone_row_tie rfl ⟨rfl,rfl⟩ (by kernel_rfl) rfl plain (by kernel_rfl)
end Go.Proofs.YtalfglakknbjkaaGreatDoor.lawTopPaidInvoicesAreDone
