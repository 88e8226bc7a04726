/-
  BillRightIsNotWrong returns true at every input, and each argument reads behind the call as it read before (the tied card). No condition of its own.
-/
import Derived.Test.YtalfglakknbjkaaGreatDoorHv
import Derived.Test.YtalfglakknbjkaaGreatDoorHd
import Derived.Test.YtalfglakknbjkaaGreatDoorHu
import Derived.Test.YtalfglakknbjkaaGreatDoorCards
import Derived.Test.YtalfglakknbjkaaGreatDoorTie
set_option linter.all false
set_option maxRecDepth 100000
namespace Go.Proofs.YtalfglakknbjkaaGreatDoor.lawBillRightIsNotWrong
open Go Go.Dn Go.Md Go.Proofs Go.ChangeShapes Go.WideShapes Go.ChangeAt Go.RowKit
theorem law_true (x:gq (pms [bT,tI])) (_hx:Sv [bT,tI] x):∃ y,lD x.1 x.2.1=some (true,y):=by
 exact ⟨(),MV x.1 x.2.1⟩
theorem own:ownKnob Tryz.prog.godebug=none:=by kernel_rfl
theorem kids:Kids Tryz.prog (· <Tryz.prog.types.size):=kids_rows (by kernel_rfl) (by kernel_rfl)
theorem full:∀ t e,t<Tryz.prog.types.size→Tryz.prog.underlying t=some (.slice e)→0<Tryz.prog.cellsOf e:=slices_full_of Tryz.prog (by kernel_rfl)
theorem contract (H:Type) (enc:TypeId×Value→H) (W:World) (base:Nat) (args:Array Value) (ds gs:List (DataW H)) (before:List MemPlace)
 (hval:∀ (j:Nat) t v,Tryz.f7.params[j]? =some t→args[j]? =some v→Value.okWide Tryz.prog W .any base t v)
 (hW:DataW.Whole enc Tryz.prog Tryz.f7.params.toList Rows.billRightIsNotWrongSpec.vars false W args.toList ds gs before):
 Calls Tryz.prog 7 args W fun e W'=>∃ v,e= .returned v∧Rows.billRightIsNotWrongSpec.post enc Tryz.prog Tryz.f7 false true false false W args v W':=by
 have hlen:ds.length=2:=by
  obtain ⟨p,q,hA,_⟩:=hW
  have:=K3 hA
  rw [show Tryz.f7.params.toList.length=2 by kernel_rfl] at this
  omega
 refine law_calls (ts:=[bT,tI]) (fn:=Tryz.f7) SeatS.CA (fun x hx=> ?_) (by kernel_rfl) (tb:=4) (by kernel_rfl) (by kernel_rfl) kids full (by decide) rfl ?_ hval hW
 ·exact law_true x hx
 ·match ds,hlen with
  | [_,_],_=>rfl
noncomputable def JW (os:Os):World:=Vx Tryz.prog Rows.billRightIsNotWrongRow.laid (World.holding Tryz.prog os ⟨#[], #[],[]⟩)
theorem Up (os:Os):laidMet Tryz.prog Rows.billRightIsNotWrongRow.laid ((JW os).forCall (fun _ _=>0) ⟨#[], #[.agg #[.string ⟨#[]⟩,.string ⟨#[]⟩,.int .i64 0,.int .i64 0,.int .i64 0,.bool false,.slice none 0 0,.slice none 0 0,.slice none 0 0],.int .i64 0],[]⟩).memory:=
 laidMet_of_run' 8 (by kernel_rfl) (by kernel_rfl)
theorem reads (os:Os) {H:Type} (enc:TypeId×Value→H):∃ places,DataW.whole enc Tryz.prog ((JW os).forCall (fun _ _=>0) ⟨#[], #[.agg #[.string ⟨#[]⟩,.string ⟨#[]⟩,.int .i64 0,.int .i64 0,.int .i64 0,.bool false,.slice none 0 0,.slice none 0 0,.slice none 0 0],.int .i64 0],[]⟩).memory Tryz.f7.params.toList Rows.billRightIsNotWrongSpec.vars false (#[.agg #[.string ⟨#[]⟩,.string ⟨#[]⟩,.int .i64 0,.int .i64 0,.int .i64 0,.bool false,.slice none 0 0,.slice none 0 0,.slice none 0 0],.int .i64 0]:Array Value).toList 8=some ([.agg [.lit (.string []),.lit (.string []),.lit (.int .i64 0),.lit (.int .i64 0),.lit (.int .i64 0),.lit (.bool false),.nil,.nil,.nil],.lit (.int .i64 0)],[],places):=
 ⟨[],by kernel_rfl⟩
theorem lifted (os:Os) (started:os.Started) (H:Type) (enc:TypeId×Value→H) (F:Stop.Interp):
 ReturnsInHanded {} Tryz.checked os 7 .any ((OpenSpec.ofChange Rows.billRightIsNotWrongSpec).preRow enc Tryz.prog Tryz.f7 Rows.billRightIsNotWrongRow.domain false Rows.billRightIsNotWrongRow.laid) (((OpenSpec.ofChange Rows.billRightIsNotWrongSpec).at F).post enc Tryz.prog Tryz.f7 false true false false):=by
 obtain ⟨places,hx⟩:=reads os enc
 refine returnsInHanded_of_row (C:=Tryz.checked) (s:=(OpenSpec.ofChange Rows.billRightIsNotWrongSpec)) own started (by kernel_rfl) Tryz.func7
  (witness_row_at (enc:=enc) (C:=Tryz.checked) false (JW os) #[.agg #[.string ⟨#[]⟩,.string ⟨#[]⟩,.int .i64 0,.int .i64 0,.int .i64 0,.bool false,.slice none 0 0,.slice none 0 0,.slice none 0 0],.int .i64 0] rfl (by kernel_rfl) (by kernel_rfl) (by kernel_rfl)
    (OpenSpec.preRow_of_cond 8 hx (by kernel_rfl) (fun k hk=>by cases hk) (by kernel_rfl) (Up os))) ?_
 intro W base args ds gs before hval hW _ _ _ hL _ _
 exact contract H enc W base args ds gs before hval hW
theorem said:Rows.BillRightIsNotWrongSaid:=
 OpenClaim.holds_of_cond 7 Tryz.f7 rfl rfl rfl rfl rfl rfl rfl ⟨rfl,rfl,rfl,rfl,rfl⟩ rfl rfl rfl rfl rfl (by kernel_rfl) Tryz.func7 (by kernel_rfl)
  (Yi (by kernel_rfl)) (by unfold Func.isWrapper;first | (rw [if_pos (by decide +kernel)];kernel_rfl) | (rw [if_neg (by decide +kernel)];exact ⟨rfl,rfl⟩))
  (fun os started H enc _ F=>by rw [OpenClaim.pre_eq_preRow];exact lifted os started H enc F)
theorem plain (f:FuncId) (fn:Func) (hf:Tryz.pinned.checked.prog.funcNamed Tryz.f7.name=some f) (hfn:Tryz.pinned.checked.prog.funcs[f]? =some fn):
 false=Tryz.pinned.checked.prog.looks []∧∀ (j:Nat) t,fn.params[j]? =some t→Tryz.pinned.checked.prog.wantsStandIn t=false:=by
 obtain rfl:f=7:=Option.some.inj ((show Tryz.prog.funcNamed Tryz.f7.name=some 7 by kernel_rfl).symm.trans hf) |>.symm
 obtain rfl:fn=Tryz.f7:=(Option.some.inj (Tryz.func7.symm.trans hfn)).symm
 refine ⟨by kernel_rfl,fun j t ht=> ?_⟩
 have hall:(Tryz.f7.params.toList.all fun t=> !Tryz.prog.wantsStandIn t)=true:=by kernel_rfl
 have:=Wq.1 hall t (VV.2 (Array.mem_of_getElem? ht))
 exact (V9 _).mp this
theorem card:Rows.BillRightIsNotWrongCardSaid:=
 Claim7.holds_tied_plain_at .later [] _ _ _ _ said (fun _ h=>by cases h) (by kernel_rfl) (fun _ h=>by cases h) billRightIsNotWrong_row_tie rfl ⟨rfl,rfl⟩ (by kernel_rfl) rfl plain (by kernel_rfl)
end Go.Proofs.YtalfglakknbjkaaGreatDoor.lawBillRightIsNotWrong
