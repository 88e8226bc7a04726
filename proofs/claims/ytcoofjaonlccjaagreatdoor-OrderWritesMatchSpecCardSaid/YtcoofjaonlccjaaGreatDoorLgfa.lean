/-
  The plain law OrderWritesMatchSpec carried to the program (first part of the card). No condition.
-/
import Derived.Test.YtcoofjaonlccjaaGreatDoorVz
import Derived.Test.YtcoofjaonlccjaaGreatDoorVk
import Derived.Test.YtcoofjaonlccjaaGreatDoorVd
import Derived.Test.YtcoofjaonlccjaaGreatDoorCards
import Derived.Test.YtcoofjaonlccjaaGreatDoorTie
set_option linter.all false
set_option maxRecDepth 100000
namespace Go.Proofs.YtcoofjaonlccjaaGreatDoor.lawOrderWritesMatchSpec
open Go Go.Dn Go.Md Go.Proofs Go.ChangeShapes Go.WideShapes Go.ChangeAt Go.RowKit
theorem WR (d:aa) (h:WfS av d):Txt d:=by
 obtain ⟨_,_,_,_,_,h6,_,h8,_⟩:=h
 have h6':d.2.2.2.2.2.1.length≤reachBytes:=h6
 have h8':d.2.2.2.2.2.2.2.1.length≤reachBytes:=h8
 have e1:reachBytes=140737488351232:=rfl
 have e2:maxLen=9223372036854775807:=rfl
 unfold Txt
 omega
theorem law_true (x:gV (pms [bu,.slice av,av])) (hx:Rn [bu,.slice av,av] x):∃ y,iM x.1 x.2.1 x.2.2.1=some (true,y):=by
 exact ⟨(),law_OrderWritesMatchSpec x.1 x.2.1 x.2.2.1 (fun d hd=>WR d (hx.2.1.2 d hd)) (WR _ hx.2.2.1)⟩
theorem own:ownKnob Tryz.prog.godebug=none:=by kernel_rfl
theorem kids:Kids Tryz.prog (· <Tryz.prog.types.size):=kids_rows (by kernel_rfl) (by kernel_rfl)
theorem full:∀ t e,t<Tryz.prog.types.size→Tryz.prog.underlying t=some (.slice e)→0<Tryz.prog.cellsOf e:=slices_full_of Tryz.prog (by kernel_rfl)
theorem Ye (W:World) (h:laidMetH Tryz.prog Rows.orderWritesMatchSpecRow.laid W):laidMet Tryz.prog Rows.orderWritesMatchSpecRow.laid W:=by
 have e:(Rows.orderWritesMatchSpecRow.laid.filter fun x=>x.2.handleName?.isSome)=[]:=by kernel_rfl
 unfold laidMetH at h
 rw [e] at h
 exact h
theorem pow_eq:(Rows.laid_internal_strconv_uint64pow10:DataW Unit)=Lib.tabData .u64 Ki:=by kernel_rfl
theorem Zd (W:World) (h:laidMetH Tryz.prog Rows.orderWritesMatchSpecRow.laid W):∀ g,Tryz.prog.globalNamed "internal/strconv.uint64pow10" =some g→∃ T fz,Gw W g=some (.cells (Ki.map fun z=>Value.int .u64 z).toArray T fz):=by
 have h3:laidMet Tryz.prog (("internal/strconv.uint64pow10",Rows.laid_internal_strconv_uint64pow10)::_) W:=(Ye W h).tail.tail
 rw [pow_eq] at h3
 exact Yw (g:=5) (t:=290) (e:=165) (by kernel_rfl) (by kernel_rfl) (by kernel_rfl) (by kernel_rfl) (by kernel_rfl) (by kernel_rfl) h3
theorem wZ (W:World) (h:W.ShapedOpen Tryz.prog):∀ g,Tryz.prog.globalNamed "internal/bytealg.MaxLen" =some g→∃ n T fz,Gw W g=some (.cells #[Value.int .i64 n] T fz):=
 Yv (g:=2) (t:=3) (zero:= #[.int .i64 0]) h (by kernel_rfl) (abU (by kernel_rfl)) (by kernel_rfl) rfl (by kernel_rfl) (by kernel_rfl) (by kernel_rfl)
theorem contract (H:Type) (enc:TypeId×Value→H) (W:World) (base:Nat) (args:Array Value) (ds gs:List (DataW H)) (before:List MemPlace) (hT:uW Tryz.prog (Gw W))
 (hval:∀ (j:Nat) t v,Tryz.f4.params[j]? =some t→args[j]? =some v→Value.okWide Tryz.prog W .any base t v)
 (hW:DataW.Whole enc Tryz.prog Tryz.f4.params.toList Rows.orderWritesMatchSpecSpec.vars false W args.toList ds gs before) (hwt:∀ n,n∈DataW.weightsEach Tryz.prog Tryz.f4.params.toList ds→n≤reachBytes):
 Calls Tryz.prog 4 args W fun e W'=>∃ v,e= .returned v∧Rows.orderWritesMatchSpecSpec.post enc Tryz.prog Tryz.f4 false true false false W args v W':=by
 have hlen:ds.length=3:=by
  obtain ⟨p,q,hA,_⟩:=hW
  have:=L7 hA
  rw [show Tryz.f4.params.toList.length=3 by kernel_rfl] at this
  omega
 refine law_callsS (ts:=[bu,.slice av,av]) (fn:=Tryz.f4) SeatA.AP (fun x hx=> ?_) (by kernel_rfl) (tb:=4) (by kernel_rfl) (by kernel_rfl) kids full (by decide) rfl hT ?_ hval hW hwt
 ·exact law_true x hx
 ·match ds,hlen with
  | [_,_,_],_=>rfl
noncomputable def JO (os:Os):World:=Y5 Tryz.prog 281 283 (Rows.orderWritesMatchSpecRow.laid.filter fun x=>isIf x.2) <| YJ Tryz.prog (Rows.orderWritesMatchSpecRow.laid.filter fun x=> !isIf x.2) (World.holding Tryz.prog os ⟨#[], #[],[]⟩)
theorem Xg (os:Os):laidMet Tryz.prog Rows.orderWritesMatchSpecRow.laid ((JO os).forCall (fun _ _=>0) ⟨#[], #[.agg #[.string ⟨#[]⟩,.string ⟨#[]⟩,.string ⟨#[]⟩,.int .i64 0,.int .i64 0,.slice none 0 0],.slice none 0 0,.agg #[.int .i64 0,.int .i64 0,.int .i64 0,.int .i64 0,.int .i64 0,.string ⟨#[]⟩,.int .i64 0,.int .i64 0,.string ⟨#[]⟩,.int .i64 0,.int .i64 0,.int .i64 0,.int .i64 0]],[]⟩).memory:=
 laidMet_of_run' 8 (by kernel_rfl) (by kernel_rfl)
theorem reads (os:Os) {H:Type} (enc:TypeId×Value→H):∃ places,DataW.whole enc Tryz.prog ((JO os).forCall (fun _ _=>0) ⟨#[], #[.agg #[.string ⟨#[]⟩,.string ⟨#[]⟩,.string ⟨#[]⟩,.int .i64 0,.int .i64 0,.slice none 0 0],.slice none 0 0,.agg #[.int .i64 0,.int .i64 0,.int .i64 0,.int .i64 0,.int .i64 0,.string ⟨#[]⟩,.int .i64 0,.int .i64 0,.string ⟨#[]⟩,.int .i64 0,.int .i64 0,.int .i64 0,.int .i64 0]],[]⟩).memory Tryz.f4.params.toList Rows.orderWritesMatchSpecSpec.vars false (#[.agg #[.string ⟨#[]⟩,.string ⟨#[]⟩,.string ⟨#[]⟩,.int .i64 0,.int .i64 0,.slice none 0 0],.slice none 0 0,.agg #[.int .i64 0,.int .i64 0,.int .i64 0,.int .i64 0,.int .i64 0,.string ⟨#[]⟩,.int .i64 0,.int .i64 0,.string ⟨#[]⟩,.int .i64 0,.int .i64 0,.int .i64 0,.int .i64 0]]:Array Value).toList 8=some ([.agg [.lit (.string []),.lit (.string []),.lit (.string []),.lit (.int .i64 0),.lit (.int .i64 0),.nil],.nil,.agg [.lit (.int .i64 0),.lit (.int .i64 0),.lit (.int .i64 0),.lit (.int .i64 0),.lit (.int .i64 0),.lit (.string []),.agg [.lit (.int .i64 0),.lit (.int .i64 0)],.lit (.string []),.agg [.lit (.int .i64 0),.lit (.int .i64 0)],.lit (.int .i64 0),.lit (.int .i64 0)]],[],places):=
 ⟨[],by kernel_rfl⟩
theorem lifted (os:Os) (started:os.Started) (H:Type) (enc:TypeId×Value→H) (F:Stop.Interp):
 ReturnsInHanded {} Tryz.checked os 4 .any ((OpenSpec.ofChange Rows.orderWritesMatchSpecSpec).preRow enc Tryz.prog Tryz.f4 Rows.orderWritesMatchSpecRow.domain false Rows.orderWritesMatchSpecRow.laid) (((OpenSpec.ofChange Rows.orderWritesMatchSpecSpec).at F).post enc Tryz.prog Tryz.f4 false true false false):=by
 obtain ⟨places,hx⟩:=reads os enc
 refine returnsInHanded_of_row (C:=Tryz.checked) (s:=(OpenSpec.ofChange Rows.orderWritesMatchSpecSpec)) own started (by kernel_rfl) Tryz.func4
  (witness_row_at (enc:=enc) (C:=Tryz.checked) false (JO os) #[.agg #[.string ⟨#[]⟩,.string ⟨#[]⟩,.string ⟨#[]⟩,.int .i64 0,.int .i64 0,.slice none 0 0],.slice none 0 0,.agg #[.int .i64 0,.int .i64 0,.int .i64 0,.int .i64 0,.int .i64 0,.string ⟨#[]⟩,.int .i64 0,.int .i64 0,.string ⟨#[]⟩,.int .i64 0,.int .i64 0,.int .i64 0,.int .i64 0]] rfl (by kernel_rfl) (by kernel_rfl) (by kernel_rfl)
    (OpenSpec.preRow_of_cond 8 hx (by kernel_rfl) (fun k hk=>by cases hk) (by kernel_rfl) (Xg os))) ?_
 intro W base args ds gs before hval hW _ _ hz hL hsh _
 exact contract H enc W base args ds gs before ⟨Zd W hL,wZ W hsh⟩ hval hW (VB hz)
end Go.Proofs.YtcoofjaonlccjaaGreatDoor.lawOrderWritesMatchSpec
