/-
  The plain law OrderPlansCanBeShipped carried to the program (first part of the card). No condition.
-/
import Derived.Test.YtcndcnfjdanbeaaGreatDoorXz
import Derived.Test.YtcndcnfjdanbeaaGreatDoorXi
import Derived.Test.YtcndcnfjdanbeaaGreatDoorXd
import Derived.Test.YtcndcnfjdanbeaaGreatDoorCards
import Derived.Test.YtcndcnfjdanbeaaGreatDoorTie
set_option linter.all false
set_option maxRecDepth 100000
namespace Go.Proofs.YtcndcnfjdanbeaaGreatDoor.lawOrderPlansCanBeShipped
open Go Go.Dn Go.Md Go.Proofs Go.ChangeShapes Go.WideShapes Go.ChangeAt Go.RowKit
theorem law_true (x:fO (pms [bE,.slice aH,.slice mO])) (hx:Qy [bE,.slice aH,.slice mO] x):∃ y,je x.1 x.2.1 x.2.2.1=some (true,y):=by
 exact⟨(),law_OrderPlansCanBeShipped x.1 x.2.1 x.2.2.1⟩
theorem own:ownKnob Tryz.prog.godebug=none:=by kernel_rfl
theorem kids:Kids Tryz.prog (· <Tryz.prog.types.size):=kids_rows (by kernel_rfl) (by kernel_rfl)
theorem full:∀ t e,t<Tryz.prog.types.size→Tryz.prog.underlying t=some (.slice e)→0<Tryz.prog.cellsOf e:=slices_full_of Tryz.prog (by kernel_rfl)
theorem Uw (W:World) (h:laidMetH Tryz.prog Rows.orderPlansCanBeShippedRow.laid W):laidMet Tryz.prog Rows.orderPlansCanBeShippedRow.laid W:=by
 have e:(Rows.orderPlansCanBeShippedRow.laid.filter fun x=>x.2.handleName?.isSome)=[]:=by kernel_rfl
 unfold laidMetH at h
 rw[e] at h
 exact h
theorem pow_eq:(Rows.laid_internal_strconv_uint64pow10:DataW Unit)=Lib.tabData .u64 HB:=by kernel_rfl
theorem VH (W:World) (h:laidMetH Tryz.prog Rows.orderPlansCanBeShippedRow.laid W):∀ g,Tryz.prog.globalNamed "internal/strconv.uint64pow10" =some g→∃ T fz,Gw W g=some (.cells (HB.map fun z=>Value.int .u64 z).toArray T fz):=by
 have h3:laidMet Tryz.prog (("internal/strconv.uint64pow10",Rows.laid_internal_strconv_uint64pow10)::_) W:=(Uw W h).tail.tail
 rw[pow_eq] at h3
 exact UQ (g:=5) (t:=306) (e:=190) (by kernel_rfl) (by kernel_rfl) (by kernel_rfl) (by kernel_rfl) (by kernel_rfl) (by kernel_rfl) h3
theorem zB (W:World) (h:W.ShapedOpen Tryz.prog):∀ g,Tryz.prog.globalNamed "internal/bytealg.MaxLen" =some g→∃ n T fz,Gw W g=some (.cells #[Value.int .i64 n] T fz):=
 UP (g:=0) (t:=3) (zero:= #[.int .i64 0]) h (by kernel_rfl) (YP (by kernel_rfl)) (by kernel_rfl) rfl (by kernel_rfl) (by kernel_rfl) (by kernel_rfl)
theorem contract (H:Type) (enc:TypeId×Value→H) (W:World) (base:Nat) (args:Array Value) (ds gs:List (DataW H)) (before:List MemPlace) (hT:rQ Tryz.prog (Gw W))
 (hval:∀ (j:Nat) t v,Tryz.f6.params[j]? =some t→args[j]? =some v→Value.okWide Tryz.prog W .any base t v)
 (hW:DataW.Whole enc Tryz.prog Tryz.f6.params.toList Rows.orderPlansCanBeShippedSpec.vars false W args.toList ds gs before):
 Calls Tryz.prog 6 args W fun e W'=>∃ v,e= .returned v∧Rows.orderPlansCanBeShippedSpec.post enc Tryz.prog Tryz.f6 false true false false W args v W':=by
 have hlen:ds.length=3:=by
  obtain⟨p,q,hA,_⟩:=hW
  have:=I6 hA
  rw[show Tryz.f6.params.toList.length=3 by kernel_rfl] at this
  omega
 refine law_calls (ts:=[bE,.slice aH,.slice mO]) (fn:=Tryz.f6) SeatA.yc (fun x hx=> ?_) (by kernel_rfl) (tb:=4) (by kernel_rfl) (by kernel_rfl) kids full (by decide) rfl hT ?_ hval hW
 ·exact law_true x hx
 ·match ds,hlen with
  | [_,_,_],_=>rfl
noncomputable def G7 (os:Os):World:=Vx Tryz.prog 297 299 (Rows.orderPlansCanBeShippedRow.laid.filter fun x=>isIf x.2) <| Ve Tryz.prog (Rows.orderPlansCanBeShippedRow.laid.filter fun x=> !isIf x.2) (World.holding Tryz.prog os ⟨#[], #[],[]⟩)
theorem Tm (os:Os):laidMet Tryz.prog Rows.orderPlansCanBeShippedRow.laid ((G7 os).forCall (fun _ _=>0) ⟨#[], #[.agg #[.string ⟨#[]⟩,.string ⟨#[]⟩,.string ⟨#[]⟩,.int .i64 0,.int .i64 0,.slice none 0 0],.slice none 0 0,.slice none 0 0],[]⟩).memory:=
 laidMet_of_run' 8 (by kernel_rfl) (by kernel_rfl)
theorem reads (os:Os) {H:Type} (enc:TypeId×Value→H):∃ places,DataW.whole enc Tryz.prog ((G7 os).forCall (fun _ _=>0) ⟨#[], #[.agg #[.string ⟨#[]⟩,.string ⟨#[]⟩,.string ⟨#[]⟩,.int .i64 0,.int .i64 0,.slice none 0 0],.slice none 0 0,.slice none 0 0],[]⟩).memory Tryz.f6.params.toList Rows.orderPlansCanBeShippedSpec.vars false (#[.agg #[.string ⟨#[]⟩,.string ⟨#[]⟩,.string ⟨#[]⟩,.int .i64 0,.int .i64 0,.slice none 0 0],.slice none 0 0,.slice none 0 0]:Array Value).toList 8=some ([.agg [.lit (.string []),.lit (.string []),.lit (.string []),.lit (.int .i64 0),.lit (.int .i64 0),.nil],.nil,.nil],[],places):=
 ⟨[],by kernel_rfl⟩
theorem lifted (os:Os) (started:os.Started) (H:Type) (enc:TypeId×Value→H) (F:Stop.Interp):
 ReturnsInHanded {} Tryz.checked os 6 .any ((OpenSpec.ofChange Rows.orderPlansCanBeShippedSpec).preRow enc Tryz.prog Tryz.f6 Rows.orderPlansCanBeShippedRow.domain false Rows.orderPlansCanBeShippedRow.laid) (((OpenSpec.ofChange Rows.orderPlansCanBeShippedSpec).at F).post enc Tryz.prog Tryz.f6 false true false false):=by
 obtain⟨places,hx⟩:=reads os enc
 refine returnsInHanded_of_row (C:=Tryz.checked) (s:=(OpenSpec.ofChange Rows.orderPlansCanBeShippedSpec)) own started (by kernel_rfl) Tryz.func6
  (witness_row_at (enc:=enc) (C:=Tryz.checked) false (G7 os) #[.agg #[.string ⟨#[]⟩,.string ⟨#[]⟩,.string ⟨#[]⟩,.int .i64 0,.int .i64 0,.slice none 0 0],.slice none 0 0,.slice none 0 0] rfl (by kernel_rfl) (by kernel_rfl) (by kernel_rfl)
    (OpenSpec.preRow_of_cond 8 hx (by kernel_rfl) (fun k hk=>by cases hk) (by kernel_rfl) (Tm os))) ?_
 intro W base args ds gs before hval hW _ _ hz hL hsh _
 exact contract H enc W base args ds gs before ⟨VH W hL,zB W hsh⟩ hval hW
end Go.Proofs.YtcndcnfjdanbeaaGreatDoor.lawOrderPlansCanBeShipped
