/-
  The plain law TopReversedInvoicesCancel carried to the program (first part of the card). No condition.
-/
import Derived.Test.YtcpmaicaibdafaaGreatDoorZl
import Derived.Test.YtcpmaicaibdafaaGreatDoorZj2
import Derived.Test.YtcpmaicaibdafaaGreatDoorZd
import Derived.Test.YtcpmaicaibdafaaGreatDoorCards
import Derived.Test.YtcpmaicaibdafaaGreatDoorTie
set_option linter.all false
set_option maxRecDepth 100000
namespace Go.Proofs.YtcpmaicaibdafaaGreatDoor.lawTopReversedInvoicesCancel
open Go Go.Dn Go.Md Go.Proofs Go.ChangeShapes Go.WideShapes Go.ChangeAt Go.RowKit
theorem law_true (x:gY (pms [bT,.slice bp,aV,tI])) (hx:aav [bT,.slice bp,aV,tI] x):∃ y,jw x.1 x.2.1 x.2.2.1 x.2.2.2.1=some (true,y):=by
 exact⟨(),law_TopReversedInvoicesCancel x.1 x.2.1 x.2.2.1 x.2.2.2.1⟩
theorem own:ownKnob Tryz.prog.godebug=none:=by kernel_rfl
theorem kids:Kids Tryz.prog (· <Tryz.prog.types.size):=kids_rows (by kernel_rfl) (by kernel_rfl)
theorem full:∀ t e,t<Tryz.prog.types.size→Tryz.prog.underlying t=some (.slice e)→0<Tryz.prog.cellsOf e:=slices_full_of Tryz.prog (by kernel_rfl)
theorem agh (W:World) (_:laidMetH Tryz.prog Rows.topReversedInvoicesCancelRow.laid W):∀ g,Tryz.prog.globalNamed "internal/strconv.uint64pow10" =some g→∃ T fz,Gw W g=some (.cells (acR.map fun z=>Value.int .u64 z).toArray T fz):=
 fun g h=>by cases (show Tryz.prog.globalNamed "internal/strconv.uint64pow10" =none by kernel_rfl).symm.trans h
theorem BE (W:World) (h:W.ShapedOpen Tryz.prog):∀ g,Tryz.prog.globalNamed "internal/bytealg.MaxLen" =some g→∃ n T fz,Gw W g=some (.cells #[Value.int .i64 n] T fz):=
 afk (g:=2) (t:=3) (zero:= #[.int .i64 0]) h (by kernel_rfl) (ajF (by kernel_rfl)) (by kernel_rfl) rfl (by kernel_rfl) (by kernel_rfl) (by kernel_rfl)
theorem contract (H:Type) (enc:TypeId×Value→H) (W:World) (base:Nat) (args:Array Value) (ds gs:List (DataW H)) (before:List MemPlace) (hT:CE Tryz.prog (Gw W))
 (hval:∀ (j:Nat) t v,Tryz.f7.params[j]? =some t→args[j]? =some v→Value.okWide Tryz.prog W .any base t v)
 (hW:DataW.Whole enc Tryz.prog Tryz.f7.params.toList Rows.topReversedInvoicesCancelSpec.vars false W args.toList ds gs before):
 Calls Tryz.prog 7 args W fun e W'=>∃ v,e= .returned v∧Rows.topReversedInvoicesCancelSpec.post enc Tryz.prog Tryz.f7 false true false false W args v W':=by
 have hlen:ds.length=4:=by
  obtain⟨p,q,hA,_⟩:=hW
  have:=Qs hA
  rw[show Tryz.f7.params.toList.length=4 by kernel_rfl] at this
  omega
 refine law_calls (ts:=[bT,.slice bp,aV,tI]) (fn:=Tryz.f7) SeatA.BJ (fun x hx=> ?_) (by kernel_rfl) (tb:=4) (by kernel_rfl) (by kernel_rfl) kids full (by decide) rfl hT ?_ hval hW
 ·exact law_true x hx
 ·match ds,hlen with
  | [_,_,_,_],_=>rfl
noncomputable def N8 (os:Os):World:=afD Tryz.prog Rows.topReversedInvoicesCancelRow.laid (World.holding Tryz.prog os ⟨#[], #[],[]⟩)
theorem adJ (os:Os):laidMet Tryz.prog Rows.topReversedInvoicesCancelRow.laid ((N8 os).forCall (fun _ _=>0) ⟨#[], #[.agg #[.string ⟨#[]⟩,.string ⟨#[]⟩,.string ⟨#[]⟩,.int .i64 0,.int .i64 0,.slice none 0 0],.slice none 0 0,.agg #[.string ⟨#[]⟩,.string ⟨#[]⟩,.int .i64 0,.int .i64 0,.int .i64 0,.bool false,.slice none 0 0,.slice none 0 0,.slice none 0 0],.int .i64 0],[]⟩).memory:=
 laidMet_of_run' 8 (by kernel_rfl) (by kernel_rfl)
theorem reads (os:Os) {H:Type} (enc:TypeId×Value→H):∃ places,DataW.whole enc Tryz.prog ((N8 os).forCall (fun _ _=>0) ⟨#[], #[.agg #[.string ⟨#[]⟩,.string ⟨#[]⟩,.string ⟨#[]⟩,.int .i64 0,.int .i64 0,.slice none 0 0],.slice none 0 0,.agg #[.string ⟨#[]⟩,.string ⟨#[]⟩,.int .i64 0,.int .i64 0,.int .i64 0,.bool false,.slice none 0 0,.slice none 0 0,.slice none 0 0],.int .i64 0],[]⟩).memory Tryz.f7.params.toList Rows.topReversedInvoicesCancelSpec.vars false (#[.agg #[.string ⟨#[]⟩,.string ⟨#[]⟩,.string ⟨#[]⟩,.int .i64 0,.int .i64 0,.slice none 0 0],.slice none 0 0,.agg #[.string ⟨#[]⟩,.string ⟨#[]⟩,.int .i64 0,.int .i64 0,.int .i64 0,.bool false,.slice none 0 0,.slice none 0 0,.slice none 0 0],.int .i64 0]:Array Value).toList 8=some ([.agg [.lit (.string []),.lit (.string []),.lit (.string []),.lit (.int .i64 0),.lit (.int .i64 0),.nil],.nil,.agg [.lit (.string []),.lit (.string []),.lit (.int .i64 0),.lit (.int .i64 0),.lit (.int .i64 0),.lit (.bool false),.nil,.nil,.nil],.lit (.int .i64 0)],[],places):=
 ⟨[],by kernel_rfl⟩
theorem lifted (os:Os) (started:os.Started) (H:Type) (enc:TypeId×Value→H) (F:Stop.Interp):
 ReturnsInHanded {} Tryz.checked os 7 .any ((OpenSpec.ofChange Rows.topReversedInvoicesCancelSpec).preRow enc Tryz.prog Tryz.f7 Rows.topReversedInvoicesCancelRow.domain false Rows.topReversedInvoicesCancelRow.laid) (((OpenSpec.ofChange Rows.topReversedInvoicesCancelSpec).at F).post enc Tryz.prog Tryz.f7 false true false false):=by
 obtain⟨places,hx⟩:=reads os enc
 refine returnsInHanded_of_row (C:=Tryz.checked) (s:=(OpenSpec.ofChange Rows.topReversedInvoicesCancelSpec)) own started (by kernel_rfl) Tryz.func7
  (witness_row_at (enc:=enc) (C:=Tryz.checked) false (N8 os) #[.agg #[.string ⟨#[]⟩,.string ⟨#[]⟩,.string ⟨#[]⟩,.int .i64 0,.int .i64 0,.slice none 0 0],.slice none 0 0,.agg #[.string ⟨#[]⟩,.string ⟨#[]⟩,.int .i64 0,.int .i64 0,.int .i64 0,.bool false,.slice none 0 0,.slice none 0 0,.slice none 0 0],.int .i64 0] rfl (by kernel_rfl) (by kernel_rfl) (by kernel_rfl)
    (OpenSpec.preRow_of_cond 8 hx (by kernel_rfl) (fun k hk=>by cases hk) (by kernel_rfl) (adJ os))) ?_
 intro W base args ds gs before hval hW _ _ hz hL hsh _
 exact contract H enc W base args ds gs before ⟨agh W hL,BE W hsh⟩ hval hW
end Go.Proofs.YtcpmaicaibdafaaGreatDoor.lawTopReversedInvoicesCancel
