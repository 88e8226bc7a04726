/-
  The plain law ParcelMovesMatchSpec carried to the program (first part of the card). No condition.
-/
import Derived.Test.YtnamfglkolhhgabGreatDoorYz
import Derived.Test.YtnamfglkolhhgabGreatDoorYd
import Derived.Test.YtnamfglkolhhgabGreatDoorYk
import Derived.Test.YtnamfglkolhhgabGreatDoorCards
import Derived.Test.YtnamfglkolhhgabGreatDoorTie
set_option linter.all false
set_option maxRecDepth 100000
namespace Go.Proofs.YtnamfglkolhhgabGreatDoor.lawParcelMovesMatchSpec
open Go Go.Dn Go.Md Go.Proofs Go.ChangeShapes Go.WideShapes Go.ChangeAt Go.RowKit
theorem law_true (x:ew (pms [aX,aX,.str,.str])) (hx:TO [aX,aX,.str,.str] x):∃ y,gI x.1 x.2.1 x.2.2.1 x.2.2.2.1=some (true,y):=by
 exact⟨(),law_ParcelMovesMatchSpec x.1 x.2.1 x.2.2.1 x.2.2.2.1 (fun p hp=>(hx.1.2.2.2.2 p hp).1) fun p hp=>(hx.2.1.2.2.2.2 p hp).1⟩
theorem own:ownKnob Tryz.prog.godebug=none:=by kernel_rfl
theorem kids:Kids Tryz.prog (· <Tryz.prog.types.size):=kids_rows (by kernel_rfl) (by kernel_rfl)
theorem full:∀ t e,t<Tryz.prog.types.size→Tryz.prog.underlying t=some (.slice e)→0<Tryz.prog.cellsOf e:=slices_full_of Tryz.prog (by kernel_rfl)
theorem XE (W:World) (h:laidMetH Tryz.prog Rows.parcelMovesMatchSpecRow.laid W):laidMet Tryz.prog Rows.parcelMovesMatchSpecRow.laid W:=by
 have e:(Rows.parcelMovesMatchSpecRow.laid.filter fun x=>x.2.handleName?.isSome)=[]:=by kernel_rfl
 unfold laidMetH at h
 rw[e] at h
 exact h
theorem pow_eq:(Rows.laid_internal_strconv_uint64pow10:DataW Unit)=Lib.tabData .u64 Am:=by kernel_rfl
theorem YO (W:World) (h:laidMetH Tryz.prog Rows.parcelMovesMatchSpecRow.laid W):∀ g,Tryz.prog.globalNamed "internal/strconv.uint64pow10" =some g→∃ T fz,Gw W g=some (.cells (Am.map fun z=>Value.int .u64 z).toArray T fz):=by
 have h3:laidMet Tryz.prog (("internal/strconv.uint64pow10",Rows.laid_internal_strconv_uint64pow10)::_) W:=(XE W h).tail.tail
 rw[pow_eq] at h3
 exact XZ (g:=1) (t:=205) (e:=134) (by kernel_rfl) (by kernel_rfl) (by kernel_rfl) (by kernel_rfl) (by kernel_rfl) (by kernel_rfl) h3
theorem vQ (W:World) (h:W.ShapedOpen Tryz.prog):∀ g,Tryz.prog.globalNamed "internal/bytealg.MaxLen" =some g→∃ n T fz,Gw W g=some (.cells #[Value.int .i64 n] T fz):=
 XY (g:=0) (t:=3) (zero:= #[.int .i64 0]) h (by kernel_rfl) (abT (by kernel_rfl)) (by kernel_rfl) rfl (by kernel_rfl) (by kernel_rfl) (by kernel_rfl)
theorem contract (H:Type) (enc:TypeId×Value→H) (W:World) (base:Nat) (args:Array Value) (ds gs:List (DataW H)) (before:List MemPlace) (hT:nS Tryz.prog (Gw W))
 (hval:∀ (j:Nat) t v,Tryz.f3.params[j]? =some t→args[j]? =some v→Value.okWide Tryz.prog W .any base t v)
 (hW:DataW.Whole enc Tryz.prog Tryz.f3.params.toList Rows.parcelMovesMatchSpecSpec.vars false W args.toList ds gs before):
 Calls Tryz.prog 3 args W fun e W'=>∃ v,e= .returned v∧Rows.parcelMovesMatchSpecSpec.post enc Tryz.prog Tryz.f3 false true false false W args v W':=by
 have hlen:ds.length=4:=by
  obtain⟨p,q,hA,_⟩:=hW
  have:=IE hA
  rw[show Tryz.f3.params.toList.length=4 by kernel_rfl] at this
  omega
 refine law_calls (ts:=[aX,aX,.str,.str]) (fn:=Tryz.f3) SeatU.xT (fun x hx=> ?_) (by kernel_rfl) (tb:=4) (by kernel_rfl) (by kernel_rfl) kids full (by decide) rfl hT ?_ hval hW
 ·exact law_true x hx
 ·match ds,hlen with
  | [_,_,_,_],_=>rfl
noncomputable def Gj (os:Os):World:=Yd Tryz.prog Rows.parcelMovesMatchSpecRow.laid (World.holding Tryz.prog os ⟨#[], #[],[]⟩)
theorem WD (os:Os):laidMet Tryz.prog Rows.parcelMovesMatchSpecRow.laid ((Gj os).forCall (fun _ _=>0) ⟨#[], #[.agg #[.string ⟨#[]⟩,.string ⟨#[]⟩,.int .i64 0,.slice none 0 0],.agg #[.string ⟨#[]⟩,.string ⟨#[]⟩,.int .i64 0,.slice none 0 0],.string ⟨#[]⟩,.string ⟨#[]⟩],[]⟩).memory:=
 laidMet_of_run' 8 (by kernel_rfl) (by kernel_rfl)
theorem reads (os:Os) {H:Type} (enc:TypeId×Value→H):∃ places,DataW.whole enc Tryz.prog ((Gj os).forCall (fun _ _=>0) ⟨#[], #[.agg #[.string ⟨#[]⟩,.string ⟨#[]⟩,.int .i64 0,.slice none 0 0],.agg #[.string ⟨#[]⟩,.string ⟨#[]⟩,.int .i64 0,.slice none 0 0],.string ⟨#[]⟩,.string ⟨#[]⟩],[]⟩).memory Tryz.f3.params.toList Rows.parcelMovesMatchSpecSpec.vars false (#[.agg #[.string ⟨#[]⟩,.string ⟨#[]⟩,.int .i64 0,.slice none 0 0],.agg #[.string ⟨#[]⟩,.string ⟨#[]⟩,.int .i64 0,.slice none 0 0],.string ⟨#[]⟩,.string ⟨#[]⟩]:Array Value).toList 8=some ([.agg [.lit (.string []),.lit (.string []),.lit (.int .i64 0),.nil],.agg [.lit (.string []),.lit (.string []),.lit (.int .i64 0),.nil],.lit (.string []),.lit (.string [])],[],places):=
 ⟨[],by kernel_rfl⟩
theorem lifted (os:Os) (started:os.Started) (H:Type) (enc:TypeId×Value→H) (F:Stop.Interp):
 ReturnsInHanded {} Tryz.checked os 3 .any ((OpenSpec.ofChange Rows.parcelMovesMatchSpecSpec).preRow enc Tryz.prog Tryz.f3 Rows.parcelMovesMatchSpecRow.domain false Rows.parcelMovesMatchSpecRow.laid) (((OpenSpec.ofChange Rows.parcelMovesMatchSpecSpec).at F).post enc Tryz.prog Tryz.f3 false true false false):=by
 obtain⟨places,hx⟩:=reads os enc
 refine returnsInHanded_of_row (C:=Tryz.checked) (s:=(OpenSpec.ofChange Rows.parcelMovesMatchSpecSpec)) own started (by kernel_rfl) Tryz.func3
  (witness_row_at (enc:=enc) (C:=Tryz.checked) false (Gj os) #[.agg #[.string ⟨#[]⟩,.string ⟨#[]⟩,.int .i64 0,.slice none 0 0],.agg #[.string ⟨#[]⟩,.string ⟨#[]⟩,.int .i64 0,.slice none 0 0],.string ⟨#[]⟩,.string ⟨#[]⟩] rfl (by kernel_rfl) (by kernel_rfl) (by kernel_rfl)
    (OpenSpec.preRow_of_cond 8 hx (by kernel_rfl) (fun k hk=>by cases hk) (by kernel_rfl) (WD os))) ?_
 intro W base args ds gs before hval hW _ _ hz hL hsh _
 exact contract H enc W base args ds gs before ⟨YO W hL,vQ W hsh⟩ hval hW
end Go.Proofs.YtnamfglkolhhgabGreatDoor.lawParcelMovesMatchSpec
