/-
  The plain law TopShippedIsBilledOnce carried to the program (first part of the card). No condition.
-/
import Derived.Test.YtakjkcibbeeekaaGreatDoorYr
import Derived.Test.YtakjkcibbeeekaaGreatDoorYe
import Derived.Test.YtakjkcibbeeekaaGreatDoorYd
import Derived.Test.YtakjkcibbeeekaaGreatDoorYo
import Derived.Test.YtakjkcibbeeekaaGreatDoorCards
import Derived.Test.YtakjkcibbeeekaaGreatDoorTie
set_option maxRecDepth 100000
namespace Go.Proofs.YtakjkcibbeeekaaGreatDoor.lawTopShippedIsBilledOnce
open Go Go.Dn Go.Md Go.Proofs Go.ChangeShapes Go.WideShapes Go.ChangeAt Go.RowKit
theorem law_true (x:eL (pms [bJ,.slice aY,.str,tI,bB])) (_hx:aaB [bJ,.slice aY,.str,tI,bB] x):∃ y,kV x.1 x.2.1 x.2.2.1 x.2.2.2.1 x.2.2.2.2.1=some (true,y):=by
 exact⟨(),law_TopShippedIsBilledOnce x.1 x.2.1 x.2.2.1 x.2.2.2.1 x.2.2.2.2.1⟩
theorem own:ownKnob Tryz.prog.godebug=none:=by kernel_rfl
theorem kids:Kids Tryz.prog (· <Tryz.prog.types.size):=kids_rows (by kernel_rfl) (by kernel_rfl)
theorem full:∀ t e,t<Tryz.prog.types.size->Tryz.prog.underlying t=some (.slice e)->0<Tryz.prog.cellsOf e:=slices_full_of Tryz.prog (by kernel_rfl)
theorem ae6 (W:World) (h:laidMetH Tryz.prog Rows.topShippedIsBilledOnceRow.laid W):laidMet Tryz.prog Rows.topShippedIsBilledOnceRow.laid W:=by
 have e:(Rows.topShippedIsBilledOnceRow.laid.filter fun x=>x.2.handleName?.isSome)=[]:=by kernel_rfl
 unfold laidMetH at h
 rw[e] at h
 exact h
theorem pow_eq:(Rows.laid_internal_strconv_uint64pow10:DataW Unit)=Lib.tabData .u64 HH:=by kernel_rfl
theorem agG (W:World) (h:laidMetH Tryz.prog Rows.topShippedIsBilledOnceRow.laid W):∀ g,Tryz.prog.globalNamed "internal/strconv.uint64pow10" =some g->∃ T fz,Gw W g=some (.cells (HH.map fun z=>Value.int .u64 z).toArray T fz):=by
 have h3:laidMet Tryz.prog (("internal/strconv.uint64pow10",Rows.laid_internal_strconv_uint64pow10)::_) W:=(ae6 W h).tail.tail
 rw[pow_eq] at h3
 exact afw (g:=3) (t:=341) (e:=228) (by kernel_rfl) (by kernel_rfl) (by kernel_rfl) (by kernel_rfl) (by kernel_rfl) (by kernel_rfl) h3
theorem BN (W:World) (h:W.ShapedOpen Tryz.prog):∀ g,Tryz.prog.globalNamed "internal/bytealg.MaxLen" =some g->∃ n T fz,Gw W g=some (.cells #[Value.int .i64 n] T fz):=
 afv (g:=0) (t:=3) (zero:= #[.int .i64 0]) h (by kernel_rfl) (aj5 (by kernel_rfl)) (by kernel_rfl) rfl (by kernel_rfl) (by kernel_rfl) (by kernel_rfl)
theorem contract (H:Type) (enc:TypeId×Value->H) (W:World) (base:Nat) (args:Array Value) (ds gs:List (DataW H)) (before:List MemPlace) (hT:vT Tryz.prog (Gw W)) (hval:∀ (j:Nat) t v,Tryz.f3.params[j]? =some t->args[j]? =some v->Value.okWide Tryz.prog W .any base t v) (hW:DataW.Whole enc Tryz.prog Tryz.f3.params.toList Rows.topShippedIsBilledOnceSpec.vars false W args.toList ds gs before): Calls Tryz.prog 3 args W fun e W'=>∃ v,e= .returned v/\Rows.topShippedIsBilledOnceSpec.post enc Tryz.prog Tryz.f3 false true false false W args v W':=by
 have hlen:ds.length=5:=by
  obtain⟨p,q,hA,_⟩:=hW
  have:=QT hA
  rw[show Tryz.f3.params.toList.length=5 by kernel_rfl] at this
  omega
 refine law_calls (ts:=[bJ,.slice aY,.str,tI,bB]) (fn:=Tryz.f3) SeatU.DN (fun x hx=> ?_) (by kernel_rfl) (tb:=4) (by kernel_rfl) (by kernel_rfl) kids full (by decide) rfl hT ?_ hval hW
 ·exact law_true x hx
 ·match ds,hlen with
  | [_,_,_,_,_],_=>rfl
noncomputable def Ow (os:Os):World:=afV Tryz.prog Rows.topShippedIsBilledOnceRow.laid (World.holding Tryz.prog os ⟨#[], #[],[]⟩)
theorem adO (os:Os):laidMet Tryz.prog Rows.topShippedIsBilledOnceRow.laid ((Ow os).forCall (fun _ _=>0) ⟨#[], #[.agg #[.string ⟨#[]⟩,.string ⟨#[]⟩,.string ⟨#[]⟩,.int .i64 0,.int .i64 0,.slice none 0 0],.slice none 0 0,.string ⟨#[]⟩,.int .i64 0,.agg #[.string ⟨#[]⟩,.string ⟨#[]⟩,.int .i64 0,.int .i64 0,.int .i64 0,.bool false,.slice none 0 0,.slice none 0 0,.slice none 0 0]],[]⟩).memory:=
 laidMet_of_run' 8 (by kernel_rfl) (by kernel_rfl)
theorem reads (os:Os) {H:Type} (enc:TypeId×Value->H):∃ places,DataW.whole enc Tryz.prog ((Ow os).forCall (fun _ _=>0) ⟨#[], #[.agg #[.string ⟨#[]⟩,.string ⟨#[]⟩,.string ⟨#[]⟩,.int .i64 0,.int .i64 0,.slice none 0 0],.slice none 0 0,.string ⟨#[]⟩,.int .i64 0,.agg #[.string ⟨#[]⟩,.string ⟨#[]⟩,.int .i64 0,.int .i64 0,.int .i64 0,.bool false,.slice none 0 0,.slice none 0 0,.slice none 0 0]],[]⟩).memory Tryz.f3.params.toList Rows.topShippedIsBilledOnceSpec.vars false (#[.agg #[.string ⟨#[]⟩,.string ⟨#[]⟩,.string ⟨#[]⟩,.int .i64 0,.int .i64 0,.slice none 0 0],.slice none 0 0,.string ⟨#[]⟩,.int .i64 0,.agg #[.string ⟨#[]⟩,.string ⟨#[]⟩,.int .i64 0,.int .i64 0,.int .i64 0,.bool false,.slice none 0 0,.slice none 0 0,.slice none 0 0]]:Array Value).toList 8=some ([.agg [.lit (.string []),.lit (.string []),.lit (.string []),.lit (.int .i64 0),.lit (.int .i64 0),.nil],.nil,.lit (.string []),.lit (.int .i64 0),.agg [.lit (.string []),.lit (.string []),.lit (.int .i64 0),.lit (.int .i64 0),.lit (.int .i64 0),.lit (.bool false),.nil,.nil,.nil]],[],places):=
 ⟨[],by kernel_rfl⟩
theorem lifted (os:Os) (started:os.Started) (H:Type) (enc:TypeId×Value->H) (F:Stop.Interp): ReturnsInHanded {} Tryz.checked os 3 .any ((OpenSpec.ofChange Rows.topShippedIsBilledOnceSpec).preRow enc Tryz.prog Tryz.f3 Rows.topShippedIsBilledOnceRow.domain false Rows.topShippedIsBilledOnceRow.laid) (((OpenSpec.ofChange Rows.topShippedIsBilledOnceSpec).at F).post enc Tryz.prog Tryz.f3 false true false false):=by
 obtain⟨places,hx⟩:=reads os enc
 refine returnsInHanded_of_row (C:=Tryz.checked) (s:=(OpenSpec.ofChange Rows.topShippedIsBilledOnceSpec)) own started (by kernel_rfl) Tryz.func3
  (witness_row_at (enc:=enc) (C:=Tryz.checked) false (Ow os) #[.agg #[.string ⟨#[]⟩,.string ⟨#[]⟩,.string ⟨#[]⟩,.int .i64 0,.int .i64 0,.slice none 0 0],.slice none 0 0,.string ⟨#[]⟩,.int .i64 0,.agg #[.string ⟨#[]⟩,.string ⟨#[]⟩,.int .i64 0,.int .i64 0,.int .i64 0,.bool false,.slice none 0 0,.slice none 0 0,.slice none 0 0]] rfl (by kernel_rfl) (by kernel_rfl) (by kernel_rfl)
    (OpenSpec.preRow_of_cond 8 hx (by kernel_rfl) (fun k hk=>by cases hk) (by kernel_rfl) (adO os))) ?_
 intro W base args ds gs before hval hW _ _ hz hL hsh _
 exact contract H enc W base args ds gs before ⟨agG W hL,BN W hsh⟩ hval hW
end Go.Proofs.YtakjkcibbeeekaaGreatDoor.lawTopShippedIsBilledOnce
