/-
  The plain law OrderPlansMatchSpec carried to the program (first part of the card). No condition.
-/
import Derived.Test.YtcndcnfjdanbeaaGreatDoorXz
import Derived.Test.YtcndcnfjdanbeaaGreatDoorXi
import Derived.Test.YtcndcnfjdanbeaaGreatDoorXd
import Derived.Test.YtcndcnfjdanbeaaGreatDoorCards
import Derived.Test.YtcndcnfjdanbeaaGreatDoorTie
set_option linter.all false
set_option maxRecDepth 100000
namespace Go.Proofs.YtcndcnfjdanbeaaGreatDoor.lawOrderPlansMatchSpec
open Go Go.Dn Go.Md Go.Proofs Go.ChangeShapes Go.WideShapes Go.ChangeAt Go.RowKit
theorem afN (d:aa) (h:WfS aF d):Txt d:=by
 obtain⟨_,_,_,_,_,h6,_,h8,_⟩:=h
 have h6':d.2.2.2.2.2.1.length≤reachBytes:=h6
 have h8':d.2.2.2.2.2.2.2.1.length≤reachBytes:=h8
 have e1:reachBytes=140737488351232:=rfl
 have e2:maxLen=9223372036854775807:=rfl
 unfold Txt
 omega
theorem law_true (x:gu (pms [bB,.slice aF,tI,.slice cu])) (hx:WE [bB,.slice aF,tI,.slice cu] x):∃ y,lH x.1 x.2.1 x.2.2.1 x.2.2.2.1=some (true,y):=by
 exact⟨(),law_OrderPlansMatchSpec x.1 x.2.1 x.2.2.1 x.2.2.2.1 (fun d hd=>afN d (hx.2.1.2 d hd))⟩
theorem own:ownKnob Tryz.prog.godebug=none:=by kernel_rfl
theorem kids:Kids Tryz.prog (· <Tryz.prog.types.size):=kids_rows (by kernel_rfl) (by kernel_rfl)
theorem full:∀ t e,t<Tryz.prog.types.size→Tryz.prog.underlying t=some (.slice e)→0<Tryz.prog.cellsOf e:=slices_full_of Tryz.prog (by kernel_rfl)
theorem aeS (W:World) (h:laidMetH Tryz.prog Rows.orderPlansMatchSpecRow.laid W):laidMet Tryz.prog Rows.orderPlansMatchSpecRow.laid W:=by
 have e:(Rows.orderPlansMatchSpecRow.laid.filter fun x=>x.2.handleName?.isSome)=[]:=by kernel_rfl
 unfold laidMetH at h
 rw[e] at h
 exact h
theorem pow_eq:(Rows.laid_internal_strconv_uint64pow10:DataW Unit)=Lib.tabData .u64 Oz:=by kernel_rfl
theorem aga (W:World) (h:laidMetH Tryz.prog Rows.orderPlansMatchSpecRow.laid W):∀ g,Tryz.prog.globalNamed "internal/strconv.uint64pow10" =some g→∃ T fz,Gw W g=some (.cells (Oz.map fun z=>Value.int .u64 z).toArray T fz):=by
 have h3:laidMet Tryz.prog (("internal/strconv.uint64pow10",Rows.laid_internal_strconv_uint64pow10)::_) W:=(aeS W h).tail.tail
 rw[pow_eq] at h3
 exact aff (g:=5) (t:=306) (e:=190) (by kernel_rfl) (by kernel_rfl) (by kernel_rfl) (by kernel_rfl) (by kernel_rfl) (by kernel_rfl) h3
theorem sI (W:World) (h:W.ShapedOpen Tryz.prog):∀ g,Tryz.prog.globalNamed "internal/bytealg.MaxLen" =some g→∃ n T fz,Gw W g=some (.cells #[Value.int .i64 n] T fz):=
 afe (g:=0) (t:=3) (zero:= #[.int .i64 0]) h (by kernel_rfl) (ajv (by kernel_rfl)) (by kernel_rfl) rfl (by kernel_rfl) (by kernel_rfl) (by kernel_rfl)
theorem contract (H:Type) (enc:TypeId×Value→H) (W:World) (base:Nat) (args:Array Value) (ds gs:List (DataW H)) (before:List MemPlace) (hT:yq Tryz.prog (Gw W))
 (hval:∀ (j:Nat) t v,Tryz.f5.params[j]? =some t→args[j]? =some v→Value.okWide Tryz.prog W .any base t v)
 (hW:DataW.Whole enc Tryz.prog Tryz.f5.params.toList Rows.orderPlansMatchSpecSpec.vars false W args.toList ds gs before) (hwt:∀ n,n∈DataW.weightsEach Tryz.prog Tryz.f5.params.toList ds→n≤reachBytes):
 Calls Tryz.prog 5 args W fun e W'=>∃ v,e= .returned v∧Rows.orderPlansMatchSpecSpec.post enc Tryz.prog Tryz.f5 false true false false W args v W':=by
 have hlen:ds.length=4:=by
  obtain⟨p,q,hA,_⟩:=hW
  have:=QF hA
  rw[show Tryz.f5.params.toList.length=4 by kernel_rfl] at this
  omega
 refine law_callsS (ts:=[bB,.slice aF,tI,.slice cu]) (fn:=Tryz.f5) SeatA.EH (fun x hx=> ?_) (by kernel_rfl) (tb:=4) (by kernel_rfl) (by kernel_rfl) kids full (by decide) rfl hT ?_ hval hW hwt
 ·exact law_true x hx
 ·match ds,hlen with
  | [_,_,_,_],_=>rfl
noncomputable def NY (os:Os):World:=afZ Tryz.prog 297 299 (Rows.orderPlansMatchSpecRow.laid.filter fun x=>isIf x.2) <| afz Tryz.prog (Rows.orderPlansMatchSpecRow.laid.filter fun x=> !isIf x.2) (World.holding Tryz.prog os ⟨#[], #[],[]⟩)
theorem adL (os:Os):laidMet Tryz.prog Rows.orderPlansMatchSpecRow.laid ((NY os).forCall (fun _ _=>0) ⟨#[], #[.agg #[.string ⟨#[]⟩,.string ⟨#[]⟩,.string ⟨#[]⟩,.int .i64 0,.int .i64 0,.slice none 0 0],.slice none 0 0,.int .i64 0,.slice none 0 0],[]⟩).memory:=
 laidMet_of_run' 8 (by kernel_rfl) (by kernel_rfl)
theorem reads (os:Os) {H:Type} (enc:TypeId×Value→H):∃ places,DataW.whole enc Tryz.prog ((NY os).forCall (fun _ _=>0) ⟨#[], #[.agg #[.string ⟨#[]⟩,.string ⟨#[]⟩,.string ⟨#[]⟩,.int .i64 0,.int .i64 0,.slice none 0 0],.slice none 0 0,.int .i64 0,.slice none 0 0],[]⟩).memory Tryz.f5.params.toList Rows.orderPlansMatchSpecSpec.vars false (#[.agg #[.string ⟨#[]⟩,.string ⟨#[]⟩,.string ⟨#[]⟩,.int .i64 0,.int .i64 0,.slice none 0 0],.slice none 0 0,.int .i64 0,.slice none 0 0]:Array Value).toList 8=some ([.agg [.lit (.string []),.lit (.string []),.lit (.string []),.lit (.int .i64 0),.lit (.int .i64 0),.nil],.nil,.lit (.int .i64 0),.nil],[],places):=
 ⟨[],by kernel_rfl⟩
theorem lifted (os:Os) (started:os.Started) (H:Type) (enc:TypeId×Value→H) (F:Stop.Interp):
 ReturnsInHanded {} Tryz.checked os 5 .any ((OpenSpec.ofChange Rows.orderPlansMatchSpecSpec).preRow enc Tryz.prog Tryz.f5 Rows.orderPlansMatchSpecRow.domain false Rows.orderPlansMatchSpecRow.laid) (((OpenSpec.ofChange Rows.orderPlansMatchSpecSpec).at F).post enc Tryz.prog Tryz.f5 false true false false):=by
 obtain⟨places,hx⟩:=reads os enc
 refine returnsInHanded_of_row (C:=Tryz.checked) (s:=(OpenSpec.ofChange Rows.orderPlansMatchSpecSpec)) own started (by kernel_rfl) Tryz.func5
  (witness_row_at (enc:=enc) (C:=Tryz.checked) false (NY os) #[.agg #[.string ⟨#[]⟩,.string ⟨#[]⟩,.string ⟨#[]⟩,.int .i64 0,.int .i64 0,.slice none 0 0],.slice none 0 0,.int .i64 0,.slice none 0 0] rfl (by kernel_rfl) (by kernel_rfl) (by kernel_rfl)
    (OpenSpec.preRow_of_cond 8 hx (by kernel_rfl) (fun k hk=>by cases hk) (by kernel_rfl) (adL os))) ?_
 intro W base args ds gs before hval hW _ _ hz hL hsh _
 exact contract H enc W base args ds gs before ⟨aga W hL,sI W hsh⟩ hval hW (abG hz)
end Go.Proofs.YtcndcnfjdanbeaaGreatDoor.lawOrderPlansMatchSpec
