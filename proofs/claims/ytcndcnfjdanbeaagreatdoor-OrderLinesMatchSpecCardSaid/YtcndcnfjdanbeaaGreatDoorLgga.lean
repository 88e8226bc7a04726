/-
  The plain law OrderLinesMatchSpec carried to the program (first part of the card). No condition.
-/
import Derived.Test.YtcndcnfjdanbeaaGreatDoorVz
import Derived.Test.YtcndcnfjdanbeaaGreatDoorVk
import Derived.Test.YtcndcnfjdanbeaaGreatDoorVd
import Derived.Test.YtcndcnfjdanbeaaGreatDoorCards
import Derived.Test.YtcndcnfjdanbeaaGreatDoorTie
set_option linter.all false
set_option maxRecDepth 100000
namespace Go.Proofs.YtcndcnfjdanbeaaGreatDoor.lawOrderLinesMatchSpec
open Go Go.Dn Go.Md Go.Proofs Go.ChangeShapes Go.WideShapes Go.ChangeAt Go.RowKit
theorem aco (d:ah) (h:WfS aD d):Txt d:=by
 obtain ⟨_,_,_,_,_,h6,_,h8,_⟩:=h
 have h6':d.2.2.2.2.2.1.length≤reachBytes:=h6
 have h8':d.2.2.2.2.2.2.2.1.length≤reachBytes:=h8
 have e1:reachBytes=140737488351232:=rfl
 have e2:maxLen=9223372036854775807:=rfl
 unfold Txt
 omega
theorem law_true (x:iy (pms [bh,.slice aD,tI,tI])) (hx:UF [bh,.slice aD,tI,tI] x):∃ y,jM x.1 x.2.1 x.2.2.1 x.2.2.2.1=some (true,y):=by
 exact ⟨(),law_OrderLinesMatchSpec x.1 x.2.1 x.2.2.1 x.2.2.2.1 (fun d hd=>aco d (hx.2.1.2 d hd))⟩
theorem own:ownKnob Tryz.prog.godebug=none:=by kernel_rfl
theorem kids:Kids Tryz.prog (· <Tryz.prog.types.size):=kids_rows (by kernel_rfl) (by kernel_rfl)
theorem full:∀ t e,t<Tryz.prog.types.size→Tryz.prog.underlying t=some (.slice e)→0<Tryz.prog.cellsOf e:=slices_full_of Tryz.prog (by kernel_rfl)
theorem abq (W:World) (h:laidMetH Tryz.prog Rows.orderLinesMatchSpecRow.laid W):laidMet Tryz.prog Rows.orderLinesMatchSpecRow.laid W:=by
 have e:(Rows.orderLinesMatchSpecRow.laid.filter fun x=>x.2.handleName?.isSome)=[]:=by kernel_rfl
 unfold laidMetH at h
 rw [e] at h
 exact h
theorem pow_eq:(Rows.laid_internal_strconv_uint64pow10:DataW Unit)=Lib.tabData .u64 MP:=by kernel_rfl
theorem acJ (W:World) (h:laidMetH Tryz.prog Rows.orderLinesMatchSpecRow.laid W):∀ g,Tryz.prog.globalNamed "internal/strconv.uint64pow10" =some g→∃ T fz,Gw W g=some (.cells (MP.map fun z=>Value.int .u64 z).toArray T fz):=by
 have h3:laidMet Tryz.prog (("internal/strconv.uint64pow10",Rows.laid_internal_strconv_uint64pow10)::_) W:=(abq W h).tail.tail
 rw [pow_eq] at h3
 exact abP (g:=5) (t:=306) (e:=190) (by kernel_rfl) (by kernel_rfl) (by kernel_rfl) (by kernel_rfl) (by kernel_rfl) (by kernel_rfl) h3
theorem sH (W:World) (h:W.ShapedOpen Tryz.prog):∀ g,Tryz.prog.globalNamed "internal/bytealg.MaxLen" =some g→∃ n T fz,Gw W g=some (.cells #[Value.int .i64 n] T fz):=
 abO (g:=0) (t:=3) (zero:= #[.int .i64 0]) h (by kernel_rfl) (afF (by kernel_rfl)) (by kernel_rfl) rfl (by kernel_rfl) (by kernel_rfl) (by kernel_rfl)
theorem contract (H:Type) (enc:TypeId×Value→H) (W:World) (base:Nat) (args:Array Value) (ds gs:List (DataW H)) (before:List MemPlace) (hT:w9 Tryz.prog (Gw W))
 (hval:∀ (j:Nat) t v,Tryz.f3.params[j]? =some t→args[j]? =some v→Value.okWide Tryz.prog W .any base t v)
 (hW:DataW.Whole enc Tryz.prog Tryz.f3.params.toList Rows.orderLinesMatchSpecSpec.vars false W args.toList ds gs before) (hwt:∀ n,n∈DataW.weightsEach Tryz.prog Tryz.f3.params.toList ds→n≤reachBytes):
 Calls Tryz.prog 3 args W fun e W'=>∃ v,e= .returned v∧Rows.orderLinesMatchSpecSpec.post enc Tryz.prog Tryz.f3 false true false false W args v W':=by
 have hlen:ds.length=4:=by
  obtain ⟨p,q,hA,_⟩:=hW
  have:=OL hA
  rw [show Tryz.f3.params.toList.length=4 by kernel_rfl] at this
  omega
 refine law_callsS (ts:=[bh,.slice aD,tI,tI]) (fn:=Tryz.f3) SeatA.Dx (fun x hx=> ?_) (by kernel_rfl) (tb:=4) (by kernel_rfl) (by kernel_rfl) kids full (by decide) rfl hT ?_ hval hW hwt
 ·exact law_true x hx
 ·match ds,hlen with
  | [_,_,_,_],_=>rfl
noncomputable def Mq (os:Os):World:=acA Tryz.prog 297 299 (Rows.orderLinesMatchSpecRow.laid.filter fun x=>isIf x.2) <| ab6 Tryz.prog (Rows.orderLinesMatchSpecRow.laid.filter fun x=> !isIf x.2) (World.holding Tryz.prog os ⟨#[], #[],[]⟩)
theorem aaq (os:Os):laidMet Tryz.prog Rows.orderLinesMatchSpecRow.laid ((Mq os).forCall (fun _ _=>0) ⟨#[], #[.agg #[.string ⟨#[]⟩,.string ⟨#[]⟩,.string ⟨#[]⟩,.int .i64 0,.int .i64 0,.slice none 0 0],.slice none 0 0,.int .i64 0,.int .i64 0],[]⟩).memory:=
 laidMet_of_run' 8 (by kernel_rfl) (by kernel_rfl)
theorem reads (os:Os) {H:Type} (enc:TypeId×Value→H):∃ places,DataW.whole enc Tryz.prog ((Mq os).forCall (fun _ _=>0) ⟨#[], #[.agg #[.string ⟨#[]⟩,.string ⟨#[]⟩,.string ⟨#[]⟩,.int .i64 0,.int .i64 0,.slice none 0 0],.slice none 0 0,.int .i64 0,.int .i64 0],[]⟩).memory Tryz.f3.params.toList Rows.orderLinesMatchSpecSpec.vars false (#[.agg #[.string ⟨#[]⟩,.string ⟨#[]⟩,.string ⟨#[]⟩,.int .i64 0,.int .i64 0,.slice none 0 0],.slice none 0 0,.int .i64 0,.int .i64 0]:Array Value).toList 8=some ([.agg [.lit (.string []),.lit (.string []),.lit (.string []),.lit (.int .i64 0),.lit (.int .i64 0),.nil],.nil,.lit (.int .i64 0),.lit (.int .i64 0)],[],places):=
 ⟨[],by kernel_rfl⟩
theorem lifted (os:Os) (started:os.Started) (H:Type) (enc:TypeId×Value→H) (F:Stop.Interp):
 ReturnsInHanded {} Tryz.checked os 3 .any ((OpenSpec.ofChange Rows.orderLinesMatchSpecSpec).preRow enc Tryz.prog Tryz.f3 Rows.orderLinesMatchSpecRow.domain false Rows.orderLinesMatchSpecRow.laid) (((OpenSpec.ofChange Rows.orderLinesMatchSpecSpec).at F).post enc Tryz.prog Tryz.f3 false true false false):=by
 obtain ⟨places,hx⟩:=reads os enc
 refine returnsInHanded_of_row (C:=Tryz.checked) (s:=(OpenSpec.ofChange Rows.orderLinesMatchSpecSpec)) own started (by kernel_rfl) Tryz.func3
  (witness_row_at (enc:=enc) (C:=Tryz.checked) false (Mq os) #[.agg #[.string ⟨#[]⟩,.string ⟨#[]⟩,.string ⟨#[]⟩,.int .i64 0,.int .i64 0,.slice none 0 0],.slice none 0 0,.int .i64 0,.int .i64 0] rfl (by kernel_rfl) (by kernel_rfl) (by kernel_rfl)
    (OpenSpec.preRow_of_cond 8 hx (by kernel_rfl) (fun k hk=>by cases hk) (by kernel_rfl) (aaq os))) ?_
 intro W base args ds gs before hval hW _ _ hz hL hsh _
 exact contract H enc W base args ds gs before ⟨acJ W hL,sH W hsh⟩ hval hW (YU hz)
end Go.Proofs.YtcndcnfjdanbeaaGreatDoor.lawOrderLinesMatchSpec
