/-
  The plain law OrderDueMatchesSpec carried to the program (first part of the card). No condition.
-/
import Derived.Test.YtcndcnfjdanbeaaGreatDoorXz
import Derived.Test.YtcndcnfjdanbeaaGreatDoorXj
import Derived.Test.YtcndcnfjdanbeaaGreatDoorXd
import Derived.Test.YtcndcnfjdanbeaaGreatDoorCards
import Derived.Test.YtcndcnfjdanbeaaGreatDoorTie
set_option linter.all false
set_option maxRecDepth 100000
namespace Go.Proofs.YtcndcnfjdanbeaaGreatDoor.lawOrderDueMatchesSpec
open Go Go.Dn Go.Md Go.Proofs Go.ChangeShapes Go.WideShapes Go.ChangeAt Go.RowKit
theorem agk (d:aa) (h:WfS ay d):Txt d:=by
 obtain⟨_,_,_,_,_,h6,_,h8,_⟩:=h
 have h6':d.2.2.2.2.2.1.length≤reachBytes:=h6
 have h8':d.2.2.2.2.2.2.2.1.length≤reachBytes:=h8
 have e1:reachBytes=140737488351232:=rfl
 have e2:maxLen=9223372036854775807:=rfl
 unfold Txt
 omega
theorem law_true (x:gi (pms [bp,.slice ay,tI,tI])) (hx:XB [bp,.slice ay,tI,tI] x):∃ y,lz x.1 x.2.1 x.2.2.1 x.2.2.2.1=some (true,y):=by
 exact⟨(),law_OrderDueMatchesSpec x.1 x.2.1 x.2.2.1 x.2.2.2.1 (fun d hd=>agk d (hx.2.1.2 d hd))⟩
theorem own:ownKnob Tryz.prog.godebug=none:=by kernel_rfl
theorem kids:Kids Tryz.prog (· <Tryz.prog.types.size):=kids_rows (by kernel_rfl) (by kernel_rfl)
theorem full:∀ t e,t<Tryz.prog.types.size→Tryz.prog.underlying t=some (.slice e)→0<Tryz.prog.cellsOf e:=slices_full_of Tryz.prog (by kernel_rfl)
theorem afr (W:World) (h:laidMetH Tryz.prog Rows.orderDueMatchesSpecRow.laid W):laidMet Tryz.prog Rows.orderDueMatchesSpecRow.laid W:=by
 have e:(Rows.orderDueMatchesSpecRow.laid.filter fun x=>x.2.handleName?.isSome)=[]:=by kernel_rfl
 unfold laidMetH at h
 rw[e] at h
 exact h
theorem pow_eq:(Rows.laid_internal_strconv_uint64pow10:DataW Unit)=Lib.tabData .u64 Pq:=by kernel_rfl
theorem agD (W:World) (h:laidMetH Tryz.prog Rows.orderDueMatchesSpecRow.laid W):∀ g,Tryz.prog.globalNamed "internal/strconv.uint64pow10" =some g→∃ T fz,Gw W g=some (.cells (Pq.map fun z=>Value.int .u64 z).toArray T fz):=by
 have h3:laidMet Tryz.prog (("internal/strconv.uint64pow10",Rows.laid_internal_strconv_uint64pow10)::_) W:=(afr W h).tail.tail
 rw[pow_eq] at h3
 exact afO (g:=5) (t:=306) (e:=190) (by kernel_rfl) (by kernel_rfl) (by kernel_rfl) (by kernel_rfl) (by kernel_rfl) (by kernel_rfl) h3
theorem nq (W:World) (h:W.ShapedOpen Tryz.prog):∀ g,Tryz.prog.globalNamed "internal/bytealg.MaxLen" =some g→∃ n T fz,Gw W g=some (.cells #[Value.int .i64 n] T fz):=
 afN (g:=0) (t:=3) (zero:= #[.int .i64 0]) h (by kernel_rfl) (ajU (by kernel_rfl)) (by kernel_rfl) rfl (by kernel_rfl) (by kernel_rfl) (by kernel_rfl)
theorem contract (H:Type) (enc:TypeId×Value→H) (W:World) (base:Nat) (args:Array Value) (ds gs:List (DataW H)) (before:List MemPlace) (hT:yC Tryz.prog (Gw W))
 (hval:∀ (j:Nat) t v,Tryz.f4.params[j]? =some t→args[j]? =some v→Value.okWide Tryz.prog W .any base t v)
 (hW:DataW.Whole enc Tryz.prog Tryz.f4.params.toList Rows.orderDueMatchesSpecSpec.vars false W args.toList ds gs before) (hwt:∀ n,n∈DataW.weightsEach Tryz.prog Tryz.f4.params.toList ds→n≤reachBytes):
 Calls Tryz.prog 4 args W fun e W'=>∃ v,e= .returned v∧Rows.orderDueMatchesSpecSpec.post enc Tryz.prog Tryz.f4 false true false false W args v W':=by
 have hlen:ds.length=4:=by
  obtain⟨p,q,hA,_⟩:=hW
  have:=RE hA
  rw[show Tryz.f4.params.toList.length=4 by kernel_rfl] at this
  omega
 refine law_callsS (ts:=[bp,.slice ay,tI,tI]) (fn:=Tryz.f4) SeatA.Fp (fun x hx=> ?_) (by kernel_rfl) (tb:=4) (by kernel_rfl) (by kernel_rfl) kids full (by decide) rfl hT ?_ hval hW hwt
 ·exact law_true x hx
 ·match ds,hlen with
  | [_,_,_,_],_=>rfl
noncomputable def OO (os:Os):World:=agv Tryz.prog 297 299 (Rows.orderDueMatchesSpecRow.laid.filter fun x=>isIf x.2) <| af5 Tryz.prog (Rows.orderDueMatchesSpecRow.laid.filter fun x=> !isIf x.2) (World.holding Tryz.prog os ⟨#[], #[],[]⟩)
theorem aen (os:Os):laidMet Tryz.prog Rows.orderDueMatchesSpecRow.laid ((OO os).forCall (fun _ _=>0) ⟨#[], #[.agg #[.string ⟨#[]⟩,.string ⟨#[]⟩,.string ⟨#[]⟩,.int .i64 0,.int .i64 0,.slice none 0 0],.slice none 0 0,.int .i64 0,.int .i64 0],[]⟩).memory:=
 laidMet_of_run' 8 (by kernel_rfl) (by kernel_rfl)
theorem reads (os:Os) {H:Type} (enc:TypeId×Value→H):∃ places,DataW.whole enc Tryz.prog ((OO os).forCall (fun _ _=>0) ⟨#[], #[.agg #[.string ⟨#[]⟩,.string ⟨#[]⟩,.string ⟨#[]⟩,.int .i64 0,.int .i64 0,.slice none 0 0],.slice none 0 0,.int .i64 0,.int .i64 0],[]⟩).memory Tryz.f4.params.toList Rows.orderDueMatchesSpecSpec.vars false (#[.agg #[.string ⟨#[]⟩,.string ⟨#[]⟩,.string ⟨#[]⟩,.int .i64 0,.int .i64 0,.slice none 0 0],.slice none 0 0,.int .i64 0,.int .i64 0]:Array Value).toList 8=some ([.agg [.lit (.string []),.lit (.string []),.lit (.string []),.lit (.int .i64 0),.lit (.int .i64 0),.nil],.nil,.lit (.int .i64 0),.lit (.int .i64 0)],[],places):=
 ⟨[],by kernel_rfl⟩
theorem lifted (os:Os) (started:os.Started) (H:Type) (enc:TypeId×Value→H) (F:Stop.Interp):
 ReturnsInHanded {} Tryz.checked os 4 .any ((OpenSpec.ofChange Rows.orderDueMatchesSpecSpec).preRow enc Tryz.prog Tryz.f4 Rows.orderDueMatchesSpecRow.domain false Rows.orderDueMatchesSpecRow.laid) (((OpenSpec.ofChange Rows.orderDueMatchesSpecSpec).at F).post enc Tryz.prog Tryz.f4 false true false false):=by
 obtain⟨places,hx⟩:=reads os enc
 refine returnsInHanded_of_row (C:=Tryz.checked) (s:=(OpenSpec.ofChange Rows.orderDueMatchesSpecSpec)) own started (by kernel_rfl) Tryz.func4
  (witness_row_at (enc:=enc) (C:=Tryz.checked) false (OO os) #[.agg #[.string ⟨#[]⟩,.string ⟨#[]⟩,.string ⟨#[]⟩,.int .i64 0,.int .i64 0,.slice none 0 0],.slice none 0 0,.int .i64 0,.int .i64 0] rfl (by kernel_rfl) (by kernel_rfl) (by kernel_rfl)
    (OpenSpec.preRow_of_cond 8 hx (by kernel_rfl) (fun k hk=>by cases hk) (by kernel_rfl) (aen os))) ?_
 intro W base args ds gs before hval hW _ _ hz hL hsh _
 exact contract H enc W base args ds gs before ⟨agD W hL,nq W hsh⟩ hval hW (ack hz)
end Go.Proofs.YtcndcnfjdanbeaaGreatDoor.lawOrderDueMatchesSpec
