/-
  The plain law OrderChangesMatchSpec carried to the program (first part of the card). No condition.
-/
import Derived.Test.YtekilbogbgmbbaaGreatDoorYl
import Derived.Test.YtekilbogbgmbbaaGreatDoorYd
import Derived.Test.YtekilbogbgmbbaaGreatDoorYz
import Derived.Test.YtekilbogbgmbbaaGreatDoorCards
import Derived.Test.YtekilbogbgmbbaaGreatDoorTie
set_option maxRecDepth 100000
namespace Go.Proofs.YtekilbogbgmbbaaGreatDoor.lawOrderChangesMatchSpec
open Go Go.Dn Go.Md Go.Proofs Go.ChangeShapes Go.WideShapes Go.ChangeAt Go.RowKit
theorem acq (d:aa) (h:WfS aq d):Txt d:=by
 obtain⟨_,_,_,_,_,h6,_,h8,_⟩:=h
 have h6':d.2.2.2.2.2.1.length<=reachBytes:=h6
 have h8':d.2.2.2.2.2.2.2.1.length<=reachBytes:=h8
 have e1:reachBytes=140737488351232:=rfl
 have e2:maxLen=9223372036854775807:=rfl
 unfold Txt
 omega
theorem law_true (x:gh (pms [aH,aH,.slice aq,tI])) (hx:Si [aH,aH,.slice aq,tI] x):∃ y,iu x.1 x.2.1 x.2.2.1 x.2.2.2.1=some (true,y):=by
 exact⟨(),law9_ChangesMatchSpec x.1 x.2.1 x.2.2.1 x.2.2.2.1 (fun d hd=>acq d (hx.2.2.1.2 d hd))⟩
theorem own:ownKnob Tryz.prog.godebug=none:=by kernel_rfl
theorem kids:Kids Tryz.prog (· <Tryz.prog.types.size):=kids_rows (by kernel_rfl) (by kernel_rfl)
theorem full:∀ t e,t<Tryz.prog.types.size->Tryz.prog.underlying t=some (.slice e)->0<Tryz.prog.cellsOf e:=slices_full_of Tryz.prog (by kernel_rfl)
theorem abp (W:World) (h:laidMetH Tryz.prog Rows.orderChangesMatchSpecRow.laid W):laidMet Tryz.prog Rows.orderChangesMatchSpecRow.laid W:=by
 have e:(Rows.orderChangesMatchSpecRow.laid.filter fun x=>x.2.handleName?.isSome)=[]:=by kernel_rfl
 unfold laidMetH at h
 rw[e] at h
 exact h
theorem pow_eq:(Rows.laid_internal_strconv_uint64pow10:DataW Unit)=Lib.tabData .u64 I6:=by kernel_rfl
theorem acQ (W:World) (h:laidMetH Tryz.prog Rows.orderChangesMatchSpecRow.laid W):∀ g,Tryz.prog.globalNamed "internal/strconv.uint64pow10" =some g->∃ T fz,Gw W g=some (.cells (I6.map fun z=>Value.int .u64 z).toArray T fz):=by
 have h3:laidMet Tryz.prog (("internal/strconv.uint64pow10",Rows.laid_internal_strconv_uint64pow10)::_) W:=(abp W h).tail.tail
 rw[pow_eq] at h3
 exact abJ (g:=5) (t:=266) (e:=183) (by kernel_rfl) (by kernel_rfl) (by kernel_rfl) (by kernel_rfl) (by kernel_rfl) (by kernel_rfl) h3
theorem lZ (W:World) (h:W.ShapedOpen Tryz.prog):∀ g,Tryz.prog.globalNamed "internal/bytealg.MaxLen" =some g->∃ n T fz,Gw W g=some (.cells #[Value.int .i64 n] T fz):=
 abI (g:=2) (t:=3) (zero:= #[.int .i64 0]) h (by kernel_rfl) (agl (by kernel_rfl)) (by kernel_rfl) rfl (by kernel_rfl) (by kernel_rfl) (by kernel_rfl)
theorem contract (H:Type) (enc:TypeId×Value->H) (W:World) (base:Nat) (args:Array Value) (ds gs:List (DataW H)) (before:List MemPlace) (hT:jf Tryz.prog (Gw W)) (hval:∀ (j:Nat) t v,Tryz.f3.params[j]? =some t->args[j]? =some v->Value.okWide Tryz.prog W .any base t v) (hW:DataW.Whole enc Tryz.prog Tryz.f3.params.toList Rows.orderChangesMatchSpecSpec.vars false W args.toList ds gs before) (hwt:∀ n,n∈DataW.weightsEach Tryz.prog Tryz.f3.params.toList ds->n<=reachBytes): Calls Tryz.prog 3 args W fun e W'=>∃ v,e= .returned v/\Rows.orderChangesMatchSpecSpec.post enc Tryz.prog Tryz.f3 false true false false W args v W':=by
 have hlen:ds.length=4:=by
  obtain⟨p,q,hA,_⟩:=hW
  have:=Lm hA
  rw[show Tryz.f3.params.toList.length=4 by kernel_rfl] at this
  omega
 refine law_callsS (ts:=[aH,aH,.slice aq,tI]) (fn:=Tryz.f3) SeatA.zm (fun x hx=> ?_) (by kernel_rfl) (tb:=4) (by kernel_rfl) (by kernel_rfl) kids full (by decide) rfl hT ?_ hval hW hwt
 ·exact law_true x hx
 ·match ds,hlen with
  | [_,_,_,_],_=>rfl
noncomputable def IG (os:Os):World:=acD Tryz.prog 257 259 (Rows.orderChangesMatchSpecRow.laid.filter fun x=>isIf x.2) <| ab9 Tryz.prog (Rows.orderChangesMatchSpecRow.laid.filter fun x=> !isIf x.2) (World.holding Tryz.prog os ⟨#[], #[],[]⟩)
theorem aae (os:Os):laidMet Tryz.prog Rows.orderChangesMatchSpecRow.laid ((IG os).forCall (fun _ _=>0) ⟨#[], #[.agg #[.string ⟨#[]⟩,.string ⟨#[]⟩,.string ⟨#[]⟩,.int .i64 0,.int .i64 0,.slice none 0 0],.agg #[.string ⟨#[]⟩,.string ⟨#[]⟩,.string ⟨#[]⟩,.int .i64 0,.int .i64 0,.slice none 0 0],.slice none 0 0,.int .i64 0],[]⟩).memory:=
 laidMet_of_run' 8 (by kernel_rfl) (by kernel_rfl)
theorem reads (os:Os) {H:Type} (enc:TypeId×Value->H):∃ places,DataW.whole enc Tryz.prog ((IG os).forCall (fun _ _=>0) ⟨#[], #[.agg #[.string ⟨#[]⟩,.string ⟨#[]⟩,.string ⟨#[]⟩,.int .i64 0,.int .i64 0,.slice none 0 0],.agg #[.string ⟨#[]⟩,.string ⟨#[]⟩,.string ⟨#[]⟩,.int .i64 0,.int .i64 0,.slice none 0 0],.slice none 0 0,.int .i64 0],[]⟩).memory Tryz.f3.params.toList Rows.orderChangesMatchSpecSpec.vars false (#[.agg #[.string ⟨#[]⟩,.string ⟨#[]⟩,.string ⟨#[]⟩,.int .i64 0,.int .i64 0,.slice none 0 0],.agg #[.string ⟨#[]⟩,.string ⟨#[]⟩,.string ⟨#[]⟩,.int .i64 0,.int .i64 0,.slice none 0 0],.slice none 0 0,.int .i64 0]:Array Value).toList 8=some ([.agg [.lit (.string []),.lit (.string []),.lit (.string []),.lit (.int .i64 0),.lit (.int .i64 0),.nil],.agg [.lit (.string []),.lit (.string []),.lit (.string []),.lit (.int .i64 0),.lit (.int .i64 0),.nil],.nil,.lit (.int .i64 0)],[],places):=
 ⟨[],by kernel_rfl⟩
theorem lifted (os:Os) (started:os.Started) (H:Type) (enc:TypeId×Value->H) (F:Stop.Interp): ReturnsInHanded {} Tryz.checked os 3 .any ((OpenSpec.ofChange Rows.orderChangesMatchSpecSpec).preRow enc Tryz.prog Tryz.f3 Rows.orderChangesMatchSpecRow.domain false Rows.orderChangesMatchSpecRow.laid) (((OpenSpec.ofChange Rows.orderChangesMatchSpecSpec).at F).post enc Tryz.prog Tryz.f3 false true false false):=by
 obtain⟨places,hx⟩:=reads os enc
 refine returnsInHanded_of_row (C:=Tryz.checked) (s:=(OpenSpec.ofChange Rows.orderChangesMatchSpecSpec)) own started (by kernel_rfl) Tryz.func3
  (witness_row_at (enc:=enc) (C:=Tryz.checked) false (IG os) #[.agg #[.string ⟨#[]⟩,.string ⟨#[]⟩,.string ⟨#[]⟩,.int .i64 0,.int .i64 0,.slice none 0 0],.agg #[.string ⟨#[]⟩,.string ⟨#[]⟩,.string ⟨#[]⟩,.int .i64 0,.int .i64 0,.slice none 0 0],.slice none 0 0,.int .i64 0] rfl (by kernel_rfl) (by kernel_rfl) (by kernel_rfl)
    (OpenSpec.preRow_of_cond 8 hx (by kernel_rfl) (fun k hk=>by cases hk) (by kernel_rfl) (aae os))) ?_
 intro W base args ds gs before hval hW _ _ hz hL hsh _
 exact contract H enc W base args ds gs before ⟨acQ W hL,lZ W hsh⟩ hval hW (XY hz)
end Go.Proofs.YtekilbogbgmbbaaGreatDoor.lawOrderChangesMatchSpec
