/-
  The plain law BillTextsMatchSpec carried to the program (first part of the card). No condition.
-/
import Derived.Test.YtjlkkapojeldlabGreatDoorYl
import Derived.Test.YtjlkkapojeldlabGreatDoorYd
import Derived.Test.YtjlkkapojeldlabGreatDoorYk
import Derived.Test.YtjlkkapojeldlabGreatDoorCards
import Derived.Test.YtjlkkapojeldlabGreatDoorTie
set_option maxRecDepth 100000
namespace Go.Proofs.YtjlkkapojeldlabGreatDoor.lawBillTextsMatchSpec
open Go Go.Dn Go.Md Go.Proofs Go.ChangeShapes Go.WideShapes Go.ChangeAt Go.RowKit
theorem law_true (x:dL (pms [b7])) (_hx:We [b7] x):∃ y,jm x.1=some (true,y):=by
 exact⟨(),law_BillTexts x.1⟩
theorem own:ownKnob Tryz.prog.godebug=none:=by kernel_rfl
theorem kids:Kids Tryz.prog (· <Tryz.prog.types.size):=kids_rows (by kernel_rfl) (by kernel_rfl)
theorem full:∀ t e,t<Tryz.prog.types.size->Tryz.prog.underlying t=some (.slice e)->0<Tryz.prog.cellsOf e:=slices_full_of Tryz.prog (by kernel_rfl)
theorem abb (W:World) (h:laidMetH Tryz.prog Rows.billTextsMatchSpecRow.laid W):laidMet Tryz.prog Rows.billTextsMatchSpecRow.laid W:=by
 have e:(Rows.billTextsMatchSpecRow.laid.filter fun x=>x.2.handleName?.isSome)=[]:=by kernel_rfl
 unfold laidMetH at h
 rw[e] at h
 exact h
theorem pow_eq:(Rows.laid_internal_strconv_uint64pow10:DataW Unit)=Lib.tabData .u64 BL:=by kernel_rfl
theorem acW (W:World) (h:laidMetH Tryz.prog Rows.billTextsMatchSpecRow.laid W):∀ g,Tryz.prog.globalNamed "internal/strconv.uint64pow10" =some g->∃ T fz,Gw W g=some (.cells (BL.map fun z=>Value.int .u64 z).toArray T fz):=by
 have h3:laidMet Tryz.prog (("internal/strconv.uint64pow10",Rows.laid_internal_strconv_uint64pow10)::_) W:=(abb W h).tail.tail
 rw[pow_eq] at h3
 exact abK (g:=1) (t:=210) (e:=175) (by kernel_rfl) (by kernel_rfl) (by kernel_rfl) (by kernel_rfl) (by kernel_rfl) (by kernel_rfl) h3
theorem qJ (W:World) (h:W.ShapedOpen Tryz.prog):∀ g,Tryz.prog.globalNamed "internal/bytealg.MaxLen" =some g->∃ n T fz,Gw W g=some (.cells #[Value.int .i64 n] T fz):=
 abJ (g:=0) (t:=3) (zero:= #[.int .i64 0]) h (by kernel_rfl) (age (by kernel_rfl)) (by kernel_rfl) rfl (by kernel_rfl) (by kernel_rfl) (by kernel_rfl)
theorem contract (H:Type) (enc:TypeId×Value->H) (W:World) (base:Nat) (args:Array Value) (ds gs:List (DataW H)) (before:List MemPlace) (hT:bZ Tryz.prog (Gw W)) (hval:∀ (j:Nat) t v,Tryz.f4.params[j]? =some t->args[j]? =some v->Value.okWide Tryz.prog W .any base t v) (hW:DataW.Whole enc Tryz.prog Tryz.f4.params.toList Rows.billTextsMatchSpecSpec.vars false W args.toList ds gs before): Calls Tryz.prog 4 args W fun e W'=>∃ v,e= .returned v/\Rows.billTextsMatchSpecSpec.post enc Tryz.prog Tryz.f4 false true false false W args v W':=by
 have hlen:ds.length=1:=by
  obtain⟨p,q,hA,_⟩:=hW
  have:=Lc hA
  rw[show Tryz.f4.params.toList.length=1 by kernel_rfl] at this
  omega
 refine law_calls (ts:=[b7]) (fn:=Tryz.f4) SeatU.AV (fun x hx=> ?_) (by kernel_rfl) (tb:=4) (by kernel_rfl) (by kernel_rfl) kids full (by decide) rfl hT ?_ hval hW
 ·exact law_true x hx
 ·match ds,hlen with
  | [_],_=>rfl
noncomputable def IC (os:Os):World:=acL Tryz.prog 242 244 (Rows.billTextsMatchSpecRow.laid.filter fun x=>isIf x.2) <| ab0 Tryz.prog (Rows.billTextsMatchSpecRow.laid.filter fun x=> !isIf x.2) (World.holding Tryz.prog os ⟨#[], #[],[]⟩)
theorem aaj (os:Os):laidMet Tryz.prog Rows.billTextsMatchSpecRow.laid ((IC os).forCall (fun _ _=>0) ⟨#[], #[.agg #[.string ⟨#[]⟩,.string ⟨#[]⟩,.int .i64 0,.int .i64 0,.int .i64 0,.bool false,.slice none 0 0,.slice none 0 0,.slice none 0 0]],[]⟩).memory:=
 laidMet_of_run' 8 (by kernel_rfl) (by kernel_rfl)
theorem reads (os:Os) {H:Type} (enc:TypeId×Value->H):∃ places,DataW.whole enc Tryz.prog ((IC os).forCall (fun _ _=>0) ⟨#[], #[.agg #[.string ⟨#[]⟩,.string ⟨#[]⟩,.int .i64 0,.int .i64 0,.int .i64 0,.bool false,.slice none 0 0,.slice none 0 0,.slice none 0 0]],[]⟩).memory Tryz.f4.params.toList Rows.billTextsMatchSpecSpec.vars false (#[.agg #[.string ⟨#[]⟩,.string ⟨#[]⟩,.int .i64 0,.int .i64 0,.int .i64 0,.bool false,.slice none 0 0,.slice none 0 0,.slice none 0 0]]:Array Value).toList 8=some ([.agg [.lit (.string []),.lit (.string []),.lit (.int .i64 0),.lit (.int .i64 0),.lit (.int .i64 0),.lit (.bool false),.nil,.nil,.nil]],[],places):=
 ⟨[],by kernel_rfl⟩
theorem lifted (os:Os) (started:os.Started) (H:Type) (enc:TypeId×Value->H) (F:Stop.Interp): ReturnsInHanded {} Tryz.checked os 4 .any ((OpenSpec.ofChange Rows.billTextsMatchSpecSpec).preRow enc Tryz.prog Tryz.f4 Rows.billTextsMatchSpecRow.domain false Rows.billTextsMatchSpecRow.laid) (((OpenSpec.ofChange Rows.billTextsMatchSpecSpec).at F).post enc Tryz.prog Tryz.f4 false true false false):=by
 obtain⟨places,hx⟩:=reads os enc
 refine returnsInHanded_of_row (C:=Tryz.checked) (s:=(OpenSpec.ofChange Rows.billTextsMatchSpecSpec)) own started (by kernel_rfl) Tryz.func4
  (witness_row_at (enc:=enc) (C:=Tryz.checked) false (IC os) #[.agg #[.string ⟨#[]⟩,.string ⟨#[]⟩,.int .i64 0,.int .i64 0,.int .i64 0,.bool false,.slice none 0 0,.slice none 0 0,.slice none 0 0]] rfl (by kernel_rfl) (by kernel_rfl) (by kernel_rfl)
    (OpenSpec.preRow_of_cond 8 hx (by kernel_rfl) (fun k hk=>by cases hk) (by kernel_rfl) (aaj os))) ?_
 intro W base args ds gs before hval hW _ _ hz hL hsh _
 exact contract H enc W base args ds gs before ⟨acW W hL,qJ W hsh⟩ hval hW
end Go.Proofs.YtjlkkapojeldlabGreatDoor.lawBillTextsMatchSpec
