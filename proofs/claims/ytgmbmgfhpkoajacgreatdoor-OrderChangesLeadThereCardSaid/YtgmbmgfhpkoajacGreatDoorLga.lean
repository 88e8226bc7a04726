/-
  The plain law OrderChangesLeadThere carried to the program (first part of the card). No condition.
-/
import Derived.Test.YtgmbmgfhpkoajacGreatDoorYy
import Derived.Test.YtgmbmgfhpkoajacGreatDoorYd
import Derived.Test.YtgmbmgfhpkoajacGreatDoorYz
import Derived.Test.YtgmbmgfhpkoajacGreatDoorCards
import Derived.Test.YtgmbmgfhpkoajacGreatDoorTie
set_option maxRecDepth 100000
namespace Go.Proofs.YtgmbmgfhpkoajacGreatDoor.lawOrderChangesLeadThere
open Go Go.Dn Go.Md Go.Proofs Go.ChangeShapes Go.WideShapes Go.ChangeAt Go.RowKit
theorem law_true (x:ff (pms [aY,aY])) (_:Ol [aY,aY] x):∃ y,gi x.1 x.2.1=some (true,y):=by
 exact⟨(),law9_ChangesLeadThere x.1 x.2.1⟩
theorem own:ownKnob Tryz.prog.godebug=none:=by kernel_rfl
theorem kids:Kids Tryz.prog (· <Tryz.prog.types.size):=kids_rows (by kernel_rfl) (by kernel_rfl)
theorem full:∀ t e,t<Tryz.prog.types.size->Tryz.prog.underlying t=some (.slice e)->0<Tryz.prog.cellsOf e:=slices_full_of Tryz.prog (by kernel_rfl)
theorem Sx (W:World) (h:laidMetH Tryz.prog Rows.orderChangesLeadThereRow.laid W):laidMet Tryz.prog Rows.orderChangesLeadThereRow.laid W:=by
 have e:(Rows.orderChangesLeadThereRow.laid.filter fun x=>x.2.handleName?.isSome)=[]:=by kernel_rfl
 unfold laidMetH at h
 rw[e] at h
 exact h
theorem pow_eq:(Rows.laid_internal_strconv_uint64pow10:DataW Unit)=Lib.tabData .u64 Dz:=by kernel_rfl
theorem TS (W:World) (h:laidMetH Tryz.prog Rows.orderChangesLeadThereRow.laid W):∀ g,Tryz.prog.globalNamed "internal/strconv.uint64pow10" =some g->∃ T fz,Gw W g=some (.cells (Dz.map fun z=>Value.int .u64 z).toArray T fz):=by
 have h3:laidMet Tryz.prog (("internal/strconv.uint64pow10",Rows.laid_internal_strconv_uint64pow10)::_) W:=(Sx W h).tail.tail
 rw[pow_eq] at h3
 exact SR (g:=5) (t:=235) (e:=156) (by kernel_rfl) (by kernel_rfl) (by kernel_rfl) (by kernel_rfl) (by kernel_rfl) (by kernel_rfl) h3
theorem vW (W:World) (h:W.ShapedOpen Tryz.prog):∀ g,Tryz.prog.globalNamed "internal/bytealg.MaxLen" =some g->∃ n T fz,Gw W g=some (.cells #[Value.int .i64 n] T fz):=
 SQ (g:=2) (t:=3) (zero:= #[.int .i64 0]) h (by kernel_rfl) (Xk (by kernel_rfl)) (by kernel_rfl) rfl (by kernel_rfl) (by kernel_rfl) (by kernel_rfl)
theorem contract (H:Type) (enc:TypeId×Value->H) (W:World) (base:Nat) (args:Array Value) (ds gs:List (DataW H)) (before:List MemPlace) (hT:gZ Tryz.prog (Gw W)) (hval:∀ (j:Nat) t v,Tryz.f3.params[j]? =some t->args[j]? =some v->Value.okWide Tryz.prog W .any base t v) (hW:DataW.Whole enc Tryz.prog Tryz.f3.params.toList Rows.orderChangesLeadThereSpec.vars false W args.toList ds gs before): Calls Tryz.prog 3 args W fun e W'=>∃ v,e= .returned v/\Rows.orderChangesLeadThereSpec.post enc Tryz.prog Tryz.f3 false true false false W args v W':=by
 have hlen:ds.length=2:=by
  obtain⟨p,q,hA,_⟩:=hW
  have:=Fh hA
  rw[show Tryz.f3.params.toList.length=2 by kernel_rfl] at this
  omega
 refine law_calls (ts:=[aY,aY]) (fn:=Tryz.f3) SeatA.vA (fun x hx=> ?_) (by kernel_rfl) (tb:=4) (by kernel_rfl) (by kernel_rfl) kids full (by decide) rfl hT ?_ hval hW
 ·exact law_true x hx
 ·match ds,hlen with
  | [_,_],_=>rfl
noncomputable def Df (os:Os):World:=TG Tryz.prog 226 228 (Rows.orderChangesLeadThereRow.laid.filter fun x=>isIf x.2) <| Tg Tryz.prog (Rows.orderChangesLeadThereRow.laid.filter fun x=> !isIf x.2) (World.holding Tryz.prog os ⟨#[], #[],[]⟩)
theorem Rn (os:Os):laidMet Tryz.prog Rows.orderChangesLeadThereRow.laid ((Df os).forCall (fun _ _=>0) ⟨#[], #[.agg #[.string ⟨#[]⟩,.string ⟨#[]⟩,.string ⟨#[]⟩,.int .i64 0,.int .i64 0,.slice none 0 0],.agg #[.string ⟨#[]⟩,.string ⟨#[]⟩,.string ⟨#[]⟩,.int .i64 0,.int .i64 0,.slice none 0 0]],[]⟩).memory:=
 laidMet_of_run' 8 (by kernel_rfl) (by kernel_rfl)
theorem reads (os:Os) {H:Type} (enc:TypeId×Value->H):∃ places,DataW.whole enc Tryz.prog ((Df os).forCall (fun _ _=>0) ⟨#[], #[.agg #[.string ⟨#[]⟩,.string ⟨#[]⟩,.string ⟨#[]⟩,.int .i64 0,.int .i64 0,.slice none 0 0],.agg #[.string ⟨#[]⟩,.string ⟨#[]⟩,.string ⟨#[]⟩,.int .i64 0,.int .i64 0,.slice none 0 0]],[]⟩).memory Tryz.f3.params.toList Rows.orderChangesLeadThereSpec.vars false (#[.agg #[.string ⟨#[]⟩,.string ⟨#[]⟩,.string ⟨#[]⟩,.int .i64 0,.int .i64 0,.slice none 0 0],.agg #[.string ⟨#[]⟩,.string ⟨#[]⟩,.string ⟨#[]⟩,.int .i64 0,.int .i64 0,.slice none 0 0]]:Array Value).toList 8=some ([.agg [.lit (.string []),.lit (.string []),.lit (.string []),.lit (.int .i64 0),.lit (.int .i64 0),.nil],.agg [.lit (.string []),.lit (.string []),.lit (.string []),.lit (.int .i64 0),.lit (.int .i64 0),.nil]],[],places):=
 ⟨[],by kernel_rfl⟩
theorem lifted (os:Os) (started:os.Started) (H:Type) (enc:TypeId×Value->H) (F:Stop.Interp): ReturnsInHanded {} Tryz.checked os 3 .any ((OpenSpec.ofChange Rows.orderChangesLeadThereSpec).preRow enc Tryz.prog Tryz.f3 Rows.orderChangesLeadThereRow.domain false Rows.orderChangesLeadThereRow.laid) (((OpenSpec.ofChange Rows.orderChangesLeadThereSpec).at F).post enc Tryz.prog Tryz.f3 false true false false):=by
 obtain⟨places,hx⟩:=reads os enc
 refine returnsInHanded_of_row (C:=Tryz.checked) (s:=(OpenSpec.ofChange Rows.orderChangesLeadThereSpec)) own started (by kernel_rfl) Tryz.func3
  (witness_row_at (enc:=enc) (C:=Tryz.checked) false (Df os) #[.agg #[.string ⟨#[]⟩,.string ⟨#[]⟩,.string ⟨#[]⟩,.int .i64 0,.int .i64 0,.slice none 0 0],.agg #[.string ⟨#[]⟩,.string ⟨#[]⟩,.string ⟨#[]⟩,.int .i64 0,.int .i64 0,.slice none 0 0]] rfl (by kernel_rfl) (by kernel_rfl) (by kernel_rfl)
    (OpenSpec.preRow_of_cond 8 hx (by kernel_rfl) (fun k hk=>by cases hk) (by kernel_rfl) (Rn os))) ?_
 intro W base args ds gs before hval hW _ _ hz hL hsh _
 exact contract H enc W base args ds gs before ⟨TS W hL,vW W hsh⟩ hval hW
end Go.Proofs.YtgmbmgfhpkoajacGreatDoor.lawOrderChangesLeadThere
