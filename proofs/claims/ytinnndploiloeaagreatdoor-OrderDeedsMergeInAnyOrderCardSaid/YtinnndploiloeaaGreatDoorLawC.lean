/-
  OrderDeedsMergeInAnyOrder returns true at every input, and each argument reads behind the call as it read before (the tied card). No condition of its own.
-/
import Derived.Test.YtinnndploiloeaaGreatDoorQw
import Derived.Test.YtinnndploiloeaaGreatDoorQd
import Derived.Test.YtinnndploiloeaaGreatDoorQt
import Derived.Test.YtinnndploiloeaaGreatDoorCards
import Derived.Test.YtinnndploiloeaaGreatDoorTie
set_option linter.all false
set_option maxRecDepth 100000
namespace Go.Proofs.YtinnndploiloeaaGreatDoor.lawOrderDeedsMergeInAnyOrder
open Go Go.Dn Go.Md Go.Proofs Go.ChangeShapes Go.WideShapes Go.ChangeAt Go.RowKit

theorem txt_of (d : D_api_Deed) (h : WfS t_api_Deed d) : Txt d := by
  obtain ⟨_, _, _, _, _, h6, _, h8, _⟩ := h
  have h6' : List.length d.2.2.2.2.2.1 ≤ reachBytes := h6
  have h8' : List.length d.2.2.2.2.2.2.2.1 ≤ reachBytes := h8
  have e1 : reachBytes = 140737488351232 := rfl
  have e2 : maxLen = 9223372036854775807 := rfl
  unfold Txt
  omega

theorem law_true (x : inDen (pms [.slice t_api_Deed, .slice t_api_Deed])) (hx : WfInS [.slice t_api_Deed, .slice t_api_Deed] x) : ∃ y, l9_OrderDeedsMergeInAnyOrder x.1 x.2.1 = some (true, y) := by
  exact ⟨(), law_OrderDeedsMergeInAnyOrder x.1 x.2.1 (fun d hd => txt_of d (hx.1.2 d hd)) (fun d hd => txt_of d (hx.2.1.2 d hd))⟩

theorem own : ownKnob Tryz.prog.godebug = none := by kernel_rfl
theorem kids : Kids Tryz.prog (· < Tryz.prog.types.size) := kids_rows (by kernel_rfl) (by kernel_rfl)
theorem full : ∀ t e, t < Tryz.prog.types.size → Tryz.prog.underlying t = some (.slice e) → 0 < Tryz.prog.cellsOf e := slices_full_of Tryz.prog (by kernel_rfl)
theorem laid_eq (W : World) (h : laidMetH Tryz.prog Rows.orderDeedsMergeInAnyOrderRow.laid W) : laidMet Tryz.prog Rows.orderDeedsMergeInAnyOrderRow.laid W := by
  have e : (Rows.orderDeedsMergeInAnyOrderRow.laid.filter fun x => x.2.handleName?.isSome) = [] := by kernel_rfl
  unfold laidMetH at h
  rw [e] at h
  exact h
theorem pow_eq : (Rows.laid_internal_strconv_uint64pow10 : DataW Unit) = Lib.tabData .u64 pow10s := by kernel_rfl
theorem hpow (W : World) (h : laidMetH Tryz.prog Rows.orderDeedsMergeInAnyOrderRow.laid W) : ∀ g, Tryz.prog.globalNamed "internal/strconv.uint64pow10" = some g → ∃ T fz, Gw W g = some (.cells (pow10s.map fun z => Value.int .u64 z).toArray T fz) := by
  have h3 : laidMet Tryz.prog (("internal/strconv.uint64pow10", Rows.laid_internal_strconv_uint64pow10) :: _) W := (laid_eq W h).tail.tail
  rw [pow_eq] at h3
  exact tab_pow (g := 5) (t := 242) (e := 151) (by kernel_rfl) (by kernel_rfl) (by kernel_rfl) (by kernel_rfl) (by kernel_rfl) (by kernel_rfl) h3
theorem hmax (W : World) (h : W.ShapedOpen Tryz.prog) : ∀ g, Tryz.prog.globalNamed "internal/bytealg.MaxLen" = some g → ∃ n T fz, Gw W g = some (.cells #[Value.int .i64 n] T fz) :=
  tab_max (g := 0) (t := 3) (zero := #[.int .i64 0]) h (by kernel_rfl) (of_decide_eq_true (by kernel_rfl)) (by kernel_rfl) rfl (by kernel_rfl) (by kernel_rfl) (by kernel_rfl)

/-- What the program's law gives at every argument. -/
theorem contract (H : Type) (enc : TypeId × Value → H) (W : World) (base : Nat) (args : Array Value) (ds gs : List (DataW H)) (before : List MemPlace) (hT : TabOk Tryz.prog (Gw W))
    (hval : ∀ (j : Nat) t v, Tryz.f5.params[j]? = some t → args[j]? = some v → Value.okWide Tryz.prog W .any base t v)
    (hW : DataW.Whole enc Tryz.prog Tryz.f5.params.toList Rows.orderDeedsMergeInAnyOrderSpec.vars false W args.toList ds gs before) (hwt : ∀ n, n ∈ DataW.weightsEach Tryz.prog Tryz.f5.params.toList ds → n ≤ reachBytes) :
    Calls Tryz.prog 5 args W fun e W' => ∃ v, e = .returned v ∧ Rows.orderDeedsMergeInAnyOrderSpec.post enc Tryz.prog Tryz.f5 false true false false W args v W' := by
  have hlen : ds.length = 2 := by
    obtain ⟨p, q, hA, _⟩ := hW
    have := trodAll_len hA
    rw [show Tryz.f5.params.toList.length = 2 by kernel_rfl] at this
    omega
  refine law_callsS (ts := [.slice t_api_Deed, .slice t_api_Deed]) (fn := Tryz.f5) SeatO.ok_l9_OrderDeedsMergeInAnyOrder (fun x hx => ?_) (by kernel_rfl) (tb := 4) (by kernel_rfl) (by kernel_rfl) kids full (by decide) rfl hT ?_ hval hW hwt
  · exact law_true x hx
  · match ds, hlen with
    | [_, _], _ => rfl

noncomputable def laidWorld (os : Os) : World := layIf Tryz.prog 233 235 (Rows.orderDeedsMergeInAnyOrderRow.laid.filter fun x => isIf x.2) <| layAll Tryz.prog (Rows.orderDeedsMergeInAnyOrderRow.laid.filter fun x => !isIf x.2) (World.holding Tryz.prog os ⟨#[], #[], []⟩)
theorem laid_met (os : Os) : laidMet Tryz.prog Rows.orderDeedsMergeInAnyOrderRow.laid ((laidWorld os).forCall (fun _ _ => 0) ⟨#[], #[.slice none 0 0, .slice none 0 0], []⟩).memory :=
  laidMet_of_run' 8 (by kernel_rfl) (by kernel_rfl)
theorem reads (os : Os) {H : Type} (enc : TypeId × Value → H) : ∃ places, DataW.whole enc Tryz.prog ((laidWorld os).forCall (fun _ _ => 0) ⟨#[], #[.slice none 0 0, .slice none 0 0], []⟩).memory Tryz.f5.params.toList Rows.orderDeedsMergeInAnyOrderSpec.vars false (#[.slice none 0 0, .slice none 0 0] : Array Value).toList 8 = some ([.nil, .nil], [], places) :=
  ⟨[], by kernel_rfl⟩

theorem lifted (os : Os) (started : os.Started) (H : Type) (enc : TypeId × Value → H) (F : Stop.Interp) :
    ReturnsInHanded {} Tryz.checked os 5 .any ((OpenSpec.ofChange Rows.orderDeedsMergeInAnyOrderSpec).preRow enc Tryz.prog Tryz.f5 Rows.orderDeedsMergeInAnyOrderRow.domain false Rows.orderDeedsMergeInAnyOrderRow.laid) (((OpenSpec.ofChange Rows.orderDeedsMergeInAnyOrderSpec).at F).post enc Tryz.prog Tryz.f5 false true false false) := by
  obtain ⟨places, hx⟩ := reads os enc
  refine returnsInHanded_of_row (C := Tryz.checked) (s := (OpenSpec.ofChange Rows.orderDeedsMergeInAnyOrderSpec)) own started (by kernel_rfl) Tryz.func5
    (witness_row_at (enc := enc) (C := Tryz.checked) false (laidWorld os) #[.slice none 0 0, .slice none 0 0] rfl (by kernel_rfl) (by kernel_rfl) (by kernel_rfl)
      (OpenSpec.preRow_of_cond 8 hx (by kernel_rfl) (fun k hk => by cases hk) (by kernel_rfl) (laid_met os))) ?_
  intro W base args ds gs before hval hW _ _ hz hL hsh _
  exact contract H enc W base args ds gs before ⟨hpow W hL, hmax W hsh⟩ hval hW (weights_of hz)

theorem said : Rows.OrderDeedsMergeInAnyOrderSaid :=
  OpenClaim.holds_of_cond 5 Tryz.f5 rfl rfl rfl rfl rfl rfl rfl ⟨rfl, rfl, rfl, rfl, rfl⟩ rfl rfl rfl rfl rfl (by kernel_rfl) Tryz.func5 (by kernel_rfl)
    (of_decide_eq_true (by kernel_rfl)) (by unfold Func.isWrapper; first | (rw [if_pos (by decide +kernel)]; kernel_rfl) | (rw [if_neg (by decide +kernel)]; exact ⟨rfl, rfl⟩))
    (fun os started H enc _ F => by rw [OpenClaim.pre_eq_preRow]; exact lifted os started H enc F)

/-- No parameter wants a stand-in; the program's own looks are off. -/
theorem plain (f : FuncId) (fn : Func) (hf : Tryz.pinned.checked.prog.funcNamed Tryz.f5.name = some f) (hfn : Tryz.pinned.checked.prog.funcs[f]? = some fn) :
    true = Tryz.pinned.checked.prog.looks [] ∧ ∀ (j : Nat) t, fn.params[j]? = some t → Tryz.pinned.checked.prog.wantsStandIn t = false := by
  obtain rfl : f = 5 := Option.some.inj ((show Tryz.prog.funcNamed Tryz.f5.name = some 5 by kernel_rfl).symm.trans hf) |>.symm
  obtain rfl : fn = Tryz.f5 := (Option.some.inj (Tryz.func5.symm.trans hfn)).symm
  refine ⟨by kernel_rfl, fun j t ht => ?_⟩
  have hall : (Tryz.f5.params.toList.all fun t => !Tryz.prog.wantsStandIn t) = true := by kernel_rfl
  have := List.all_eq_true.1 hall t (Array.mem_toList_iff.2 (Array.mem_of_getElem? ht))
  exact (Bool.not_eq_true' _).mp this

theorem card : Rows.OrderDeedsMergeInAnyOrderCardSaid :=
  Claim7.holds_tied_plain_at .later [] _ _ _ _ said (fun _ h => by cases h) (by kernel_rfl) (fun _ h => by cases h) orderDeedsMergeInAnyOrder_row_tie rfl ⟨rfl, rfl⟩ (by kernel_rfl) rfl plain (by kernel_rfl)

end Go.Proofs.YtinnndploiloeaaGreatDoor.lawOrderDeedsMergeInAnyOrder
