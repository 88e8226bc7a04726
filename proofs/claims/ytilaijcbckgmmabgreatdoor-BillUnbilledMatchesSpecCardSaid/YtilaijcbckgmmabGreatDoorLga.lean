/-
  The plain law BillUnbilledMatchesSpec carried to the program (first part of the card). No condition.
-/
import Derived.Test.YtilaijcbckgmmabGreatDoorYh
import Derived.Test.YtilaijcbckgmmabGreatDoorYj2
import Derived.Test.YtilaijcbckgmmabGreatDoorYd
import Derived.Test.YtilaijcbckgmmabGreatDoorCards
import Derived.Test.YtilaijcbckgmmabGreatDoorTie
set_option maxRecDepth 100000
namespace Go.Proofs.YtilaijcbckgmmabGreatDoor.lawBillUnbilledMatchesSpec
open Go Go.Dn Go.Md Go.Proofs Go.ChangeShapes Go.WideShapes Go.ChangeAt Go.RowKit
theorem ae4 (d:aa) (h:WfS az d):Txt d:=by
 obtain⟨_,_,_,_,_,h6,_,h8,_⟩:=h
 have h6':d.2.2.2.2.2.1.length<=reachBytes:=h6
 have h8':d.2.2.2.2.2.2.2.1.length<=reachBytes:=h8
 have e1:reachBytes=140737488351232:=rfl
 have e2:maxLen=9223372036854775807:=rfl
 unfold Txt
 omega
theorem law_true (x:eG (pms [aY,.slice az,an,.slice aA,tI,.str,aA])) (hx:Wc [aY,.slice az,an,.slice aA,tI,.str,aA] x):∃ y,iy x.1 x.2.1 x.2.2.1 x.2.2.2.1 x.2.2.2.2.1 x.2.2.2.2.2.1 x.2.2.2.2.2.2.1=some (true,y):=by
 exact⟨(),law_BillUnbilledMatchesSpec x.1 x.2.1 x.2.2.1 x.2.2.2.1 x.2.2.2.2.1 x.2.2.2.2.2.1 x.2.2.2.2.2.2.1 (fun d hd=>ae4 d (hx.2.1.2 d hd))⟩
theorem own:ownKnob Tryz.prog.godebug=none:=by kernel_rfl
theorem kids:Kids Tryz.prog (· <Tryz.prog.types.size):=kids_rows (by kernel_rfl) (by kernel_rfl)
theorem full:∀ t e,t<Tryz.prog.types.size->Tryz.prog.underlying t=some (.slice e)->0<Tryz.prog.cellsOf e:=slices_full_of Tryz.prog (by kernel_rfl)
theorem afw (W:World) (_:laidMetH Tryz.prog Rows.billUnbilledMatchesSpecRow.laid W):∀ g,Tryz.prog.globalNamed "internal/strconv.uint64pow10" =some g->∃ T fz,Gw W g=some (.cells (acg.map fun z=>Value.int .u64 z).toArray T fz):=
 fun g h=>by cases (show Tryz.prog.globalNamed "internal/strconv.uint64pow10" =none by kernel_rfl).symm.trans h
theorem oY (W:World) (h:W.ShapedOpen Tryz.prog):∀ g,Tryz.prog.globalNamed "internal/bytealg.MaxLen" =some g->∃ n T fz,Gw W g=some (.cells #[Value.int .i64 n] T fz):=
 aex (g:=2) (t:=3) (zero:= #[.int .i64 0]) h (by kernel_rfl) (aiS (by kernel_rfl)) (by kernel_rfl) rfl (by kernel_rfl) (by kernel_rfl) (by kernel_rfl)
theorem contract (H:Type) (enc:TypeId×Value->H) (W:World) (base:Nat) (args:Array Value) (ds gs:List (DataW H)) (before:List MemPlace) (hT:AU Tryz.prog (Gw W)) (hval:∀ (j:Nat) t v,Tryz.f3.params[j]? =some t->args[j]? =some v->Value.okWide Tryz.prog W .any base t v) (hW:DataW.Whole enc Tryz.prog Tryz.f3.params.toList Rows.billUnbilledMatchesSpecSpec.vars false W args.toList ds gs before) (hwt:∀ n,n∈DataW.weightsEach Tryz.prog Tryz.f3.params.toList ds->n<=reachBytes): Calls Tryz.prog 3 args W fun e W'=>∃ v,e= .returned v/\Rows.billUnbilledMatchesSpecSpec.post enc Tryz.prog Tryz.f3 false true false false W args v W':=by
 have hlen:ds.length=7:=by
  obtain⟨p,q,hA,_⟩:=hW
  have:=PX hA
  rw[show Tryz.f3.params.toList.length=7 by kernel_rfl] at this
  omega
 refine law_callsS (ts:=[aY,.slice az,an,.slice aA,tI,.str,aA]) (fn:=Tryz.f3) SeatA.Bf (fun x hx=> ?_) (by kernel_rfl) (tb:=4) (by kernel_rfl) (by kernel_rfl) kids full (by decide) rfl hT ?_ hval hW hwt
 ·exact law_true x hx
 ·match ds,hlen with
  | [_,_,_,_,_,_,_],_=>rfl
noncomputable def Nu (os:Os):World:=aeM Tryz.prog Rows.billUnbilledMatchesSpecRow.laid (World.holding Tryz.prog os ⟨#[], #[],[]⟩)
theorem ac5 (os:Os):laidMet Tryz.prog Rows.billUnbilledMatchesSpecRow.laid ((Nu os).forCall (fun _ _=>0) ⟨#[], #[.agg #[.string ⟨#[]⟩,.string ⟨#[]⟩,.string ⟨#[]⟩,.int .i64 0,.int .i64 0,.slice none 0 0],.slice none 0 0,.agg #[.int .i64 0,.int .i64 0],.slice none 0 0,.int .i64 0,.string ⟨#[]⟩,.agg #[.string ⟨#[]⟩,.string ⟨#[]⟩,.int .i64 0,.int .i64 0,.int .i64 0,.bool false,.slice none 0 0,.slice none 0 0,.slice none 0 0]],[]⟩).memory:=
 laidMet_of_run' 8 (by kernel_rfl) (by kernel_rfl)
theorem reads (os:Os) {H:Type} (enc:TypeId×Value->H):∃ places,DataW.whole enc Tryz.prog ((Nu os).forCall (fun _ _=>0) ⟨#[], #[.agg #[.string ⟨#[]⟩,.string ⟨#[]⟩,.string ⟨#[]⟩,.int .i64 0,.int .i64 0,.slice none 0 0],.slice none 0 0,.agg #[.int .i64 0,.int .i64 0],.slice none 0 0,.int .i64 0,.string ⟨#[]⟩,.agg #[.string ⟨#[]⟩,.string ⟨#[]⟩,.int .i64 0,.int .i64 0,.int .i64 0,.bool false,.slice none 0 0,.slice none 0 0,.slice none 0 0]],[]⟩).memory Tryz.f3.params.toList Rows.billUnbilledMatchesSpecSpec.vars false (#[.agg #[.string ⟨#[]⟩,.string ⟨#[]⟩,.string ⟨#[]⟩,.int .i64 0,.int .i64 0,.slice none 0 0],.slice none 0 0,.agg #[.int .i64 0,.int .i64 0],.slice none 0 0,.int .i64 0,.string ⟨#[]⟩,.agg #[.string ⟨#[]⟩,.string ⟨#[]⟩,.int .i64 0,.int .i64 0,.int .i64 0,.bool false,.slice none 0 0,.slice none 0 0,.slice none 0 0]]:Array Value).toList 8=some ([.agg [.lit (.string []),.lit (.string []),.lit (.string []),.lit (.int .i64 0),.lit (.int .i64 0),.nil],.nil,.agg [.lit (.int .i64 0),.lit (.int .i64 0)],.nil,.lit (.int .i64 0),.lit (.string []),.agg [.lit (.string []),.lit (.string []),.lit (.int .i64 0),.lit (.int .i64 0),.lit (.int .i64 0),.lit (.bool false),.nil,.nil,.nil]],[],places):=
 ⟨[],by kernel_rfl⟩
theorem lifted (os:Os) (started:os.Started) (H:Type) (enc:TypeId×Value->H) (F:Stop.Interp): ReturnsInHanded {} Tryz.checked os 3 .any ((OpenSpec.ofChange Rows.billUnbilledMatchesSpecSpec).preRow enc Tryz.prog Tryz.f3 Rows.billUnbilledMatchesSpecRow.domain false Rows.billUnbilledMatchesSpecRow.laid) (((OpenSpec.ofChange Rows.billUnbilledMatchesSpecSpec).at F).post enc Tryz.prog Tryz.f3 false true false false):=by
 obtain⟨places,hx⟩:=reads os enc
 refine returnsInHanded_of_row (C:=Tryz.checked) (s:=(OpenSpec.ofChange Rows.billUnbilledMatchesSpecSpec)) own started (by kernel_rfl) Tryz.func3
  (witness_row_at (enc:=enc) (C:=Tryz.checked) false (Nu os) #[.agg #[.string ⟨#[]⟩,.string ⟨#[]⟩,.string ⟨#[]⟩,.int .i64 0,.int .i64 0,.slice none 0 0],.slice none 0 0,.agg #[.int .i64 0,.int .i64 0],.slice none 0 0,.int .i64 0,.string ⟨#[]⟩,.agg #[.string ⟨#[]⟩,.string ⟨#[]⟩,.int .i64 0,.int .i64 0,.int .i64 0,.bool false,.slice none 0 0,.slice none 0 0,.slice none 0 0]] rfl (by kernel_rfl) (by kernel_rfl) (by kernel_rfl)
    (OpenSpec.preRow_of_cond 8 hx (by kernel_rfl) (fun k hk=>by cases hk) (by kernel_rfl) (ac5 os))) ?_
 intro W base args ds gs before hval hW _ _ hz hL hsh _
 exact contract H enc W base args ds gs before ⟨afw W hL,oY W hsh⟩ hval hW (aa1 hz)
end Go.Proofs.YtilaijcbckgmmabGreatDoor.lawBillUnbilledMatchesSpec
