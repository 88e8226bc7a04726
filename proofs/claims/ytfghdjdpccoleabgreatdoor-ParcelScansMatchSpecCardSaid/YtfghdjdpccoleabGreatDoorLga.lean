/-
  The plain law ParcelScansMatchSpec carried to the program (first part of the card). No condition.
-/
import Derived.Test.YtfghdjdpccoleabGreatDoorYi
import Derived.Test.YtfghdjdpccoleabGreatDoorYd
import Derived.Test.YtfghdjdpccoleabGreatDoorYh
import Derived.Test.YtfghdjdpccoleabGreatDoorCards
import Derived.Test.YtfghdjdpccoleabGreatDoorTie
set_option maxRecDepth 100000
namespace Go.Proofs.YtfghdjdpccoleabGreatDoor.lawParcelScansMatchSpec
open Go Go.Dn Go.Md Go.Proofs Go.ChangeShapes Go.WideShapes Go.ChangeAt Go.RowKit
theorem law_true (x:dn (pms [bY,.slice aO])) (hx:VH [bY,.slice aO] x):∃ y,kD x.1 x.2.1=some (true,y):=by
 have fit_len:∀ {n:Nat},n*Qr ah<=reachBytes->n<=4000000000000:=fun {n} h=>by
  have h1:n*64<=140737488355328:=ahK h (by decide)
  omega
 exact⟨(),law_ParcelScansMatchSpec x.1 x.2.1 (fun p hp=>ahK (hx.1.2.2.2.2 p hp).1 (by decide)) fun s hs=>⟨ahK (hx.2.1.2 s hs).1 (by decide),fit_len (hx.2.1.2 s hs).2.2.1.1.2,fit_len (hx.2.1.2 s hs).2.2.2.1.2⟩⟩
theorem own:ownKnob Tryz.prog.godebug=none:=by kernel_rfl
theorem kids:Kids Tryz.prog (· <Tryz.prog.types.size):=kids_rows (by kernel_rfl) (by kernel_rfl)
theorem full:∀ t e,t<Tryz.prog.types.size->Tryz.prog.underlying t=some (.slice e)->0<Tryz.prog.cellsOf e:=slices_full_of Tryz.prog (by kernel_rfl)
theorem adv (W:World) (h:laidMetH Tryz.prog Rows.parcelScansMatchSpecRow.laid W):laidMet Tryz.prog Rows.parcelScansMatchSpecRow.laid W:=by
 have e:(Rows.parcelScansMatchSpecRow.laid.filter fun x=>x.2.handleName?.isSome)=[]:=by kernel_rfl
 unfold laidMetH at h
 rw[e] at h
 exact h
theorem pow_eq:(Rows.laid_internal_strconv_uint64pow10:DataW Unit)=Lib.tabData .u64 Gi:=by kernel_rfl
theorem ZS (W:World) (h:laidMetH Tryz.prog Rows.parcelScansMatchSpecRow.laid W):∀ g,Tryz.prog.globalNamed "internal/strconv.uint64pow10" =some g->∃ T fz,Gw W g=some (.cells (Gi.map fun z=>Value.int .u64 z).toArray T fz):=by
 have h3:laidMet Tryz.prog (("internal/strconv.uint64pow10",Rows.laid_internal_strconv_uint64pow10)::_) W:=(adv W h).tail.tail
 rw[pow_eq] at h3
 exact adS (g:=1) (t:=266) (e:=171) (by kernel_rfl) (by kernel_rfl) (by kernel_rfl) (by kernel_rfl) (by kernel_rfl) (by kernel_rfl) h3
theorem wR (W:World) (h:W.ShapedOpen Tryz.prog):∀ g,Tryz.prog.globalNamed "internal/bytealg.MaxLen" =some g->∃ n T fz,Gw W g=some (.cells #[Value.int .i64 n] T fz):=
 adR (g:=0) (t:=3) (zero:= #[.int .i64 0]) h (by kernel_rfl) (aiG (by kernel_rfl)) (by kernel_rfl) rfl (by kernel_rfl) (by kernel_rfl) (by kernel_rfl)
theorem contract (H:Type) (enc:TypeId×Value->H) (W:World) (base:Nat) (args:Array Value) (ds gs:List (DataW H)) (before:List MemPlace) (hT:td Tryz.prog (Gw W)) (hval:∀ (j:Nat) t v,Tryz.f3.params[j]? =some t->args[j]? =some v->Value.okWide Tryz.prog W .any base t v) (hW:DataW.Whole enc Tryz.prog Tryz.f3.params.toList Rows.parcelScansMatchSpecSpec.vars false W args.toList ds gs before) (hwt:∀ n,n∈DataW.weightsEach Tryz.prog Tryz.f3.params.toList ds->n<=reachBytes): Calls Tryz.prog 3 args W fun e W'=>∃ v,e= .returned v/\Rows.parcelScansMatchSpecSpec.post enc Tryz.prog Tryz.f3 false true false false W args v W':=by
 have hlen:ds.length=2:=by
  obtain⟨p,q,hA,_⟩:=hW
  have:=Pz hA
  rw[show Tryz.f3.params.toList.length=2 by kernel_rfl] at this
  omega
 refine law_callsB (ts:=[bY,.slice aO]) (fn:=Tryz.f3) SeatU.DW (fun x hx=> ?_) (by kernel_rfl) (by kernel_rfl) (tb:=4) (by kernel_rfl) (by kernel_rfl) kids full (by decide) rfl hT ?_ hval hW hwt
 ·exact law_true x hx
 ·match ds,hlen with
  | [_,_],_=>rfl
noncomputable def M4 (os:Os):World:=aee Tryz.prog Rows.parcelScansMatchSpecRow.laid (World.holding Tryz.prog os ⟨#[], #[],[]⟩)
theorem acv (os:Os):laidMet Tryz.prog Rows.parcelScansMatchSpecRow.laid ((M4 os).forCall (fun _ _=>0) ⟨#[], #[.agg #[.string ⟨#[]⟩,.string ⟨#[]⟩,.int .i64 0,.slice none 0 0],.slice none 0 0],[]⟩).memory:=
 laidMet_of_run' 8 (by kernel_rfl) (by kernel_rfl)
theorem reads (os:Os) {H:Type} (enc:TypeId×Value->H):∃ places,DataW.whole enc Tryz.prog ((M4 os).forCall (fun _ _=>0) ⟨#[], #[.agg #[.string ⟨#[]⟩,.string ⟨#[]⟩,.int .i64 0,.slice none 0 0],.slice none 0 0],[]⟩).memory Tryz.f3.params.toList Rows.parcelScansMatchSpecSpec.vars false (#[.agg #[.string ⟨#[]⟩,.string ⟨#[]⟩,.int .i64 0,.slice none 0 0],.slice none 0 0]:Array Value).toList 8=some ([.agg [.lit (.string []),.lit (.string []),.lit (.int .i64 0),.nil],.nil],[],places):=
 ⟨[],by kernel_rfl⟩
theorem lifted (os:Os) (started:os.Started) (H:Type) (enc:TypeId×Value->H) (F:Stop.Interp): ReturnsInHanded {} Tryz.checked os 3 .any ((OpenSpec.ofChange Rows.parcelScansMatchSpecSpec).preRow enc Tryz.prog Tryz.f3 Rows.parcelScansMatchSpecRow.domain false Rows.parcelScansMatchSpecRow.laid) (((OpenSpec.ofChange Rows.parcelScansMatchSpecSpec).at F).post enc Tryz.prog Tryz.f3 false true false false):=by
 obtain⟨places,hx⟩:=reads os enc
 refine returnsInHanded_of_row (C:=Tryz.checked) (s:=(OpenSpec.ofChange Rows.parcelScansMatchSpecSpec)) own started (by kernel_rfl) Tryz.func3
  (witness_row_at (enc:=enc) (C:=Tryz.checked) false (M4 os) #[.agg #[.string ⟨#[]⟩,.string ⟨#[]⟩,.int .i64 0,.slice none 0 0],.slice none 0 0] rfl (by kernel_rfl) (by kernel_rfl) (by kernel_rfl)
    (OpenSpec.preRow_of_cond 8 hx (by kernel_rfl) (fun k hk=>by cases hk) (by kernel_rfl) (acv os))) ?_
 intro W base args ds gs before hval hW _ _ hz hL hsh _
 exact contract H enc W base args ds gs before ⟨ZS W hL,wR W hsh⟩ hval hW (aaw hz)
end Go.Proofs.YtfghdjdpccoleabGreatDoor.lawParcelScansMatchSpec
