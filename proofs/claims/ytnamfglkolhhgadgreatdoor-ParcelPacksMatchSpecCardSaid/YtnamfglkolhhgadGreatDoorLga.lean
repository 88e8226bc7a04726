/-
  The plain law ParcelPacksMatchSpec carried to the program (first part of the card). No condition.
-/
import Derived.Test.YtnamfglkolhhgadGreatDoorYi
import Derived.Test.YtnamfglkolhhgadGreatDoorYd
import Derived.Test.YtnamfglkolhhgadGreatDoorYs
import Derived.Test.YtnamfglkolhhgadGreatDoorCards
import Derived.Test.YtnamfglkolhhgadGreatDoorTie
set_option linter.all false
set_option maxRecDepth 100000
namespace Go.Proofs.YtnamfglkolhhgadGreatDoor.lawParcelPacksMatchSpec
open Go Go.Dn Go.Md Go.Proofs Go.ChangeShapes Go.WideShapes Go.ChangeAt Go.RowKit
theorem law_true (x:fI (pms [.slice az,.slice az,.slice an,.slice az,aY,.str,tI])) (hx:aav [.slice az,.slice az,.slice an,.slice az,aY,.str,tI] x):∃ y,jS x.1 x.2.1 x.2.2.1 x.2.2.2.1 x.2.2.2.2.1 x.2.2.2.2.2.1 x.2.2.2.2.2.2.1=some (true,y):=by
 exact⟨(),law_ParcelPacksMatchSpec x.1 x.2.1 x.2.2.1 x.2.2.2.1 x.2.2.2.2.1 x.2.2.2.2.2.1 x.2.2.2.2.2.2.1 (aq hx.2.2.2.2.2.2.1.1 hx.2.2.2.2.2.2.1.2) fun p hp=>(hx.2.2.1.2 p hp).1⟩
theorem own:ownKnob Tryz.prog.godebug=none:=by kernel_rfl
theorem kids:Kids Tryz.prog (· <Tryz.prog.types.size):=kids_rows (by kernel_rfl) (by kernel_rfl)
theorem full:∀ t e,t<Tryz.prog.types.size→Tryz.prog.underlying t=some (.slice e)→0<Tryz.prog.cellsOf e:=slices_full_of Tryz.prog (by kernel_rfl)
theorem aeP (W:World) (h:laidMetH Tryz.prog Rows.parcelPacksMatchSpecRow.laid W):laidMet Tryz.prog Rows.parcelPacksMatchSpecRow.laid W:=by
 have e:(Rows.parcelPacksMatchSpecRow.laid.filter fun x=>x.2.handleName?.isSome)=[]:=by kernel_rfl
 unfold laidMetH at h
 rw[e] at h
 exact h
theorem pow_eq:(Rows.laid_internal_strconv_uint64pow10:DataW Unit)=Lib.tabData .u64 E9:=by kernel_rfl
theorem af9 (W:World) (h:laidMetH Tryz.prog Rows.parcelPacksMatchSpecRow.laid W):∀ g,Tryz.prog.globalNamed "internal/strconv.uint64pow10" =some g→∃ T fz,Gw W g=some (.cells (E9.map fun z=>Value.int .u64 z).toArray T fz):=by
 have h3:laidMet Tryz.prog (("internal/strconv.uint64pow10",Rows.laid_internal_strconv_uint64pow10)::_) W:=(aeP W h).tail.tail
 rw[pow_eq] at h3
 exact afd (g:=1) (t:=232) (e:=145) (by kernel_rfl) (by kernel_rfl) (by kernel_rfl) (by kernel_rfl) (by kernel_rfl) (by kernel_rfl) h3
theorem nx (W:World) (h:W.ShapedOpen Tryz.prog):∀ g,Tryz.prog.globalNamed "internal/bytealg.MaxLen" =some g→∃ n T fz,Gw W g=some (.cells #[Value.int .i64 n] T fz):=
 afc (g:=0) (t:=3) (zero:= #[.int .i64 0]) h (by kernel_rfl) (ajV (by kernel_rfl)) (by kernel_rfl) rfl (by kernel_rfl) (by kernel_rfl) (by kernel_rfl)
theorem contract (H:Type) (enc:TypeId×Value→H) (W:World) (base:Nat) (args:Array Value) (ds gs:List (DataW H)) (before:List MemPlace) (hT:uH Tryz.prog (Gw W))
 (hval:∀ (j:Nat) t v,Tryz.f3.params[j]? =some t→args[j]? =some v→Value.okWide Tryz.prog W .any base t v)
 (hW:DataW.Whole enc Tryz.prog Tryz.f3.params.toList Rows.parcelPacksMatchSpecSpec.vars false W args.toList ds gs before):
 Calls Tryz.prog 3 args W fun e W'=>∃ v,e= .returned v∧Rows.parcelPacksMatchSpecSpec.post enc Tryz.prog Tryz.f3 false true false false W args v W':=by
 have hlen:ds.length=7:=by
  obtain⟨p,q,hA,_⟩:=hW
  have:=OV hA
  rw[show Tryz.f3.params.toList.length=7 by kernel_rfl] at this
  omega
 refine law_calls (ts:=[.slice az,.slice az,.slice an,.slice az,aY,.str,tI]) (fn:=Tryz.f3) SeatU.Dq (fun x hx=> ?_) (by kernel_rfl) (tb:=4) (by kernel_rfl) (by kernel_rfl) kids full (by decide) rfl hT ?_ hval hW
 ·exact law_true x hx
 ·match ds,hlen with
  | [_,_,_,_,_,_,_],_=>rfl
noncomputable def Ms (os:Os):World:=afs Tryz.prog Rows.parcelPacksMatchSpecRow.laid (World.holding Tryz.prog os ⟨#[], #[],[]⟩)
theorem adL (os:Os):laidMet Tryz.prog Rows.parcelPacksMatchSpecRow.laid ((Ms os).forCall (fun _ _=>0) ⟨#[], #[.slice none 0 0,.slice none 0 0,.slice none 0 0,.slice none 0 0,.agg #[.int .i64 0,.int .i64 0],.string ⟨#[]⟩,.int .i64 0],[]⟩).memory:=
 laidMet_of_run' 8 (by kernel_rfl) (by kernel_rfl)
theorem reads (os:Os) {H:Type} (enc:TypeId×Value→H):∃ places,DataW.whole enc Tryz.prog ((Ms os).forCall (fun _ _=>0) ⟨#[], #[.slice none 0 0,.slice none 0 0,.slice none 0 0,.slice none 0 0,.agg #[.int .i64 0,.int .i64 0],.string ⟨#[]⟩,.int .i64 0],[]⟩).memory Tryz.f3.params.toList Rows.parcelPacksMatchSpecSpec.vars false (#[.slice none 0 0,.slice none 0 0,.slice none 0 0,.slice none 0 0,.agg #[.int .i64 0,.int .i64 0],.string ⟨#[]⟩,.int .i64 0]:Array Value).toList 8=some ([.nil,.nil,.nil,.nil,.agg [.lit (.int .i64 0),.lit (.int .i64 0)],.lit (.string []),.lit (.int .i64 0)],[],places):=
 ⟨[],by kernel_rfl⟩
theorem lifted (os:Os) (started:os.Started) (H:Type) (enc:TypeId×Value→H) (F:Stop.Interp):
 ReturnsInHanded {} Tryz.checked os 3 .any ((OpenSpec.ofChange Rows.parcelPacksMatchSpecSpec).preRow enc Tryz.prog Tryz.f3 Rows.parcelPacksMatchSpecRow.domain false Rows.parcelPacksMatchSpecRow.laid) (((OpenSpec.ofChange Rows.parcelPacksMatchSpecSpec).at F).post enc Tryz.prog Tryz.f3 false true false false):=by
 obtain⟨places,hx⟩:=reads os enc
 refine returnsInHanded_of_row (C:=Tryz.checked) (s:=(OpenSpec.ofChange Rows.parcelPacksMatchSpecSpec)) own started (by kernel_rfl) Tryz.func3
  (witness_row_at (enc:=enc) (C:=Tryz.checked) false (Ms os) #[.slice none 0 0,.slice none 0 0,.slice none 0 0,.slice none 0 0,.agg #[.int .i64 0,.int .i64 0],.string ⟨#[]⟩,.int .i64 0] rfl (by kernel_rfl) (by kernel_rfl) (by kernel_rfl)
    (OpenSpec.preRow_of_cond 8 hx (by kernel_rfl) (fun k hk=>by cases hk) (by kernel_rfl) (adL os))) ?_
 intro W base args ds gs before hval hW _ _ hz hL hsh _
 exact contract H enc W base args ds gs before ⟨af9 W hL,nx W hsh⟩ hval hW
end Go.Proofs.YtnamfglkolhhgadGreatDoor.lawParcelPacksMatchSpec
