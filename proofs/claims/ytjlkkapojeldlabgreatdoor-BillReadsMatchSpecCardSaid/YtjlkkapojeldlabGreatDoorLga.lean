/-
  The plain law BillReadsMatchSpec carried to the program (first part of the card). No condition.
-/
import Derived.Test.YtjlkkapojeldlabGreatDoorYl
import Derived.Test.YtjlkkapojeldlabGreatDoorYd
import Derived.Test.YtjlkkapojeldlabGreatDoorYh
import Derived.Test.YtjlkkapojeldlabGreatDoorCards
import Derived.Test.YtjlkkapojeldlabGreatDoorTie
set_option maxRecDepth 100000
namespace Go.Proofs.YtjlkkapojeldlabGreatDoor.lawBillReadsMatchSpec
open Go Go.Dn Go.Md Go.Proofs Go.ChangeShapes Go.WideShapes Go.ChangeAt Go.RowKit
theorem law_true (x:dS (pms [.str])) (_hx:SU [.str] x):∃ y,jy x.1=some (true,y):=by
 exact⟨(),law_BillReads x.1⟩
theorem own:ownKnob Tryz.prog.godebug=none:=by kernel_rfl
theorem kids:Kids Tryz.prog (· <Tryz.prog.types.size):=kids_rows (by kernel_rfl) (by kernel_rfl)
theorem full:∀ t e,t<Tryz.prog.types.size->Tryz.prog.underlying t=some (.slice e)->0<Tryz.prog.cellsOf e:=slices_full_of Tryz.prog (by kernel_rfl)
theorem WX (W:World) (h:laidMetH Tryz.prog Rows.billReadsMatchSpecRow.laid W):laidMet Tryz.prog Rows.billReadsMatchSpecRow.laid W:=by
 have e:(Rows.billReadsMatchSpecRow.laid.filter fun x=>x.2.handleName?.isSome)=[]:=by kernel_rfl
 unfold laidMetH at h
 rw[e] at h
 exact h
theorem pow_eq:(Rows.laid_internal_strconv_uint64pow10:DataW Unit)=Lib.tabData .u64 GA:=by kernel_rfl
theorem YC (W:World) (h:laidMetH Tryz.prog Rows.billReadsMatchSpecRow.laid W):∀ g,Tryz.prog.globalNamed "internal/strconv.uint64pow10" =some g->∃ T fz,Gw W g=some (.cells (GA.map fun z=>Value.int .u64 z).toArray T fz):=by
 have h3:laidMet Tryz.prog (("internal/strconv.uint64pow10",Rows.laid_internal_strconv_uint64pow10)::_) W:=(WX W h).tail.tail
 rw[pow_eq] at h3
 exact Xx (g:=1) (t:=210) (e:=175) (by kernel_rfl) (by kernel_rfl) (by kernel_rfl) (by kernel_rfl) (by kernel_rfl) (by kernel_rfl) h3
theorem kC (W:World) (h:W.ShapedOpen Tryz.prog):∀ g,Tryz.prog.globalNamed "internal/bytealg.MaxLen" =some g->∃ n T fz,Gw W g=some (.cells #[Value.int .i64 n] T fz):=
 Xw (g:=0) (t:=3) (zero:= #[.int .i64 0]) h (by kernel_rfl) (ab3 (by kernel_rfl)) (by kernel_rfl) rfl (by kernel_rfl) (by kernel_rfl) (by kernel_rfl)
theorem contract (H:Type) (enc:TypeId×Value->H) (W:World) (base:Nat) (args:Array Value) (ds gs:List (DataW H)) (before:List MemPlace) (hT:bF Tryz.prog (Gw W)) (hval:∀ (j:Nat) t v,Tryz.f3.params[j]? =some t->args[j]? =some v->Value.okWide Tryz.prog W .any base t v) (hW:DataW.Whole enc Tryz.prog Tryz.f3.params.toList Rows.billReadsMatchSpecSpec.vars false W args.toList ds gs before): Calls Tryz.prog 3 args W fun e W'=>∃ v,e= .returned v/\Rows.billReadsMatchSpecSpec.post enc Tryz.prog Tryz.f3 false true false false W args v W':=by
 have hlen:ds.length=1:=by
  obtain⟨p,q,hA,_⟩:=hW
  have:=IV hA
  rw[show Tryz.f3.params.toList.length=1 by kernel_rfl] at this
  omega
 refine law_calls (ts:=[.str]) (fn:=Tryz.f3) SeatU.zz (fun x hx=> ?_) (by kernel_rfl) (tb:=4) (by kernel_rfl) (by kernel_rfl) kids full (by decide) rfl hT ?_ hval hW
 ·exact law_true x hx
 ·match ds,hlen with
  | [_],_=>rfl
noncomputable def Gd (os:Os):World:=Yo Tryz.prog 242 244 (Rows.billReadsMatchSpecRow.laid.filter fun x=>isIf x.2) <| XK Tryz.prog (Rows.billReadsMatchSpecRow.laid.filter fun x=> !isIf x.2) (World.holding Tryz.prog os ⟨#[], #[],[]⟩)
theorem VT (os:Os):laidMet Tryz.prog Rows.billReadsMatchSpecRow.laid ((Gd os).forCall (fun _ _=>0) ⟨#[], #[.string ⟨#[]⟩],[]⟩).memory:=
 laidMet_of_run' 8 (by kernel_rfl) (by kernel_rfl)
theorem reads (os:Os) {H:Type} (enc:TypeId×Value->H):∃ places,DataW.whole enc Tryz.prog ((Gd os).forCall (fun _ _=>0) ⟨#[], #[.string ⟨#[]⟩],[]⟩).memory Tryz.f3.params.toList Rows.billReadsMatchSpecSpec.vars false (#[.string ⟨#[]⟩]:Array Value).toList 8=some ([.lit (.string [])],[],places):=
 ⟨[],by kernel_rfl⟩
theorem lifted (os:Os) (started:os.Started) (H:Type) (enc:TypeId×Value->H) (F:Stop.Interp): ReturnsInHanded {} Tryz.checked os 3 .any ((OpenSpec.ofChange Rows.billReadsMatchSpecSpec).preRow enc Tryz.prog Tryz.f3 Rows.billReadsMatchSpecRow.domain false Rows.billReadsMatchSpecRow.laid) (((OpenSpec.ofChange Rows.billReadsMatchSpecSpec).at F).post enc Tryz.prog Tryz.f3 false true false false):=by
 obtain⟨places,hx⟩:=reads os enc
 refine returnsInHanded_of_row (C:=Tryz.checked) (s:=(OpenSpec.ofChange Rows.billReadsMatchSpecSpec)) own started (by kernel_rfl) Tryz.func3
  (witness_row_at (enc:=enc) (C:=Tryz.checked) false (Gd os) #[.string ⟨#[]⟩] rfl (by kernel_rfl) (by kernel_rfl) (by kernel_rfl)
    (OpenSpec.preRow_of_cond 8 hx (by kernel_rfl) (fun k hk=>by cases hk) (by kernel_rfl) (VT os))) ?_
 intro W base args ds gs before hval hW _ _ hz hL hsh _
 exact contract H enc W base args ds gs before ⟨YC W hL,kC W hsh⟩ hval hW
end Go.Proofs.YtjlkkapojeldlabGreatDoor.lawBillReadsMatchSpec
