/-
  The plain law OrderTextsMatchSpec carried to the program (first part of the card). No condition.
-/
import Derived.Test.YtokceoajcccdiaaGreatDoorYl
import Derived.Test.YtokceoajcccdiaaGreatDoorYd
import Derived.Test.YtokceoajcccdiaaGreatDoorYh
import Derived.Test.YtokceoajcccdiaaGreatDoorCards
import Derived.Test.YtokceoajcccdiaaGreatDoorTie
set_option maxRecDepth 100000
namespace Go.Proofs.YtokceoajcccdiaaGreatDoor.lawOrderTextsMatchSpec
open Go Go.Dn Go.Md Go.Proofs Go.ChangeShapes Go.WideShapes Go.ChangeAt Go.RowKit
theorem SF (d:aa) (h:WfS aH d):Txt d:=by
 obtain⟨_,_,_,_,_,h6,_,h8,_⟩:=h
 have h6':d.2.2.2.2.2.1.length<=reachBytes:=h6
 have h8':d.2.2.2.2.2.2.2.1.length<=reachBytes:=h8
 have e1:reachBytes=140737488351232:=rfl
 have e2:maxLen=9223372036854775807:=rfl
 unfold Txt
 omega
theorem law_true (x:eU (pms [.slice aH])) (hx:JX [.slice aH] x):∃ y,gL x.1=some (true,y):=by
 exact⟨(),law_OrderTextsMatchSpec x.1 (fun d hd=>SF d (hx.1.2 d hd))⟩
theorem own:ownKnob Tryz.prog.godebug=none:=by kernel_rfl
theorem kids:Kids Tryz.prog (· <Tryz.prog.types.size):=kids_rows (by kernel_rfl) (by kernel_rfl)
theorem full:∀ t e,t<Tryz.prog.types.size->Tryz.prog.underlying t=some (.slice e)->0<Tryz.prog.cellsOf e:=slices_full_of Tryz.prog (by kernel_rfl)
theorem RA (W:World) (h:laidMetH Tryz.prog Rows.orderTextsMatchSpecRow.laid W):laidMet Tryz.prog Rows.orderTextsMatchSpecRow.laid W:=by
 have e:(Rows.orderTextsMatchSpecRow.laid.filter fun x=>x.2.handleName?.isSome)=[]:=by kernel_rfl
 unfold laidMetH at h
 rw[e] at h
 exact h
theorem pow_eq:(Rows.laid_internal_strconv_uint64pow10:DataW Unit)=Lib.tabData .u64 vQ:=by kernel_rfl
theorem S8 (W:World) (h:laidMetH Tryz.prog Rows.orderTextsMatchSpecRow.laid W):∀ g,Tryz.prog.globalNamed "internal/strconv.uint64pow10" =some g->∃ T fz,Gw W g=some (.cells (vQ.map fun z=>Value.int .u64 z).toArray T fz):=by
 have h3:laidMet Tryz.prog (("internal/strconv.uint64pow10",Rows.laid_internal_strconv_uint64pow10)::_) W:=(RA W h).tail.tail
 rw[pow_eq] at h3
 exact R5 (g:=1) (t:=149) (e:=114) (by kernel_rfl) (by kernel_rfl) (by kernel_rfl) (by kernel_rfl) (by kernel_rfl) (by kernel_rfl) h3
theorem sr (W:World) (h:W.ShapedOpen Tryz.prog):∀ g,Tryz.prog.globalNamed "internal/bytealg.MaxLen" =some g->∃ n T fz,Gw W g=some (.cells #[Value.int .i64 n] T fz):=
 R4 (g:=0) (t:=3) (zero:= #[.int .i64 0]) h (by kernel_rfl) (Wd (by kernel_rfl)) (by kernel_rfl) rfl (by kernel_rfl) (by kernel_rfl) (by kernel_rfl)
theorem contract (H:Type) (enc:TypeId×Value->H) (W:World) (base:Nat) (args:Array Value) (ds gs:List (DataW H)) (before:List MemPlace) (hT:fR Tryz.prog (Gw W)) (hval:∀ (j:Nat) t v,Tryz.f3.params[j]? =some t->args[j]? =some v->Value.okWide Tryz.prog W .any base t v) (hW:DataW.Whole enc Tryz.prog Tryz.f3.params.toList Rows.orderTextsMatchSpecSpec.vars false W args.toList ds gs before) (hwt:∀ n,n∈DataW.weightsEach Tryz.prog Tryz.f3.params.toList ds->n<=reachBytes): Calls Tryz.prog 3 args W fun e W'=>∃ v,e= .returned v/\Rows.orderTextsMatchSpecSpec.post enc Tryz.prog Tryz.f3 false true false false W args v W':=by
 have hlen:ds.length=1:=by
  obtain⟨p,q,hA,_⟩:=hW
  have:=Et hA
  rw[show Tryz.f3.params.toList.length=1 by kernel_rfl] at this
  omega
 refine law_callsS (ts:=[.slice aH]) (fn:=Tryz.f3) SeatU.uW (fun x hx=> ?_) (by kernel_rfl) (tb:=4) (by kernel_rfl) (by kernel_rfl) kids full (by decide) rfl hT ?_ hval hW hwt
 ·exact law_true x hx
 ·match ds,hlen with
  | [_],_=>rfl
noncomputable def Cd (os:Os):World:=SS Tryz.prog 188 190 (Rows.orderTextsMatchSpecRow.laid.filter fun x=>isIf x.2) <| Si Tryz.prog (Rows.orderTextsMatchSpecRow.laid.filter fun x=> !isIf x.2) (World.holding Tryz.prog os ⟨#[], #[],[]⟩)
theorem QH (os:Os):laidMet Tryz.prog Rows.orderTextsMatchSpecRow.laid ((Cd os).forCall (fun _ _=>0) ⟨#[], #[.slice none 0 0],[]⟩).memory:=
 laidMet_of_run' 8 (by kernel_rfl) (by kernel_rfl)
theorem reads (os:Os) {H:Type} (enc:TypeId×Value->H):∃ places,DataW.whole enc Tryz.prog ((Cd os).forCall (fun _ _=>0) ⟨#[], #[.slice none 0 0],[]⟩).memory Tryz.f3.params.toList Rows.orderTextsMatchSpecSpec.vars false (#[.slice none 0 0]:Array Value).toList 8=some ([.nil],[],places):=
 ⟨[],by kernel_rfl⟩
theorem lifted (os:Os) (started:os.Started) (H:Type) (enc:TypeId×Value->H) (F:Stop.Interp): ReturnsInHanded {} Tryz.checked os 3 .any ((OpenSpec.ofChange Rows.orderTextsMatchSpecSpec).preRow enc Tryz.prog Tryz.f3 Rows.orderTextsMatchSpecRow.domain false Rows.orderTextsMatchSpecRow.laid) (((OpenSpec.ofChange Rows.orderTextsMatchSpecSpec).at F).post enc Tryz.prog Tryz.f3 false true false false):=by
 obtain⟨places,hx⟩:=reads os enc
 refine returnsInHanded_of_row (C:=Tryz.checked) (s:=(OpenSpec.ofChange Rows.orderTextsMatchSpecSpec)) own started (by kernel_rfl) Tryz.func3
  (witness_row_at (enc:=enc) (C:=Tryz.checked) false (Cd os) #[.slice none 0 0] rfl (by kernel_rfl) (by kernel_rfl) (by kernel_rfl)
    (OpenSpec.preRow_of_cond 8 hx (by kernel_rfl) (fun k hk=>by cases hk) (by kernel_rfl) (QH os))) ?_
 intro W base args ds gs before hval hW _ _ hz hL hsh _
 exact contract H enc W base args ds gs before ⟨S8 W hL,sr W hsh⟩ hval hW (OA hz)
end Go.Proofs.YtokceoajcccdiaaGreatDoor.lawOrderTextsMatchSpec
