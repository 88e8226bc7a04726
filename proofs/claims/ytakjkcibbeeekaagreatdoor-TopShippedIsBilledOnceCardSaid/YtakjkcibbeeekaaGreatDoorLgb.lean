/-
  The statement of TopShippedIsBilledOnce holds (second part of the card). No condition.
-/
import Derived.Test.YtakjkcibbeeekaaGreatDoorLga
import Derived.Test.YtakjkcibbeeekaaGreatDoorCards
import Derived.Test.YtakjkcibbeeekaaGreatDoorTie
set_option maxRecDepth 100000
namespace Go.Proofs.YtakjkcibbeeekaaGreatDoor.lawTopShippedIsBilledOnce
open Go Go.Dn Go.Md Go.Proofs Go.ChangeShapes Go.WideShapes Go.ChangeAt Go.RowKit
theorem kY {a b:Bool} (h:a=true) (k:b=true):(a&&b)=true:=by rw[h,k];rfl
noncomputable abbrev JA (g:Program->FuncId->Func->ChangeSpec->OpenClaim->Bool):Bool:=g Tryz.pinned.checked.prog 3 Tryz.f3 (OpenSpec.ofChange Rows.topShippedIsBilledOnceSpec).bare Rows.topShippedIsBilledOnceRow
theorem j1:JA (fun _ _ _ s c=>c.wf (OpenSpec.ofChange s))=true:=by kernel_rfl
theorem j2:JA (fun P _ _ _ _=>laidOutB P)=true:=by kernel_rfl
theorem j3:JA (fun P _ _ _ _=>mapsRowed P)=true:=by kernel_rfl
theorem j4:JA (fun P _ fn _ _=>fn.params.all (P.readableRec ·))=true:=by kernel_rfl
theorem j5:JA (fun P _ _ s c=>namedTie P c.named s.vars)=true:=by kernel_rfl
theorem j6:JA (fun _ _ _ _ c=>(c.stops==[]))=true:=by kernel_rfl
theorem j7:JA (fun P _ _ _ _=>(P.stops==[]))=true:=by kernel_rfl
theorem j8:JA (fun _ _ _ _ c=>(c.knobs==[]))=true:=by kernel_rfl
theorem j9:JA (fun P _ _ _ _=>(P.stopKnobs==[]))=true:=by kernel_rfl
theorem j10:JA (fun P f _ _ c=>(c.inPlace==P.inPlace f))=true:=by kernel_rfl
theorem j11:JA (fun P f _ _ c=>(c.unfollowed==P.unfollowed f))=true:=by kernel_rfl
theorem j12:JA (fun P f _ _ c=>(c.recurses==P.recurses f))=true:=by kernel_rfl
theorem j13:JA (fun P f _ _ c=>(c.named==P.varsNamed f))=true:=by kernel_rfl
theorem j14:JA (fun P _ fn s c=>(c.maps==(fn.params.toList++s.plain.varTypes P).any (P.mapsRec ·)))=true:=by kernel_rfl
theorem j15:JA (fun P _ fn s c=>(c.ifaces==(fn.params.toList++s.plain.varTypes P).any (P.ifacesRec ·)))=true:=by kernel_rfl
theorem j16:JA (fun P _ fn _ c=>(c.mapsOut==P.mapsAmong fn.resultTypes.toList))=true:=by kernel_rfl
theorem j17:JA (fun P _ fn s c=>(c.loops==(fn.params.toList++s.plain.varTypes P).any (P.loopsFrom ·)))=true:=by kernel_rfl
theorem j18:JA (fun P _ fn s c=>(c.wideKeys==(fn.params.toList++s.plain.varTypes P++fn.resultTypes.toList).any (P.wideKeysFrom ·)))=true:=by kernel_rfl
theorem j19:JA (fun P _ _ s _=>s.vars.all (P.varReadable ·))=true:=by kernel_rfl
theorem j20:JA (fun P _ fn _ _=>fn.resultTypes.all (fun t=>P.readableRec t&&decide (t<P.types.size)))=true:=by kernel_rfl
theorem j21:JA (fun P _ fn _ c=>(c.ifacesOut==fn.resultTypes.toList.any (P.ifacesRec ·)))=true:=by kernel_rfl
theorem j22:JA (fun P _ fn _ c=>(c.loopsOut==fn.resultTypes.toList.any (P.loopsFrom ·)))=true:=by kernel_rfl
theorem j23:JA (fun P _ _ _ c=>(c.plainKeys==P.plainKeys))=true:=by kernel_rfl
theorem j24:JA (fun _ _ _ _ c=>c.shortTexts.isNone)=true:=by kernel_rfl
theorem j25:JA (fun P _ _ _ _=>P.stopsHeard)=true:=by kernel_rfl
theorem j26:JA (fun P _ _ _ _=>P.mayEnter)=true:=by kernel_rfl
theorem j27:JA (fun P _ _ _ c=>(c.lifted==P.liftsFinal))=true:=by kernel_rfl
theorem j28:JA (fun P _ _ _ c=>(P.make==some c.make))=true:=by kernel_rfl
theorem j29:JA (fun P _ fn _ c=>(c.kinds==(if c.domain.isEmpty then [] else fn.params.toList.map fun t=>match P.underlying t with | some (.int k)=>some k | _=>none)))=true:=by kernel_rfl
theorem j30:JA (fun _ _ _ _ c=>(c.pinned==c.pinnedBy))=true:=by kernel_rfl
theorem j31:JA (fun P _ fn s c=>(c.veiled==(fn.params.toList++s.plain.varTypes P++fn.resultTypes.toList).any (P.veiledRec ·)))=true:=by kernel_rfl
theorem j32:JA (fun P _ fn s c=>c.veiledFits P fn.params.toList (fn.params.toList++s.plain.varTypes P++fn.resultTypes.toList))=true:=by kernel_rfl
theorem closed:joinedFacts Tryz.pinned.checked.prog 3 Tryz.f3 (OpenSpec.ofChange Rows.topShippedIsBilledOnceSpec).bare Rows.topShippedIsBilledOnceRow=true:=kY (kY (kY (kY (kY (kY (kY (kY (kY (kY (kY (kY (kY (kY (kY (kY (kY (kY (kY (kY (kY (kY (kY (kY (kY (kY (kY (kY (kY (kY (kY j1 j2) j3) j4) j5) j6) j7) j8) j9) j10) j11) j12) j13) j14) j15) j16) j17) j18) j19) j20) j21) j22) j23) j24) j25) j26) j27) j28) j29) j30) j31) j32
theorem said:Rows.TopShippedIsBilledOnceSaid:=
 OpenClaim.holds_of_cond 3 Tryz.f3 rfl rfl rfl rfl rfl rfl rfl ⟨rfl,rfl,rfl,rfl,rfl⟩ rfl rfl rfl rfl rfl (by kernel_rfl) Tryz.func3 closed
  (aj5 (by kernel_rfl)) (by unfold Func.isWrapper;first | (rw[ajZ (by decide +kernel)];kernel_rfl) | (rw[ajY (by decide +kernel)];exact⟨rfl,rfl⟩))
  (fun os started H enc _ F=>by rw[OpenClaim.pre_eq_preRow];exact lifted os started H enc F)
end Go.Proofs.YtakjkcibbeeekaaGreatDoor.lawTopShippedIsBilledOnce
