/- The closed facts that the row asks. No condition. -/
import Derived.Test.YtbdhgnlabjmnoaaGreatRows
import Derived.WalkKit
import Derived.ProofKit
import Derived.OpenShut
import Derived.JoinedCond
set_option linter.unusedVariables false
set_option maxRecDepth 100000
namespace Go.Proofs.YtbdhgnlabjmnoaaGreat.poseFrames
open Go.Proofs.YtbdhgnlabjmnoaaGreat Go.ChangeShapes Go.WideShapes Go.ChangeAt Go.RowKit
theorem andT {a b:Bool} (h:a=true) (k:b=true):(a&&b)=true:=by rw[h,k];rfl
theorem fact0:(Rows.poseFramesRow.wf (OpenSpec.ofChange Rows.poseFramesSpec))=true:=by kernel_rfl
theorem fact1:(laidOutB Tryz.checked.prog)=true:=by kernel_rfl
theorem fact2:(mapsRowed Tryz.checked.prog)=true:=by kernel_rfl
theorem fact3:(Tryz.f10.params.all (Tryz.checked.prog.readableRec ·))=true:=by kernel_rfl
theorem fact4:(namedTie Tryz.checked.prog Rows.poseFramesRow.named Rows.poseFramesSpec.vars)=true:=by kernel_rfl
theorem fact5:((Rows.poseFramesRow.stops== []))=true:=by kernel_rfl
theorem fact6:((Tryz.checked.prog.stops== []))=true:=by kernel_rfl
theorem fact7:((Rows.poseFramesRow.knobs== []))=true:=by kernel_rfl
theorem fact8:((Tryz.checked.prog.stopKnobs== []))=true:=by kernel_rfl
theorem fact9:((Rows.poseFramesRow.inPlace==Tryz.checked.prog.inPlace 10))=true:=by kernel_rfl
theorem fact10:((Rows.poseFramesRow.unfollowed==Tryz.checked.prog.unfollowed 10))=true:=by kernel_rfl
theorem fact11:((Rows.poseFramesRow.recurses==Tryz.checked.prog.recurses 10))=true:=by kernel_rfl
theorem fact12:((Rows.poseFramesRow.named==Tryz.checked.prog.varsNamed 10))=true:=by kernel_rfl
theorem fact13:((Rows.poseFramesRow.maps==(Tryz.f10.params.toList++Rows.poseFramesSpec.plain.varTypes Tryz.checked.prog).any (Tryz.checked.prog.mapsRec ·)))=true:=by kernel_rfl
theorem fact14:((Rows.poseFramesRow.ifaces==(Tryz.f10.params.toList++Rows.poseFramesSpec.plain.varTypes Tryz.checked.prog).any (Tryz.checked.prog.ifacesRec ·)))=true:=by kernel_rfl
theorem fact15:((Rows.poseFramesRow.mapsOut==Tryz.checked.prog.mapsAmong Tryz.f10.resultTypes.toList))=true:=by kernel_rfl
theorem fact16:((Rows.poseFramesRow.loops==(Tryz.f10.params.toList++Rows.poseFramesSpec.plain.varTypes Tryz.checked.prog).any (Tryz.checked.prog.loopsFrom ·)))=true:=by kernel_rfl
theorem fact17:((Rows.poseFramesRow.wideKeys==(Tryz.f10.params.toList++Rows.poseFramesSpec.plain.varTypes Tryz.checked.prog++Tryz.f10.resultTypes.toList).any (Tryz.checked.prog.wideKeysFrom ·)))=true:=by kernel_rfl
theorem fact18:(Rows.poseFramesSpec.vars.all (Tryz.checked.prog.varReadable ·))=true:=by kernel_rfl
theorem fact19:(Tryz.f10.resultTypes.all (fun t=>Tryz.checked.prog.readableRec t&&decide (t<Tryz.checked.prog.types.size)))=true:=by kernel_rfl
theorem fact20:((Rows.poseFramesRow.ifacesOut==Tryz.f10.resultTypes.toList.any (Tryz.checked.prog.ifacesRec ·)))=true:=by kernel_rfl
theorem fact21:((Rows.poseFramesRow.loopsOut==Tryz.f10.resultTypes.toList.any (Tryz.checked.prog.loopsFrom ·)))=true:=by kernel_rfl
theorem fact22:((Rows.poseFramesRow.plainKeys==Tryz.checked.prog.plainKeys))=true:=by kernel_rfl
theorem fact23:(Rows.poseFramesRow.shortTexts.isNone)=true:=by kernel_rfl
theorem fact24:(Tryz.checked.prog.stopsHeard)=true:=by kernel_rfl
theorem fact25:(Tryz.checked.prog.mayEnter)=true:=by kernel_rfl
theorem fact26:((Rows.poseFramesRow.lifted==Tryz.checked.prog.liftsFinal))=true:=by kernel_rfl
theorem fact27:((Tryz.checked.prog.make==some Rows.poseFramesRow.make))=true:=by kernel_rfl
theorem fact28:((Rows.poseFramesRow.kinds==(if Rows.poseFramesRow.domain.isEmpty then [] else Tryz.f10.params.toList.map fun t=>match Tryz.checked.prog.underlying t with | some (.int k)=>some k | _=>none)))=true:=by kernel_rfl
theorem fact29:((Rows.poseFramesRow.pinned==Rows.poseFramesRow.pinnedBy))=true:=by kernel_rfl
theorem fact30:((Rows.poseFramesRow.veiled==(Tryz.f10.params.toList++Rows.poseFramesSpec.plain.varTypes Tryz.checked.prog++Tryz.f10.resultTypes.toList).any (Tryz.checked.prog.veiledRec ·)))=true:=by kernel_rfl
theorem fact31:(Rows.poseFramesRow.veiledFits Tryz.checked.prog Tryz.f10.params.toList (Tryz.f10.params.toList++Rows.poseFramesSpec.plain.varTypes Tryz.checked.prog++Tryz.f10.resultTypes.toList))=true:=by kernel_rfl
theorem facts:joinedFacts Tryz.checked.prog 10 Tryz.f10 Rows.poseFramesSpec Rows.poseFramesRow=true:=andT (andT (andT (andT (andT (andT (andT (andT (andT (andT (andT (andT (andT (andT (andT (andT (andT (andT (andT (andT (andT (andT (andT (andT (andT (andT (andT (andT (andT (andT (andT (fact0) fact1) fact2) fact3) fact4) fact5) fact6) fact7) fact8) fact9) fact10) fact11) fact12) fact13) fact14) fact15) fact16) fact17) fact18) fact19) fact20) fact21) fact22) fact23) fact24) fact25) fact26) fact27) fact28) fact29) fact30) fact31
end Go.Proofs.YtbdhgnlabjmnoaaGreat.poseFrames
