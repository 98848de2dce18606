/- The closed facts that the row asks. No condition. -/
import Derived.Test.YtbdhgnlabjmnoaaGreatRows
import Derived.WalkKit
import Derived.ProofKit
import Derived.OpenShut
import Derived.JoinedCond
set_option linter.unusedVariables false
set_option maxRecDepth 100000
namespace Go.Proofs.YtbdhgnlabjmnoaaGreat.poseReaches
open Go.Proofs.YtbdhgnlabjmnoaaGreat Go.ChangeShapes Go.WideShapes Go.ChangeAt Go.RowKit
theorem andT {a b:Bool} (h:a=true) (k:b=true):(a&&b)=true:=by rw[h,k];rfl
theorem fact0:(Rows.poseReachesUptoRow.wf (OpenSpec.ofChange (Rows.OpenSpec.upto Rows.poseReachesSpec).bare))=true:=by kernel_rfl
theorem fact1:(laidOutB Tryz.checked.prog)=true:=by kernel_rfl
theorem fact2:(mapsRowed Tryz.checked.prog)=true:=by kernel_rfl
theorem fact3:(Tryz.f4.params.all (Tryz.checked.prog.readableRec ·))=true:=by kernel_rfl
theorem fact4:(namedTie Tryz.checked.prog Rows.poseReachesUptoRow.named (Rows.OpenSpec.upto Rows.poseReachesSpec).bare.vars)=true:=by kernel_rfl
theorem fact5:((Rows.poseReachesUptoRow.stops== []))=true:=by kernel_rfl
theorem fact6:((Tryz.checked.prog.stops== []))=true:=by kernel_rfl
theorem fact7:((Rows.poseReachesUptoRow.knobs== []))=true:=by kernel_rfl
theorem fact8:((Tryz.checked.prog.stopKnobs== []))=true:=by kernel_rfl
theorem fact9:((Rows.poseReachesUptoRow.inPlace==Tryz.checked.prog.inPlace 4))=true:=by kernel_rfl
theorem fact10:((Rows.poseReachesUptoRow.unfollowed==Tryz.checked.prog.unfollowed 4))=true:=by kernel_rfl
theorem fact11:((Rows.poseReachesUptoRow.recurses==Tryz.checked.prog.recurses 4))=true:=by kernel_rfl
theorem fact12:((Rows.poseReachesUptoRow.named==Tryz.checked.prog.varsNamed 4))=true:=by kernel_rfl
theorem fact13:((Rows.poseReachesUptoRow.maps==(Tryz.f4.params.toList++(Rows.OpenSpec.upto Rows.poseReachesSpec).bare.plain.varTypes Tryz.checked.prog).any (Tryz.checked.prog.mapsRec ·)))=true:=by kernel_rfl
theorem fact14:((Rows.poseReachesUptoRow.ifaces==(Tryz.f4.params.toList++(Rows.OpenSpec.upto Rows.poseReachesSpec).bare.plain.varTypes Tryz.checked.prog).any (Tryz.checked.prog.ifacesRec ·)))=true:=by kernel_rfl
theorem fact15:((Rows.poseReachesUptoRow.mapsOut==Tryz.checked.prog.mapsAmong Tryz.f4.resultTypes.toList))=true:=by kernel_rfl
theorem fact16:((Rows.poseReachesUptoRow.loops==(Tryz.f4.params.toList++(Rows.OpenSpec.upto Rows.poseReachesSpec).bare.plain.varTypes Tryz.checked.prog).any (Tryz.checked.prog.loopsFrom ·)))=true:=by kernel_rfl
theorem fact17:((Rows.poseReachesUptoRow.wideKeys==(Tryz.f4.params.toList++(Rows.OpenSpec.upto Rows.poseReachesSpec).bare.plain.varTypes Tryz.checked.prog++Tryz.f4.resultTypes.toList).any (Tryz.checked.prog.wideKeysFrom ·)))=true:=by kernel_rfl
theorem fact18:((Rows.OpenSpec.upto Rows.poseReachesSpec).bare.vars.all (Tryz.checked.prog.varReadable ·))=true:=by kernel_rfl
theorem fact19:(Tryz.f4.resultTypes.all (fun t=>Tryz.checked.prog.readableRec t&&decide (t<Tryz.checked.prog.types.size)))=true:=by kernel_rfl
theorem fact20:((Rows.poseReachesUptoRow.ifacesOut==Tryz.f4.resultTypes.toList.any (Tryz.checked.prog.ifacesRec ·)))=true:=by kernel_rfl
theorem fact21:((Rows.poseReachesUptoRow.loopsOut==Tryz.f4.resultTypes.toList.any (Tryz.checked.prog.loopsFrom ·)))=true:=by kernel_rfl
theorem fact22:((Rows.poseReachesUptoRow.plainKeys==Tryz.checked.prog.plainKeys))=true:=by kernel_rfl
theorem fact23:(Rows.poseReachesUptoRow.shortTexts.isNone)=true:=by kernel_rfl
theorem fact24:(Tryz.checked.prog.stopsHeard)=true:=by kernel_rfl
theorem fact25:(Tryz.checked.prog.mayEnter)=true:=by kernel_rfl
theorem fact26:((Rows.poseReachesUptoRow.lifted==Tryz.checked.prog.liftsFinal))=true:=by kernel_rfl
theorem fact27:((Tryz.checked.prog.make==some Rows.poseReachesUptoRow.make))=true:=by kernel_rfl
theorem fact28:((Rows.poseReachesUptoRow.kinds==(if Rows.poseReachesUptoRow.domain.isEmpty then [] else Tryz.f4.params.toList.map fun t=>match Tryz.checked.prog.underlying t with | some (.int k)=>some k | _=>none)))=true:=by kernel_rfl
theorem fact29:((Rows.poseReachesUptoRow.pinned==Rows.poseReachesUptoRow.pinnedBy))=true:=by kernel_rfl
theorem fact30:((Rows.poseReachesUptoRow.veiled==(Tryz.f4.params.toList++(Rows.OpenSpec.upto Rows.poseReachesSpec).bare.plain.varTypes Tryz.checked.prog++Tryz.f4.resultTypes.toList).any (Tryz.checked.prog.veiledRec ·)))=true:=by kernel_rfl
theorem fact31:(Rows.poseReachesUptoRow.veiledFits Tryz.checked.prog Tryz.f4.params.toList (Tryz.f4.params.toList++(Rows.OpenSpec.upto Rows.poseReachesSpec).bare.plain.varTypes Tryz.checked.prog++Tryz.f4.resultTypes.toList))=true:=by kernel_rfl
theorem facts:joinedFacts Tryz.checked.prog 4 Tryz.f4 (Rows.OpenSpec.upto Rows.poseReachesSpec).bare Rows.poseReachesUptoRow=true:=andT (andT (andT (andT (andT (andT (andT (andT (andT (andT (andT (andT (andT (andT (andT (andT (andT (andT (andT (andT (andT (andT (andT (andT (andT (andT (andT (andT (andT (andT (andT (fact0) fact1) fact2) fact3) fact4) fact5) fact6) fact7) fact8) fact9) fact10) fact11) fact12) fact13) fact14) fact15) fact16) fact17) fact18) fact19) fact20) fact21) fact22) fact23) fact24) fact25) fact26) fact27) fact28) fact29) fact30) fact31
end Go.Proofs.YtbdhgnlabjmnoaaGreat.poseReaches
