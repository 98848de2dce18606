/- The closed facts that the row asks. No condition. -/
import Derived.Test.YtbdhgnlabjmnoaaGreatRows
import Derived.WalkKit
import Derived.ProofKit
import Derived.OpenShut
import Derived.JoinedCond
set_option linter.unusedVariables false
set_option maxRecDepth 100000
namespace Go.Proofs.YtbdhgnlabjmnoaaGreat.poseJacobians
open Go.Proofs.YtbdhgnlabjmnoaaGreat Go.ChangeShapes Go.WideShapes Go.ChangeAt Go.RowKit
theorem gJ {a b:Bool} (h:a=true) (k:b=true):(a&&b)=true:=by rw[h,k];rfl
theorem SF:(Rows.poseJacobiansRow.wf (OpenSpec.ofChange Rows.poseJacobiansSpec))=true:=by kernel_rfl
theorem SG:(laidOutB Tryz.checked.prog)=true:=by kernel_rfl
theorem SI:(mapsRowed Tryz.checked.prog)=true:=by kernel_rfl
theorem SJ:(Tryz.f6.params.all (Tryz.checked.prog.readableRec ·))=true:=by kernel_rfl
theorem SK:(namedTie Tryz.checked.prog Rows.poseJacobiansRow.named Rows.poseJacobiansSpec.vars)=true:=by kernel_rfl
theorem SL:((Rows.poseJacobiansRow.stops== []))=true:=by kernel_rfl
theorem SM:((Tryz.checked.prog.stops== []))=true:=by kernel_rfl
theorem SN:((Rows.poseJacobiansRow.knobs== []))=true:=by kernel_rfl
theorem SO:((Tryz.checked.prog.stopKnobs== []))=true:=by kernel_rfl
theorem SP:((Rows.poseJacobiansRow.inPlace==Tryz.checked.prog.inPlace 6))=true:=by kernel_rfl
theorem NV:((Rows.poseJacobiansRow.unfollowed==Tryz.checked.prog.unfollowed 6))=true:=by kernel_rfl
theorem NW:((Rows.poseJacobiansRow.recurses==Tryz.checked.prog.recurses 6))=true:=by kernel_rfl
theorem NX:((Rows.poseJacobiansRow.named==Tryz.checked.prog.varsNamed 6))=true:=by kernel_rfl
theorem NY:((Rows.poseJacobiansRow.maps==(Tryz.f6.params.toList++Rows.poseJacobiansSpec.plain.varTypes Tryz.checked.prog).any (Tryz.checked.prog.mapsRec ·)))=true:=by kernel_rfl
theorem NZ:((Rows.poseJacobiansRow.ifaces==(Tryz.f6.params.toList++Rows.poseJacobiansSpec.plain.varTypes Tryz.checked.prog).any (Tryz.checked.prog.ifacesRec ·)))=true:=by kernel_rfl
theorem Oa:((Rows.poseJacobiansRow.mapsOut==Tryz.checked.prog.mapsAmong Tryz.f6.resultTypes.toList))=true:=by kernel_rfl
theorem Ob:((Rows.poseJacobiansRow.loops==(Tryz.f6.params.toList++Rows.poseJacobiansSpec.plain.varTypes Tryz.checked.prog).any (Tryz.checked.prog.loopsFrom ·)))=true:=by kernel_rfl
theorem Oc:((Rows.poseJacobiansRow.wideKeys==(Tryz.f6.params.toList++Rows.poseJacobiansSpec.plain.varTypes Tryz.checked.prog++Tryz.f6.resultTypes.toList).any (Tryz.checked.prog.wideKeysFrom ·)))=true:=by kernel_rfl
theorem Od:(Rows.poseJacobiansSpec.vars.all (Tryz.checked.prog.varReadable ·))=true:=by kernel_rfl
theorem Oe:(Tryz.f6.resultTypes.all (fun t=>Tryz.checked.prog.readableRec t&&decide (t<Tryz.checked.prog.types.size)))=true:=by kernel_rfl
theorem Of:((Rows.poseJacobiansRow.ifacesOut==Tryz.f6.resultTypes.toList.any (Tryz.checked.prog.ifacesRec ·)))=true:=by kernel_rfl
theorem Og:((Rows.poseJacobiansRow.loopsOut==Tryz.f6.resultTypes.toList.any (Tryz.checked.prog.loopsFrom ·)))=true:=by kernel_rfl
theorem Oh:((Rows.poseJacobiansRow.plainKeys==Tryz.checked.prog.plainKeys))=true:=by kernel_rfl
theorem Oi:(Rows.poseJacobiansRow.shortTexts.isNone)=true:=by kernel_rfl
theorem Oj:(Tryz.checked.prog.stopsHeard)=true:=by kernel_rfl
theorem Ol:(Tryz.checked.prog.mayEnter)=true:=by kernel_rfl
theorem Om:((Rows.poseJacobiansRow.lifted==Tryz.checked.prog.liftsFinal))=true:=by kernel_rfl
theorem On:((Tryz.checked.prog.make==some Rows.poseJacobiansRow.make))=true:=by kernel_rfl
theorem Oo:((Rows.poseJacobiansRow.kinds==(if Rows.poseJacobiansRow.domain.isEmpty then [] else Tryz.f6.params.toList.map fun t=>match Tryz.checked.prog.underlying t with | some (.int k)=>some k | _=>none)))=true:=by kernel_rfl
theorem Oq:((Rows.poseJacobiansRow.pinned==Rows.poseJacobiansRow.pinnedBy))=true:=by kernel_rfl
theorem Ot:((Rows.poseJacobiansRow.veiled==(Tryz.f6.params.toList++Rows.poseJacobiansSpec.plain.varTypes Tryz.checked.prog++Tryz.f6.resultTypes.toList).any (Tryz.checked.prog.veiledRec ·)))=true:=by kernel_rfl
theorem Ou:(Rows.poseJacobiansRow.veiledFits Tryz.checked.prog Tryz.f6.params.toList (Tryz.f6.params.toList++Rows.poseJacobiansSpec.plain.varTypes Tryz.checked.prog++Tryz.f6.resultTypes.toList))=true:=by kernel_rfl
theorem LZ:joinedFacts Tryz.checked.prog 6 Tryz.f6 Rows.poseJacobiansSpec Rows.poseJacobiansRow=true:=gJ (gJ (gJ (gJ (gJ (gJ (gJ (gJ (gJ (gJ (gJ (gJ (gJ (gJ (gJ (gJ (gJ (gJ (gJ (gJ (gJ (gJ (gJ (gJ (gJ (gJ (gJ (gJ (gJ (gJ (gJ (SF) SG) SI) SJ) SK) SL) SM) SN) SO) SP) NV) NW) NX) NY) NZ) Oa) Ob) Oc) Od) Oe) Of) Og) Oh) Oi) Oj) Ol) Om) On) Oo) Oq) Ot) Ou
end Go.Proofs.YtbdhgnlabjmnoaaGreat.poseJacobians
