/- The closed facts that the row asks. No condition. -/
import Derived.Test.YtbdhgnlabjmnoaaGreatRows
import Derived.WalkKit
import Derived.ProofKit
import Derived.OpenShut
import Derived.JoinedCond
set_option linter.unusedVariables false
set_option maxRecDepth 100000
namespace Go.Proofs.YtbdhgnlabjmnoaaGreat.poseBent
open Go.Proofs.YtbdhgnlabjmnoaaGreat Go.ChangeShapes Go.WideShapes Go.ChangeAt Go.RowKit
theorem gU {a b:Bool} (h:a=true) (k:b=true):(a&&b)=true:=by rw[h,k];rfl
theorem RU:(Rows.poseBentRow.wf (OpenSpec.ofChange Rows.poseBentSpec))=true:=by kernel_rfl
theorem RV:(laidOutB Tryz.checked.prog)=true:=by kernel_rfl
theorem RW:(mapsRowed Tryz.checked.prog)=true:=by kernel_rfl
theorem RX:(Tryz.f5.params.all (Tryz.checked.prog.readableRec ·))=true:=by kernel_rfl
theorem RY:(namedTie Tryz.checked.prog Rows.poseBentRow.named Rows.poseBentSpec.vars)=true:=by kernel_rfl
theorem RZ:((Rows.poseBentRow.stops== []))=true:=by kernel_rfl
theorem Sa:((Tryz.checked.prog.stops== []))=true:=by kernel_rfl
theorem Sb:((Rows.poseBentRow.knobs== []))=true:=by kernel_rfl
theorem Se:((Tryz.checked.prog.stopKnobs== []))=true:=by kernel_rfl
theorem Sf:((Rows.poseBentRow.inPlace==Tryz.checked.prog.inPlace 5))=true:=by kernel_rfl
theorem Nc:((Rows.poseBentRow.unfollowed==Tryz.checked.prog.unfollowed 5))=true:=by kernel_rfl
theorem Nd:((Rows.poseBentRow.recurses==Tryz.checked.prog.recurses 5))=true:=by kernel_rfl
theorem Nf:((Rows.poseBentRow.named==Tryz.checked.prog.varsNamed 5))=true:=by kernel_rfl
theorem Ng:((Rows.poseBentRow.maps==(Tryz.f5.params.toList++Rows.poseBentSpec.plain.varTypes Tryz.checked.prog).any (Tryz.checked.prog.mapsRec ·)))=true:=by kernel_rfl
theorem Nh:((Rows.poseBentRow.ifaces==(Tryz.f5.params.toList++Rows.poseBentSpec.plain.varTypes Tryz.checked.prog).any (Tryz.checked.prog.ifacesRec ·)))=true:=by kernel_rfl
theorem Ni:((Rows.poseBentRow.mapsOut==Tryz.checked.prog.mapsAmong Tryz.f5.resultTypes.toList))=true:=by kernel_rfl
theorem Nj:((Rows.poseBentRow.loops==(Tryz.f5.params.toList++Rows.poseBentSpec.plain.varTypes Tryz.checked.prog).any (Tryz.checked.prog.loopsFrom ·)))=true:=by kernel_rfl
theorem Nk:((Rows.poseBentRow.wideKeys==(Tryz.f5.params.toList++Rows.poseBentSpec.plain.varTypes Tryz.checked.prog++Tryz.f5.resultTypes.toList).any (Tryz.checked.prog.wideKeysFrom ·)))=true:=by kernel_rfl
theorem Nl:(Rows.poseBentSpec.vars.all (Tryz.checked.prog.varReadable ·))=true:=by kernel_rfl
theorem Nn:(Tryz.f5.resultTypes.all (fun t=>Tryz.checked.prog.readableRec t&&decide (t<Tryz.checked.prog.types.size)))=true:=by kernel_rfl
theorem Np:((Rows.poseBentRow.ifacesOut==Tryz.f5.resultTypes.toList.any (Tryz.checked.prog.ifacesRec ·)))=true:=by kernel_rfl
theorem Nq:((Rows.poseBentRow.loopsOut==Tryz.f5.resultTypes.toList.any (Tryz.checked.prog.loopsFrom ·)))=true:=by kernel_rfl
theorem Nr:((Rows.poseBentRow.plainKeys==Tryz.checked.prog.plainKeys))=true:=by kernel_rfl
theorem Ns:(Rows.poseBentRow.shortTexts.isNone)=true:=by kernel_rfl
theorem Nt:(Tryz.checked.prog.stopsHeard)=true:=by kernel_rfl
theorem Nu:(Tryz.checked.prog.mayEnter)=true:=by kernel_rfl
theorem Nv:((Rows.poseBentRow.lifted==Tryz.checked.prog.liftsFinal))=true:=by kernel_rfl
theorem Nw:((Tryz.checked.prog.make==some Rows.poseBentRow.make))=true:=by kernel_rfl
theorem Nx:((Rows.poseBentRow.kinds==(if Rows.poseBentRow.domain.isEmpty then [] else Tryz.f5.params.toList.map fun t=>match Tryz.checked.prog.underlying t with | some (.int k)=>some k | _=>none)))=true:=by kernel_rfl
theorem Ny:((Rows.poseBentRow.pinned==Rows.poseBentRow.pinnedBy))=true:=by kernel_rfl
theorem Nz:((Rows.poseBentRow.veiled==(Tryz.f5.params.toList++Rows.poseBentSpec.plain.varTypes Tryz.checked.prog++Tryz.f5.resultTypes.toList).any (Tryz.checked.prog.veiledRec ·)))=true:=by kernel_rfl
theorem NA:(Rows.poseBentRow.veiledFits Tryz.checked.prog Tryz.f5.params.toList (Tryz.f5.params.toList++Rows.poseBentSpec.plain.varTypes Tryz.checked.prog++Tryz.f5.resultTypes.toList))=true:=by kernel_rfl
theorem Li:joinedFacts Tryz.checked.prog 5 Tryz.f5 Rows.poseBentSpec Rows.poseBentRow=true:=gU (gU (gU (gU (gU (gU (gU (gU (gU (gU (gU (gU (gU (gU (gU (gU (gU (gU (gU (gU (gU (gU (gU (gU (gU (gU (gU (gU (gU (gU (gU (RU) RV) RW) RX) RY) RZ) Sa) Sb) Se) Sf) Nc) Nd) Nf) Ng) Nh) Ni) Nj) Nk) Nl) Nn) Np) Nq) Nr) Ns) Nt) Nu) Nv) Nw) Nx) Ny) Nz) NA
end Go.Proofs.YtbdhgnlabjmnoaaGreat.poseBent
