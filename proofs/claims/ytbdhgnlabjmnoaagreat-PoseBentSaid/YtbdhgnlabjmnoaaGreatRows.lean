/-
  No cell of these rows narrows 'for every input' (looked for: loops, veiled, ifaces, maps, wideKeys, modest, calm, conditions, laid).
  DERIVED. THE GIVEN ROWS OF THIS SEAT. 15 by the template 'for every input the law returns true; each argument reads behind the call as it read before'; 0 by the template 'total and deterministic' (their statements: YtbdhgnlabjmnoaaGreatTotals.lean).
  GIVEN WITH THE SEED: the statements are not yours to turn. If you find one false, say at which input.
  Laid BY PROGRAM, IN A SANDBOX (cutbox-rows.mjs): the forced cells as the released guide's own fill.sh prints them over the translation e1f4838b90dfc057… (all of the seat's roots in one cut). By AI agents, Wed Nov 11 2026. No macro, syntax, notation, axiom, sorry.
-/
import Derived.Test.YtbdhgnlabjmnoaaGreatChecked
import GoSem.Claim
import GoSem.ClaimJoined
import GoSem.ClaimMapViews
import Derived.JoinedTies
import Derived.KernelRfl
namespace Go.Proofs.YtbdhgnlabjmnoaaGreat
/- THE CELL 'sum', in the pinned program and in every row, IS THE sha256 OF THE DUMP (.gsa) THAT YtbdhgnlabjmnoaaGreatProg.lean LOADS. Nothing in Lean hashes anything: it is a label: what it is worth is what the hold of that sum in a sandbox is worth. -/
noncomputable def Tryz.pinned : Pinned := { name := "ytbdhgnlabjmnoaagreat", sum := "e1f4838b90dfc0579fc7feb1a5cfefc6040fbde53f3b0eebe93f5d03fa21439a", checked := Tryz.checked }
namespace Rows
def none {H : Type} : Left H := { results := [], args := [] }

/-- 'amblelaw04.PoseHinges': WHATEVER THE INPUT: true; the input reads as it did. -/
def poseHingesSpec : ChangeSpec := { name := "poseHinges", fn := fun _ => fun
  | [d1, d2, d3, d4, d5, d6] => { results := [.lit (.bool true)], args := [d1, d2, d3, d4, d5, d6] }
  | _ => none }
def poseHingesRow : OpenClaim := { program := "ytbdhgnlabjmnoaagreat", sum := "e1f4838b90dfc0579fc7feb1a5cfefc6040fbde53f3b0eebe93f5d03fa21439a", func := "amble/amblelaw04.PoseHinges", spec := "poseHinges", unfollowed := true, recurses := true, apart := false }
def PoseHingesSaid : Prop := poseHingesRow.holds Tryz.pinned (OpenSpec.ofChange poseHingesSpec)

/-- ITS FALSE NEIGHBOUR: 'it returns false'. Refute it at one input. -/
def poseHingesWrong : ChangeSpec := { name := "poseHinges", fn := fun _ => fun
  | [d1, d2, d3, d4, d5, d6] => { results := [.lit (.bool false)], args := [d1, d2, d3, d4, d5, d6] }
  | _ => none }
def PoseHingesWrongFalsely : Prop := poseHingesRow.holds Tryz.pinned (OpenSpec.ofChange poseHingesWrong)

/-- 'amblelaw04.PoseReaches': WHATEVER THE INPUT: true; the input reads as it did. -/
def poseReachesSpec : ChangeSpec := { name := "poseReaches", fn := fun _ => fun
  | [d1, d2, d3, d4, d5] => { results := [.lit (.bool true)], args := [d1, d2, d3, d4, d5] }
  | _ => none }
def poseReachesRow : OpenClaim := { program := "ytbdhgnlabjmnoaagreat", sum := "e1f4838b90dfc0579fc7feb1a5cfefc6040fbde53f3b0eebe93f5d03fa21439a", func := "amble/amblelaw04.PoseReaches", spec := "poseReaches", unfollowed := true, recurses := true, apart := false }
def PoseReachesSaid : Prop := poseReachesRow.holds Tryz.pinned (OpenSpec.ofChange poseReachesSpec)

/-- ITS FALSE NEIGHBOUR: 'it returns false'. Refute it at one input. -/
def poseReachesWrong : ChangeSpec := { name := "poseReaches", fn := fun _ => fun
  | [d1, d2, d3, d4, d5] => { results := [.lit (.bool false)], args := [d1, d2, d3, d4, d5] }
  | _ => none }
def PoseReachesWrongFalsely : Prop := poseReachesRow.holds Tryz.pinned (OpenSpec.ofChange poseReachesWrong)

/-- 'amblelaw04.PoseBent': WHATEVER THE INPUT: true; the input reads as it did. -/
def poseBentSpec : ChangeSpec := { name := "poseBent", fn := fun _ => fun
  | [d1, d2, d3, d4, d5] => { results := [.lit (.bool true)], args := [d1, d2, d3, d4, d5] }
  | _ => none }
def poseBentRow : OpenClaim := { program := "ytbdhgnlabjmnoaagreat", sum := "e1f4838b90dfc0579fc7feb1a5cfefc6040fbde53f3b0eebe93f5d03fa21439a", func := "amble/amblelaw04.PoseBent", spec := "poseBent", unfollowed := true, recurses := true, apart := false }
def PoseBentSaid : Prop := poseBentRow.holds Tryz.pinned (OpenSpec.ofChange poseBentSpec)

/-- ITS FALSE NEIGHBOUR: 'it returns false'. Refute it at one input. -/
def poseBentWrong : ChangeSpec := { name := "poseBent", fn := fun _ => fun
  | [d1, d2, d3, d4, d5] => { results := [.lit (.bool false)], args := [d1, d2, d3, d4, d5] }
  | _ => none }
def PoseBentWrongFalsely : Prop := poseBentRow.holds Tryz.pinned (OpenSpec.ofChange poseBentWrong)

/-- 'amblelaw04.PoseJacobians': WHATEVER THE INPUT: true; the input reads as it did. -/
def poseJacobiansSpec : ChangeSpec := { name := "poseJacobians", fn := fun _ => fun
  | [d1, d2, d3, d4] => { results := [.lit (.bool true)], args := [d1, d2, d3, d4] }
  | _ => none }
def poseJacobiansRow : OpenClaim := { program := "ytbdhgnlabjmnoaagreat", sum := "e1f4838b90dfc0579fc7feb1a5cfefc6040fbde53f3b0eebe93f5d03fa21439a", func := "amble/amblelaw04.PoseJacobians", spec := "poseJacobians", unfollowed := true, recurses := true, apart := false }
def PoseJacobiansSaid : Prop := poseJacobiansRow.holds Tryz.pinned (OpenSpec.ofChange poseJacobiansSpec)

/-- ITS FALSE NEIGHBOUR: 'it returns false'. Refute it at one input. -/
def poseJacobiansWrong : ChangeSpec := { name := "poseJacobians", fn := fun _ => fun
  | [d1, d2, d3, d4] => { results := [.lit (.bool false)], args := [d1, d2, d3, d4] }
  | _ => none }
def PoseJacobiansWrongFalsely : Prop := poseJacobiansRow.holds Tryz.pinned (OpenSpec.ofChange poseJacobiansWrong)

/-- 'ambletop.TopStands': WHATEVER THE INPUT: true; the input reads as it did. -/
def topStandsSpec : ChangeSpec := { name := "topStands", fn := fun _ => fun
  | [d1, d2, d3, d4, d5] => { results := [.lit (.bool true)], args := [d1, d2, d3, d4, d5] }
  | _ => none }
def topStandsRow : OpenClaim := { program := "ytbdhgnlabjmnoaagreat", sum := "e1f4838b90dfc0579fc7feb1a5cfefc6040fbde53f3b0eebe93f5d03fa21439a", func := "amble/ambletop.TopStands", spec := "topStands", unfollowed := true, recurses := true, apart := false }
def TopStandsSaid : Prop := topStandsRow.holds Tryz.pinned (OpenSpec.ofChange topStandsSpec)

/-- ITS FALSE NEIGHBOUR: 'it returns false'. Refute it at one input. -/
def topStandsWrong : ChangeSpec := { name := "topStands", fn := fun _ => fun
  | [d1, d2, d3, d4, d5] => { results := [.lit (.bool false)], args := [d1, d2, d3, d4, d5] }
  | _ => none }
def TopStandsWrongFalsely : Prop := topStandsRow.holds Tryz.pinned (OpenSpec.ofChange topStandsWrong)

/-- 'amblelaw04.PoseProves': WHATEVER THE INPUT: true; the input reads as it did. -/
def poseProvesSpec : ChangeSpec := { name := "poseProves", fn := fun _ => fun
  | [d1, d2, d3] => { results := [.lit (.bool true)], args := [d1, d2, d3] }
  | _ => none }
def poseProvesRow : OpenClaim := { program := "ytbdhgnlabjmnoaagreat", sum := "e1f4838b90dfc0579fc7feb1a5cfefc6040fbde53f3b0eebe93f5d03fa21439a", func := "amble/amblelaw04.PoseProves", spec := "poseProves", unfollowed := true, recurses := true, apart := false }
def PoseProvesSaid : Prop := poseProvesRow.holds Tryz.pinned (OpenSpec.ofChange poseProvesSpec)

/-- ITS FALSE NEIGHBOUR: 'it returns false'. Refute it at one input. -/
def poseProvesWrong : ChangeSpec := { name := "poseProves", fn := fun _ => fun
  | [d1, d2, d3] => { results := [.lit (.bool false)], args := [d1, d2, d3] }
  | _ => none }
def PoseProvesWrongFalsely : Prop := poseProvesRow.holds Tryz.pinned (OpenSpec.ofChange poseProvesWrong)

/-- 'amblelaw04.PoseMirrors': WHATEVER THE INPUT: true; the input reads as it did. -/
def poseMirrorsSpec : ChangeSpec := { name := "poseMirrors", fn := fun _ => fun
  | [d1, d2, d3, d4] => { results := [.lit (.bool true)], args := [d1, d2, d3, d4] }
  | _ => none }
def poseMirrorsRow : OpenClaim := { program := "ytbdhgnlabjmnoaagreat", sum := "e1f4838b90dfc0579fc7feb1a5cfefc6040fbde53f3b0eebe93f5d03fa21439a", func := "amble/amblelaw04.PoseMirrors", spec := "poseMirrors", unfollowed := true, recurses := true, apart := false }
def PoseMirrorsSaid : Prop := poseMirrorsRow.holds Tryz.pinned (OpenSpec.ofChange poseMirrorsSpec)

/-- ITS FALSE NEIGHBOUR: 'it returns false'. Refute it at one input. -/
def poseMirrorsWrong : ChangeSpec := { name := "poseMirrors", fn := fun _ => fun
  | [d1, d2, d3, d4] => { results := [.lit (.bool false)], args := [d1, d2, d3, d4] }
  | _ => none }
def PoseMirrorsWrongFalsely : Prop := poseMirrorsRow.holds Tryz.pinned (OpenSpec.ofChange poseMirrorsWrong)

/-- 'amblelaw04.PoseFrames': WHATEVER THE INPUT: true; the input reads as it did. -/
def poseFramesSpec : ChangeSpec := { name := "poseFrames", fn := fun _ => fun
  | [d1, d2, d3, d4] => { results := [.lit (.bool true)], args := [d1, d2, d3, d4] }
  | _ => none }
def poseFramesRow : OpenClaim := { program := "ytbdhgnlabjmnoaagreat", sum := "e1f4838b90dfc0579fc7feb1a5cfefc6040fbde53f3b0eebe93f5d03fa21439a", func := "amble/amblelaw04.PoseFrames", spec := "poseFrames", unfollowed := true, recurses := true, apart := false }
def PoseFramesSaid : Prop := poseFramesRow.holds Tryz.pinned (OpenSpec.ofChange poseFramesSpec)

/-- ITS FALSE NEIGHBOUR: 'it returns false'. Refute it at one input. -/
def poseFramesWrong : ChangeSpec := { name := "poseFrames", fn := fun _ => fun
  | [d1, d2, d3, d4] => { results := [.lit (.bool false)], args := [d1, d2, d3, d4] }
  | _ => none }
def PoseFramesWrongFalsely : Prop := poseFramesRow.holds Tryz.pinned (OpenSpec.ofChange poseFramesWrong)

/-- 'amblelaw04.PoseScales': WHATEVER THE INPUT: true; the input reads as it did. -/
def poseScalesSpec : ChangeSpec := { name := "poseScales", fn := fun _ => fun
  | [d1, d2, d3, d4, d5] => { results := [.lit (.bool true)], args := [d1, d2, d3, d4, d5] }
  | _ => none }
def poseScalesRow : OpenClaim := { program := "ytbdhgnlabjmnoaagreat", sum := "e1f4838b90dfc0579fc7feb1a5cfefc6040fbde53f3b0eebe93f5d03fa21439a", func := "amble/amblelaw04.PoseScales", spec := "poseScales", unfollowed := true, recurses := true, apart := false }
def PoseScalesSaid : Prop := poseScalesRow.holds Tryz.pinned (OpenSpec.ofChange poseScalesSpec)

/-- ITS FALSE NEIGHBOUR: 'it returns false'. Refute it at one input. -/
def poseScalesWrong : ChangeSpec := { name := "poseScales", fn := fun _ => fun
  | [d1, d2, d3, d4, d5] => { results := [.lit (.bool false)], args := [d1, d2, d3, d4, d5] }
  | _ => none }
def PoseScalesWrongFalsely : Prop := poseScalesRow.holds Tryz.pinned (OpenSpec.ofChange poseScalesWrong)

/-- 'amblelaw04.PoseCentres': WHATEVER THE INPUT: true; the input reads as it did. -/
def poseCentresSpec : ChangeSpec := { name := "poseCentres", fn := fun _ => fun
  | [d1, d2] => { results := [.lit (.bool true)], args := [d1, d2] }
  | _ => none }
def poseCentresRow : OpenClaim := { program := "ytbdhgnlabjmnoaagreat", sum := "e1f4838b90dfc0579fc7feb1a5cfefc6040fbde53f3b0eebe93f5d03fa21439a", func := "amble/amblelaw04.PoseCentres", spec := "poseCentres", unfollowed := true, recurses := true, apart := false }
def PoseCentresSaid : Prop := poseCentresRow.holds Tryz.pinned (OpenSpec.ofChange poseCentresSpec)

/-- ITS FALSE NEIGHBOUR: 'it returns false'. Refute it at one input. -/
def poseCentresWrong : ChangeSpec := { name := "poseCentres", fn := fun _ => fun
  | [d1, d2] => { results := [.lit (.bool false)], args := [d1, d2] }
  | _ => none }
def PoseCentresWrongFalsely : Prop := poseCentresRow.holds Tryz.pinned (OpenSpec.ofChange poseCentresWrong)

/-- 'amblelaw04.PoseGrounds': WHATEVER THE INPUT: true; the input reads as it did. -/
def poseGroundsSpec : ChangeSpec := { name := "poseGrounds", fn := fun _ => fun
  | [d1, d2, d3, d4] => { results := [.lit (.bool true)], args := [d1, d2, d3, d4] }
  | _ => none }
def poseGroundsRow : OpenClaim := { program := "ytbdhgnlabjmnoaagreat", sum := "e1f4838b90dfc0579fc7feb1a5cfefc6040fbde53f3b0eebe93f5d03fa21439a", func := "amble/amblelaw04.PoseGrounds", spec := "poseGrounds", unfollowed := true, recurses := true, apart := false }
def PoseGroundsSaid : Prop := poseGroundsRow.holds Tryz.pinned (OpenSpec.ofChange poseGroundsSpec)

/-- ITS FALSE NEIGHBOUR: 'it returns false'. Refute it at one input. -/
def poseGroundsWrong : ChangeSpec := { name := "poseGrounds", fn := fun _ => fun
  | [d1, d2, d3, d4] => { results := [.lit (.bool false)], args := [d1, d2, d3, d4] }
  | _ => none }
def PoseGroundsWrongFalsely : Prop := poseGroundsRow.holds Tryz.pinned (OpenSpec.ofChange poseGroundsWrong)

/-- 'amblelaw04.PoseCollides': WHATEVER THE INPUT: true; the input reads as it did. -/
def poseCollidesSpec : ChangeSpec := { name := "poseCollides", fn := fun _ => fun
  | [d1, d2] => { results := [.lit (.bool true)], args := [d1, d2] }
  | _ => none }
def poseCollidesRow : OpenClaim := { program := "ytbdhgnlabjmnoaagreat", sum := "e1f4838b90dfc0579fc7feb1a5cfefc6040fbde53f3b0eebe93f5d03fa21439a", func := "amble/amblelaw04.PoseCollides", spec := "poseCollides", unfollowed := true, recurses := true, apart := false }
def PoseCollidesSaid : Prop := poseCollidesRow.holds Tryz.pinned (OpenSpec.ofChange poseCollidesSpec)

/-- ITS FALSE NEIGHBOUR: 'it returns false'. Refute it at one input. -/
def poseCollidesWrong : ChangeSpec := { name := "poseCollides", fn := fun _ => fun
  | [d1, d2] => { results := [.lit (.bool false)], args := [d1, d2] }
  | _ => none }
def PoseCollidesWrongFalsely : Prop := poseCollidesRow.holds Tryz.pinned (OpenSpec.ofChange poseCollidesWrong)

/-- 'amblelaw04.PoseVerdicts': WHATEVER THE INPUT: true; the input reads as it did. -/
def poseVerdictsSpec : ChangeSpec := { name := "poseVerdicts", fn := fun _ => fun
  | [d1, d2, d3, d4] => { results := [.lit (.bool true)], args := [d1, d2, d3, d4] }
  | _ => none }
def poseVerdictsRow : OpenClaim := { program := "ytbdhgnlabjmnoaagreat", sum := "e1f4838b90dfc0579fc7feb1a5cfefc6040fbde53f3b0eebe93f5d03fa21439a", func := "amble/amblelaw04.PoseVerdicts", spec := "poseVerdicts", unfollowed := true, recurses := true, apart := false }
def PoseVerdictsSaid : Prop := poseVerdictsRow.holds Tryz.pinned (OpenSpec.ofChange poseVerdictsSpec)

/-- ITS FALSE NEIGHBOUR: 'it returns false'. Refute it at one input. -/
def poseVerdictsWrong : ChangeSpec := { name := "poseVerdicts", fn := fun _ => fun
  | [d1, d2, d3, d4] => { results := [.lit (.bool false)], args := [d1, d2, d3, d4] }
  | _ => none }
def PoseVerdictsWrongFalsely : Prop := poseVerdictsRow.holds Tryz.pinned (OpenSpec.ofChange poseVerdictsWrong)

/-- 'amblelaw04.PoseMoves': WHATEVER THE INPUT: true; the input reads as it did. -/
def poseMovesSpec : ChangeSpec := { name := "poseMoves", fn := fun _ => fun
  | [d1, d2, d3, d4, d5, d6] => { results := [.lit (.bool true)], args := [d1, d2, d3, d4, d5, d6] }
  | _ => none }
def poseMovesRow : OpenClaim := { program := "ytbdhgnlabjmnoaagreat", sum := "e1f4838b90dfc0579fc7feb1a5cfefc6040fbde53f3b0eebe93f5d03fa21439a", func := "amble/amblelaw04.PoseMoves", spec := "poseMoves", unfollowed := true, recurses := true, apart := false }
def PoseMovesSaid : Prop := poseMovesRow.holds Tryz.pinned (OpenSpec.ofChange poseMovesSpec)

/-- ITS FALSE NEIGHBOUR: 'it returns false'. Refute it at one input. -/
def poseMovesWrong : ChangeSpec := { name := "poseMoves", fn := fun _ => fun
  | [d1, d2, d3, d4, d5, d6] => { results := [.lit (.bool false)], args := [d1, d2, d3, d4, d5, d6] }
  | _ => none }
def PoseMovesWrongFalsely : Prop := poseMovesRow.holds Tryz.pinned (OpenSpec.ofChange poseMovesWrong)

/-- 'amblelaw04.PoseNames': WHATEVER THE INPUT: true; the input reads as it did. -/
def poseNamesSpec : ChangeSpec := { name := "poseNames", fn := fun _ => fun
  | [] => { results := [.lit (.bool true)], args := [] }
  | _ => none }
def poseNamesRow : OpenClaim := { program := "ytbdhgnlabjmnoaagreat", sum := "e1f4838b90dfc0579fc7feb1a5cfefc6040fbde53f3b0eebe93f5d03fa21439a", func := "amble/amblelaw04.PoseNames", spec := "poseNames", unfollowed := true, recurses := true, apart := false }
def PoseNamesSaid : Prop := poseNamesRow.holds Tryz.pinned (OpenSpec.ofChange poseNamesSpec)

/-- ITS FALSE NEIGHBOUR: 'it returns false'. Refute it at one input. -/
def poseNamesWrong : ChangeSpec := { name := "poseNames", fn := fun _ => fun
  | [] => { results := [.lit (.bool false)], args := [] }
  | _ => none }
def PoseNamesWrongFalsely : Prop := poseNamesRow.holds Tryz.pinned (OpenSpec.ofChange poseNamesWrong)

/- THE SECOND FORM. 'bulk': how many values and letters a reading holds, each counted each time it is reached (what is shared counts as often as it is met; a slice's spare places count too). A statement '..UptoSaid' is the law's where the arguments, and the package variables that the reading takes, are together of bulk at most 1048576: NARROWER than '..Said'. Prove '..Said' where nothing that the law and all that it calls make is longer than what came in: it says more and counts as full. Else prove '..UptoSaid'. A law counts once. -/
mutual
def uptoBulk {H : Type} : DataW H → Nat
  | .lit (.string bytes) => bytes.length + 1
  | .lit _ => 1
  | .nil => 1
  | .ptr d => uptoBulk d + 1
  | .slice elems spare => uptoBulkAll elems + uptoBulkAll spare + 1
  | .agg parts => uptoBulkAll parts + 1
  | .iface _ d => uptoBulk d + 1
  | .map entries => uptoBulkEntries entries + 1
  | .held _ => 1
def uptoBulkAll {H : Type} : List (DataW H) → Nat
  | [] => 0
  | d :: r => uptoBulk d + uptoBulkAll r
def uptoBulkEntries {H : Type} : List (Lit × DataW H) → Nat
  | [] => 0
  | x :: r => uptoBulkEntry x + uptoBulkEntries r
def uptoBulkEntry {H : Type} : Lit × DataW H → Nat
  | (.string bytes, d) => bytes.length + uptoBulk d + 1
  | (_, d) => uptoBulk d + 1
 end
def uptoSmall : (H : Type) → List (DataW H) → Bool := fun _ ds => decide (uptoBulkAll ds ≤ 1048576)
def OpenSpec.upto (s : _root_.Go.ChangeSpec) : _root_.Go.OpenSpec := { _root_.Go.OpenSpec.ofChange s with cond := some uptoSmall }

/-- 'amblelaw04.PoseHinges', WHERE WHAT IT READS IS OF BULK AT MOST 1048576: true; the input reads as it did. -/
def poseHingesUptoRow : OpenClaim := { program := "ytbdhgnlabjmnoaagreat", sum := "e1f4838b90dfc0579fc7feb1a5cfefc6040fbde53f3b0eebe93f5d03fa21439a", func := "amble/amblelaw04.PoseHinges", spec := "poseHinges", unfollowed := true, recurses := true, apart := false, narrowed := true }
def PoseHingesUptoSaid : Prop := poseHingesUptoRow.holds Tryz.pinned (OpenSpec.upto poseHingesSpec)

/-- 'amblelaw04.PoseReaches', WHERE WHAT IT READS IS OF BULK AT MOST 1048576: true; the input reads as it did. -/
def poseReachesUptoRow : OpenClaim := { program := "ytbdhgnlabjmnoaagreat", sum := "e1f4838b90dfc0579fc7feb1a5cfefc6040fbde53f3b0eebe93f5d03fa21439a", func := "amble/amblelaw04.PoseReaches", spec := "poseReaches", unfollowed := true, recurses := true, apart := false, narrowed := true }
def PoseReachesUptoSaid : Prop := poseReachesUptoRow.holds Tryz.pinned (OpenSpec.upto poseReachesSpec)

/-- 'amblelaw04.PoseBent', WHERE WHAT IT READS IS OF BULK AT MOST 1048576: true; the input reads as it did. -/
def poseBentUptoRow : OpenClaim := { program := "ytbdhgnlabjmnoaagreat", sum := "e1f4838b90dfc0579fc7feb1a5cfefc6040fbde53f3b0eebe93f5d03fa21439a", func := "amble/amblelaw04.PoseBent", spec := "poseBent", unfollowed := true, recurses := true, apart := false, narrowed := true }
def PoseBentUptoSaid : Prop := poseBentUptoRow.holds Tryz.pinned (OpenSpec.upto poseBentSpec)

/-- 'amblelaw04.PoseJacobians', WHERE WHAT IT READS IS OF BULK AT MOST 1048576: true; the input reads as it did. -/
def poseJacobiansUptoRow : OpenClaim := { program := "ytbdhgnlabjmnoaagreat", sum := "e1f4838b90dfc0579fc7feb1a5cfefc6040fbde53f3b0eebe93f5d03fa21439a", func := "amble/amblelaw04.PoseJacobians", spec := "poseJacobians", unfollowed := true, recurses := true, apart := false, narrowed := true }
def PoseJacobiansUptoSaid : Prop := poseJacobiansUptoRow.holds Tryz.pinned (OpenSpec.upto poseJacobiansSpec)

/-- 'ambletop.TopStands', WHERE WHAT IT READS IS OF BULK AT MOST 1048576: true; the input reads as it did. -/
def topStandsUptoRow : OpenClaim := { program := "ytbdhgnlabjmnoaagreat", sum := "e1f4838b90dfc0579fc7feb1a5cfefc6040fbde53f3b0eebe93f5d03fa21439a", func := "amble/ambletop.TopStands", spec := "topStands", unfollowed := true, recurses := true, apart := false, narrowed := true }
def TopStandsUptoSaid : Prop := topStandsUptoRow.holds Tryz.pinned (OpenSpec.upto topStandsSpec)

/-- 'amblelaw04.PoseProves', WHERE WHAT IT READS IS OF BULK AT MOST 1048576: true; the input reads as it did. -/
def poseProvesUptoRow : OpenClaim := { program := "ytbdhgnlabjmnoaagreat", sum := "e1f4838b90dfc0579fc7feb1a5cfefc6040fbde53f3b0eebe93f5d03fa21439a", func := "amble/amblelaw04.PoseProves", spec := "poseProves", unfollowed := true, recurses := true, apart := false, narrowed := true }
def PoseProvesUptoSaid : Prop := poseProvesUptoRow.holds Tryz.pinned (OpenSpec.upto poseProvesSpec)

/-- 'amblelaw04.PoseMirrors', WHERE WHAT IT READS IS OF BULK AT MOST 1048576: true; the input reads as it did. -/
def poseMirrorsUptoRow : OpenClaim := { program := "ytbdhgnlabjmnoaagreat", sum := "e1f4838b90dfc0579fc7feb1a5cfefc6040fbde53f3b0eebe93f5d03fa21439a", func := "amble/amblelaw04.PoseMirrors", spec := "poseMirrors", unfollowed := true, recurses := true, apart := false, narrowed := true }
def PoseMirrorsUptoSaid : Prop := poseMirrorsUptoRow.holds Tryz.pinned (OpenSpec.upto poseMirrorsSpec)

/-- 'amblelaw04.PoseFrames', WHERE WHAT IT READS IS OF BULK AT MOST 1048576: true; the input reads as it did. -/
def poseFramesUptoRow : OpenClaim := { program := "ytbdhgnlabjmnoaagreat", sum := "e1f4838b90dfc0579fc7feb1a5cfefc6040fbde53f3b0eebe93f5d03fa21439a", func := "amble/amblelaw04.PoseFrames", spec := "poseFrames", unfollowed := true, recurses := true, apart := false, narrowed := true }
def PoseFramesUptoSaid : Prop := poseFramesUptoRow.holds Tryz.pinned (OpenSpec.upto poseFramesSpec)

/-- 'amblelaw04.PoseScales', WHERE WHAT IT READS IS OF BULK AT MOST 1048576: true; the input reads as it did. -/
def poseScalesUptoRow : OpenClaim := { program := "ytbdhgnlabjmnoaagreat", sum := "e1f4838b90dfc0579fc7feb1a5cfefc6040fbde53f3b0eebe93f5d03fa21439a", func := "amble/amblelaw04.PoseScales", spec := "poseScales", unfollowed := true, recurses := true, apart := false, narrowed := true }
def PoseScalesUptoSaid : Prop := poseScalesUptoRow.holds Tryz.pinned (OpenSpec.upto poseScalesSpec)

/-- 'amblelaw04.PoseCentres', WHERE WHAT IT READS IS OF BULK AT MOST 1048576: true; the input reads as it did. -/
def poseCentresUptoRow : OpenClaim := { program := "ytbdhgnlabjmnoaagreat", sum := "e1f4838b90dfc0579fc7feb1a5cfefc6040fbde53f3b0eebe93f5d03fa21439a", func := "amble/amblelaw04.PoseCentres", spec := "poseCentres", unfollowed := true, recurses := true, apart := false, narrowed := true }
def PoseCentresUptoSaid : Prop := poseCentresUptoRow.holds Tryz.pinned (OpenSpec.upto poseCentresSpec)

/-- 'amblelaw04.PoseGrounds', WHERE WHAT IT READS IS OF BULK AT MOST 1048576: true; the input reads as it did. -/
def poseGroundsUptoRow : OpenClaim := { program := "ytbdhgnlabjmnoaagreat", sum := "e1f4838b90dfc0579fc7feb1a5cfefc6040fbde53f3b0eebe93f5d03fa21439a", func := "amble/amblelaw04.PoseGrounds", spec := "poseGrounds", unfollowed := true, recurses := true, apart := false, narrowed := true }
def PoseGroundsUptoSaid : Prop := poseGroundsUptoRow.holds Tryz.pinned (OpenSpec.upto poseGroundsSpec)

/-- 'amblelaw04.PoseCollides', WHERE WHAT IT READS IS OF BULK AT MOST 1048576: true; the input reads as it did. -/
def poseCollidesUptoRow : OpenClaim := { program := "ytbdhgnlabjmnoaagreat", sum := "e1f4838b90dfc0579fc7feb1a5cfefc6040fbde53f3b0eebe93f5d03fa21439a", func := "amble/amblelaw04.PoseCollides", spec := "poseCollides", unfollowed := true, recurses := true, apart := false, narrowed := true }
def PoseCollidesUptoSaid : Prop := poseCollidesUptoRow.holds Tryz.pinned (OpenSpec.upto poseCollidesSpec)

/-- 'amblelaw04.PoseVerdicts', WHERE WHAT IT READS IS OF BULK AT MOST 1048576: true; the input reads as it did. -/
def poseVerdictsUptoRow : OpenClaim := { program := "ytbdhgnlabjmnoaagreat", sum := "e1f4838b90dfc0579fc7feb1a5cfefc6040fbde53f3b0eebe93f5d03fa21439a", func := "amble/amblelaw04.PoseVerdicts", spec := "poseVerdicts", unfollowed := true, recurses := true, apart := false, narrowed := true }
def PoseVerdictsUptoSaid : Prop := poseVerdictsUptoRow.holds Tryz.pinned (OpenSpec.upto poseVerdictsSpec)

/-- 'amblelaw04.PoseMoves', WHERE WHAT IT READS IS OF BULK AT MOST 1048576: true; the input reads as it did. -/
def poseMovesUptoRow : OpenClaim := { program := "ytbdhgnlabjmnoaagreat", sum := "e1f4838b90dfc0579fc7feb1a5cfefc6040fbde53f3b0eebe93f5d03fa21439a", func := "amble/amblelaw04.PoseMoves", spec := "poseMoves", unfollowed := true, recurses := true, apart := false, narrowed := true }
def PoseMovesUptoSaid : Prop := poseMovesUptoRow.holds Tryz.pinned (OpenSpec.upto poseMovesSpec)

/-- 'amblelaw04.PoseNames', WHERE WHAT IT READS IS OF BULK AT MOST 1048576: true; the input reads as it did. -/
def poseNamesUptoRow : OpenClaim := { program := "ytbdhgnlabjmnoaagreat", sum := "e1f4838b90dfc0579fc7feb1a5cfefc6040fbde53f3b0eebe93f5d03fa21439a", func := "amble/amblelaw04.PoseNames", spec := "poseNames", unfollowed := true, recurses := true, apart := false, narrowed := true }
def PoseNamesUptoSaid : Prop := poseNamesUptoRow.holds Tryz.pinned (OpenSpec.upto poseNamesSpec)

end Rows
end Go.Proofs.YtbdhgnlabjmnoaaGreat
