/- PoseHinges: the given statement holds. No condition. -/
import Derived.Test.YtbdhgnlabjmnoaaGreatK4
import Derived.Test.YtbdhgnlabjmnoaaGreatKF
import Derived.Test.YtbdhgnlabjmnoaaGreatRows
import Derived.WalkKit
import Derived.ProofKit
import Derived.OpenShut
import Derived.JoinedCond
import Derived.Deep.Slices
import Derived.ReadAgain
import Derived.ChangeReads
import Derived.ChangeOld
set_option linter.all false
set_option maxRecDepth 100000
set_option autoImplicit true
set_option relaxedAutoImplicit true
namespace Go.Av
open Go.Proofs Go.RowKit
structure BendD where
 a : Sd
 b : Sd
 w : Bool
 deriving Inhabited
def unBend (S1 S2 S3 T : Nat) (y : BendD) : List AV := [.q y.a.a S1, .q y.a.b S2, .q y.a.d S3, .q y.b.a T, .q y.b.b T, .q y.b.d T, .bool y.w]
def kneeV (v x : PtD) (t : Sd) : Vc := vAdd ⟨⟨v.x, 0⟩, ⟨v.z, 0⟩⟩ (fTurn t.d ⟨⟨x.x, 0⟩, ⟨x.z, 0⟩⟩ ⟨t.a, t.b⟩)
def belowN (w : Vc) (d : PtD) (f : Rat) (t : Sd) : Nm := fAdd ⟨f, 0⟩ (fAdd (fMul t.d w.x ⟨d.x, 0⟩) (fMul t.d w.z ⟨d.z, 0⟩))
def zeroF (d : Rat) (b : Nm) : Prop := (if Int.sign d.num < 0 then 0 else sgnS b.a b.b d) = 0
instance (d : Rat) (b : Nm) : Decidable (zeroF d b) := by unfold zeroF; infer_instance
def surdF (d : Rat) (y : Nm) : Sd := if Int.sign d.num < 0 then (⟨0, 0, 0⟩ : Sd) else nrm ⟨y.a, y.b, d⟩
def hipS (w : Vc) (b : Nm) (d : PtD) (t : Sd) : Sd := surdF t.d (fDiv t.d (fSub (fMul t.d w.x ⟨d.z, 0⟩) (fMul t.d w.z ⟨d.x, 0⟩)) b)
def bendK (u v : BodyD) (w : Vc) (b : Nm) (d : PtD) (t : Sd) : Option BendD :=
 if zeroF t.d b then none else some ⟨hipS w b d t, t, withinB u.low u.high (hipS w b d t) && withinB v.low v.high t⟩
def dotP (a b : PtD) : Rat := a.x * b.x + a.z * b.z
def crossP (a b : PtD) : Rat := a.x * b.z - a.z * b.x
def bendOf (u v : BodyD) (x d : PtD) (t : Sd) : Option BendD := bendK u v (kneeV v.at_ x t) (belowN (kneeV v.at_ x t) d (dotP d d) t) d t
def kOf (v x d : PtD) : Rat := (dotP d d - dotP v v - dotP x x) * ((Int.cast 1 : Rat) / (Int.cast 2 : Rat))
def rootsL (v x d : PtD) : List Sd := rootsS (kOf v x d + dotP v x) (crossP v x + crossP v x) (kOf v x d - dotP v x)
def rootsE (v x d : PtD) : Int := if kOf v x d + dotP v x = 0 /\ crossP v x + crossP v x = 0 /\ kOf v x d - dotP v x = 0 then 10 else 0
def bendsS (u v : BodyD) (x d : PtD) : List BendD × Bool :=
 if rootsE v.at_ x d = 10 then ([], decide (dotP x x = 0 /\ 0 < dotP v.at_ v.at_ /\ dotP d d + dotP v.at_ d = 0))
 else if rootsL v.at_ x d ≠ [] /\ dotP d d = 0 then ([], false)
 else ((rootsL v.at_ x d).filterMap (bendOf u v x d), true)
theorem rootsS_len (a b c : Rat) : (rootsS a b c).length <= 2 := by
 unfold rootsS; split
 · split <;> simp
 · split
   · simp
   · split <;> simp
theorem filterMap_len {α β : Type} (f : α -> Option β) (l : List α) : (l.filterMap f).length <= l.length := by
 induction l with
 | nil => simp
 | cons a l ih =>
   rw [List.filterMap_cons]
   split <;> simp <;> omega
theorem filterMap_take {α β : Type} [Inhabited α] (f : α -> Option β) {l : List α} {i : Nat} (h : i < l.length) : (l.take (i + 1)).filterMap f = (l.take i).filterMap f ++ (f (l.getD i default)).toList := by
 have e : l.take (i + 1) = l.take i ++ [l.getD i default] := by
   rw [List.take_add_one, List.getElem?_eq_getElem h]; simp [gdE, h]
 rw [e, List.filterMap_append]; generalize l.getD i default = y; cases hf : f y <;> simp [List.filterMap_cons, hf]
noncomputable abbrev T122 : List Item := [.code (nav [1, 1, 1, 1, 1, 1, 1, 1, 0, 1, 0, 0] (bodyOf Tryz.f122)), .inLoop (nav [1, 1, 1, 1, 1, 1, 1, 1, 0, 1, 0, 0] (bodyOf Tryz.f122)), .inBlock 0, .code (nav [1, 1, 1, 1, 1, 1, 1, 1, 1] (bodyOf Tryz.f122))]
section
variable {S : Nat -> Prop} {w0 : World} {h : FrameD} {u v : BodyD} {us vs : List (List AV)} {x d : PtD} {H1 H2 H3 H4 B C X Z : Nat} {L : List Sd} {T FA W BE S1 S2 S3 : Nat} {f : Rat}
abbrev st122 (h : FrameD) (u v : BodyD) (us vs : List (List AV)) (x d : PtD) (H1 H2 H3 H4 B C X Z : Nat) (L : List Sd) (T FA : Nat) (f : Rat) (i : Nat) (o : AV) : List AV := slots 171 [(2, .cptr [.q h.at_.x H1, .q h.at_.z H2, .q h.c H3, .q h.s H4, .str u.name, .i6 u.par, .q u.at_.x 300, .q u.at_.z 300, .q u.ma 300, .q u.inr 300, .q u.c.x 300, .q u.c.z 300, .q u.low 300, .q u.high 300, .list 6 us, .str v.name, .i6 v.par, .q v.at_.x 300, .q v.at_.z 300, .q v.ma 300, .q v.inr 300, .q v.c.x 300, .q v.c.z 300, .q v.low 300, .q v.high 300, .list 6 vs, .q x.x B, .q x.z C] 0), (3, .cptr [.q d.x X, .q d.z Z] 0), (6, .cptr [.q v.at_.x 300, .q v.at_.z 300] 0), (7, .cptr [.q x.x B, .q x.z C] 0), (8, .cptr [.q f FA] 0), (15, o), (85, .list 9 (L.map (unSd T))), (86, .i6 ((L.length : Nat) : Int)), (87, .i6 ((i : Nat) : Int))]
abbrev res122 (S1 S2 S3 T : Nat) (A : List BendD) : AV := .tup [.list 19 (A.map (unBend S1 S2 S3 T)), .bool true]
def out122 (A : List BendD) : AV := if A = [] then .nil else .own 0 19 0 A.length
def oh122 (S1 S2 S3 T : Nat) (A : List BendD) : List (Option ABlk) := if A = [] then [] else [some ⟨110, 19, true, A.map (unBend S1 S2 S3 T), none⟩]
theorem end122 (A : List BendD) (i : Nat) (hi : i = L.length) : GF 122 S w0 (res122 S1 S2 S3 T A) T122 ⟨st122 h u v us vs x d H1 H2 H3 H4 B C X Z L T FA f i (out122 A), oh122 S1 S2 S3 T A⟩ := by
 have hn : ¬ (((i : Nat) : Int) < ((L.length : Nat) : Int)) := by omega
 by_cases hA : A = []
 · subst hA
   refine rF KT122_ok [(88, ff)] (.a1 (iF hn)) (V := .tup [.nil, .bool true]) (Ref.tup2 Ref.nilL rr rfl rfl rfl rfl)
 · have e1 : out122 A = .own 0 19 0 A.length := if_neg hA
   have e2 : oh122 S1 S2 S3 T A = [some ⟨110, 19, true, A.map (unBend S1 S2 S3 T), none⟩] := if_neg hA; rw [e1, e2]; refine gN KT122_ok [4, 5] [(88, ff)] (.a1 (iF hn)) (t := [.code .ret]) (σ := slots 171 [(4, .own 0 19 0 A.length), (5, .bool true)]) (h := [some ⟨110, 19, true, (A.map (unBend S1 S2 S3 T)), none⟩]) ?_
   refine Good.freezeD (b := ⟨110, 19, true, A.map (unBend S1 S2 S3 T), none⟩) 0 (by rfl) (by rfl) (.oe (.a1 (show 0 + A.length <= (A.map (unBend S1 S2 S3 T)).length by simp))) .on ?_; exact gE [.list 19 (((A.map (unBend S1 S2 S3 T)).drop 0).take A.length), .bool true] (Ref.eq (by rw [List.drop_zero, tkE (by simp)]; rfl))
abbrev c122_0 (h : FrameD) (H1 : Nat) (H2 : Nat) (H3 : Nat) (H4 : Nat) (u : BodyD) (us : List (List AV)) (v : BodyD) (vs : List (List AV)) (x : PtD) (B : Nat) (C : Nat) : List AV := [.q h.at_.x H1, .q h.at_.z H2, .q h.c H3, .q h.s H4, .str u.name, .i6 u.par, .q u.at_.x 300, .q u.at_.z 300, .q u.ma 300, .q u.inr 300, .q u.c.x 300, .q u.c.z 300, .q u.low 300, .q u.high 300, .list 6 us, .str v.name, .i6 v.par, .q v.at_.x 300, .q v.at_.z 300, .q v.ma 300, .q v.inr 300, .q v.c.x 300, .q v.c.z 300, .q v.low 300, .q v.high 300, .list 6 vs, .q x.x B, .q x.z C]
abbrev c122_1 (w : Vc) (W : Nat) : List AV := [.q w.x.a W, .q w.x.b W, .q w.z.a W, .q w.z.b W]
abbrev c122_2 (u : BodyD) (s : Sd) (v : BodyD) (t : Sd) : AV := (.bool (withinB u.low u.high ⟨s.a, s.b, s.d⟩ && withinB v.low v.high ⟨t.a, t.b, t.d⟩))
abbrev c122_4 (A : List BendD) (S1 : Nat) (S2 : Nat) (S3 : Nat) (T : Nat) (s : Sd) (t : Sd) (u : BodyD) (v : BodyD) : ABlk := ⟨110, 19, true, ((A.map (unBend S1 S2 S3 T)) ++ [[(AV.q s.a S1), (AV.q s.b S2), (AV.q s.d S3), (AV.q t.a T), (AV.q t.b T), (AV.q t.d T), (AV.bool (withinB u.low u.high ⟨s.a, s.b, s.d⟩ && withinB v.low v.high ⟨t.a, t.b, t.d⟩))]]), none⟩
abbrev c122_5 (u : BodyD) (s : Sd) : AV := (.bool (withinB u.low u.high ⟨s.a, s.b, s.d⟩))
set_option maxHeartbeats 2000000 in
theorem loop122 (hf : ¬ Int.sign f.num = 0) (hfar : f = dotP d d) (hLen : L.length <= 2) (hFA : FA = 2 * X + 2 * Z + 6) (hW : W = 170 * T + B + C + 1804) (hBE : BE = FA + 4 * W + X + Z + 2 * T + 24) (hS1 : S1 = 2 * (2 * (4 * W + X + Z + 2 * T + 18) + 6 * BE + 2 * T + 18) + T + 5) (hS2 : S2 = (2 * (4 * W + X + Z + 2 * T + 18) + 6 * BE + 2 * T + 18) + T + 3) (hS3 : S3 = 2 * T + 3)
   (hL : 8 * S1 + 8 * S2 + 4 * S3 + 400 * T + 20000 <= LIM) : ∀ (j i : Nat), i + j = L.length -> ∀ A : List BendD, A = (L.take i).filterMap (bendOf u v x d) ->
   GF 122 S w0 (res122 S1 S2 S3 T (L.filterMap (bendOf u v x d))) T122 ⟨st122 h u v us vs x d H1 H2 H3 H4 B C X Z L T FA f i (out122 A), oh122 S1 S2 S3 T A⟩ := by
 intro j
 induction j with
 | zero =>
   intro i hij A hA; have hi : i = L.length := by omega
   have : A = L.filterMap (bendOf u v x d) := by rw [hA, hi, tkE (rl _)]
   rw [<- this]; exact end122 A i hi
 | succ j ih =>
   intro i hij A hA; have hi : ((i : Nat) : Int) < ((L.length : Nat) : Int) := by omega
   have ih := fun i (h : i + j = L.length) => ih i h
   obtain ⟨t, ht⟩ : ∃ t, t = L.getD i default := ⟨_, rfl⟩; obtain ⟨w, hw⟩ : ∃ w, w = kneeV v.at_ x t := ⟨_, rfl⟩; obtain ⟨b, hb⟩ : ∃ b, b = belowN w d f t := ⟨_, rfl⟩; obtain ⟨s, hs⟩ : ∃ s, s = hipS w b d t := ⟨_, rfl⟩
   have hcm : Ref (.cptr ((L.map (unSd T)).getD i []) 0) (.cptr (unSd T t) 0) := by
     rw [ht]; exact Ref.cmap (f := unSd T) (by omega)
   have hnx := filterMap_take (bendOf u v x d) (l := L) (i := i) (by omega); rw [<- ht] at hnx; have hbo : bendOf u v x d t = bendK u v w b d t := by rw [hb, hw, hfar]; rfl
   have hno : ((if Int.sign t.d.num < 0 then 0 else sgnS b.a b.b t.d) = 0) -> bendOf u v x d t = none := fun h => by rw [hbo]; exact if_pos h
   have hso : (¬ (if Int.sign t.d.num < 0 then 0 else sgnS b.a b.b t.d) = 0) -> bendOf u v x d t = some ⟨s, t, withinB u.low u.high s && withinB v.low v.high t⟩ := fun h => by rw [hbo, hs]; exact if_neg h
   have hAl : A.length <= 2 := by
     rw [hA]
     have := filterMap_len (bendOf u v x d) (L.take i); have : (L.take i).length <= L.length := by simp; omega
     omega
   have v0 : Ref (.agg [.q ((vAdd ⟨⟨v.at_.x, 0⟩, ⟨v.at_.z, 0⟩⟩ ⟨⟨((fTurn t.d ⟨⟨x.x, 0⟩, ⟨x.z, 0⟩⟩ ⟨t.a, t.b⟩).x.a), ((fTurn t.d ⟨⟨x.x, 0⟩, ⟨x.z, 0⟩⟩ ⟨t.a, t.b⟩).x.b)⟩, ⟨((fTurn t.d ⟨⟨x.x, 0⟩, ⟨x.z, 0⟩⟩ ⟨t.a, t.b⟩).z.a), ((fTurn t.d ⟨⟨x.x, 0⟩, ⟨x.z, 0⟩⟩ ⟨t.a, t.b⟩).z.b)⟩⟩).x.a) (300 + (64 * T + 64 * T + 42 * T + B + 0 + C + 0 + 1500) + 2), .q ((vAdd ⟨⟨v.at_.x, 0⟩, ⟨v.at_.z, 0⟩⟩ ⟨⟨((fTurn t.d ⟨⟨x.x, 0⟩, ⟨x.z, 0⟩⟩ ⟨t.a, t.b⟩).x.a), ((fTurn t.d ⟨⟨x.x, 0⟩, ⟨x.z, 0⟩⟩ ⟨t.a, t.b⟩).x.b)⟩, ⟨((fTurn t.d ⟨⟨x.x, 0⟩, ⟨x.z, 0⟩⟩ ⟨t.a, t.b⟩).z.a), ((fTurn t.d ⟨⟨x.x, 0⟩, ⟨x.z, 0⟩⟩ ⟨t.a, t.b⟩).z.b)⟩⟩).x.b) (0 + (64 * T + 64 * T + 42 * T + B + 0 + C + 0 + 1500) + 2), .q ((vAdd ⟨⟨v.at_.x, 0⟩, ⟨v.at_.z, 0⟩⟩ ⟨⟨((fTurn t.d ⟨⟨x.x, 0⟩, ⟨x.z, 0⟩⟩ ⟨t.a, t.b⟩).x.a), ((fTurn t.d ⟨⟨x.x, 0⟩, ⟨x.z, 0⟩⟩ ⟨t.a, t.b⟩).x.b)⟩, ⟨((fTurn t.d ⟨⟨x.x, 0⟩, ⟨x.z, 0⟩⟩ ⟨t.a, t.b⟩).z.a), ((fTurn t.d ⟨⟨x.x, 0⟩, ⟨x.z, 0⟩⟩ ⟨t.a, t.b⟩).z.b)⟩⟩).z.a) (300 + (64 * T + 64 * T + 42 * T + B + 0 + C + 0 + 1500) + 2), .q ((vAdd ⟨⟨v.at_.x, 0⟩, ⟨v.at_.z, 0⟩⟩ ⟨⟨((fTurn t.d ⟨⟨x.x, 0⟩, ⟨x.z, 0⟩⟩ ⟨t.a, t.b⟩).x.a), ((fTurn t.d ⟨⟨x.x, 0⟩, ⟨x.z, 0⟩⟩ ⟨t.a, t.b⟩).x.b)⟩, ⟨((fTurn t.d ⟨⟨x.x, 0⟩, ⟨x.z, 0⟩⟩ ⟨t.a, t.b⟩).z.a), ((fTurn t.d ⟨⟨x.x, 0⟩, ⟨x.z, 0⟩⟩ ⟨t.a, t.b⟩).z.b)⟩⟩).z.b) (0 + (64 * T + 64 * T + 42 * T + B + 0 + C + 0 + 1500) + 2)]) (.agg (c122_1 w W)) := by rw [hw]; exact Ref.agg (RefC.cons qe (RefC.cons qe (RefC.cons qe qe)))
   have v1 : Ref (.agg [.q (((if Int.sign t.d.num < 0 then (⟨0, 0, 0⟩ : Sd) else nrm ⟨((fDiv t.d ⟨(((fMul t.d ⟨w.x.a, w.x.b⟩ ⟨d.z, 0⟩).a) - ((fMul t.d ⟨w.z.a, w.z.b⟩ ⟨d.x, 0⟩).a)), (((fMul t.d ⟨w.x.a, w.x.b⟩ ⟨d.z, 0⟩).b) - ((fMul t.d ⟨w.z.a, w.z.b⟩ ⟨d.x, 0⟩).b))⟩ ⟨b.a, b.b⟩).a), ((fDiv t.d ⟨(((fMul t.d ⟨w.x.a, w.x.b⟩ ⟨d.z, 0⟩).a) - ((fMul t.d ⟨w.z.a, w.z.b⟩ ⟨d.x, 0⟩).a)), (((fMul t.d ⟨w.x.a, w.x.b⟩ ⟨d.z, 0⟩).b) - ((fMul t.d ⟨w.z.a, w.z.b⟩ ⟨d.x, 0⟩).b))⟩ ⟨b.a, b.b⟩).b), t.d⟩)).a) ((((W + W + Z + 0 + T + 8) + (W + W + X + 0 + T + 8) + 2) + ((W + W + Z + 0 + T + 8) + (W + W + X + 0 + T + 8) + 2) + 3 * BE + 3 * BE + 2 * T + 18) + (((W + W + Z + 0 + T + 8) + (W + W + X + 0 + T + 8) + 2) + ((W + W + Z + 0 + T + 8) + (W + W + X + 0 + T + 8) + 2) + 3 * BE + 3 * BE + 2 * T + 18) + T + 5), .q (((if Int.sign t.d.num < 0 then (⟨0, 0, 0⟩ : Sd) else nrm ⟨((fDiv t.d ⟨(((fMul t.d ⟨w.x.a, w.x.b⟩ ⟨d.z, 0⟩).a) - ((fMul t.d ⟨w.z.a, w.z.b⟩ ⟨d.x, 0⟩).a)), (((fMul t.d ⟨w.x.a, w.x.b⟩ ⟨d.z, 0⟩).b) - ((fMul t.d ⟨w.z.a, w.z.b⟩ ⟨d.x, 0⟩).b))⟩ ⟨b.a, b.b⟩).a), ((fDiv t.d ⟨(((fMul t.d ⟨w.x.a, w.x.b⟩ ⟨d.z, 0⟩).a) - ((fMul t.d ⟨w.z.a, w.z.b⟩ ⟨d.x, 0⟩).a)), (((fMul t.d ⟨w.x.a, w.x.b⟩ ⟨d.z, 0⟩).b) - ((fMul t.d ⟨w.z.a, w.z.b⟩ ⟨d.x, 0⟩).b))⟩ ⟨b.a, b.b⟩).b), t.d⟩)).b) ((((W + W + Z + 0 + T + 8) + (W + W + X + 0 + T + 8) + 2) + ((W + W + Z + 0 + T + 8) + (W + W + X + 0 + T + 8) + 2) + 3 * BE + 3 * BE + 2 * T + 18) + T + 3), .q (((if Int.sign t.d.num < 0 then (⟨0, 0, 0⟩ : Sd) else nrm ⟨((fDiv t.d ⟨(((fMul t.d ⟨w.x.a, w.x.b⟩ ⟨d.z, 0⟩).a) - ((fMul t.d ⟨w.z.a, w.z.b⟩ ⟨d.x, 0⟩).a)), (((fMul t.d ⟨w.x.a, w.x.b⟩ ⟨d.z, 0⟩).b) - ((fMul t.d ⟨w.z.a, w.z.b⟩ ⟨d.x, 0⟩).b))⟩ ⟨b.a, b.b⟩).a), ((fDiv t.d ⟨(((fMul t.d ⟨w.x.a, w.x.b⟩ ⟨d.z, 0⟩).a) - ((fMul t.d ⟨w.z.a, w.z.b⟩ ⟨d.x, 0⟩).a)), (((fMul t.d ⟨w.x.a, w.x.b⟩ ⟨d.z, 0⟩).b) - ((fMul t.d ⟨w.z.a, w.z.b⟩ ⟨d.x, 0⟩).b))⟩ ⟨b.a, b.b⟩).b), t.d⟩)).d) (2 * T + 3)]) (.agg [.q s.a S1, .q s.b S2, .q s.d S3]) := by rw [hs]; exact Ref.agg (RefC.cons qe (RefC.cons qe qe))
   have v2 : Ref (.agg [.q (f + (((fMul t.d ⟨w.x.a, w.x.b⟩ ⟨d.x, 0⟩).a) + ((fMul t.d ⟨w.z.a, w.z.b⟩ ⟨d.z, 0⟩).a))) (FA + ((W + W + X + 0 + T + 8) + (W + W + Z + 0 + T + 8) + 2) + 2), .q (0 + (((fMul t.d ⟨w.x.a, w.x.b⟩ ⟨d.x, 0⟩).b) + ((fMul t.d ⟨w.z.a, w.z.b⟩ ⟨d.z, 0⟩).b))) (0 + ((W + W + X + 0 + T + 8) + (W + W + Z + 0 + T + 8) + 2) + 2)]) (.agg [.q b.a BE, .q b.b BE]) := by rw [hb]; exact Ref.agg (RefC.cons qe qe)
   have v3 : 300 + 0 + 300 + 0 + (64 * T + 64 * T + 42 * T + B + 0 + C + 0 + 1500) + (64 * T + 64 * T + 42 * T + B + 0 + C + 0 + 1500) + (64 * T + 64 * T + 42 * T + B + 0 + C + 0 + 1500) + (64 * T + 64 * T + 42 * T + B + 0 + C + 0 + 1500) + T + 600 <= LIM := by omega
   have v4 : (((W + W + Z + 0 + T + 8) + (W + W + X + 0 + T + 8) + 2) + ((W + W + Z + 0 + T + 8) + (W + W + X + 0 + T + 8) + 2) + 3 * BE + 3 * BE + 2 * T + 18) + (((W + W + Z + 0 + T + 8) + (W + W + X + 0 + T + 8) + 2) + ((W + W + Z + 0 + T + 8) + (W + W + X + 0 + T + 8) + 2) + 3 * BE + 3 * BE + 2 * T + 18) + 3 * T + 600 <= LIM := by omega
   have v5 : FA + 0 + ((W + W + X + 0 + T + 8) + (W + W + Z + 0 + T + 8) + 2) + ((W + W + X + 0 + T + 8) + (W + W + Z + 0 + T + 8) + 2) + T + 400 <= LIM := by omega
   have v6 : (W + W + X + 0 + T + 8) + (W + W + X + 0 + T + 8) + (W + W + Z + 0 + T + 8) + (W + W + Z + 0 + T + 8) + T + 400 <= LIM := by omega
   have v7 : ((W + W + Z + 0 + T + 8) + (W + W + X + 0 + T + 8) + 2) + ((W + W + Z + 0 + T + 8) + (W + W + X + 0 + T + 8) + 2) + 3 * BE + 3 * BE + 2 * T + 400 <= LIM := by omega
   have v8 : 128 * T + 128 * T + 90 * T + 2 * B + 2 * 0 + 2 * C + 2 * 0 + 8000 <= LIM := by omega
   have v9 : (W + W + Z + 0 + T + 8) + (W + W + Z + 0 + T + 8) + (W + W + X + 0 + T + 8) + (W + W + X + 0 + T + 8) + T + 400 <= LIM := by omega
   have v10 : (i : Int) < ((L.map (unSd T)).length : Int) := by rw [lmE]; omega
   have v11 : W + W + X + 0 + T + 400 <= LIM := by omega
   have v12 : W + W + Z + 0 + T + 400 <= LIM := by omega
   have v13 : 2 * BE + 2 * BE + T + 600 <= LIM := by omega
   have v14 : 8 * S1 + 8 * 300 + 8 * 300 + 8 * S2 + 4 * S3 + 2000 <= LIM := by omega
   have v15 : 8 * T + 8 * 300 + 8 * 300 + 8 * T + 4 * T + 2000 <= LIM := by omega
   by_cases hA0 : A = []
   · subst hA0
     show Good Tryz.prog 122 S No w0 _ T122 ⟨st122 h u v us vs x d H1 H2 H3 H4 B C X Z L T FA f i .nil, []⟩
     by_cases c1 : ((i : Nat) : Int) < ((L.length : Nat) : Int)
     · by_cases c2 : (Int.sign f.num) = (0 : Int)
       · exact absurd c2 hf
       · by_cases c3 : (if Int.sign t.d.num < 0 then 0 else sgnS b.a b.b t.d) = 0
         · exact gR KT122_ok none [2, 3, 4, 5, 6, 7, 8, 15, 85, 86, 87] [] [(88, tt), (89, .cptr (unSd T t) 0), (93, ff), (110, .agg (c122_1 w W)), (130, .agg [.q b.a BE, .q b.b BE]), (133, tt), (169, .i6 ((i + 1 : Nat) : Int))] (.c6 (iT c1) hcm (nn i) v10 (iF c2) v8 (.c6 v0 v3 v11 v12 v6 v2 (.a4 v5 (iT c3) v13 (wI ((i : Int) + (1 : Int)) ((i + 1 : Nat) : Int) (by first | omega | decide | (unfold big; omega)))))) (ih (i + 1) (by omega) [] (by rw [hnx, hno c3, <- hA]; rfl))
         · rcases Bool.eq_false_or_eq_true (withinB u.low u.high ⟨s.a, s.b, s.d⟩) with c4 | c4
           · refine gR KT122_ok none [2, 3, 4, 5, 6, 7, 8, 15, 85, 86, 87] [26] [(88, tt), (89, .cptr (unSd T t) 0), (93, ff), (110, .agg (c122_1 w W)), (130, .agg [.q b.a BE, .q b.b BE]), (133, ff), (152, .agg [.q s.a S1, .q s.b S2, .q s.d S3]), (160, tt), (165, .bool (withinB u.low u.high ⟨s.a, s.b, s.d⟩ && withinB v.low v.high ⟨t.a, t.b, t.d⟩)), (169, .i6 ((i + 1 : Nat) : Int))] (.c6 (iT c1) hcm (nn i) v10 (iF c2) v8 (.c6 v0 v3 v11 v12 v6 v2 (.c6 v5 (iF c3) v13 v12 v11 v9 (.c6 v7 v1 v4 v14 (show Ref (c122_5 u s) (.bool true) from Ref.bool c4) v15 (.a6 (show Ref (.bool (withinB v.low v.high ⟨t.a, t.b, t.d⟩)) (c122_2 u s v t) from Ref.bool (by rw [c4]; simp)) r1 (dc (0 < 1)) (om (1 * 344 <= 140737488355328)) (dc (1 <= big)) (wI ((i : Int) + (1 : Int)) ((i + 1 : Nat) : Int) (by first | omega | decide | (unfold big; omega)))))))) (t := T122) (σ := slots 171 [(2, .cptr (c122_0 h H1 H2 H3 H4 u us v vs x B C) 0), (3, .cptr [.q d.x X, .q d.z Z] 0), (6, .cptr [.q v.at_.x 300, .q v.at_.z 300] 0), (7, .cptr [.q x.x B, .q x.z C] 0), (8, .cptr [.q f FA] 0), (15, .own 0 19 0 1), (85, .list 9 (L.map (unSd T))), (86, .i6 (L.length : Int)), (87, .i6 ((i + 1 : Nat) : Int))]) (h := [some ⟨110, 19, true, [[.q s.a S1, .q s.b S2, .q s.d S3, .q t.a T, .q t.b T, .q t.d T, .bool (withinB u.low u.high ⟨s.a, s.b, s.d⟩ && withinB v.low v.high ⟨t.a, t.b, t.d⟩)]], none⟩]) ?_
             have hA2 : ([] : List BendD) ++ [⟨s, t, withinB u.low u.high s && withinB v.low v.high t⟩] = (L.take (i + 1)).filterMap (bendOf u v x d) := by rw [hnx, hso c3, <- hA]; rfl
             have := ih (i + 1) (by omega) _ hA2; exact this
           · refine gR KT122_ok none [2, 3, 4, 5, 6, 7, 8, 15, 85, 86, 87] [26] [(88, tt), (89, .cptr (unSd T t) 0), (93, ff), (110, .agg (c122_1 w W)), (130, .agg [.q b.a BE, .q b.b BE]), (133, ff), (152, .agg [.q s.a S1, .q s.b S2, .q s.d S3]), (160, ff), (165, .bool (withinB u.low u.high ⟨s.a, s.b, s.d⟩ && withinB v.low v.high ⟨t.a, t.b, t.d⟩)), (169, .i6 ((i + 1 : Nat) : Int))] (.c6 (iT c1) hcm (nn i) v10 (iF c2) v8 (.c6 v0 v3 v11 v12 v6 v2 (.c6 v5 (iF c3) v13 v12 v11 v9 (.c6 v7 v1 v4 v14 (show Ref (c122_5 u s) (.bool false) from Ref.bool c4) (show Ref (.bool false) (c122_2 u s v t) from Ref.bool (by rw [c4]; simp)) (.a5 r1 (dc (0 < 1)) (om (1 * 344 <= 140737488355328)) (dc (1 <= big)) (wI ((i : Int) + (1 : Int)) ((i + 1 : Nat) : Int) (by first | omega | decide | (unfold big; omega)))))))) (t := T122) (σ := slots 171 [(2, .cptr (c122_0 h H1 H2 H3 H4 u us v vs x B C) 0), (3, .cptr [.q d.x X, .q d.z Z] 0), (6, .cptr [.q v.at_.x 300, .q v.at_.z 300] 0), (7, .cptr [.q x.x B, .q x.z C] 0), (8, .cptr [.q f FA] 0), (15, .own 0 19 0 1), (85, .list 9 (L.map (unSd T))), (86, .i6 (L.length : Int)), (87, .i6 ((i + 1 : Nat) : Int))]) (h := [some ⟨110, 19, true, [[.q s.a S1, .q s.b S2, .q s.d S3, .q t.a T, .q t.b T, .q t.d T, .bool (withinB u.low u.high ⟨s.a, s.b, s.d⟩ && withinB v.low v.high ⟨t.a, t.b, t.d⟩)]], none⟩]) ?_
             have hA2 : ([] : List BendD) ++ [⟨s, t, withinB u.low u.high s && withinB v.low v.high t⟩] = (L.take (i + 1)).filterMap (bendOf u v x d) := by rw [hnx, hso c3, <- hA]; rfl
             have := ih (i + 1) (by omega) _ hA2; exact this
     · exact absurd hi c1
   · have e1 : out122 A = .own 0 19 0 A.length := if_neg hA0
     have e2 : oh122 S1 S2 S3 T A = [some ⟨110, 19, true, A.map (unBend S1 S2 S3 T), none⟩] := if_neg hA0; rw [e1, e2]
     by_cases c1 : ((i : Nat) : Int) < ((L.length : Nat) : Int)
     · by_cases c2 : (Int.sign f.num) = (0 : Int)
       · exact absurd c2 hf
       · by_cases c3 : (if Int.sign t.d.num < 0 then 0 else sgnS b.a b.b t.d) = 0
         · refine gR KT122_ok none [2, 3, 4, 5, 6, 7, 8, 15, 85, 86, 87] [0] [(88, tt), (89, .cptr (unSd T t) 0), (93, ff), (110, .agg (c122_1 w W)), (130, .agg [.q b.a BE, .q b.b BE]), (133, tt), (169, .i6 ((i + 1 : Nat) : Int))] (.c6 (iT c1) hcm (nn i) v10 (iF c2) v8 (.c6 v0 v3 v11 v12 v6 v2 (.a4 v5 (iT c3) v13 (wI ((i : Int) + (1 : Int)) ((i + 1 : Nat) : Int) (by first | omega | decide | (unfold big; omega)))))) (t := T122) (σ := slots 171 [(2, .cptr (c122_0 h H1 H2 H3 H4 u us v vs x B C) 0), (3, .cptr [.q d.x X, .q d.z Z] 0), (6, .cptr [.q v.at_.x 300, .q v.at_.z 300] 0), (7, .cptr [.q x.x B, .q x.z C] 0), (8, .cptr [.q f FA] 0), (15, .own 0 19 0 A.length), (85, .list 9 (L.map (unSd T))), (86, .i6 (L.length : Int)), (87, .i6 ((i + 1 : Nat) : Int))]) (h := [some ⟨110, 19, true, (A.map (unBend S1 S2 S3 T)), none⟩]) ?_
           have := ih (i + 1) (by omega) A (by rw [hnx, hno c3]; simp [hA]); rw [e1, e2] at this; exact this
         · have v16 : A.length = (A.map (unBend S1 S2 S3 T)).length := by simp
           have v17 : (A.length + 1) * 344 <= 140737488355328 := by omega
           have v18 : A.length + 1 <= big := by (unfold big; omega)
           rcases Bool.eq_false_or_eq_true (withinB u.low u.high ⟨s.a, s.b, s.d⟩) with c4 | c4
           · refine gR KT122_ok none [2, 3, 4, 5, 6, 7, 8, 15, 85, 86, 87] [27] [(88, tt), (89, .cptr (unSd T t) 0), (93, ff), (110, .agg (c122_1 w W)), (130, .agg [.q b.a BE, .q b.b BE]), (133, ff), (152, .agg [.q s.a S1, .q s.b S2, .q s.d S3]), (160, tt), (165, .bool (withinB u.low u.high ⟨s.a, s.b, s.d⟩ && withinB v.low v.high ⟨t.a, t.b, t.d⟩)), (169, .i6 ((i + 1 : Nat) : Int))] (.c6 (iT c1) hcm (nn i) v10 (iF c2) v8 (.c6 v0 v3 v11 v12 v6 v2 (.c6 v5 (iF c3) v13 v12 v11 v9 (.c6 v7 v1 v4 v14 (show Ref (c122_5 u s) (.bool true) from Ref.bool c4) v15 (.a6 (show Ref (.bool (withinB v.low v.high ⟨t.a, t.b, t.d⟩)) (c122_2 u s v t) from Ref.bool (by rw [c4]; simp)) r1 v16 v17 v18 (wI ((i : Int) + (1 : Int)) ((i + 1 : Nat) : Int) (by first | omega | decide | (unfold big; omega)))))))) (t := T122) (σ := slots 171 [(2, .cptr (c122_0 h H1 H2 H3 H4 u us v vs x B C) 0), (3, .cptr [.q d.x X, .q d.z Z] 0), (6, .cptr [.q v.at_.x 300, .q v.at_.z 300] 0), (7, .cptr [.q x.x B, .q x.z C] 0), (8, .cptr [.q f FA] 0), (15, .own 0 19 0 (A.length + 1)), (85, .list 9 (L.map (unSd T))), (86, .i6 (L.length : Int)), (87, .i6 ((i + 1 : Nat) : Int))]) (h := [some (c122_4 A S1 S2 S3 T s t u v)]) ?_
             have hA2 : A ++ [⟨s, t, withinB u.low u.high s && withinB v.low v.high t⟩] = (L.take (i + 1)).filterMap (bendOf u v x d) := by rw [hnx, hso c3, <- hA]; rfl
             have := ih (i + 1) (by omega) _ hA2; have e3 : out122 (A ++ [⟨s, t, withinB u.low u.high s && withinB v.low v.high t⟩]) = .own 0 19 0 (A.length + 1) := by unfold out122; rw [if_neg (by simp)]; simp
             have e4 : oh122 S1 S2 S3 T (A ++ [⟨s, t, withinB u.low u.high s && withinB v.low v.high t⟩]) = [some ⟨110, 19, true, A.map (unBend S1 S2 S3 T) ++ [unBend S1 S2 S3 T ⟨s, t, withinB u.low u.high s && withinB v.low v.high t⟩], none⟩] := by unfold oh122; rw [if_neg (by simp)]; simp
             rw [e3, e4] at this; exact this
           · refine gR KT122_ok none [2, 3, 4, 5, 6, 7, 8, 15, 85, 86, 87] [27] [(88, tt), (89, .cptr (unSd T t) 0), (93, ff), (110, .agg (c122_1 w W)), (130, .agg [.q b.a BE, .q b.b BE]), (133, ff), (152, .agg [.q s.a S1, .q s.b S2, .q s.d S3]), (160, ff), (165, .bool (withinB u.low u.high ⟨s.a, s.b, s.d⟩ && withinB v.low v.high ⟨t.a, t.b, t.d⟩)), (169, .i6 ((i + 1 : Nat) : Int))] (.c6 (iT c1) hcm (nn i) v10 (iF c2) v8 (.c6 v0 v3 v11 v12 v6 v2 (.c6 v5 (iF c3) v13 v12 v11 v9 (.c6 v7 v1 v4 v14 (show Ref (c122_5 u s) (.bool false) from Ref.bool c4) (show Ref (.bool false) (c122_2 u s v t) from Ref.bool (by rw [c4]; simp)) (.a5 r1 v16 v17 v18 (wI ((i : Int) + (1 : Int)) ((i + 1 : Nat) : Int) (by first | omega | decide | (unfold big; omega)))))))) (t := T122) (σ := slots 171 [(2, .cptr (c122_0 h H1 H2 H3 H4 u us v vs x B C) 0), (3, .cptr [.q d.x X, .q d.z Z] 0), (6, .cptr [.q v.at_.x 300, .q v.at_.z 300] 0), (7, .cptr [.q x.x B, .q x.z C] 0), (8, .cptr [.q f FA] 0), (15, .own 0 19 0 (A.length + 1)), (85, .list 9 (L.map (unSd T))), (86, .i6 (L.length : Int)), (87, .i6 ((i + 1 : Nat) : Int))]) (h := [some (c122_4 A S1 S2 S3 T s t u v)]) ?_
             have hA2 : A ++ [⟨s, t, withinB u.low u.high s && withinB v.low v.high t⟩] = (L.take (i + 1)).filterMap (bendOf u v x d) := by rw [hnx, hso c3, <- hA]; rfl
             have := ih (i + 1) (by omega) _ hA2; have e3 : out122 (A ++ [⟨s, t, withinB u.low u.high s && withinB v.low v.high t⟩]) = .own 0 19 0 (A.length + 1) := by unfold out122; rw [if_neg (by simp)]; simp
             have e4 : oh122 S1 S2 S3 T (A ++ [⟨s, t, withinB u.low u.high s && withinB v.low v.high t⟩]) = [some ⟨110, 19, true, A.map (unBend S1 S2 S3 T) ++ [unBend S1 S2 S3 T ⟨s, t, withinB u.low u.high s && withinB v.low v.high t⟩], none⟩] := by unfold oh122; rw [if_neg (by simp)]; simp
             rw [e3, e4] at this; exact this
     · exact absurd hi c1
end
def bendsT (ulo uhi vlo vhi : Rat) (vat x d : PtD) : List BendD × Bool := bendsS { (default : BodyD) with low := ulo, high := uhi } { (default : BodyD) with low := vlo, high := vhi, at_ := vat } x d
def bT (B C X Z : Nat) : Nat := 14 * X + 14 * Z + 29 * B + 29 * C + 18500
def bW (B C X Z : Nat) : Nat := 170 * bT B C X Z + B + C + 1804
def bBE (B C X Z : Nat) : Nat := (2 * X + 2 * Z + 6) + 4 * bW B C X Z + X + Z + 2 * bT B C X Z + 24
def bDV (B C X Z : Nat) : Nat := 2 * (4 * bW B C X Z + X + Z + 2 * bT B C X Z + 18) + 6 * bBE B C X Z + 2 * bT B C X Z + 18
def bS1 (B C X Z : Nat) : Nat := 2 * bDV B C X Z + bT B C X Z + 5
def bS2 (B C X Z : Nat) : Nat := bDV B C X Z + bT B C X Z + 3
def bS3 (B C X Z : Nat) : Nat := 2 * bT B C X Z + 3
def k122 : KF
 | [.agg [.q hx H1, .q hz H2, .q hc H3, .q hs H4, .str un, .int .i64 up, .q ux 300, .q uz 300, .q uma 300, .q uin 300, .q ucx 300, .q ucz 300, .q ulo 300, .q uhi 300, .list 6 us, .str vn, .int .i64 vp, .q vx 300, .q vz 300, .q vma 300, .q vin 300, .q vcx 300, .q vcz 300, .q vlo 300, .q vhi 300, .list 6 vs, .q xx B, .q xz C], .agg [.q dx X, .q dz Z]] => some (.tup [.list 19 ((bendsT ulo uhi vlo vhi ⟨vx, vz⟩ ⟨xx, xz⟩ ⟨dx, dz⟩).1.map (unBend (bS1 B C X Z) (bS2 B C X Z) (bS3 B C X Z) (bT B C X Z))), .bool (bendsT ulo uhi vlo vhi ⟨vx, vz⟩ ⟨xx, xz⟩ ⟨dx, dz⟩).2], [8 * bS1 B C X Z + 8 * bS2 B C X Z + 4 * bS3 B C X Z + 400 * bT B C X Z + 20000 <= LIM])
 | _ => none
abbrev c122_6 (v : BodyD) (x : PtD) (d : PtD) (B : Nat) (C : Nat) (X : Nat) (Z : Nat) : List AV := [.list 9 ((rootsL v.at_ x d).map (unSd (bT B C X Z))), .i6 (rootsE v.at_ x d)]
abbrev c122_7 (d : PtD) (X : Nat) (Z : Nat) : List AV := [.q (d.x * d.x + d.z * d.z) (X + Z + X + Z + 6)]
theorem a122 : Ctr 122 k122 := fun args r ob h ho => by
 unfold k122 at h
 split at h
 · rename_i hx H1 hz H2 hc H3 hs H4 un up ux uz uma uin ucx ucz ulo uhi us vn vp vx vz vma vin vcx vcz vlo vhi vs xx B xz C dx X dz Z
   cases h; have o1 : 8 * bS1 B C X Z + 8 * bS2 B C X Z + 4 * bS3 B C X Z + 400 * bT B C X Z + 20000 <= LIM := ho _ (by simp); clear ho; obtain ⟨h, hh⟩ : ∃ h : FrameD, h = ⟨⟨hx, hz⟩, hc, hs⟩ := ⟨_, rfl⟩; obtain ⟨u, hu⟩ : ∃ u : BodyD, u = ⟨un, up, ⟨ux, uz⟩, ⟨ucx, ucz⟩, uma, uin, ulo, uhi, []⟩ := ⟨_, rfl⟩; obtain ⟨v, hv⟩ : ∃ v : BodyD, v = ⟨vn, vp, ⟨vx, vz⟩, ⟨vcx, vcz⟩, vma, vin, vlo, vhi, []⟩ := ⟨_, rfl⟩; obtain ⟨x, hx'⟩ : ∃ x : PtD, x = ⟨xx, xz⟩ := ⟨_, rfl⟩; obtain ⟨d, hd⟩ : ∃ d : PtD, d = ⟨dx, dz⟩ := ⟨_, rfl⟩; have hres : bendsT ulo uhi vlo vhi ⟨vx, vz⟩ ⟨xx, xz⟩ ⟨dx, dz⟩ = bendsS u v x d := by rw [hu, hv, hx', hd]; rfl
   rw [hres]; refine af Tryz.f122 fun S w0 => ?_
   refine Good.weak 171 [(0, .agg (c122_0 h H1 H2 H3 H4 u us v vs x B C)), (1, .agg [.q d.x X, .q d.z Z])] (by kernel_rfl) (.cons (Ref.eq (by rw [hh, hu, hv, hx']; rfl)) (.cons (Ref.eq (by rw [hd]; rfl)) .nil)) ?_; have hT : bT B C X Z = 14 * X + 14 * Z + 29 * B + 29 * C + 18500 := rfl; have hW : bW B C X Z = 170 * bT B C X Z + B + C + 1804 := rfl; have hBE : bBE B C X Z = (2 * X + 2 * Z + 6) + 4 * bW B C X Z + X + Z + 2 * bT B C X Z + 24 := rfl; have hDV : bDV B C X Z = 2 * (4 * bW B C X Z + X + Z + 2 * bT B C X Z + 18) + 6 * bBE B C X Z + 2 * bT B C X Z + 18 := rfl; have h1 : bS1 B C X Z = 2 * bDV B C X Z + bT B C X Z + 5 := rfl; have h2 : bS2 B C X Z = bDV B C X Z + bT B C X Z + 3 := rfl; have h3 : bS3 B C X Z = 2 * bT B C X Z + 3 := rfl; have hroots : Ref (AV.tup [(AV.list 9 ((rootsS (((((d.x * d.x + d.z * d.z) - (v.at_.x * v.at_.x + v.at_.z * v.at_.z)) - (x.x * x.x + x.z * x.z)) * ((Int.cast 1 : Rat) / (Int.cast 2 : Rat))) + (v.at_.x * x.x + v.at_.z * x.z)) ((v.at_.x * x.z - v.at_.z * x.x) + (v.at_.x * x.z - v.at_.z * x.x)) (((((d.x * d.x + d.z * d.z) - (v.at_.x * v.at_.x + v.at_.z * v.at_.z)) - (x.x * x.x + x.z * x.z)) * ((Int.cast 1 : Rat) / (Int.cast 2 : Rat))) - (v.at_.x * x.x + v.at_.z * x.z))).map (unSd (5 * (((((X + Z + X + Z + 6) + (300 + 300 + 300 + 300 + 6) + 2) + (B + C + B + C + 6) + 2) + 64 + 2) + (300 + 300 + B + C + 6) + 2) + 4 * ((300 + 300 + B + C + 6) + (300 + 300 + B + C + 6) + 2) + 2 * (((((X + Z + X + Z + 6) + (300 + 300 + 300 + 300 + 6) + 2) + (B + C + B + C + 6) + 2) + 64 + 2) + (300 + 300 + B + C + 6) + 2) + 300)))), (AV.int .i64 (if (((((d.x * d.x + d.z * d.z) - (v.at_.x * v.at_.x + v.at_.z * v.at_.z)) - (x.x * x.x + x.z * x.z)) * ((Int.cast 1 : Rat) / (Int.cast 2 : Rat))) + (v.at_.x * x.x + v.at_.z * x.z)) = 0 /\ ((v.at_.x * x.z - v.at_.z * x.x) + (v.at_.x * x.z - v.at_.z * x.x)) = 0 /\ (((((d.x * d.x + d.z * d.z) - (v.at_.x * v.at_.x + v.at_.z * v.at_.z)) - (x.x * x.x + x.z * x.z)) * ((Int.cast 1 : Rat) / (Int.cast 2 : Rat))) - (v.at_.x * x.x + v.at_.z * x.z)) = 0 then 10 else 0))]) (AV.tup [(AV.list 9 ((rootsL v.at_ x d).map (unSd (bT B C X Z)))), (AV.int .i64 (rootsE v.at_ x d))]) := Ref.tup2 (Ref.listM (rootsL v.at_ x d) fun y _ => RefC.cons (RefC.q_le (by omega)) (RefC.cons (RefC.q_le (by omega)) (RefC.q_le (by omega)))) (Ref.int rfl) rfl rfl rfl rfl
   have v0 : 20 * (((((X + Z + X + Z + 6) + (300 + 300 + 300 + 300 + 6) + 2) + (B + C + B + C + 6) + 2) + 64 + 2) + (300 + 300 + B + C + 6) + 2) + 20 * ((300 + 300 + B + C + 6) + (300 + 300 + B + C + 6) + 2) + 10 * (((((X + Z + X + Z + 6) + (300 + 300 + 300 + 300 + 6) + 2) + (B + C + B + C + 6) + 2) + 64 + 2) + (300 + 300 + B + C + 6) + 2) + 3000 <= LIM := by omega
   have v1 : ((((X + Z + X + Z + 6) + (300 + 300 + 300 + 300 + 6) + 2) + (B + C + B + C + 6) + 2) + 64 + 2) + (300 + 300 + B + C + 6) + 200 <= LIM := by omega
   have v2 : (((X + Z + X + Z + 6) + (300 + 300 + 300 + 300 + 6) + 2) + (B + C + B + C + 6) + 2) + 64 + 200 <= LIM := by omega
   have v3 : ((X + Z + X + Z + 6) + (300 + 300 + 300 + 300 + 6) + 2) + (B + C + B + C + 6) + 200 <= LIM := by omega
   have v4 : 300 + 300 + B + C + 300 <= LIM := by omega
   have v5 : 300 + 300 + 300 + 300 + 300 <= LIM := by omega
   have v6 : B + C + B + C + 300 <= LIM := by omega
   have v7 : (X + Z + X + Z + 6) + (300 + 300 + 300 + 300 + 6) + 200 <= LIM := by omega
   have v8 : (300 + 300 + B + C + 6) + (300 + 300 + B + C + 6) + 200 <= LIM := by omega
   have v9 : X + Z + X + Z + 300 <= LIM := by omega
   by_cases c1 : rootsE v.at_ x d = 10
   · have e : bendsS u v x d = ([], decide (dotP x x = 0 /\ 0 < dotP v.at_ v.at_ /\ dotP d d + dotP v.at_ d = 0)) := if_pos c1
     rw [e]
     by_cases c2 : (Int.sign (x.x * x.x + x.z * x.z).num) = (0 : Int)
     · have k2 : dotP x x = 0 := sgn_zero.1 c2
       by_cases c3 : (0 : Int) < (Int.sign (v.at_.x * v.at_.x + v.at_.z * v.at_.z).num)
       · have k3 : 0 < dotP v.at_ v.at_ := sgn_gt.1 c3
         refine rF KT122_ok [(48, .tup (c122_6 v x d B C X Z)), (62, tt), (68, tt), (76, tt)] (.c6 v9 v5 v7 v6 v3 v2 (.c6 v4 v4 v1 v8 v1 v0 (.c6 hroots (iT c1) v6 (iT c2) v5 (iT c3) (.a2 (om (300 + 300 + X + Z + 300 <= LIM)) (om ((X + Z + X + Z + 6) + (300 + 300 + X + Z + 6) + 200 <= LIM)))))) (V := .tup [.nil, .bool (decide ((Int.sign ((d.x * d.x + d.z * d.z) + (v.at_.x * d.x + v.at_.z * d.z)).num) = (0 : Int)))]) (Ref.tup2 Ref.nilL (Ref.bool ?_) rfl rfl rfl rfl)
         rw [decide_eq_decide, sgn_zero]; exact ⟨fun h => ⟨k2, k3, h⟩, fun h => h.2.2⟩
       · have k3 : ¬ 0 < dotP v.at_ v.at_ := fun h => c3 (sgn_gt.2 h)
         refine rF KT122_ok [(48, .tup (c122_6 v x d B C X Z)), (62, tt), (68, tt), (76, ff)] (.c6 v9 v5 v7 v6 v3 v2 (.c6 v4 v4 v1 v8 v1 v0 (.a6 hroots (iT c1) v6 (iT c2) v5 (iF c3)))) (V := .tup [.nil, .bool false]) (Ref.tup2 Ref.nilL (Ref.bool (by simp [k3])) rfl rfl rfl rfl)
     · have k2 : ¬ dotP x x = 0 := fun h => c2 (sgn_zero.2 h)
       refine rF KT122_ok [(48, .tup (c122_6 v x d B C X Z)), (62, tt), (68, ff)] (.c6 v9 v5 v7 v6 v3 v2 (.c6 v4 v4 v1 v8 v1 v0 (.a4 hroots (iT c1) v6 (iF c2)))) (V := .tup [.nil, .bool false]) (Ref.tup2 Ref.nilL (Ref.bool (by simp [k2])) rfl rfl rfl rfl)
   · refine gR KT122_ok none [2, 3, 4, 5, 6, 7, 8, 15, 85, 86, 87] [0, 1, 2, 3, 5] [(48, .tup (c122_6 v x d B C X Z)), (62, ff)] (.c6 v9 v5 v7 v6 v3 v2 (.c6 v4 v4 v1 v8 v1 v0 (.a2 hroots (iF c1)))) (t := T122) (σ := slots 171 [(2, .ptr 0 72 0 0), (3, .ptr 1 6 0 0), (4, .nil), (5, .bool false), (6, .ptr 2 6 0 0), (7, .ptr 3 6 0 0), (8, .ptr 4 3 0 0), (15, .nil), (85, (.list 9 ((rootsL v.at_ x d).map (unSd (bT B C X Z))))), (86, (.i6 (((rootsL v.at_ x d).map (unSd (bT B C X Z))).length : Int))), (87, .i6 (0 : Int))]) (h := [some ⟨267, 72, false, [(c122_0 h H1 H2 H3 H4 u us v vs x B C)], none⟩, some ⟨58, 6, false, [[.q d.x X, .q d.z Z]], none⟩, some ⟨58, 6, false, [[.q v.at_.x 300, .q v.at_.z 300]], none⟩, some ⟨58, 6, false, [[.q x.x B, .q x.z C]], none⟩, some ⟨56, 3, false, [(c122_7 d X Z)], none⟩]) ?_
     have hlen : ((rootsL v.at_ x d).map (unSd (bT B C X Z))).length = (rootsL v.at_ x d).length := lmE ..; rw [hlen]; refine Good.freezeD (b := ⟨267, 72, false, [(c122_0 h H1 H2 H3 H4 u us v vs x B C)], none⟩) 0 (by rfl) (by rfl) (.oe (.a1 (dc (0 < 1)))) .on ?_; refine Good.freezeD (b := ⟨58, 6, false, [[.q d.x X, .q d.z Z]], none⟩) 1 (by rfl) (by rfl) (.oe (.a1 (dc (0 < 1)))) .on ?_; refine Good.freezeD (b := ⟨58, 6, false, [[.q v.at_.x 300, .q v.at_.z 300]], none⟩) 2 (by rfl) (by rfl) (.oe (.a1 (dc (0 < 1)))) .on ?_; refine Good.freezeD (b := ⟨58, 6, false, [[.q x.x B, .q x.z C]], none⟩) 3 (by rfl) (by rfl) (.oe (.a1 (dc (0 < 1)))) .on ?_; refine Good.freezeD (b := ⟨56, 3, false, [(c122_7 d X Z)], none⟩) 4 (by rfl) (by rfl) (.oe (.a1 (dc (0 < 1)))) .on ?_; refine Good.tidy [] (by decide) (σ' := slots 171 [(2, .cptr (c122_0 h H1 H2 H3 H4 u us v vs x B C) 0), (3, .cptr [.q d.x X, .q d.z Z] 0), (6, .cptr [.q v.at_.x 300, .q v.at_.z 300] 0), (7, .cptr [.q x.x B, .q x.z C] 0), (8, .cptr (c122_7 d X Z) 0), (4, .nil), (5, .bool false), (15, .nil), (85, .list 9 ((rootsL v.at_ x d).map (unSd (bT B C X Z)))), (86, .i6 (((rootsL v.at_ x d).length : Nat) : Int)), (87, .i6 0)]) (h' := []) (by kernel_rfl) (by kernel_rfl) ?_
     refine Good.pk 171 [(2, .cptr (c122_0 h H1 H2 H3 H4 u us v vs x B C) 0), (3, .cptr [.q d.x X, .q d.z Z] 0), (6, .cptr [.q v.at_.x 300, .q v.at_.z 300] 0), (7, .cptr [.q x.x B, .q x.z C] 0), (8, .cptr (c122_7 d X Z) 0), (15, .nil), (85, .list 9 ((rootsL v.at_ x d).map (unSd (bT B C X Z)))), (86, .i6 (((rootsL v.at_ x d).length : Nat) : Int)), (87, .i6 0)] ?_; have e1 : out122 [] = .nil := if_pos rfl; have e2 : oh122 (bS1 B C X Z) (bS2 B C X Z) (bS3 B C X Z) (bT B C X Z) [] = [] := if_pos rfl
     by_cases c2 : Int.sign (d.x * d.x + d.z * d.z).num = 0
     · by_cases c3 : rootsL v.at_ x d = []
       · have e : bendsS u v x d = ((rootsL v.at_ x d).filterMap (bendOf u v x d), true) := by unfold bendsS; rw [if_neg c1, if_neg (fun h => h.1 c3)]
         rw [e, c3]
         have := end122 (S := S) (w0 := w0) (h := h) (u := u) (v := v) (us := us) (vs := vs) (x := x) (d := d) (H1 := H1) (H2 := H2) (H3 := H3) (H4 := H4) (B := B) (C := C) (X := X) (Z := Z) (L := []) (T := bT B C X Z) (FA := X + Z + X + Z + 6) (S1 := bS1 B C X Z) (S2 := bS2 B C X Z) (S3 := bS3 B C X Z) (f := d.x * d.x + d.z * d.z) [] 0 rfl; rw [e1, e2] at this; exact this
       · have e : bendsS u v x d = ([], false) := by unfold bendsS; rw [if_neg c1, if_pos ⟨c3, sgn_zero.1 c2⟩]
         rw [e]; have hpos : 0 < (rootsL v.at_ x d).length := List.length_pos_iff.2 c3; refine rF KT122_ok [(88, tt), (89, .cptr [.q ((rootsL v.at_ x d).getD 0 default).a (bT B C X Z), .q ((rootsL v.at_ x d).getD 0 default).b (bT B C X Z), .q ((rootsL v.at_ x d).getD 0 default).d (bT B C X Z)] 0), (93, tt)] (.a5 (iT (om ((0 : Int) < ((((rootsL v.at_ x d).length) : Nat) : Int)))) (show Ref (.cptr (((rootsL v.at_ x d).map (unSd (bT B C X Z))).getD 0 []) 0) (.cptr [.q ((rootsL v.at_ x d).getD 0 default).a (bT B C X Z), .q ((rootsL v.at_ x d).getD 0 default).b (bT B C X Z), .q ((rootsL v.at_ x d).getD 0 default).d (bT B C X Z)] 0) from Ref.cmap (f := unSd (bT B C X Z)) hpos) (nn 0) (show (0 : Int) < (((rootsL v.at_ x d).map (unSd (bT B C X Z))).length : Int) by rw [lmE]; omega) (iT c2)) (V := .tup [.nil, .bool false]) (Ref.tup2 Ref.nilL rr rfl rfl rfl rfl)
     · have e : bendsS u v x d = ((rootsL v.at_ x d).filterMap (bendOf u v x d), true) := by unfold bendsS; rw [if_neg c1, if_neg (fun h => c2 (sgn_zero.2 h.2))]
       rw [e]
       have := loop122 (S := S) (w0 := w0) (h := h) (u := u) (v := v) (us := us) (vs := vs) (x := x) (d := d) (H1 := H1) (H2 := H2) (H3 := H3) (H4 := H4) (B := B) (C := C) (X := X) (Z := Z) (L := rootsL v.at_ x d) (T := bT B C X Z) (FA := X + Z + X + Z + 6) (S1 := bS1 B C X Z) (S2 := bS2 B C X Z) (S3 := bS3 B C X Z) (f := d.x * d.x + d.z * d.z) (W := bW B C X Z) (BE := bBE B C X Z) c2 rfl (rootsS_len _ _ _) (by omega) (by omega) (by omega) (by omega) (by omega) (by omega) (by omega) (rootsL v.at_ x d).length 0 (by omega) [] rfl; rw [e1, e2] at this; exact this
 · cases h
def loB (m : MachD) (b : Int) : BodyD := m.bodies.getD b.toNat default
def upB (m : MachD) (b : Int) : BodyD := m.bodies.getD (loB m b).par.toNat default
def hipF (m : MachD) (p : PoseD) (b : Int) : FrameD := ⟨placeF (fr m p (upB m b).par.toNat) (upB m b).at_, (fr m p (upB m b).par.toNat).c, (fr m p (upB m b).par.toNat).s⟩
def legE (m : MachD) (n : Nat) (b : Int) : Int := if worldE m n b = 0 then (if b = 0 \/ (loB m b).par = 0 then 2 else 0) else worldE m n b
def unLeg (jb : Nat) (f : FrameD) (u v : BodyD) (x : PtD) (B C : Nat) : List AV := [.q f.at_.x (4 * SZ jb + 608), .q f.at_.z (4 * SZ jb + 608), .q f.c (SZ jb), .q f.s (SZ jb)] ++ unBody 300 u ++ unBody 300 v ++ [.q x.x B, .q x.z C]
def zLeg : List AV := [.q 0 0, .q 0 0, .q 0 0, .q 0 0, .str (ByteArray.mk #[]), .i6 0, .q 0 0, .q 0 0, .q 0 0, .q 0 0, .q 0 0, .q 0 0, .q 0 0, .q 0 0, .nil, .str (ByteArray.mk #[]), .i6 0, .q 0 0, .q 0 0, .q 0 0, .q 0 0, .q 0 0, .q 0 0, .q 0 0, .q 0 0, .nil, .q 0 0, .q 0 0]
def legP (jb : Nat) (m : MachD) (p : PoseD) (b : Int) (x : PtD) (B C : Nat) : AV := if legE m p.joints.length b = 0 then .agg (unLeg jb (hipF m p b) (upB m b) (loB m b) x B C) else .agg zLeg
theorem leg_parts {m : MachD} {n : Nat} {b : Int} (h : legE m n b = 0) : poseE m n = 0 /\ 0 < b /\ b < ((m.bodies.length : Nat) : Int) /\ 0 < (loB m b).par /\ (loB m b).par < b /\ 0 <= (upB m b).par /\ (upB m b).par < (loB m b).par := by
 unfold legE at h
 split at h
 · rename_i hw
   split at h
   · cases h
   · rename_i h0
     unfold worldE at hw
     split at hw
     · rename_i hp
       split at hw
       · rename_i hb
         have ht := check_tree (pose_parts hp).1; have h1 := ht b.toNat (by omega) (by omega); have h2 : 0 <= (loB m b).par /\ (loB m b).par < b := ⟨h1.1, by have := h1.2; unfold loB; omega⟩; have h3 := ht (loB m b).par.toNat (by omega) (by omega); refine ⟨hp, by omega, hb.2, by omega, h2.2, h3.1, ?_⟩
         have := h3.2; unfold upB; omega
       · cases hw
     · rename_i hp; exact absurd hw hp
 · rename_i hw; exact absurd h hw
theorem bodyRef {m : MachD} {v : BodyD} {i : Nat} (hv : v = m.bodies.getD i default) (h : i < m.bodies.length) : Ref (.cptr ((m.bodies.map (unBody 300)).getD i []) 0) (.cptr (unBody 300 v) 0) := hv ▸ Ref.cmap h
def k121 : KF
 | [.agg M, .agg [.q ax jb, .q az A2, .q tu A3, .list 3 J], .int .i64 b, .agg [.q px B, .q pz C]] => some (.tup [legP jb (reMach M) ⟨⟨ax, az⟩, tu, J.map reQ⟩ b ⟨px, pz⟩ B C, .int .i64 (legE (reMach M) J.length b)], [M = unMach 300 (reMach M), (reMach M).small, (reMach M).bodies.length <= 8, A2 <= jb, A3 <= jb, jb <= 100000, Ref (.list 3 J) (.list 3 ((J.map reQ).map (unQ jb))), J.length <= 4611686018427387904])
 | _ => none
abbrev d121_0 (m : MachD) (jb : Nat) (p : PoseD) : List AV := [.cptr [.str m.name, .list 27 (m.bodies.map (unBody 300)), .list 17 (m.springs.map (unCordy 300)), .list 17 (m.tendons.map (unCordy 300)), .list 13 (m.motors.map (unMotor 300)), .list 5 (m.feet.map (unFoot 300)), .list 12 ((List.range m.bodies.length).map fun i => unF (SZ jb) (fr m p i))] 0, .i6 (0 : Int)]
abbrev d121_1 : List AV := [.q 0 0, .q 0 0, .q 0 0, .q 0 0, .str (ByteArray.mk #[]), .i6 (0 : Int), .q 0 0, .q 0 0, .q 0 0, .q 0 0, .q 0 0, .q 0 0, .q 0 0, .q 0 0, AV.nil, .str (ByteArray.mk #[]), .i6 (0 : Int), .q 0 0, .q 0 0, .q 0 0, .q 0 0, .q 0 0, .q 0 0, .q 0 0, .q 0 0, AV.nil, .q 0 0, .q 0 0]
abbrev d121_2 (jb : Nat) (m : MachD) (p : PoseD) : AV := (.tup [(standP jb (reMach (unMach 300 m)) ⟨⟨p.at_.x, p.at_.z⟩, p.turn, (p.joints.map (unQ jb)).map reQ⟩), .i6 (poseE (reMach (unMach 300 m)) (p.joints.map (unQ jb)).length)])
abbrev d121_3 (m : MachD) (p : PoseD) (u : BodyD) (jb : Nat) : List AV := [.q ((fr m p u.par.toNat).at_.x) (2 * (SZ jb)), .q ((fr m p u.par.toNat).at_.z) (2 * (SZ jb)), .q ((fr m p u.par.toNat).c) (SZ jb), .q ((fr m p u.par.toNat).s) (SZ jb)]
theorem a121 : Ctr 121 k121 := by
 refine ctr Tryz.f121 fun _ _ _ S w0 h ho => ?_
 unfold k121 at h; split at h <;> cases h; rename_i M ax jb az A2 tu A3 J b px B pz C; obtain ⟨o1, o2, o3, o4, o5, o6, o7, o8⟩ := ho.e8; have K := ((kn.cons a119).cons a118).cons a117; generalize hm : reMach M = m at *; subst o1; clear hm; obtain ⟨p, hp⟩ : ∃ p : PoseD, p = ⟨⟨ax, az⟩, tu, J.map reQ⟩ := ⟨_, rfl⟩; have hpj : p.joints.length = J.length := by rw [hp]; simp
 rw [<- hp]
 try rw [<- hpj]
 refine Good.weak 84 [(0, .agg (unMach 300 m)), (1, .agg (unPose jb p)), (2, .i6 b), (3, .agg [.q px B, .q pz C])] (by kernel_rfl) (.r (.cons (by rw [hp]; exact Ref.pose o4 o5 o7) (.r (.r .nil)))) ?_; clear hp; have s1 : unMach 300 m = unMach 300 (reMach (unMach 300 m)) := by rw [reMach_un]
 have s2 : (reMach (unMach 300 m)).small := by rw [reMach_un]; exact o2
 have s3 : (reMach (unMach 300 m)).bodies.length <= 8 := by rw [reMach_un]; exact o3
 have s4 : Ref (.list 3 (p.joints.map (unQ jb))) (.list 3 (((p.joints.map (unQ jb)).map reQ).map (unQ jb))) := Ref.eq (by rw [reQ_un]); have s5 : (p.joints.map (unQ jb)).length <= 4611686018427387904 := by rw [lmE, hpj]; exact o8
 have s7 : SZ jb <= 153753600 := by unfold SZ; omega
 have s8 : LIM = 17592186044416 := rfl; obtain ⟨v, hv⟩ : ∃ v, v = loB m b := ⟨_, rfl⟩; obtain ⟨u, hu⟩ : ∃ u, u = upB m b := ⟨_, rfl⟩; have hu2 : u = m.bodies.getD v.par.toNat default := by rw [hu, hv]; rfl
 have hleg : poseE m p.joints.length = 0 -> (0 <= b /\ b < ((m.bodies.length : Nat) : Int)) -> ¬ b = 0 -> ¬ v.par = 0 -> (0 <= v.par /\ v.par < ((m.bodies.length : Nat) : Int) /\ v.par.toNat < m.bodies.length /\ 0 <= u.par /\ u.par < ((m.bodies.length : Nat) : Int) /\ u.par.toNat < m.bodies.length) := by
   intro a1 a2 a3 a4; have q := leg_parts (m := m) (n := p.joints.length) (b := b) (by unfold legE worldE; rw [if_pos a1, if_pos a2, if_pos rfl, if_neg (by rw [<- hv]; exact not_or.2 ⟨a3, a4⟩)]); rw [<- hv, <- hu] at q; omega
 by_cases h1 : (poseE m p.joints.length) = (0 : Int)
 · by_cases h2 : 0 <= b /\ b < (((m.bodies.map (unBody 300)).length : Nat) : Int)
   · by_cases h3 : b = (0 : Int)
     · refine rF K [(15, .tup (d121_0 m jb p)), (26, ff), (35, tt)] (.c6 s1 s2 s3 (rl jb) (rl jb) o6 (.a5 s4 s5 (show Ref (d121_2 jb m p) (.tup (d121_0 m jb p)) by first | exact s1 | exact s2 | exact s3 | exact s4 | exact s5 | exact standP_ok h1 | exact standP_no h1 | (simp only [lmE, List.length_range] at *; exact frL_ref (by omega)) | (simp only [lmE, List.length_range] at *; omega) | exact bodyRef hv (by simp only [lmE] at *; omega) | (have q := hleg h1 (by simpa using h2) h3 h4; first | exact bodyRef hu2 (by omega) | exact frL_ref (by omega) | (simp only [lmE, List.length_range] at *; omega))) (jF h2) (iT h3))) (V := .tup [.agg (d121_1), .i6 (2 : Int)]) ?_
       have w : worldE m p.joints.length b = 0 := by unfold worldE; rw [if_pos h1, if_pos (by simpa using h2)]
       have e : legE m p.joints.length b = 2 := by unfold legE; rw [if_pos w, if_pos (Or.inl h3)]
       rw [show legP jb m p b ⟨px, pz⟩ B C = .agg zLeg from if_neg (by rw [e]; first | decide | exact h1), e]; exact Ref.tup2 rr rr rfl rfl rfl rfl
     · have v2 : 0 <= b := by (simp only [lmE, List.length_range] at *; omega)
       by_cases h4 : v.par = (0 : Int)
       · refine rF K [(15, .tup (d121_0 m jb p)), (26, ff), (35, ff), (42, .cptr (unBody 300 v) 0), (32, tt)] (.c6 s1 s2 s3 (rl jb) (rl jb) o6 (.c6 s4 s5 (show Ref (d121_2 jb m p) (.tup (d121_0 m jb p)) by first | exact s1 | exact s2 | exact s3 | exact s4 | exact s5 | exact standP_ok h1 | exact standP_no h1 | (simp only [lmE, List.length_range] at *; exact frL_ref (by omega)) | (simp only [lmE, List.length_range] at *; omega) | exact bodyRef hv (by simp only [lmE] at *; omega) | (have q := hleg h1 (by simpa using h2) h3 h4; first | exact bodyRef hu2 (by omega) | exact frL_ref (by omega) | (simp only [lmE, List.length_range] at *; omega))) (jF h2) (iF h3) (show Ref (.cptr ((m.bodies.map (unBody 300)).getD b.toNat []) 0) (.cptr (unBody 300 v) 0) by first | exact s1 | exact s2 | exact s3 | exact s4 | exact s5 | exact standP_ok h1 | exact standP_no h1 | (simp only [lmE, List.length_range] at *; exact frL_ref (by omega)) | (simp only [lmE, List.length_range] at *; omega) | exact bodyRef hv (by simp only [lmE] at *; omega) | (have q := hleg h1 (by simpa using h2) h3 h4; first | exact bodyRef hu2 (by omega) | exact frL_ref (by omega) | (simp only [lmE, List.length_range] at *; omega))) (.a3 v2 (show b < ((m.bodies.map (unBody 300)).length : Int) by first | exact s1 | exact s2 | exact s3 | exact s4 | exact s5 | exact standP_ok h1 | exact standP_no h1 | (simp only [lmE, List.length_range] at *; exact frL_ref (by omega)) | (simp only [lmE, List.length_range] at *; omega) | exact bodyRef hv (by simp only [lmE] at *; omega) | (have q := hleg h1 (by simpa using h2) h3 h4; first | exact bodyRef hu2 (by omega) | exact frL_ref (by omega) | (simp only [lmE, List.length_range] at *; omega))) (iT h4)))) (V := .tup [.agg (d121_1), .i6 (2 : Int)]) ?_
         have w : worldE m p.joints.length b = 0 := by unfold worldE; rw [if_pos h1, if_pos (by simpa using h2)]
         have e : legE m p.joints.length b = 2 := by unfold legE; rw [if_pos w, if_pos (Or.inr (hv ▸ h4))]
         rw [show legP jb m p b ⟨px, pz⟩ B C = .agg zLeg from if_neg (by rw [e]; first | decide | exact h1), e]; exact Ref.tup2 rr rr rfl rfl rfl rfl
       · have v0 : Ref (.cptr ((m.bodies.map (unBody 300)).getD b.toNat []) 0) (.cptr (unBody 300 v) 0) := by first | exact s1 | exact s2 | exact s3 | exact s4 | exact s5 | exact standP_ok h1 | exact standP_no h1 | (simp only [lmE, List.length_range] at *; exact frL_ref (by omega)) | (simp only [lmE, List.length_range] at *; omega) | exact bodyRef hv (by simp only [lmE] at *; omega) | (have q := hleg h1 (by simpa using h2) h3 h4; first | exact bodyRef hu2 (by omega) | exact frL_ref (by omega) | (simp only [lmE, List.length_range] at *; omega))
         have v1 : b < ((m.bodies.map (unBody 300)).length : Int) := by first | exact s1 | exact s2 | exact s3 | exact s4 | exact s5 | exact standP_ok h1 | exact standP_no h1 | (simp only [lmE, List.length_range] at *; exact frL_ref (by omega)) | (simp only [lmE, List.length_range] at *; omega) | exact bodyRef hv (by simp only [lmE] at *; omega) | (have q := hleg h1 (by simpa using h2) h3 h4; first | exact bodyRef hu2 (by omega) | exact frL_ref (by omega) | (simp only [lmE, List.length_range] at *; omega))
         refine rF K [(15, .tup (d121_0 m jb p)), (26, ff), (35, ff), (42, .cptr (unBody 300 v) 0), (32, ff), (54, .cptr (unBody 300 v) 0), (63, .cptr (unBody 300 u) 0), (71, .cptr (d121_3 m p u jb) 0)] (.c6 s1 s2 s3 (rl jb) (rl jb) o6 (.c6 s4 s5 (show Ref (d121_2 jb m p) (.tup (d121_0 m jb p)) by first | exact s1 | exact s2 | exact s3 | exact s4 | exact s5 | exact standP_ok h1 | exact standP_no h1 | (simp only [lmE, List.length_range] at *; exact frL_ref (by omega)) | (simp only [lmE, List.length_range] at *; omega) | exact bodyRef hv (by simp only [lmE] at *; omega) | (have q := hleg h1 (by simpa using h2) h3 h4; first | exact bodyRef hu2 (by omega) | exact frL_ref (by omega) | (simp only [lmE, List.length_range] at *; omega))) (jF h2) (iF h3) v0 (.c6 v2 v1 (iF h4) v0 v2 v1 (.c6 (show Ref (.cptr ((m.bodies.map (unBody 300)).getD v.par.toNat []) 0) (.cptr (unBody 300 u) 0) by first | exact s1 | exact s2 | exact s3 | exact s4 | exact s5 | exact standP_ok h1 | exact standP_no h1 | (simp only [lmE, List.length_range] at *; exact frL_ref (by omega)) | (simp only [lmE, List.length_range] at *; omega) | exact bodyRef hv (by simp only [lmE] at *; omega) | (have q := hleg h1 (by simpa using h2) h3 h4; first | exact bodyRef hu2 (by omega) | exact frL_ref (by omega) | (simp only [lmE, List.length_range] at *; omega))) (show 0 <= v.par by (simp only [lmE, List.length_range] at *; omega)) (show v.par < ((m.bodies.map (unBody 300)).length : Int) by first | exact s1 | exact s2 | exact s3 | exact s4 | exact s5 | exact standP_ok h1 | exact standP_no h1 | (simp only [lmE, List.length_range] at *; exact frL_ref (by omega)) | (simp only [lmE, List.length_range] at *; omega) | exact bodyRef hv (by simp only [lmE] at *; omega) | (have q := hleg h1 (by simpa using h2) h3 h4; first | exact bodyRef hu2 (by omega) | exact frL_ref (by omega) | (simp only [lmE, List.length_range] at *; omega))) (show Ref (.cptr (((List.range m.bodies.length).map fun i => unF (SZ jb) (fr m p i)).getD u.par.toNat []) 0) (.cptr (d121_3 m p u jb) 0) by (simp only [lmE, List.length_range] at *; exact frL_ref (by omega))) (show 0 <= u.par by (simp only [lmE, List.length_range] at *; omega)) (show u.par < (((List.range m.bodies.length).map fun i => unF (SZ jb) (fr m p i)).length : Int) by first | exact s1 | exact s2 | exact s3 | exact s4 | exact s5 | exact standP_ok h1 | exact standP_no h1 | (simp only [lmE, List.length_range] at *; exact frL_ref (by omega)) | (simp only [lmE, List.length_range] at *; omega) | exact bodyRef hv (by simp only [lmE] at *; omega) | (have q := hleg h1 (by simpa using h2) h3 h4; first | exact bodyRef hu2 (by omega) | exact frL_ref (by omega) | (simp only [lmE, List.length_range] at *; omega))) (.a1 (show (2 * (SZ jb)) + (2 * (SZ jb)) + 2 * 300 + 2 * 300 + 2 * (SZ jb) + 2 * (SZ jb) + 400 <= LIM by (simp only [lmE, List.length_range] at *; omega))))))) (V := .tup [.agg [.q (((fr m p u.par.toNat).at_.x) + (((fr m p u.par.toNat).c) * u.at_.x - ((fr m p u.par.toNat).s) * u.at_.z)) ((2 * (SZ jb)) + (300 + 300 + (SZ jb) + (SZ jb) + 6) + 2), .q (((fr m p u.par.toNat).at_.z) + (((fr m p u.par.toNat).s) * u.at_.x + ((fr m p u.par.toNat).c) * u.at_.z)) ((2 * (SZ jb)) + (300 + 300 + (SZ jb) + (SZ jb) + 6) + 2), .q ((fr m p u.par.toNat).c) (SZ jb), .q ((fr m p u.par.toNat).s) (SZ jb), .str u.name, .i6 u.par, .q u.at_.x 300, .q u.at_.z 300, .q u.ma 300, .q u.inr 300, .q u.c.x 300, .q u.c.z 300, .q u.low 300, .q u.high 300, .list 6 (u.shape.map (unP 300)), .str v.name, .i6 v.par, .q v.at_.x 300, .q v.at_.z 300, .q v.ma 300, .q v.inr 300, .q v.c.x 300, .q v.c.z 300, .q v.low 300, .q v.high 300, .list 6 (v.shape.map (unP 300)), .q px B, .q pz C], .i6 (0 : Int)]) ?_
         have w : worldE m p.joints.length b = 0 := by unfold worldE; rw [if_pos h1, if_pos (by simpa using h2)]
         have e : legE m p.joints.length b = 0 := by unfold legE; rw [if_pos w, if_neg (by rw [<- hv]; exact not_or.2 ⟨h3, h4⟩)]
         rw [show legP jb m p b ⟨px, pz⟩ B C = .agg (unLeg jb (hipF m p b) (upB m b) (loB m b) ⟨px, pz⟩ B C) from if_pos e, e, <- hv, <- hu]; exact Ref.tup2 (Ref.agg (RefC.cons (RefC.q_eq (by rw [hu]; rfl) (by omega)) (RefC.cons (RefC.q_eq (by rw [hu]; rfl) (by omega)) (RefC.cons (RefC.q_eq (by rw [hu]; rfl) (by omega)) (RefC.cons (RefC.q_eq (by rw [hu]; rfl) (by omega)) RefC.rfl'))))) rr rfl rfl rfl rfl
   · refine rF K [(15, .tup (d121_0 m jb p)), (26, tt)] (.c6 s1 s2 s3 (rl jb) (rl jb) o6 (.a4 s4 s5 (show Ref (d121_2 jb m p) (.tup (d121_0 m jb p)) by first | exact s1 | exact s2 | exact s3 | exact s4 | exact s5 | exact standP_ok h1 | exact standP_no h1 | (simp only [lmE, List.length_range] at *; exact frL_ref (by omega)) | (simp only [lmE, List.length_range] at *; omega) | exact bodyRef hv (by simp only [lmE] at *; omega) | (have q := hleg h1 (by simpa using h2) h3 h4; first | exact bodyRef hu2 (by omega) | exact frL_ref (by omega) | (simp only [lmE, List.length_range] at *; omega))) (jT h2))) (V := .tup [.agg (d121_1), .i6 (3 : Int)]) ?_
     have w : worldE m p.joints.length b = 3 := by unfold worldE; rw [if_pos h1, if_neg (by simpa using h2)]
     have e : legE m p.joints.length b = 3 := by unfold legE; rw [if_neg (by rw [w]; decide), w]
     rw [show legP jb m p b ⟨px, pz⟩ B C = .agg zLeg from if_neg (by rw [e]; first | decide | exact h1), e]; exact Ref.tup2 rr rr rfl rfl rfl rfl
 · refine rF K [(15, .tup [.lit (.pointer none), .i6 (poseE m p.joints.length)]), (21, tt)] (.c6 s1 s2 s3 (rl jb) (rl jb) o6 (.a4 s4 s5 (show Ref (d121_2 jb m p) (.tup [.lit (.pointer none), .i6 (poseE m p.joints.length)]) by first | exact s1 | exact s2 | exact s3 | exact s4 | exact s5 | exact standP_ok h1 | exact standP_no h1 | (simp only [lmE, List.length_range] at *; exact frL_ref (by omega)) | (simp only [lmE, List.length_range] at *; omega) | exact bodyRef hv (by simp only [lmE] at *; omega) | (have q := hleg h1 (by simpa using h2) h3 h4; first | exact bodyRef hu2 (by omega) | exact frL_ref (by omega) | (simp only [lmE, List.length_range] at *; omega))) (jT h1))) (V := .tup [.agg (d121_1), .i6 (poseE m p.joints.length)]) ?_
   have w : worldE m p.joints.length b = poseE m p.joints.length := by unfold worldE; rw [if_neg h1]
   have e : legE m p.joints.length b = poseE m p.joints.length := by unfold legE; rw [if_neg (by rw [w]; exact h1), w]
   rw [show legP jb m p b ⟨px, pz⟩ B C = .agg zLeg from if_neg (by rw [e]; first | decide | exact h1), e]; exact Ref.tup2 rr rr rfl rfl rfl rfl
def k123 : KF
 | [.agg [.q c C, .q s E]] => some (.agg [.q c C, .q (-s) E], [])
 | _ => none
theorem a123 : Ctr 123 k123 := by
 refine ctr Tryz.f123 fun _ _ _ S w0 h ho => ?_
 unfold k123 at h; split at h <;> cases h; rename_i c C s E; have K := kn.cons a59; exact rR K [] .nil
def localD (h : FrameD) (to : PtD) : PtD := ⟨h.c * (to.x - h.at_.x) - (-h.s) * (to.z - h.at_.z), (-h.s) * (to.x - h.at_.x) + h.c * (to.z - h.at_.z)⟩
def bndS (m : MachD) (p : PoseD) (b : Int) (x to : PtD) : List BendD × Bool := bendsS (upB m b) (loB m b) x (localD (hipF m p b) to)
def bndsE (m : MachD) (p : PoseD) (b : Int) (x to : PtD) : Int := if legE m p.joints.length b = 0 then (if (bndS m p b x to).2 = true then 0 else 10) else legE m p.joints.length b
def bndsL (m : MachD) (p : PoseD) (b : Int) (x to : PtD) : List BendD := if bndsE m p b x to = 0 then (bndS m p b x to).1 else []
def lX (jb TX TZ : Nat) : Nat := (TX + (4 * SZ jb + 608) + 2) + (TZ + (4 * SZ jb + 608) + 2) + SZ jb + SZ jb + 6
theorem legP_ok {jb : Nat} {m : MachD} {p : PoseD} {b : Int} {px pz : Rat} {B C : Nat} {h : FrameD} {u v : BodyD} (hh : h = hipF m p b) (hu : u = upB m b) (hv : v = loB m b) (e : legE m p.joints.length b = 0) : Ref (.tup [legP jb (reMach (unMach 300 m)) ⟨⟨p.at_.x, p.at_.z⟩, p.turn, (p.joints.map (unQ jb)).map reQ⟩ b ⟨px, pz⟩ B C, .i6 (legE (reMach (unMach 300 m)) (p.joints.map (unQ jb)).length b)]) (.tup [.agg (unLeg jb h u v ⟨px, pz⟩ B C), .i6 0]) := by
 subst hh; subst hu; subst hv; exact Ref.eq (by rw [reMach_un, reQ_un, lmE, show legP jb m ⟨⟨p.at_.x, p.at_.z⟩, p.turn, p.joints⟩ b ⟨px, pz⟩ B C = .agg (unLeg jb (hipF m p b) (upB m b) (loB m b) ⟨px, pz⟩ B C) from if_pos e, e])
theorem legP_no {jb : Nat} {m : MachD} {p : PoseD} {b : Int} {px pz : Rat} {B C : Nat} (e : ¬ legE m p.joints.length b = 0) : Ref (.tup [legP jb (reMach (unMach 300 m)) ⟨⟨p.at_.x, p.at_.z⟩, p.turn, (p.joints.map (unQ jb)).map reQ⟩ b ⟨px, pz⟩ B C, .i6 (legE (reMach (unMach 300 m)) (p.joints.map (unQ jb)).length b)]) (.tup [.agg zLeg, .i6 (legE m p.joints.length b)]) :=
 Ref.eq (by rw [reMach_un, reQ_un, lmE, show legP jb m ⟨⟨p.at_.x, p.at_.z⟩, p.turn, p.joints⟩ b ⟨px, pz⟩ B C = .agg zLeg from if_neg e])
def k40 : KF
 | [.agg M, .agg [.q ax jb, .q az A2, .q tu A3, .list 3 J], .int .i64 b, .agg [.q px B, .q pz C], .agg [.q tx TX, .q tz TZ]] => some (.tup [.list 19 ((bndsL (reMach M) ⟨⟨ax, az⟩, tu, J.map reQ⟩ b ⟨px, pz⟩ ⟨tx, tz⟩).map (unBend (bS1 B C (lX jb TX TZ) (lX jb TX TZ)) (bS2 B C (lX jb TX TZ) (lX jb TX TZ)) (bS3 B C (lX jb TX TZ) (lX jb TX TZ)) (bT B C (lX jb TX TZ) (lX jb TX TZ)))), .int .i64 (bndsE (reMach M) ⟨⟨ax, az⟩, tu, J.map reQ⟩ b ⟨px, pz⟩ ⟨tx, tz⟩)], [M = unMach 300 (reMach M), (reMach M).small, (reMach M).bodies.length <= 8, A2 <= jb, A3 <= jb, jb <= 100000, Ref (.list 3 J) (.list 3 ((J.map reQ).map (unQ jb))), J.length <= 4611686018427387904, 8 * bS1 B C (lX jb TX TZ) (lX jb TX TZ) + 8 * bS2 B C (lX jb TX TZ) (lX jb TX TZ) + 4 * bS3 B C (lX jb TX TZ) (lX jb TX TZ) + 400 * bT B C (lX jb TX TZ) (lX jb TX TZ) + 20000 <= LIM, TX + TZ + 20 * SZ jb + 20000 <= LIM])
 | _ => none
abbrev d40_0 (h : FrameD) (jb : Nat) (u : BodyD) (v : BodyD) (px : Rat) (B : Nat) (pz : Rat) (C : Nat) : List AV := [.agg [.q h.at_.x (4 * SZ jb + 608), .q h.at_.z (4 * SZ jb + 608), .q h.c (SZ jb), .q h.s (SZ jb), .str u.name, .i6 u.par, .q u.at_.x 300, .q u.at_.z 300, .q u.ma 300, .q u.inr 300, .q u.c.x 300, .q u.c.z 300, .q u.low 300, .q u.high 300, .list 6 (u.shape.map (unP 300)), .str v.name, .i6 v.par, .q v.at_.x 300, .q v.at_.z 300, .q v.ma 300, .q v.inr 300, .q v.c.x 300, .q v.c.z 300, .q v.low 300, .q v.high 300, .list 6 (v.shape.map (unP 300)), .q px B, .q pz C], .i6 (0 : Int)]
abbrev d40_1 : List AV := [.q 0 0, .q 0 0, .q 0 0, .q 0 0, .str (ByteArray.mk #[]), .i6 (0 : Int), .q 0 0, .q 0 0, .q 0 0, .q 0 0, .q 0 0, .q 0 0, .q 0 0, .q 0 0, AV.nil, .str (ByteArray.mk #[]), .i6 (0 : Int), .q 0 0, .q 0 0, .q 0 0, .q 0 0, .q 0 0, .q 0 0, .q 0 0, .q 0 0, AV.nil, .q 0 0, .q 0 0]
abbrev d40_2 (y : List BendD × Bool) (B : Nat) (C : Nat) (jb : Nat) (TX : Nat) (TZ : Nat) : List AV := [.list 19 (y.1.map (unBend (bS1 B C (lX jb TX TZ) (lX jb TX TZ)) (bS2 B C (lX jb TX TZ) (lX jb TX TZ)) (bS3 B C (lX jb TX TZ) (lX jb TX TZ)) (bT B C (lX jb TX TZ) (lX jb TX TZ)))), .bool y.2]
abbrev d40_3 (jb : Nat) (m : MachD) (p : PoseD) (b : Int) (px : Rat) (pz : Rat) (B : Nat) (C : Nat) : AV := (.tup [(legP jb (reMach (unMach 300 m)) ⟨⟨p.at_.x, p.at_.z⟩, p.turn, (p.joints.map (unQ jb)).map reQ⟩ b ⟨px, pz⟩ B C), .i6 (legE (reMach (unMach 300 m)) (p.joints.map (unQ jb)).length b)])
theorem a40 : Ctr 40 k40 := by
 refine ctr Tryz.f40 fun _ _ _ S w0 h ho => ?_
 unfold k40 at h; split at h <;> cases h; rename_i M ax jb az A2 tu A3 J b px B pz C tx TX tz TZ; obtain ⟨o1, o2, o3, o4, o5, o6, o7, o8, o9, o10⟩ := ho.e10; have K := (((((kn.cons a122).cons a37).cons a123).cons a32).cons a121).cons a117; generalize hm : reMach M = m at *; subst o1; clear hm; obtain ⟨p, hp⟩ : ∃ p : PoseD, p = ⟨⟨ax, az⟩, tu, J.map reQ⟩ := ⟨_, rfl⟩; have hpj : p.joints.length = J.length := by rw [hp]; simp
 rw [<- hp]
 try rw [<- hpj]
 refine Good.weak 45 [(0, .agg (unMach 300 m)), (1, .agg (unPose jb p)), (2, .i6 b), (3, .agg [.q px B, .q pz C]), (4, .agg [.q tx TX, .q tz TZ])] (by kernel_rfl) (.r (.cons (by rw [hp]; exact Ref.pose o4 o5 o7) (.r (.r (.r .nil))))) ?_; clear hp; have s1 : unMach 300 m = unMach 300 (reMach (unMach 300 m)) := by rw [reMach_un]
 have s2 : (reMach (unMach 300 m)).small := by rw [reMach_un]; exact o2
 have s3 : (reMach (unMach 300 m)).bodies.length <= 8 := by rw [reMach_un]; exact o3
 have s4 : Ref (.list 3 (p.joints.map (unQ jb))) (.list 3 (((p.joints.map (unQ jb)).map reQ).map (unQ jb))) := Ref.eq (by rw [reQ_un]); have s5 : (p.joints.map (unQ jb)).length <= 4611686018427387904 := by rw [lmE, hpj]; exact o8
 have s7 : SZ jb <= 153753600 := by unfold SZ; omega
 have s8 : LIM = 17592186044416 := rfl; obtain ⟨h, hh⟩ : ∃ h, h = hipF m p b := ⟨_, rfl⟩; obtain ⟨u, hu⟩ : ∃ u, u = upB m b := ⟨_, rfl⟩; obtain ⟨v, hv⟩ : ∃ v, v = loB m b := ⟨_, rfl⟩; obtain ⟨y, hy⟩ : ∃ y, y = bendsS u v ⟨px, pz⟩ (localD h ⟨tx, tz⟩) := ⟨_, rfl⟩; have hS : bndS m p b ⟨px, pz⟩ ⟨tx, tz⟩ = y := by rw [hy, hh, hu, hv]; rfl
 have hX : lX jb TX TZ = (TX + (4 * SZ jb + 608) + 2) + (TZ + (4 * SZ jb + 608) + 2) + SZ jb + SZ jb + 6 := rfl
 by_cases h1 : (legE m p.joints.length b) = (0 : Int)
 · have v0 : Ref (d40_3 jb m p b px pz B C) (.tup (d40_0 h jb u v px B pz C)) := by exact legP_ok hh hu hv h1
   have v1 : Ref (.tup [.list 19 ((bendsT u.low u.high v.low v.high ⟨v.at_.x, v.at_.z⟩ ⟨px, pz⟩ ⟨((localD h ⟨tx, tz⟩).x), ((localD h ⟨tx, tz⟩).z)⟩).1.map (unBend (bS1 B C (lX jb TX TZ) (lX jb TX TZ)) (bS2 B C (lX jb TX TZ) (lX jb TX TZ)) (bS3 B C (lX jb TX TZ) (lX jb TX TZ)) (bT B C (lX jb TX TZ) (lX jb TX TZ)))), .bool ((bendsT u.low u.high v.low v.high ⟨v.at_.x, v.at_.z⟩ ⟨px, pz⟩ ⟨((localD h ⟨tx, tz⟩).x), ((localD h ⟨tx, tz⟩).z)⟩).2)]) (.tup (d40_2 y B C jb TX TZ)) := by exact Ref.eq (by rw [hy]; rfl)
   have v2 : Ref (.agg [.q (h.c * (tx - h.at_.x) - (-h.s) * (tz - h.at_.z)) ((TX + (4 * SZ jb + 608) + 2) + (TZ + (4 * SZ jb + 608) + 2) + (SZ jb) + (SZ jb) + 6), .q ((-h.s) * (tx - h.at_.x) + h.c * (tz - h.at_.z)) ((TX + (4 * SZ jb + 608) + 2) + (TZ + (4 * SZ jb + 608) + 2) + (SZ jb) + (SZ jb) + 6)]) (.agg [.q ((localD h ⟨tx, tz⟩).x) (lX jb TX TZ), .q ((localD h ⟨tx, tz⟩).z) (lX jb TX TZ)]) := Ref.agg (RefC.cons qe qe); have v3 : (TX + (4 * SZ jb + 608) + 2) + (TZ + (4 * SZ jb + 608) + 2) + (SZ jb) + (SZ jb) + 300 <= LIM := by omega
   have v4 : TX + TZ + (4 * SZ jb + 608) + (4 * SZ jb + 608) + 300 <= LIM := by omega
   rcases Bool.eq_false_or_eq_true (!y.2) with h2 | h2
   · refine rF K [(16, .tup (d40_0 h jb u v px B pz C)), (38, .agg [.q ((localD h ⟨tx, tz⟩).x) (lX jb TX TZ), .q ((localD h ⟨tx, tz⟩).z) (lX jb TX TZ)]), (27, .tup (d40_2 y B C jb TX TZ)), (43, tt)] (.c6 s1 s2 s3 (rl jb) (rl jb) o6 (.c6 s4 s5 v0 v4 v2 v3 (.a3 o9 v1 (show Ref (.bool (!y.2)) (.bool true) from Ref.bool h2)))) (V := .tup [AV.nil, .i6 (10 : Int)]) ?_
     have e : bndsE m p b ⟨px, pz⟩ ⟨tx, tz⟩ = 10 := by unfold bndsE; rw [if_pos h1, hS, if_neg (by simpa using h2)]
     rw [show bndsL m p b ⟨px, pz⟩ ⟨tx, tz⟩ = [] from if_neg (by rw [e]; decide), e]; exact Ref.tup2 Ref.nilL rr rfl rfl rfl rfl
   · refine rF K [(16, .tup (d40_0 h jb u v px B pz C)), (38, .agg [.q ((localD h ⟨tx, tz⟩).x) (lX jb TX TZ), .q ((localD h ⟨tx, tz⟩).z) (lX jb TX TZ)]), (27, .tup (d40_2 y B C jb TX TZ)), (43, ff)] (.c6 s1 s2 s3 (rl jb) (rl jb) o6 (.c6 s4 s5 v0 v4 v2 v3 (.a3 o9 v1 (show Ref (.bool (!y.2)) (.bool false) from Ref.bool h2)))) (V := .tup [.list 19 (y.1.map (unBend (bS1 B C (lX jb TX TZ) (lX jb TX TZ)) (bS2 B C (lX jb TX TZ) (lX jb TX TZ)) (bS3 B C (lX jb TX TZ) (lX jb TX TZ)) (bT B C (lX jb TX TZ) (lX jb TX TZ)))), .i6 (0 : Int)]) ?_
     have e : bndsE m p b ⟨px, pz⟩ ⟨tx, tz⟩ = 0 := by unfold bndsE; rw [if_pos h1, hS, if_pos (by simpa using h2)]
     rw [show bndsL m p b ⟨px, pz⟩ ⟨tx, tz⟩ = y.1 from by unfold bndsL; rw [if_pos e, hS], e]; exact rr
 · refine rF K [(16, .tup [.agg (d40_1), .i6 (legE m p.joints.length b)]), (25, tt)] (.c6 s1 s2 s3 (rl jb) (rl jb) o6 (.a4 s4 s5 (show Ref (d40_3 jb m p b px pz B C) (.tup [.agg (d40_1), .i6 (legE m p.joints.length b)]) by exact legP_no h1) (jT h1))) (V := .tup [AV.nil, .i6 (legE m p.joints.length b)]) ?_
   have e : bndsE m p b ⟨px, pz⟩ ⟨tx, tz⟩ = legE m p.joints.length b := by unfold bndsE; rw [if_neg h1]
   rw [show bndsL m p b ⟨px, pz⟩ ⟨tx, tz⟩ = [] from if_neg (by rw [e]; exact h1), e]; exact Ref.tup2 Ref.nilL rr rfl rfl rfl rfl
def k98 : KF
 | [.int .i64 x, .int .i64 z] => some (.agg [.q (x : Rat) 64, .q (z : Rat) 64], [(-9223372036854775808 : Int) <= x, x <= (9223372036854775807 : Int), (-9223372036854775808 : Int) <= z, z <= (9223372036854775807 : Int)])
 | _ => none
theorem a98 : Ctr 98 k98 := by
 refine ctr Tryz.f98 fun _ _ _ S w0 h ho => ?_
 unfold k98 at h; split at h <;> cases h; rename_i x z; obtain ⟨o1, o2, o3, o4⟩ := ho.e4; have K := kn.cons a25; exact rR K [] (.a4 o1 o2 o3 o4)
def KD96_ok := ((kn.cons a98).cons a59).cons a25
theorem RefC.list3 {e : Nat} {a b c a' b' c' : List AV} {cs : List AV} (h1 : RefC a a') (h2 : RefC b b') (h3 : RefC c c') : RefC (.list e [a, b, c] :: cs) (.list e [a', b', c'] :: cs) := RefC.listW rfl fun i el el' k1 k2 => by
 match i, k1, k2 with
 | 0, k1, k2 => simp at k1 k2; subst k1; subst k2; exact h1
 | 1, k1, k2 => simp at k1 k2; subst k1; subst k2; exact h2
 | 2, k1, k2 => simp at k1 k2; subst k1; subst k2; exact h3
 | i + 3, k1, k2 => simp at k1
def walkerM : MachD := ⟨ByteArray.mk #[119, 97, 108, 107, 101, 114], [⟨ByteArray.mk #[116, 114, 117, 110, 107], -1, ⟨0, 0⟩, ⟨0, 0⟩, 2, 1, 0, 0, []⟩, ⟨ByteArray.mk #[108, 101, 103], 0, ⟨0, 0⟩, ⟨0, -1⟩, 1, 1, -1, 1, []⟩, ⟨ByteArray.mk #[115, 104, 105, 110], 1, ⟨0, -2⟩, ⟨0, -1⟩, 1, 1, -1, 1, []⟩], [], [], [], []⟩
theorem bodyLe {n : ByteArray} {p : Int} {ax az ma ir cx cz lo hi : Rat} {B1 B2 B3 B4 B5 B6 B7 B8 : Nat} (h : B1 <= 300 /\ B2 <= 300 /\ B3 <= 300 /\ B4 <= 300 /\ B5 <= 300 /\ B6 <= 300 /\ B7 <= 300 /\ B8 <= 300) : RefC [.str n, .i6 p, .q ax B1, .q az B2, .q ma B3, .q ir B4, .q cx B5, .q cz B6, .q lo B7, .q hi B8, .nil] (unBody 300 ⟨n, p, ⟨ax, az⟩, ⟨cx, cz⟩, ma, ir, lo, hi, []⟩) :=
 .tl (.tl (.cons (RefC.q_le h.1) (.cons (RefC.q_le h.2.1) (.cons (RefC.q_le h.2.2.1) (.cons (RefC.q_le h.2.2.2.1) (.cons (RefC.q_le h.2.2.2.2.1) (.cons (RefC.q_le h.2.2.2.2.2.1) (.cons (RefC.q_le h.2.2.2.2.2.2.1) (.cons (RefC.q_le h.2.2.2.2.2.2.2) RefC.nilL)))))))))
def k96 : KF
 | [] => some (.agg (unMach 300 walkerM), [])
 | _ => none
theorem a96 : Ctr 96 k96 := by
 refine ctr Tryz.f96 fun _ _ _ S w0 h ho => ?_
 unfold k96 at h; split at h <;> cases h; have v0 : (-9223372036854775808 : Int) <= 0 := by decide
 have v1 : 0 <= (9223372036854775807 : Int) := by decide
 have v2 : (-9223372036854775808 : Int) <= (-1) := by decide
 have v3 : (-1) <= (9223372036854775807 : Int) := by decide
 refine gN KD96_ok [0] [] (.c6 (dc ((-9223372036854775808 : Int) <= 1)) (dc (1 <= (9223372036854775807 : Int))) (dc ((-9223372036854775808 : Int) <= 2)) (dc (2 <= (9223372036854775807 : Int))) v0 v1 (.c6 v2 v3 v0 v1 (dc ((-9223372036854775808 : Int) <= (-2))) (dc ((-2) <= (9223372036854775807 : Int))) (.a4 v0 v1 v2 v3))) (t := [.code .ret]) (σ := slots 23 [(0, .ptr 0 6 0 0)]) (h := [some ⟨41, 6, false, [[.str (ByteArray.mk #[119, 97, 108, 107, 101, 114]), .own 9 27 0 3, .nil, .nil, .nil, .nil]], none⟩, none, some ⟨56, 3, false, [[.q (1 : Rat) 64]], none⟩, none, none, none, none, none, none, some ⟨114, 27, false, [[.str (ByteArray.mk #[116, 114, 117, 110, 107]), .i6 (-1 : Int), .q 0 0, .q 0 0, .q (2 : Rat) 64, .q (1 : Rat) 64, .q 0 0, .q 0 0, .q 0 0, .q 0 0, .nil], [.str (ByteArray.mk #[108, 101, 103]), .i6 (0 : Int), .q 0 0, .q 0 0, .q (1 : Rat) 64, .q (1 : Rat) 64, .q (0 : Rat) 64, .q ((-1) : Rat) 64, .q (-(1 : Rat)) 64, .q (1 : Rat) 64, .nil], [.str (ByteArray.mk #[115, 104, 105, 110]), .i6 (1 : Int), .q (0 : Rat) 64, .q ((-2) : Rat) 64, .q (1 : Rat) 64, .q (1 : Rat) 64, .q (0 : Rat) 64, .q ((-1) : Rat) 64, .q (-(1 : Rat)) 64, .q (1 : Rat) 64, .nil]], none⟩]) ?_
 refine Good.freezeD (b := ⟨114, 27, false, [[(.str (ByteArray.mk #[116, 114, 117, 110, 107])), (.i6 (-1 : Int)), (.q 0 0), (.q 0 0), (.q (2 : Rat) 64), (.q (1 : Rat) 64), (.q 0 0), (.q 0 0), (.q 0 0), (.q 0 0), .nil], [(.str (ByteArray.mk #[108, 101, 103])), (.i6 (0 : Int)), (.q 0 0), (.q 0 0), (.q (1 : Rat) 64), (.q (1 : Rat) 64), (.q (0 : Rat) 64), (.q ((-1) : Rat) 64), (.q (-(1 : Rat)) 64), (.q (1 : Rat) 64), .nil], [(.str (ByteArray.mk #[115, 104, 105, 110])), (.i6 (1 : Int)), (.q (0 : Rat) 64), (.q ((-2) : Rat) 64), (.q (1 : Rat) 64), (.q (1 : Rat) 64), (.q (0 : Rat) 64), (.q ((-1) : Rat) 64), (.q (-(1 : Rat)) 64), (.q (1 : Rat) 64), .nil]], none⟩) 9 (by rfl) (by rfl) .on (.oe (.a1 (dc (0 + 3 <= 3)))) ?_; refine gE [(AV.agg [(AV.str (ByteArray.mk #[119, 97, 108, 107, 101, 114])), (AV.list 27 [[(AV.str (ByteArray.mk #[116, 114, 117, 110, 107])), (AV.int .i64 (-1 : Int)), (AV.q 0 0), (AV.q 0 0), (AV.q (2 : Rat) 64), (AV.q (1 : Rat) 64), (AV.q 0 0), (AV.q 0 0), (AV.q 0 0), (AV.q 0 0), AV.nil], [(AV.str (ByteArray.mk #[108, 101, 103])), (AV.int .i64 (0 : Int)), (AV.q 0 0), (AV.q 0 0), (AV.q (1 : Rat) 64), (AV.q (1 : Rat) 64), (AV.q (0 : Rat) 64), (AV.q ((-1) : Rat) 64), (AV.q (-(1 : Rat)) 64), (AV.q (1 : Rat) 64), AV.nil], [(AV.str (ByteArray.mk #[115, 104, 105, 110])), (AV.int .i64 (1 : Int)), (AV.q (0 : Rat) 64), (AV.q ((-2) : Rat) 64), (AV.q (1 : Rat) 64), (AV.q (1 : Rat) 64), (AV.q (0 : Rat) 64), (AV.q ((-1) : Rat) 64), (AV.q (-(1 : Rat)) 64), (AV.q (1 : Rat) 64), AV.nil]]), AV.nil, AV.nil, AV.nil, AV.nil])] ?_
 show Ref (AV.agg [(AV.str (ByteArray.mk #[119, 97, 108, 107, 101, 114])), (AV.list 27 [[(AV.str (ByteArray.mk #[116, 114, 117, 110, 107])), (AV.int .i64 (-1 : Int)), (AV.q 0 0), (AV.q 0 0), (AV.q (2 : Rat) 64), (AV.q (1 : Rat) 64), (AV.q 0 0), (AV.q 0 0), (AV.q 0 0), (AV.q 0 0), AV.nil], [(AV.str (ByteArray.mk #[108, 101, 103])), (AV.int .i64 (0 : Int)), (AV.q 0 0), (AV.q 0 0), (AV.q (1 : Rat) 64), (AV.q (1 : Rat) 64), (AV.q (0 : Rat) 64), (AV.q ((-1) : Rat) 64), (AV.q (-(1 : Rat)) 64), (AV.q (1 : Rat) 64), AV.nil], [(AV.str (ByteArray.mk #[115, 104, 105, 110])), (AV.int .i64 (1 : Int)), (AV.q (0 : Rat) 64), (AV.q ((-2) : Rat) 64), (AV.q (1 : Rat) 64), (AV.q (1 : Rat) 64), (AV.q (0 : Rat) 64), (AV.q ((-1) : Rat) 64), (AV.q (-(1 : Rat)) 64), (AV.q (1 : Rat) 64), AV.nil]]), AV.nil, AV.nil, AV.nil, AV.nil]) (.agg (unMach 300 walkerM)); exact Ref.agg (RefC.tl (RefC.cons (RefC.list3 (bodyLe (by decide)) (bodyLe (by decide)) (bodyLe (by decide))) (RefC.cons RefC.nilL (RefC.cons RefC.nilL (RefC.cons RefC.nilL RefC.nilL)))))
def KD97_ok := (kn.cons a98).cons a25
def k97 : KF
 | [.int .i64 x, .int .i64 z] => some (.agg [.q 0 64, .q 4 64, .q 0 0, .list 3 [[.q (x : Rat) 64], [.q (z : Rat) 64]]], [(-9223372036854775808 : Int) <= x, x <= (9223372036854775807 : Int), (-9223372036854775808 : Int) <= z, z <= (9223372036854775807 : Int)])
 | _ => none
theorem a97 : Ctr 97 k97 := by
 refine ctr Tryz.f97 fun _ _ _ S w0 h ho => ?_
 unfold k97 at h; split at h <;> cases h; rename_i x z; obtain ⟨o1, o2, o3, o4⟩ := ho.e4; refine gN KD97_ok [4] [] (.c6 (dc ((-9223372036854775808 : Int) <= 0)) (dc (0 <= (9223372036854775807 : Int))) (dc ((-9223372036854775808 : Int) <= 4)) (dc (4 <= (9223372036854775807 : Int))) o1 o2 (.a2 o3 o4)) (t := [.code .ret]) (σ := slots 12 [(4, .ptr 0 10 0 0)]) (h := [some ⟨61, 10, false, [[.q (0 : Rat) 64, .q (4 : Rat) 64, .q 0 0, .own 4 3 0 2]], none⟩, none, none, none, some ⟨56, 3, false, [[.q (x : Rat) 64], [.q (z : Rat) 64]], none⟩]) ?_
 refine Good.freezeD (b := ⟨56, 3, false, [[(.q (x : Rat) 64)], [(.q (z : Rat) 64)]], none⟩) 4 (by rfl) (by rfl) .on (.oe (.a1 (dc (0 + 2 <= 2)))) ?_; refine gE [(AV.agg [(AV.q (0 : Rat) 64), (AV.q (4 : Rat) 64), (AV.q 0 0), (AV.list 3 [[(AV.q (x : Rat) 64)], [(AV.q (z : Rat) 64)]])])] ?_; show Ref (AV.agg [(AV.q (0 : Rat) 64), (AV.q (4 : Rat) 64), (AV.q 0 0), (AV.list 3 [[(AV.q (x : Rat) 64)], [(AV.q (z : Rat) 64)]])]) (.agg [.q 0 64, .q 4 64, .q 0 0, .list 3 [[.q (x : Rat) 64], [.q (z : Rat) 64]]]); exact rr
deriving instance DecidableEq for PtD, Sd, BendD
abbrev stoodP (a b : Rat) : PoseD := ⟨⟨0, 4⟩, 0, [a, b]⟩
theorem aw30 (a : Rat) (x z : Rat) (h1 : worldE walkerM 2 2 = 0) (h2 : worldV walkerM (stoodP a 0) 2 ⟨(0 : Rat), (-2 : Rat)⟩ = ⟨x, z⟩) : Ref (.tup [.agg [.q (worldV walkerM (stoodP a 0) 2 ⟨(0 : Rat), (-2 : Rat)⟩).x (4 * SZ 64 + 64 + 64 + 8), .q (worldV walkerM (stoodP a 0) 2 ⟨(0 : Rat), (-2 : Rat)⟩).z (4 * SZ 64 + 64 + 64 + 8)], .i6 (worldE walkerM 2 2)]) (.tup [.agg [.q x 1007752, .q z 1007752], .i6 0]) := Ref.eq (by rw [h1, h2]; rfl)
theorem aw66 : Ref (.tup [.agg [.q (centreV walkerM (stoodP 0 0)).x (32 * SZ 64 + 26656), .q (centreV walkerM (stoodP 0 0)).z (32 * SZ 64 + 26656)], .i6 (poseE walkerM 2)]) (.tup [.agg [.q 0 8087584, .q 3 8087584], .i6 0]) := Ref.eq (by rw [show centreV walkerM (stoodP 0 0) = ⟨0, 3⟩ from by decide +kernel, show poseE walkerM 2 = 0 from by decide +kernel]; rfl)
theorem aw40 : Ref (.tup [.list 19 ((bndsL walkerM (stoodP 0 0) 2 ⟨(0 : Rat), (-2 : Rat)⟩ ⟨(2 : Rat), (2 : Rat)⟩).map (unBend (bS1 64 64 (lX 64 64 64) (lX 64 64 64)) (bS2 64 64 (lX 64 64 64) (lX 64 64 64)) (bS3 64 64 (lX 64 64 64) (lX 64 64 64)) (bT 64 64 (lX 64 64 64) (lX 64 64 64)))), .i6 (bndsE walkerM (stoodP 0 0) 2 ⟨(0 : Rat), (-2 : Rat)⟩ ⟨(2 : Rat), (2 : Rat)⟩)]) (.tup [.list 19 [[.q 1 770868200389, .q 0 385469396817, .q 0 141186491, .q (-1) 70593244, .q 0 70593244, .q 0 70593244, .bool true], [.q (0 : Rat) 770868200389, .q 0 385469396817, .q 0 141186491, .q 1 70593244, .q 0 70593244, .q 0 70593244, .bool true]], .i6 0]) := Ref.eq (by rw [show bndsL walkerM (stoodP 0 0) 2 ⟨(0 : Rat), (-2 : Rat)⟩ ⟨(2 : Rat), (2 : Rat)⟩ = [⟨⟨1, 0, 0⟩, ⟨-1, 0, 0⟩, true⟩, ⟨⟨0, 0, 0⟩, ⟨1, 0, 0⟩, true⟩] from by decide +kernel, show bndsE walkerM (stoodP 0 0) 2 ⟨(0 : Rat), (-2 : Rat)⟩ ⟨(2 : Rat), (2 : Rat)⟩ = 0 from by decide +kernel]; rfl)
def k22 : KF
 | [] => some (.bool true, [])
 | _ => none
abbrev d22_0 : List AV := [.str (walkerM.name), .list 27 (walkerM.bodies.map (unBody 300)), .list 17 (walkerM.springs.map (unCordy 300)), .list 17 (walkerM.tendons.map (unCordy 300)), .list 13 (walkerM.motors.map (unMotor 300)), .list 5 (walkerM.feet.map (unFoot 300))]
abbrev d22_1 := (reMach [(AV.str (walkerM.name)), (AV.list 27 (walkerM.bodies.map (unBody 300))), (AV.list 17 (walkerM.springs.map (unCordy 300))), (AV.list 17 (walkerM.tendons.map (unCordy 300))), (AV.list 13 (walkerM.motors.map (unMotor 300))), (AV.list 5 (walkerM.feet.map (unFoot 300)))])
theorem a22 : Ctr 22 k22 := by
 refine ctr Tryz.f22 fun _ _ _ S w0 h ho => ?_
 unfold k22 at h; split at h <;> cases h; have K := (((((((((kn.cons a60).cons a104).cons a25).cons a35).cons a40).cons a66).cons a30).cons a98).cons a97).cons a96; have v0 : (d22_0) = unMach 300 (reMach (d22_0)) := by rfl
 have v1 : (d22_1).bodies.length <= 8 := by decide +kernel
 have v2 : (-9223372036854775808 : Int) <= 0 := by decide
 have v3 : 0 <= (9223372036854775807 : Int) := by decide
 have v4 : Ref (.list 3 [[.q (0 : Rat) 64], [.q (0 : Rat) 64]]) (.list 3 (([[(AV.q (0 : Rat) 64)], [(AV.q (0 : Rat) 64)]].map reQ).map (unQ 64))) := rr; have v5 : [[(AV.q (0 : Rat) 64)], [(AV.q (0 : Rat) 64)]].length <= 4611686018427387904 := by decide +kernel
 have v6 : 1007752 + 300 <= LIM := by decide +kernel
 have v7 : (-9223372036854775808 : Int) <= (-2) := by decide +kernel
 have v8 : (-2) <= (9223372036854775807 : Int) := by decide +kernel
 have v9 : 64 <= 100000 := by decide
 have v10 : 64 <= 64 := by decide
 have v11 : 8 * SZ 64 + 2 * 64 + 2 * 64 + 400 <= LIM := by decide +kernel
 have v12 : 0 <= 64 := by decide
 have v13 : 0 <= (0 : Int) := by decide
 have v14 : (0 : Int) < 2 := by decide
 have v15 : (-9223372036854775808 : Int) <= 1 := by decide
 have v16 : (-9223372036854775808 : Int) <= 2 := by decide
 have v17 : (-9223372036854775808 : Int) <= 4 := by decide
 have v18 : 1 <= (9223372036854775807 : Int) := by decide
 have v19 : 2 <= (9223372036854775807 : Int) := by decide
 have v20 : 4 <= (9223372036854775807 : Int) := by decide
 have v21 : 8087584 + 300 <= LIM := by decide +kernel
 exact rR K [(10, .agg (d22_0)), (15, .tup [.agg [.q 0 1007752, .q 0 1007752], .i6 (0 : Int)]), (22, .tup [.agg [.q 4 1007752, .q 4 1007752], .i6 (0 : Int)]), (28, .tup [.agg [.q 0 8087584, .q 3 8087584], .i6 (0 : Int)]), (36, .tup [.list 19 [[.q 1 770868200389, .q 0 385469396817, .q 0 141186491, .q (-1) 70593244, .q 0 70593244, .q 0 70593244, .bool true], [.q (0 : Rat) 770868200389, .q 0 385469396817, .q 0 141186491, .q 1 70593244, .q 0 70593244, .q 0 70593244, .bool true]], .i6 (0 : Int)]), (55, tt), (59, tt), (63, tt), (83, .i6 (0 : Int)), (93, .i6 (0 : Int)), (102, .i6 (0 : Int))] (.c6 (show Ref (.agg (unMach 300 walkerM)) (.agg (d22_0)) from rr) v2 v3 v2 v3 v2 (.c6 v3 v7 v8 (show Ref (.tup [.agg [.q ((worldV (d22_1) ⟨⟨0, 4⟩, 0, [[(AV.q (0 : Rat) 64)], [(AV.q (0 : Rat) 64)]].map reQ⟩ 2 ⟨(0 : Rat), ((-2) : Rat)⟩).x) (4 * SZ 64 + 64 + 64 + 8), .q ((worldV (d22_1) ⟨⟨0, 4⟩, 0, [[(AV.q (0 : Rat) 64)], [(AV.q (0 : Rat) 64)]].map reQ⟩ 2 ⟨(0 : Rat), ((-2) : Rat)⟩).z) (4 * SZ 64 + 64 + 64 + 8)], .i6 (worldE (reMach (d22_0)) [[(AV.q (0 : Rat) 64)], [(AV.q (0 : Rat) 64)]].length 2)]) (.tup [.agg [.q 0 1007752, .q 0 1007752], .i6 (0 : Int)]) from aw30 0 0 0 (by decide +kernel) (by decide +kernel)) v0 (show (d22_1).small by (refine ⟨?_, ?_, ?_, ?_, ?_⟩ <;> decide +kernel)) (.c6 v1 v10 v12 v9 v4 v5 (.c6 v11 v15 v18 v2 v3 v2 (.c6 v3 v7 v8 (show Ref (.tup [.agg [.q ((worldV (d22_1) ⟨⟨0, 4⟩, 0, [[(AV.q (1 : Rat) 64)], [(AV.q (0 : Rat) 64)]].map reQ⟩ 2 ⟨(0 : Rat), ((-2) : Rat)⟩).x) (4 * SZ 64 + 64 + 64 + 8), .q ((worldV (d22_1) ⟨⟨0, 4⟩, 0, [[(AV.q (1 : Rat) 64)], [(AV.q (0 : Rat) 64)]].map reQ⟩ 2 ⟨(0 : Rat), ((-2) : Rat)⟩).z) (4 * SZ 64 + 64 + 64 + 8)], .i6 (worldE (reMach (d22_0)) [[(AV.q (1 : Rat) 64)], [(AV.q (0 : Rat) 64)]].length 2)]) (.tup [.agg [.q 4 1007752, .q 4 1007752], .i6 (0 : Int)]) from aw30 1 4 4 (by decide +kernel) (by decide +kernel)) v0 (show (d22_1).small by (refine ⟨?_, ?_, ?_, ?_, ?_⟩ <;> decide +kernel)) (.c6 v1 v10 v12 v9 (show Ref (.list 3 [[.q (1 : Rat) 64], [.q (0 : Rat) 64]]) (.list 3 (([[(AV.q (1 : Rat) 64)], [(AV.q (0 : Rat) 64)]].map reQ).map (unQ 64))) from rr) (show [[(AV.q (1 : Rat) 64)], [(AV.q (0 : Rat) 64)]].length <= 4611686018427387904 by decide +kernel) (.c6 v11 v2 v3 v2 v3 aw66 (.c6 v0 (show (d22_1).small by (refine ⟨?_, ?_, ?_, ?_, ?_⟩ <;> decide +kernel)) v1 v10 v12 v9 (.c6 v4 v5 v2 v3 v2 v3 (.c6 v2 v3 v7 v8 v16 v19 (.c6 v16 v19 aw40 v0 (show (d22_1).small by (refine ⟨?_, ?_, ?_, ?_, ?_⟩ <;> decide +kernel)) v1 (.c6 v10 v12 v9 v4 v5 (show 8 * bS1 64 64 (lX 64 64 64) (lX 64 64 64) + 8 * bS2 64 64 (lX 64 64 64) (lX 64 64 64) + 4 * bS3 64 64 (lX 64 64 64) (lX 64 64 64) + 400 * bT 64 64 (lX 64 64 64) (lX 64 64 64) + 20000 <= LIM by decide +kernel) (.c6 (show 64 + 64 + 20 * SZ 64 + 20000 <= LIM by decide +kernel) (show Ref (.bool (decide (0 = (0 : Rat) /\ 0 = (0 : Rat)))) (.bool true) from Ref.bool (by decide +kernel)) v6 v6 v2 v3 (.c6 v2 v3 (show Ref (.bool (decide (4 = (4 : Rat) /\ 4 = (4 : Rat)))) (.bool true) from Ref.bool (by decide +kernel)) v6 v6 v17 (.c6 v20 v17 v20 (show Ref (.bool (decide (0 = (0 : Rat) /\ 3 = (3 : Rat)))) (.bool true) from Ref.bool (by decide +kernel)) v21 v21 (.c6 v2 v3 (dc ((-9223372036854775808 : Int) <= 3)) (dc (3 <= (9223372036854775807 : Int))) v13 v14 (.c6 v13 v14 v15 v18 (show Ref (.i6 (cmpQ 1 (1 : Rat))) (.i6 (0 : Int)) from Ref.eq (congrArg _ (by decide +kernel))) (show 770868200389 + 64 + 200 <= LIM by decide +kernel) (.c6 v13 v14 (show (-9223372036854775808 : Int) <= (-1) by decide +kernel) (show (-1) <= (9223372036854775807 : Int) by decide +kernel) (show Ref (.i6 (cmpQ (-1) ((-1) : Rat))) (.i6 (0 : Int)) from Ref.eq (congrArg _ (by decide +kernel))) (show 70593244 + 64 + 200 <= LIM by decide +kernel) (.a3 (dc (0 <= (1 : Int))) (dc ((1 : Int) < 2)) (show Ref (.i6 (Int.sign (0 : Rat).num)) (.i6 (0 : Int)) from Ref.eq (congrArg _ (by decide +kernel))))))))))))))))))))))
def jacV (jb : Nat) (m : MachD) (p : PoseD) (b : Int) (x : PtD) (E : Nat) : AV := if worldE m p.joints.length b = 0 then .list 1 (jacR m (fr m p) b x E) else .nil
theorem jacGo_congr {m : MachD} (hc : checkE m = 0) {F G : Nat -> FrameD} (h : ∀ i, i < m.bodies.length -> F i = G i) (X : PtD) : ∀ (n : Nat) (b : Int) (Y Z : List Rat), b < ((m.bodies.length : Nat) : Int) -> jacGo m F X n b Y Z = jacGo m G X n b Y Z
 | 0, b, Y, Z, _ => rfl
 | n + 1, b, Y, Z, hb => by
   unfold jacGo
   split
   · rename_i h0
     have hp := par_lt hc h0 hb; rw [h b.toNat (by omega)]; exact jacGo_congr hc h X n _ _ _ (by omega)
   · rfl
theorem jacR_congr {m : MachD} (hc : checkE m = 0) {F G : Nat -> FrameD} (h : ∀ i, i < m.bodies.length -> F i = G i) {b : Int} {x : PtD} {E : Nat} (h0 : 0 <= b) (hb : b < ((m.bodies.length : Nat) : Int)) : jacR m F b x E = jacR m G b x E := by
 unfold jacR jacP; rw [h b.toNat (by omega), jacGo_congr hc h _ _ _ _ _ hb]
theorem frX {jb : Nat} {m : MachD} {p : PoseD} (hn : 0 < m.bodies.length) : reFe (((List.range m.bodies.length).map fun i => unF (SZ jb) (fr m p i)).getD 0 []) = SZ jb /\ ∀ i, i < m.bodies.length -> reF (((List.range m.bodies.length).map fun i => unF (SZ jb) (fr m p i)).getD i []) = fr m p i :=
 ⟨by rw [frL_get hn]; rfl, fun i hi => by rw [frL_get hi]; rfl⟩
theorem frXall {jb : Nat} {m : MachD} {p : PoseD} (hn : 0 < m.bodies.length) : ((List.range m.bodies.length).map fun i => unF (SZ jb) (fr m p i)) = (List.range m.bodies.length).map fun i => unF (reFe (((List.range m.bodies.length).map fun i => unF (SZ jb) (fr m p i)).getD 0 [])) (reF (((List.range m.bodies.length).map fun i => unF (SZ jb) (fr m p i)).getD i [])) :=
 List.map_congr_left fun i hi => by rw [(frX hn).1, (frX hn).2 i (List.mem_range.1 hi)]
def k31 : KF
 | [.agg M, .agg [.q ax jb, .q az A2, .q tu A3, .list 3 J], .int .i64 b, .agg [.q px B, .q pz C]] => some (.tup [jacV jb (reMach M) ⟨⟨ax, az⟩, tu, J.map reQ⟩ b ⟨px, pz⟩ (6 * SZ jb + B + C + 74), .int .i64 (worldE (reMach M) J.length b)], [M = unMach 300 (reMach M), (reMach M).small, (reMach M).bodies.length <= 8, A2 <= jb, A3 <= jb, jb <= 100000, Ref (.list 3 J) (.list 3 ((J.map reQ).map (unQ jb))), J.length <= 4611686018427387904, 12 * SZ jb + 3 * B + 3 * C + 1000 <= LIM])
 | _ => none
theorem a31 : Ctr 31 k31 := by
 refine ctr Tryz.f31 fun _ _ _ S w0 h ho => ?_
 unfold k31 at h; split at h <;> cases h; rename_i M ax jb az A2 tu A3 J b px B pz C; obtain ⟨o1, o2, o3, o4, o5, o6, o7, o8, o9⟩ := ho.e9; have K := ((kn.cons a120).cons a118).cons a117; generalize hm : reMach M = m at *; subst o1; clear hm; obtain ⟨p, hp⟩ : ∃ p : PoseD, p = ⟨⟨ax, az⟩, tu, J.map reQ⟩ := ⟨_, rfl⟩; have hpj : p.joints.length = J.length := by rw [hp]; simp
 rw [<- hp]
 try rw [<- hpj]
 refine Good.weak 31 [(0, .agg (unMach 300 m)), (1, .agg (unPose jb p)), (2, .i6 b), (3, .agg [.q px B, .q pz C])] (by kernel_rfl) (.r (.cons (by rw [hp]; exact Ref.pose o4 o5 o7) (.r (.r .nil)))) ?_; clear hp; have s1 : unMach 300 m = unMach 300 (reMach (unMach 300 m)) := by rw [reMach_un]
 have s2 : (reMach (unMach 300 m)).small := by rw [reMach_un]; exact o2
 have s3 : (reMach (unMach 300 m)).bodies.length <= 8 := by rw [reMach_un]; exact o3
 have s4 : Ref (.list 3 (p.joints.map (unQ jb))) (.list 3 (((p.joints.map (unQ jb)).map reQ).map (unQ jb))) := Ref.eq (by rw [reQ_un]); have s5 : (p.joints.map (unQ jb)).length <= 4611686018427387904 := by rw [lmE, hpj]; exact o8
 have s7 : SZ jb <= 153753600 := by unfold SZ; omega
 have s8 : LIM = 17592186044416 := rfl; have s6 : reMach (unMach 300 m) = m := reMach_un m
 by_cases h1 : (poseE m p.joints.length) = (0 : Int)
 · have v0 : Ref (.tup [(standP jb (reMach (unMach 300 m)) ⟨⟨p.at_.x, p.at_.z⟩, p.turn, (p.joints.map (unQ jb)).map reQ⟩), .i6 (poseE (reMach (unMach 300 m)) (p.joints.map (unQ jb)).length)]) (.tup [.cptr [.str m.name, .list 27 (m.bodies.map (unBody 300)), .list 17 (m.springs.map (unCordy 300)), .list 17 (m.tendons.map (unCordy 300)), .list 13 (m.motors.map (unMotor 300)), .list 5 (m.feet.map (unFoot 300)), .list 12 ((List.range m.bodies.length).map fun i => unF (SZ jb) (fr m p i))] 0, .i6 (0 : Int)]) := by exact standP_ok h1
   by_cases h2 : 0 <= b /\ b < (((m.bodies.map (unBody 300)).length : Nat) : Int)
   · refine rF K [(15, .tup [.cptr [.str m.name, .list 27 (m.bodies.map (unBody 300)), .list 17 (m.springs.map (unCordy 300)), .list 17 (m.tendons.map (unCordy 300)), .list 13 (m.motors.map (unMotor 300)), .list 5 (m.feet.map (unFoot 300)), .list 12 ((List.range m.bodies.length).map fun i => unF (SZ jb) (fr m p i))] 0, .i6 (0 : Int)]), (22, ff), (30, .list 1 (jacR m (fr m p) b ⟨px, pz⟩ (6 * SZ jb + B + C + 74)))] (.c6 v0 s1 s2 s3 (rl jb) (rl jb) (.c6 o6 s4 s5 (jF h2) (show Ref (.list 1 (jacR (reMach (unMach 300 m)) (fun i => reF (((List.range m.bodies.length).map fun i => unF (SZ jb) (fr m p i)).getD i [])) b ⟨px, pz⟩ (6 * reFe (((List.range m.bodies.length).map fun i => unF (SZ jb) (fr m p i)).getD 0 []) + B + C + 74))) (.list 1 (jacR m (fr m p) b ⟨px, pz⟩ (6 * SZ jb + B + C + 74))) by (have hc0 := (pose_parts h1).1; have hn0 : 0 < m.bodies.length := (by have := (check_parts hc0).1; omega); have h2b := h2; simp only [lmE] at h2b; exact Ref.eq (by rw [s6]; exact congrArg _ ((jacR_congr hc0 (frX hn0).2 h2b.1 h2b.2).trans (by rw [(frX hn0).1]))))) s1 (.a6 (show checkE (reMach (unMach 300 m)) = 0 by rw [s6]; exact (pose_parts h1).1) s3 (show ((List.range m.bodies.length).map fun i => unF (SZ jb) (fr m p i)) = (List.range (reMach (unMach 300 m)).bodies.length).map fun i => unF (reFe (((List.range m.bodies.length).map fun i => unF (SZ jb) (fr m p i)).getD 0 [])) (reF (((List.range m.bodies.length).map fun i => unF (SZ jb) (fr m p i)).getD i [])) by rw [s6]; exact frXall (by have := (check_parts (pose_parts h1).1).1; omega)) (show 0 <= b by (try rw [s6]); (try simp only [lmE, List.length_range] at *); omega) (show b < ((reMach (unMach 300 m)).bodies.length : Int) by (try rw [s6]); (try simp only [lmE, List.length_range] at *); omega) (show 12 * reFe (((List.range m.bodies.length).map fun i => unF (SZ jb) (fr m p i)).getD 0 []) + 3 * B + 3 * C + 1000 <= LIM by rw [(frX (by have := (check_parts (pose_parts h1).1).1; omega)).1]; omega)))) (V := .tup [.list 1 (jacR m (fr m p) b ⟨px, pz⟩ (6 * SZ jb + B + C + 74)), .i6 (0 : Int)]) ?_
     have e : worldE m p.joints.length b = 0 := by unfold worldE; rw [if_pos h1, if_pos (by simpa using h2)]
     have v : jacV jb m p b ⟨px, pz⟩ (6 * SZ jb + B + C + 74) = .list 1 (jacR m (fr m p) b ⟨px, pz⟩ (6 * SZ jb + B + C + 74)) := if_pos e; rw [v, e]; exact rr
   · refine rF K [(15, .tup [.cptr [.str m.name, .list 27 (m.bodies.map (unBody 300)), .list 17 (m.springs.map (unCordy 300)), .list 17 (m.tendons.map (unCordy 300)), .list 13 (m.motors.map (unMotor 300)), .list 5 (m.feet.map (unFoot 300)), .list 12 ((List.range m.bodies.length).map fun i => unF (SZ jb) (fr m p i))] 0, .i6 (0 : Int)]), (22, tt)] (.c6 v0 s1 s2 s3 (rl jb) (rl jb) (.a4 o6 s4 s5 (jT h2))) (V := .tup [AV.nil, .i6 (3 : Int)]) ?_
     have e : worldE m p.joints.length b = 3 := by unfold worldE; rw [if_pos h1, if_neg (by simpa using h2)]
     have v : jacV jb m p b ⟨px, pz⟩ (6 * SZ jb + B + C + 74) = .nil := if_neg (by rw [e]; decide); rw [v, e]; exact rr
 · refine rF K [(15, .tup [.lit (.pointer none), .i6 (poseE m p.joints.length)]), (18, tt)] (.c6 (show Ref (.tup [(standP jb (reMach (unMach 300 m)) ⟨⟨p.at_.x, p.at_.z⟩, p.turn, (p.joints.map (unQ jb)).map reQ⟩), .i6 (poseE (reMach (unMach 300 m)) (p.joints.map (unQ jb)).length)]) (.tup [.lit (.pointer none), .i6 (poseE m p.joints.length)]) by exact standP_no h1) s1 s2 s3 (rl jb) (rl jb) (.a4 o6 s4 s5 (jT h1))) (V := .tup [AV.nil, .i6 (poseE m p.joints.length)]) ?_
   have e : worldE m p.joints.length b = poseE m p.joints.length := by unfold worldE; rw [if_neg h1]
   have v : jacV jb m p b ⟨px, pz⟩ (6 * SZ jb + B + C + 74) = .nil := if_neg (by rw [e]; exact h1); rw [v, e]; exact rr
def k34 : KF
 | [.agg [.q ax A, .q az B], .agg [.q bx C, .q bz D]] => some (.bool (decide (ax = bx /\ az = bz)), [A + C + 200 <= LIM, B + D + 200 <= LIM])
 | _ => none
theorem a34 : Ctr 34 k34 := by
 refine ctr Tryz.f34 fun _ _ _ S w0 h ho => ?_
 unfold k34 at h; split at h <;> cases h; rename_i ax A az B bx C bz D; obtain ⟨o1, o2⟩ := ho.e2; have K := kn.cons a104
 by_cases h1 : (cmpQ ax bx) = (0 : Int)
 · exact rF K [(11, tt)] (.a3 o1 (iT h1) o2) (V := .bool (decide ((cmpQ az bz) = (0 : Int)))) (Ref.bool (by simp [cmpQ_zero] at h1 ⊢; simp [h1, cmpQ_zero]))
 · exact rF K [(11, ff)] (.a2 o1 (iF h1)) (V := .bool false) (Ref.bool (by simp [cmpQ_zero] at h1 ⊢; simp [h1]))
def KT3_ok := ((((((((((((((((((((kn.cons a38).cons a37).cons a36).cons a35).cons a34).cons a33).cons a32).cons a31).cons a30).cons a29).cons a28).cons a27).cons a26).cons a25).cons a24).cons a23).cons a22).cons a21).cons a20).cons a19).cons a18
abbrev n3_0 (p : PoseD) : AV := (.tup [.agg [.q p.at_.x 300, .q p.at_.z 300, .q p.turn 300, .list 3 (p.joints.map (unQ 300))], .agg [.rq p.at_.x p.at_.x.den 300, .rq p.at_.z p.at_.z.den 300, .rq p.turn p.turn.den 300, .list 4 (p.joints.map (unRQ 300))]])
section
variable {S0 C0 : Nat -> Prop} {w0 : World} {Post : Value -> World -> Prop}
theorem p3_0_0 (r : RigD) (sd : StandD) (hi bd : Int) (xs : SpotD) (ts : NumD) (m : MachD) (p : PoseD) (x : PtD) (t : Rat) (h1 : (!(r.small)) = true) (o : (Ref (.tup [.agg (unMach 300 (reRig [(AV.list 26 (r.limbs.map unLimb)), (AV.list 17 (r.springs.map unCord)), (AV.list 17 (r.tendons.map unCord)), (AV.list 13 (r.drives.map unDrive)), (AV.list 5 (r.soles.map unSole))]).real), .agg (unRMach 300 (reRig [(AV.list 26 (r.limbs.map unLimb)), (AV.list 17 (r.springs.map unCord)), (AV.list 17 (r.tendons.map unCord)), (AV.list 13 (r.drives.map unDrive)), (AV.list 5 (r.soles.map unSole))]).real)]) (.tup [.agg (unMach 300 m), .agg (unRMach 300 m)])) /\ ((unRig r) = unRig (reRig (unRig r))) /\ ((reRig [(AV.list 26 (r.limbs.map unLimb)), (AV.list 17 (r.springs.map unCord)), (AV.list 17 (r.tendons.map unCord)), (AV.list 13 (r.drives.map unDrive)), (AV.list 5 (r.soles.map unSole))]).ok) /\ (Ref (.tup [.agg [.q (numV sd.at_.x.n sd.at_.x.d sd.at_.x.p) 300, .q (numV sd.at_.z.n sd.at_.z.d sd.at_.z.p) 300, .q (numV sd.turn.n sd.turn.d sd.turn.p) 300, .list 3 (numsP ((sd.joints.map unNum).map reNum))], .agg [.rq (numV sd.at_.x.n sd.at_.x.d sd.at_.x.p) ((numV sd.at_.x.n sd.at_.x.d sd.at_.x.p).den) 300, .rq (numV sd.at_.z.n sd.at_.z.d sd.at_.z.p) ((numV sd.at_.z.n sd.at_.z.d sd.at_.z.p).den) 300, .rq (numV sd.turn.n sd.turn.d sd.turn.p) ((numV sd.turn.n sd.turn.d sd.turn.p).den) 300, .list 4 (numsR ((sd.joints.map unNum).map reNum))]]) (.tup [.agg [.q p.at_.x 300, .q p.at_.z 300, .q p.turn 300, .list 3 (p.joints.map (unQ 300))], .agg [.rq p.at_.x p.at_.x.den 300, .rq p.at_.z p.at_.z.den 300, .rq p.turn p.turn.den 300, .list 4 (p.joints.map (unRQ 300))]])) /\ (okN sd.at_.x.n sd.at_.x.d sd.at_.x.p) /\ (okN sd.at_.z.n sd.at_.z.d sd.at_.z.p) /\ (okN sd.turn.n sd.turn.d sd.turn.p) /\ ((sd.joints.map unNum) = ((sd.joints.map unNum).map reNum).map unNum) /\ (∀ s ∈ (sd.joints.map unNum).map reNum, s.ok) /\ ((sd.joints.map unNum).length * 128 <= 140737488355328) /\ (Ref (.bool ((reRig [(AV.list 26 (r.limbs.map unLimb)), (AV.list 17 (r.springs.map unCord)), (AV.list 17 (r.tendons.map unCord)), (AV.list 13 (r.drives.map unDrive)), (AV.list 5 (r.soles.map unSole))]).small)) (.bool (r.small))))
   (hg : Good Tryz.prog 3 S0 C0 w0 Post [.code .ret, .code (nav [1, 1, 1, 1] (bodyOf Tryz.f3))] ⟨slots 258 [(2, .i6 hi), (3, .i6 bd), (12, .bool true), (13, .ptr 0 6 0 0), (15, .ptr 1 10 0 0)], [some ⟨41, 6, false, [(unMach 300 m)], none⟩, some ⟨61, 10, false, [[.q p.at_.x 300, .q p.at_.z 300, .q p.turn 300, .list 3 (p.joints.map (unQ 300))]], none⟩]⟩) :
   Good Tryz.prog 3 S0 C0 w0 Post [.code (nav [] (bodyOf Tryz.f3))] ⟨slots 258 [(0, .agg (unRig r)), (1, .agg [.i6 sd.at_.x.n, .i6 sd.at_.x.d, .int .u8 sd.at_.x.p, .i6 sd.at_.z.n, .i6 sd.at_.z.d, .int .u8 sd.at_.z.p, .i6 sd.turn.n, .i6 sd.turn.d, .int .u8 sd.turn.p, .list 3 (sd.joints.map unNum)]), (2, .i6 hi), (3, .i6 bd), (4, .agg (unSpot xs)), (5, .agg (unNum ts))], []⟩ :=
 goR mixed TT0_ok KT3_ok 17 (some 7) [2, 3, 12, 13, 15, 17, 19, 21] [5, 8] [(38, (.tup [.agg (unMach 300 m), .agg (unRMach 300 m)])), (43, (n3_0 p)), (47, (.bool (r.small))), (49, (.bool true))] (ob := [Ref (.tup [.agg (unMach 300 (reRig [(AV.list 26 (r.limbs.map unLimb)), (AV.list 17 (r.springs.map unCord)), (AV.list 17 (r.tendons.map unCord)), (AV.list 13 (r.drives.map unDrive)), (AV.list 5 (r.soles.map unSole))]).real), .agg (unRMach 300 (reRig [(AV.list 26 (r.limbs.map unLimb)), (AV.list 17 (r.springs.map unCord)), (AV.list 17 (r.tendons.map unCord)), (AV.list 13 (r.drives.map unDrive)), (AV.list 5 (r.soles.map unSole))]).real)]) (.tup [.agg (unMach 300 m), .agg (unRMach 300 m)]), (unRig r) = unRig (reRig (unRig r)), (reRig [(AV.list 26 (r.limbs.map unLimb)), (AV.list 17 (r.springs.map unCord)), (AV.list 17 (r.tendons.map unCord)), (AV.list 13 (r.drives.map unDrive)), (AV.list 5 (r.soles.map unSole))]).ok, Ref (.tup [.agg [.q (numV sd.at_.x.n sd.at_.x.d sd.at_.x.p) 300, .q (numV sd.at_.z.n sd.at_.z.d sd.at_.z.p) 300, .q (numV sd.turn.n sd.turn.d sd.turn.p) 300, .list 3 (numsP ((sd.joints.map unNum).map reNum))], .agg [.rq (numV sd.at_.x.n sd.at_.x.d sd.at_.x.p) ((numV sd.at_.x.n sd.at_.x.d sd.at_.x.p).den) 300, .rq (numV sd.at_.z.n sd.at_.z.d sd.at_.z.p) ((numV sd.at_.z.n sd.at_.z.d sd.at_.z.p).den) 300, .rq (numV sd.turn.n sd.turn.d sd.turn.p) ((numV sd.turn.n sd.turn.d sd.turn.p).den) 300, .list 4 (numsR ((sd.joints.map unNum).map reNum))]]) (n3_0 p), okN sd.at_.x.n sd.at_.x.d sd.at_.x.p, okN sd.at_.z.n sd.at_.z.d sd.at_.z.p, okN sd.turn.n sd.turn.d sd.turn.p, (sd.joints.map unNum) = ((sd.joints.map unNum).map reNum).map unNum, ∀ s ∈ (sd.joints.map unNum).map reNum, s.ok, (sd.joints.map unNum).length * 128 <= 140737488355328, Ref (.bool ((reRig [(AV.list 26 (r.limbs.map unLimb)), (AV.list 17 (r.springs.map unCord)), (AV.list 17 (r.tendons.map unCord)), (AV.list 13 (r.drives.map unDrive)), (AV.list 5 (r.soles.map unSole))]).small)) (.bool (r.small)), (unRig r) = unRig (reRig (unRig r)), (reRig [(AV.list 26 (r.limbs.map unLimb)), (AV.list 17 (r.springs.map unCord)), (AV.list 17 (r.tendons.map unCord)), (AV.list 13 (r.drives.map unDrive)), (AV.list 5 (r.soles.map unSole))]).ok, Ref (.bool (!(r.small))) (.bool true)]) (by decide) (by kernel_rfl)
   (.cons (o.1) (.cons (o.2.1) (.cons (o.2.2.1) (.cons (o.2.2.2.1) (.cons (o.2.2.2.2.1) (.cons (o.2.2.2.2.2.1) (.cons (o.2.2.2.2.2.2.1) (.cons (o.2.2.2.2.2.2.2.1) (.cons (o.2.2.2.2.2.2.2.2.1) (.cons (o.2.2.2.2.2.2.2.2.2.1) (.cons (o.2.2.2.2.2.2.2.2.2.2) (.cons (o.2.1) (.cons (o.2.2.1) (.cons (Ref.bool h1) (AllP.nil))))))))))))))) hg
end
noncomputable abbrev h3T0 : List Item := [.code (nav [1, 1, 1, 1, 1, 1, 1, 1, 1, 1, 1, 1, 1, 1, 0] (bodyOf Tryz.f3)), .code (nav [1, 1, 1, 1, 1, 1, 1, 1, 1, 1, 1, 1, 1, 1, 1] (bodyOf Tryz.f3))]
section
variable {S : Nat -> Prop} {w0 : World}
theorem fin3 {todo : List Item} {σ : List AV} {h : List (Option ABlk)} (hσ : σ.getD 12 .any = .bool true) : GF 3 S w0 (.bool true) (.code .ret :: todo) ⟨σ, h⟩ :=
 good_ret1 TT0_ok (fn := Tryz.f3) (by kernel_rfl) 12 (by kernel_rfl) rfl (by rw [hσ]; rfl) (by rw [hσ]; exact rr)
theorem real_len (r : RigD) : r.real.bodies.length = r.limbs.length := by simp [RigD.real, bodiesOf]
theorem real_small {r : RigD} (h : r.ok) : r.real.small := by
 obtain ⟨_, _, _, _, _, h1, h2, h3, h4, h5⟩ := h; refine ⟨?_, ?_, ?_, ?_, ?_⟩ <;> simp only [RigD.real, bodiesOf, lmE, List.length_range] <;> omega
theorem rig_le8 {r : RigD} (h : r.small = true) : r.limbs.length <= 8 := by
 unfold RigD.small at h; exact (of_decide_eq_true h).1
abbrev Mx (m : MachD) : List AV := [AV.str m.name, AV.list 27 (m.bodies.map (unBody 300)), AV.list 17 (m.springs.map (unCordy 300)), AV.list 17 (m.tendons.map (unCordy 300)), AV.list 13 (m.motors.map (unMotor 300)), AV.list 5 (m.feet.map (unFoot 300))]
theorem Mx_re (m : MachD) : reMach (Mx m) = m := reMach_un m
theorem worldV_ref {m : MachD} {p : PoseD} {b : Nat} {x : PtD} {jb s s' B C : Nat} {J : List (List AV)} (hJ : J.map reQ = p.joints) (hp : poseE m p.joints.length = 0) (hb : b < m.bodies.length) (hs : 4 * SZ jb + B + C + 8 = s) :
   Ref (.tup [.agg [.q (worldV (reMach (Mx m)) ⟨⟨p.at_.x, p.at_.z⟩, p.turn, J.map reQ⟩ ((b : Nat) : Int) ⟨x.x, x.z⟩).x (4 * SZ jb + B + C + 8), .q (worldV (reMach (Mx m)) ⟨⟨p.at_.x, p.at_.z⟩, p.turn, J.map reQ⟩ ((b : Nat) : Int) ⟨x.x, x.z⟩).z (4 * SZ jb + B + C + 8)], .i6 (worldE (reMach (Mx m)) J.length ((b : Nat) : Int))])
     (.tup [.agg [.q (placeF (fr m p b) x).x s, .q (placeF (fr m p b) x).z s], .i6 0]) := by
 have hl : J.length = p.joints.length := by rw [<- hJ]; simp
 have e : worldE m p.joints.length ((b : Nat) : Int) = 0 := by unfold worldE; rw [if_pos hp, if_pos (by omega)]
 have v : worldV m p ((b : Nat) : Int) x = placeF (fr m p b) x := if_pos e; rw [Mx_re, hJ, hl, hs]; refine Ref.eq ?_; rw [e]; rw [show worldV m ⟨⟨p.at_.x, p.at_.z⟩, p.turn, p.joints⟩ ((b : Nat) : Int) ⟨x.x, x.z⟩ = placeF (fr m p b) x from v]
abbrev h3_3 (x : PtD) : ABlk := ⟨58, 6, false, [[.q x.x 300, .q x.z 300]], none⟩
abbrev h3_4 (h : Nat) (b : Nat) : List (Nat × AV) := [(2, .i6 ((h + 1 : Nat) : Int)), (3, .i6 ((b : Nat) : Int)), (13, .ptr 0 6 0 0), (15, .ptr 1 10 0 0), (17, .ptr 2 6 0 0), (19, .ptr 3 3 0 0), (21, .ptr 4 3 0 0), (25, .ptr 5 10 0 0)]
abbrev h3_9 (m : MachD) (p : PoseD) (b : Nat) (x : PtD) : List AV := [.list 1 [[.list 3 (((jacP m (fr m p) (b : Int) x).1).map (unQ 3687074))], [.list 3 (((jacP m (fr m p) (b : Int) x).2).map (unQ 3687074))]], .i6 (0 : Int)]
abbrev h3_10 (m : MachD) (p : PoseD) (h : Nat) : List AV := [.agg [.q (placeF (fr m p (h + 1)) ⟨0, 0⟩).x 2457608, .q (placeF (fr m p (h + 1)) ⟨0, 0⟩).z 2457608], .i6 (0 : Int)]
theorem tail3 (m : MachD) (p q : PoseD) (x : PtD) (t : Rat) (b h : Nat) (hm : m.small) (hp : poseE m p.joints.length = 0) (h8 : m.bodies.length <= 8) (hb : b < m.bodies.length) (hh : h + 1 < m.bodies.length)
   (hd : 1 - p.joints.getD h default * t ≠ 0) (hq : q = ⟨p.at_, p.turn, p.joints.set h ((p.joints.getD h default + t) / (1 - p.joints.getD h default * t))⟩) :
   GF 3 S w0 (.bool true) h3T0 ⟨slots 258 (h3_4 h b),
     [some ⟨41, 6, false, [Mx m], none⟩, some ⟨61, 10, false, [unPose 300 p], none⟩, some (h3_3 x), some ⟨56, 3, false, [[.q t 300]], none⟩, some ⟨56, 3, false, [[.q 1 64]], none⟩, some ⟨61, 10, false, [unPose 1272 q], none⟩]⟩ := by
 obtain ⟨hc, hn⟩ := pose_parts hp; have hj : h < p.joints.length := by omega
 have hql : q.joints.length = p.joints.length := by rw [hq]; simp
 have hpq : poseE m q.joints.length = 0 := by rw [hql]; exact hp
 have fA := hinge_frames (h := h) (t := t) hc hq hh hj hd b hb (b + 1) (by omega); obtain ⟨k1, k2⟩ := jac_col0 hc (fr m p) b x (h + 1) hh hb
 have eO : placeF (fr m p (h + 1)) ⟨0, 0⟩ = (fr m p (h + 1)).at_ := by
   unfold placeF; generalize fr m p (h + 1) = f; obtain ⟨⟨fx, fz⟩, c, s⟩ := f; simp only [PtD.mk.injEq]; constructor <;> grind
 obtain ⟨l1, l2⟩ := jacGo_len m (fr m p) (placeF (fr m p ((b : Nat) : Int).toNat) x) (((b : Nat) : Int).toNat + 1) ((b : Nat) : Int) ((List.replicate (m.bodies.length + 2) 0).set 0 1) ((List.replicate (m.bodies.length + 2) 0).set 1 1); have l1 : (jacP m (fr m p) ((b : Nat) : Int) x).1.length = m.bodies.length + 2 := by have := l1; simp only [List.length_set, List.length_replicate] at this; exact this
 have l2 : (jacP m (fr m p) ((b : Nat) : Int) x).2.length = m.bodies.length + 2 := by have := l2; simp only [List.length_set, List.length_replicate] at this; exact this
 have eJ : Ref (.tup [jacV 300 (reMach (Mx m)) ⟨⟨p.at_.x, p.at_.z⟩, p.turn, (p.joints.map (unQ 300)).map reQ⟩ ((b : Nat) : Int) ⟨x.x, x.z⟩ (6 * SZ 300 + 300 + 300 + 74), .i6 (worldE (reMach (Mx m)) (p.joints.map (unQ 300)).length ((b : Nat) : Int))])
     (.tup [.list 1 [[.list 3 ((jacP m (fr m p) ((b : Nat) : Int) x).1.map (unQ 3687074))], [.list 3 ((jacP m (fr m p) ((b : Nat) : Int) x).2.map (unQ 3687074))]], .i6 0]) := by
   have e : worldE m p.joints.length ((b : Nat) : Int) = 0 := by unfold worldE; rw [if_pos hp, if_pos (by omega)]
   rw [Mx_re, reQ_un, lmE]; refine Ref.eq ?_; rw [e, show jacV 300 m ⟨⟨p.at_.x, p.at_.z⟩, p.turn, p.joints⟩ ((b : Nat) : Int) ⟨x.x, x.z⟩ (6 * SZ 300 + 300 + 300 + 74) = .list 1 (jacR m (fr m p) ((b : Nat) : Int) x (6 * SZ 300 + 300 + 300 + 74)) from if_pos e]; rfl
 have s1 : Mx m = unMach 300 (reMach (Mx m)) := by rw [Mx_re]; rfl
 have s2 : (reMach (Mx m)).small := by rw [Mx_re]; exact hm
 have s3 : (reMach (Mx m)).bodies.length <= 8 := by rw [Mx_re]; exact h8
 have s4 : ∀ (B : Nat) (l : List Rat), Ref (.list 3 (l.map (unQ B))) (.list 3 (((l.map (unQ B)).map reQ).map (unQ B))) := fun B l => Ref.eq (by rw [reQ_un])
 have ec0 : Ref (AV.cptr (((jacP m (fr m p) ((b : Nat) : Int) x).1.map (unQ 3687074)).getD (h + 3) []) 0) (AV.cptr [(AV.q ((jacP m (fr m p) ((b : Nat) : Int) x).1.getD (h + 1 + 2) 0) 3687074)] 0) := Ref.eq (by rw [map_getD (by omega)]; rfl); have ec1 : Ref (AV.cptr (((jacP m (fr m p) ((b : Nat) : Int) x).2.map (unQ 3687074)).getD (h + 3) []) 0) (AV.cptr [(AV.q ((jacP m (fr m p) ((b : Nat) : Int) x).2.getD (h + 1 + 2) 0) 3687074)] 0) := Ref.eq (by rw [map_getD (by omega)]; rfl); have ebl : belowB (reMach (Mx m)) (((b : Nat) : Int).toNat + 1) ((b : Nat) : Int) ((h + 1 : Nat) : Int) = belowB m (b + 1) ((b : Nat) : Int) ((h + 1 : Nat) : Int) := by rw [Mx_re]; rfl
 have wA := worldV_ref (m := m) (p := p) (b := b) (x := x) (jb := 300) (s := 2458208) (B := 300) (C := 300) (J := p.joints.map (unQ 300)) (s' := 0) (reQ_un _) hp hb (by decide +kernel); have wC := worldV_ref (m := m) (p := q) (b := b) (x := x) (jb := 1272) (s := 8430176) (B := 300) (C := 300) (J := q.joints.map (unQ 1272)) (s' := 0) (reQ_un _) hpq hb (by decide +kernel); have wO := worldV_ref (m := m) (p := p) (b := h + 1) (x := ⟨0, 0⟩) (jb := 300) (s := 2457608) (B := 0) (C := 0) (J := p.joints.map (unQ 300)) (s' := 0) (reQ_un _) hp hh (by decide +kernel); have v0 : Ref (.i6 (IntKind.i64.wrap ((2 : Int) + ((h + 1 : Nat) : Int)))) (.i6 ((h + 3 : Nat) : Int)) := (Ref.wr ⟨by show (-9223372036854775808 : Int) <= _; omega, by show _ <= (9223372036854775807 : Int); omega⟩).trans (Ref.int (by omega)); have v1 : Ref (.list 3 (p.joints.map (unQ 300))) (.list 3 (((p.joints.map (unQ 300)).map reQ).map (unQ 300))) := s4 _ _; have v2 : (p.joints.map (unQ 300)).length <= 4611686018427387904 := by simp only [lmE]; omega
 have v3 : 300 <= 300 := by decide
 have v4 : Ref (.bool (!decide ((((((jacP m (fr m p) (b : Int) x).2).map (unQ 3687074)).length : Nat) : Int) = ((((jacP m (fr m p) (b : Int) x).1).map (unQ 3687074)).length : Int)))) (.bool false) := Ref.bool (by simp [l1, l2]); have v5 : Ref (.bool (!decide ((((((jacP m (fr m p) (b : Int) x).1).map (unQ 3687074)).length : Nat) : Int) = (((m.bodies.map (unBody 300)).length + 2 : Nat) : Int)))) (.bool false) := Ref.bool (by simp [l1]); have v7 : ((h + 3 : Nat) : Int) < ((((jacP m (fr m p) (b : Int) x).1).map (unQ 3687074)).length : Int) := by simp only [lmE]; omega
 have v8 : ((h + 3 : Nat) : Int) < ((((jacP m (fr m p) (b : Int) x).2).map (unQ 3687074)).length : Int) := by simp only [lmE]; omega
 have v9 : 0 <= (0 : Int) := by decide
 have v10 : 300 <= 100000 := by decide
 have v11 : (0 : Int) < 2 := by decide
 have v12 : Ref (.list 3 (q.joints.map (unQ 1272))) (.list 3 (((q.joints.map (unQ 1272)).map reQ).map (unQ 1272))) := s4 _ _; have v14 : (q.joints.map (unQ 1272)).length <= 4611686018427387904 := by simp only [lmE]; omega
 have v15 : ((b : Nat) : Int) < (((reMach (Mx m)).bodies.length : Nat) : Int) := by rw [Mx_re]; omega
 have v16 : 0 <= (1 : Int) := by decide
 have v17 : 1272 <= 1272 := by decide
 have v18 : (1 : Int) < 2 := by decide
 have v19 : 2458208 + 2458208 + 2457608 + 2457608 + 300 <= LIM := by decide +kernel
 have v20 : 12 * SZ 300 + 3 * 300 + 3 * 300 + 1000 <= LIM := by decide +kernel
 have v21 : 8 * SZ 1272 + 2 * 300 + 2 * 300 + 400 <= LIM := by decide +kernel
 have v22 : 8 * SZ 300 + 2 * 300 + 2 * 300 + 400 <= LIM := by decide +kernel
 have v23 : 8 * SZ 300 + 2 * 0 + 2 * 0 + 400 <= LIM := by decide +kernel
 have v24 : checkE (reMach (Mx m)) = 0 := by rw [Mx_re]; exact hc
 cases hbl : belowB m (b + 1) ((b : Nat) : Int) ((h + 1 : Nat) : Int) with
 | false =>
   rw [hbl] at fA k1 k2 ebl; simp only [Bool.false_eq_true, if_false] at fA k1 k2; have v25 : 2458208 + 8430176 + 200 <= LIM := by decide +kernel
   have v26 : (-9223372036854775808 : Int) <= 0 := by decide
   have v27 : 0 <= (9223372036854775807 : Int) := by decide
   have v28 : 3687074 + 300 <= LIM := by decide +kernel
   exact rR KT3_ok [(138, .tup [.agg [.q (placeF (fr m p b) x).x 2458208, .q (placeF (fr m p b) x).z 2458208], .i6 (0 : Int)]), (146, .tup [.agg [.q (placeF (fr m q b) x).x 8430176, .q (placeF (fr m q b) x).z 8430176], .i6 (0 : Int)]), (154, .tup (h3_10 m p h)), (162, .tup (h3_9 m p b x)), (192, .i6 (((m.bodies.map (unBody 300)).length + 2 : Nat) : Int)), (193, ff), (204, ff), (213, .i6 ((h + 3 : Nat) : Int)), (214, .cptr [.q ((jacP m (fr m p) (b : Int) x).1.getD (h + 1 + 2) 0) 3687074] 0), (220, .i6 ((h + 3 : Nat) : Int)), (221, .cptr [.q ((jacP m (fr m p) (b : Int) x).2.getD (h + 1 + 2) 0) 3687074] 0), (227, ff), (228, tt), (231, tt), (234, tt)] (.c6 wA s1 s2 s3 v3 v3 (.c6 v10 v1 v2 v22 wC s1 (.c6 s2 s3 v17 v17 (dc (1272 <= 100000)) v12 (.c6 v14 v21 wO s1 s2 s3 (.c6 v3 v3 v10 v1 v2 v23 (.c6 eJ s1 s2 s3 v3 v3 (.c6 v10 v1 v2 v20 v9 v11 (.c6 (wI ((((m.bodies.map (unBody 300)).length : Nat) : Int) + (2 : Int)) (((m.bodies.map (unBody 300)).length + 2 : Nat) : Int) (by simp only [lmE]; omega)) v5 v16 v18 v9 v11 (.c6 v4 v19 v9 v11 v0 ec0 (.c6 (nn (h + 3)) v7 v16 v18 v0 ec1 (.c6 (nn (h + 3)) v8 (show Ref (.bool (belowB (reMach (unMach 300 m)) ((b : Int).toNat + 1) (b : Int) ((h + 1 : Nat) : Int))) (.bool false) from Ref.bool ebl) s1 v24 v15 (.c6 (show Ref (.bool (!false)) (.bool true) from Ref.bool rfl) (show Ref (.bool (decide ((placeF (fr m p b) x).x = (placeF (fr m q b) x).x /\ (placeF (fr m p b) x).z = (placeF (fr m q b) x).z))) (.bool true) from Ref.bool (by rw [fA]; simp)) v25 v25 (show Ref (.bool (decide (((jacP m (fr m p) (b : Int) x).1.getD (h + 1 + 2) 0) = (0 : Rat) /\ ((jacP m (fr m p) (b : Int) x).2.getD (h + 1 + 2) 0) = (0 : Rat)))) (.bool true) from Ref.bool (by rw [k1, k2]; simp)) v28 (.a5 v28 v26 v27 v26 v27)))))))))))))
 | true =>
   rw [hbl] at fA k1 k2 ebl; simp only [if_true] at fA k1 k2; have v6 : 8430176 + (2457608 + ((2458208 + 2457608 + 2) + (2458208 + 2457608 + 2) + (4 * 300 + 200) + (4 * 300 + 200) + 6) + 2) + 200 <= LIM := by decide +kernel
   have v13 : 3687074 + ((2458208 + 2457608 + 2) + (2458208 + 2457608 + 2) + 0 + 64 + 6) + 200 <= LIM := by decide +kernel
   refine rR KT3_ok [(138, .tup [.agg [.q (placeF (fr m p b) x).x 2458208, .q (placeF (fr m p b) x).z 2458208], .i6 (0 : Int)]), (146, .tup [.agg [.q (placeF (fr m q b) x).x 8430176, .q (placeF (fr m q b) x).z 8430176], .i6 (0 : Int)]), (154, .tup (h3_10 m p h)), (162, .tup (h3_9 m p b x)), (192, .i6 (((m.bodies.map (unBody 300)).length + 2 : Nat) : Int)), (193, ff), (204, ff), (213, .i6 ((h + 3 : Nat) : Int)), (214, .cptr [.q ((jacP m (fr m p) (b : Int) x).1.getD (h + 1 + 2) 0) 3687074] 0), (220, .i6 ((h + 3 : Nat) : Int)), (221, .cptr [.q ((jacP m (fr m p) (b : Int) x).2.getD (h + 1 + 2) 0) 3687074] 0), (227, tt), (228, ff), (246, tt), (253, tt)] (.c6 wA s1 s2 s3 v3 v3 (.c6 v10 v1 v2 v22 wC s1 (.c6 s2 s3 v17 v17 (dc (1272 <= 100000)) v12 (.c6 v14 v21 wO s1 s2 s3 (.c6 v3 v3 v10 v1 v2 v23 (.c6 eJ s1 s2 s3 v3 v3 (.c6 v10 v1 v2 v20 v9 v11 (.c6 (wI ((((m.bodies.map (unBody 300)).length : Nat) : Int) + (2 : Int)) (((m.bodies.map (unBody 300)).length + 2 : Nat) : Int) (by simp only [lmE]; omega)) v5 v16 v18 v9 v11 (.c6 v4 v19 v9 v11 v0 ec0 (.c6 (nn (h + 3)) v7 v16 v18 v0 ec1 (.c6 (nn (h + 3)) v8 (show Ref (.bool (belowB (reMach (unMach 300 m)) ((b : Int).toNat + 1) (b : Int) ((h + 1 : Nat) : Int))) (.bool true) from Ref.bool ebl) s1 v24 v15 (.c6 (show Ref (.bool (!true)) (.bool false) from Ref.bool rfl) (show 4 * 300 + 800 <= LIM by decide +kernel) (show (2458208 + 2457608 + 2) + (2458208 + 2457608 + 2) + (4 * 300 + 200) + (4 * 300 + 200) + 300 <= LIM by decide +kernel) (show 2457608 + 2457608 + ((2458208 + 2457608 + 2) + (2458208 + 2457608 + 2) + (4 * 300 + 200) + (4 * 300 + 200) + 6) + ((2458208 + 2457608 + 2) + (2458208 + 2457608 + 2) + (4 * 300 + 200) + (4 * 300 + 200) + 6) + 300 <= LIM by decide +kernel) (show Ref (.bool (decide ((placeF (fr m q b) x).x = ((placeF (fr m p (h + 1)) ⟨0, 0⟩).x + (((1 - t * t) / (1 + t * t)) * ((placeF (fr m p b) x).x - (placeF (fr m p (h + 1)) ⟨0, 0⟩).x) - ((t + t) / (1 + t * t)) * ((placeF (fr m p b) x).z - (placeF (fr m p (h + 1)) ⟨0, 0⟩).z))) /\ (placeF (fr m q b) x).z = ((placeF (fr m p (h + 1)) ⟨0, 0⟩).z + (((t + t) / (1 + t * t)) * ((placeF (fr m p b) x).x - (placeF (fr m p (h + 1)) ⟨0, 0⟩).x) + ((1 - t * t) / (1 + t * t)) * ((placeF (fr m p b) x).z - (placeF (fr m p (h + 1)) ⟨0, 0⟩).z)))))) (.bool true) from Ref.bool ?_) v6 (.a5 v6 (show (2458208 + 2457608 + 2) + (2458208 + 2457608 + 2) + 0 + 64 + 300 <= LIM by decide +kernel) (show Ref (.bool (decide (((jacP m (fr m p) (b : Int) x).1.getD (h + 1 + 2) 0) = (0 * ((placeF (fr m p b) x).x - (placeF (fr m p (h + 1)) ⟨0, 0⟩).x) - 1 * ((placeF (fr m p b) x).z - (placeF (fr m p (h + 1)) ⟨0, 0⟩).z)) /\ ((jacP m (fr m p) (b : Int) x).2.getD (h + 1 + 2) 0) = (1 * ((placeF (fr m p b) x).x - (placeF (fr m p (h + 1)) ⟨0, 0⟩).x) + 0 * ((placeF (fr m p b) x).z - (placeF (fr m p (h + 1)) ⟨0, 0⟩).z))))) (.bool true) from Ref.bool ?_) v13 v13)))))))))))))
   · rw [fA, about_place, eO]
     exact decide_eq_true ⟨rfl, rfl⟩
   · rw [k1, k2, eO]
     refine decide_eq_true ⟨?_, ?_⟩ <;> grind
abbrev h3_8 (p : PoseD) : ABlk := ⟨61, 10, false, [[.q p.at_.x 300, .q p.at_.z 300, .q p.turn 300, .list 3 (p.joints.map (unQ 300))]], none⟩
theorem mid3 (m : MachD) (p : PoseD) (x : PtD) (t : Rat) (b h : Nat) (hm : m.small) (hp : poseE m p.joints.length = 0) (h8 : m.bodies.length <= 8) (hb : b < m.bodies.length) (hh : h + 1 < m.bodies.length) :
   GF 3 S w0 (.bool true) [.code (nav [1, 1, 1, 1, 1, 1, 1, 1, 0] (bodyOf Tryz.f3)), .code (nav [1, 1, 1, 1, 1, 1, 1, 1, 1] (bodyOf Tryz.f3))] ⟨slots 258 [(2, .i6 ((h + 1 : Nat) : Int)), (3, .i6 ((b : Nat) : Int)), (13, .ptr 0 6 0 0), (15, .ptr 1 10 0 0), (17, .ptr 2 6 0 0), (19, .ptr 3 3 0 0)],
     [some ⟨41, 6, false, [Mx m], none⟩, some ⟨61, 10, false, [unPose 300 p], none⟩, some (h3_3 x), some ⟨56, 3, false, [[.q t 300]], none⟩]⟩ := by
 obtain ⟨hc, hn⟩ := pose_parts hp; have hj : h < p.joints.length := by omega
 have w1 : Ref (AV.int .i64 (IntKind.i64.wrap (((h + 1 : Nat) : Int) - (1 : Int)))) (AV.int .i64 ((h : Nat) : Int)) := (Ref.wr ⟨by show (-9223372036854775808 : Int) <= _; omega, by show _ <= (9223372036854775807 : Int); omega⟩).trans (Ref.int (by omega)); have w2 : Ref (AV.cptr ((p.joints.map (unQ 300)).getD h []) 0) (AV.cptr [(AV.q (p.joints.getD h default) 300)] 0) := Ref.eq (by rw [map_getD hj]; rfl); obtain ⟨nx, hnx⟩ : ∃ nx, nx = (p.joints.getD h default + t) / (1 - p.joints.getD h default * t) := ⟨_, rfl⟩; have v0 : 300 + 300 + 200 <= LIM := by decide +kernel
 have v1 : (h : Int) < ((p.joints.map (unQ 300)).length : Int) := by simp only [lmE]; omega
 have v2 : (300 + 300 + 2) + (64 + (300 + 300 + 2) + 2) + 200 <= LIM := by decide +kernel
 have v3 : 64 + (300 + 300 + 2) + 200 <= LIM := by decide +kernel
 have v4 : (-9223372036854775808 : Int) <= 1 := by decide
 have v5 : 1 <= (9223372036854775807 : Int) := by decide
 by_cases hz : (1 - p.joints.getD h default * t) = (0 : Rat)
 · exact rR KT3_ok [(100, .i6 (h : Int)), (101, .cptr [.q (p.joints.getD h default) 300] 0), (112, .tup [.agg [.q nx 1272], .i6 (9 : Int)])] (.c6 v4 v5 w1 w2 (nn h) v1 (.a5 v0 v0 v3 (show Ref (.tup [.agg [.q (((p.joints.getD h default) + t) / ((1 : Rat) - ((p.joints.getD h default) * t))) ((300 + 300 + 2) + (64 + (300 + 300 + 2) + 2) + 2)], .i6 (if ((1 : Rat) - ((p.joints.getD h default) * t)) = 0 then 9 else 0)]) (.tup [.agg [.q nx 1272], .i6 (9 : Int)]) from Ref.eq (by rw [if_pos hz, hnx])) v2))
 · refine gR KT3_ok (some 16) [2, 3, 12, 13, 15, 17, 19, 21, 25] [0, 1, 2, 3, 5, 13, 14] [(100, .i6 (h : Int)), (101, .cptr [.q (p.joints.getD h default) 300] 0), (112, .tup [.agg [.q nx 1272], .i6 (0 : Int)]), (130, .i6 (h : Int))] (.c6 v4 v5 w1 w2 (nn h) v1 (.c6 v0 v0 v3 (show Ref (.tup [.agg [.q (((p.joints.getD h default) + t) / ((1 : Rat) - ((p.joints.getD h default) * t))) ((300 + 300 + 2) + (64 + (300 + 300 + 2) + 2) + 2)], .i6 (if ((1 : Rat) - ((p.joints.getD h default) * t)) = 0 then 9 else 0)]) (.tup [.agg [.q nx 1272], .i6 (0 : Int)]) from Ref.eq (by rw [if_neg hz, hnx])) v2 (rfl : 0 = 0) (.a6 (show (0 + ((p.joints.map (unQ 300)).length)) * 56 <= 140737488355328 by simp only [lmE]; omega) (show 0 + ((p.joints.map (unQ 300)).length) <= big by simp only [lmE]; unfold big; omega) w1 (nn h) (show (h : Int) < ((0 + ((p.joints.map (unQ 300)).length) : Nat) : Int) by simp only [lmE]; omega) (show 0 + h < ([] ++ (p.joints.map (unQ 300))).length by simp only [List.nil_append, lmE]; omega)))) (t := h3T0) (σ := slots 258 [(2, .i6 ((h + 1 : Nat) : Int)), (3, .i6 (b : Int)), (13, .ptr 0 6 0 0), (15, .ptr 1 10 0 0), (17, .ptr 2 6 0 0), (19, .ptr 3 3 0 0), (21, .ptr 4 3 0 0), (25, .ptr 6 10 0 0)]) (h := [some ⟨41, 6, false, [(unMach 300 m)], none⟩, some (h3_8 p), some (h3_3 x), some ⟨56, 3, false, [[.q t 300]], none⟩, some ⟨56, 3, false, [[.q (1 : Rat) 64]], none⟩, some ⟨56, 3, true, (([] ++ (p.joints.map (unQ 300))).set (0 + h) [.q nx 1272]), none⟩, some ⟨61, 10, false, [[.q p.at_.x 300, .q p.at_.z 300, .q p.turn 300, .own 5 3 0 (0 + ((p.joints.map (unQ 300)).length))]], none⟩]) ?_
   obtain ⟨q, hq⟩ : ∃ q : PoseD, q = ⟨p.at_, p.turn, p.joints.set h nx⟩ := ⟨_, rfl⟩; have hql : q.joints.length = p.joints.length := by rw [hq]; simp
   refine Good.weakBL 5 (els := q.joints.map (unQ 1272)) rfl (by simp [hql]) (fun i el el' g1 g2 => ?_) ?_
   · rw [hq] at g2
     dsimp only at g1 g2
     rw [List.getElem?_map, List.getElem?_set] at g2; rw [List.nil_append, Nat.zero_add, List.getElem?_set] at g1; simp only [lmE] at g1
     split at g1
     · rename_i e
       rw [if_pos e] at g2; rw [if_pos hj] at g2; injection g1 with g1; subst g1; simp at g2; subst g2; exact RefC.rfl'
     · rename_i e
       rw [if_neg e] at g2; rw [List.getElem?_map] at g1; cases hx : p.joints[i]? with
       | none => rw [hx] at g1; cases g1
       | some u =>
         rw [hx] at g1 g2; simp at g1 g2; subst g1; subst g2; exact RefC.q_le (by decide)
   refine Good.weakB (el' := [.q q.at_.x 1272, .q q.at_.z 1272, .q q.turn 1272, .own 5 3 0 (0 + (p.joints.map (unQ 300)).length)]) 6 0 (by rfl) (by rfl) (by rw [hq]; exact RefC.cons (RefC.q_le (by decide)) (RefC.cons (RefC.q_le (by decide)) (RefC.cons (RefC.q_le (by decide)) RefC.rfl'))) ?_; refine Good.freezeD (b := ⟨56, 3, true, q.joints.map (unQ 1272), none⟩) 5 (by rfl) (by rfl) .on (AllP.of_eq (l' := [0 + (0 + (p.joints.map (unQ 300)).length) <= (q.joints.map (unQ 1272)).length]) (by kernel_rfl) (.cons (by simp [hql]) .nil)) ?_
   refine Good.tidy [0, 1, 2, 3, 4, 6] (by decide) (σ' := slots 258 (h3_4 h b))
     (h' := [some ⟨41, 6, false, [Mx m], none⟩, some ⟨61, 10, false, [unPose 300 p], none⟩, some (h3_3 x), some ⟨56, 3, false, [[.q t 300]], none⟩, some ⟨56, 3, false, [[.q 1 64]], none⟩, some ⟨61, 10, false, [[.q q.at_.x 1272, .q q.at_.z 1272, .q q.turn 1272, .list 3 (((q.joints.map (unQ 1272)).drop 0).take (0 + (p.joints.map (unQ 300)).length))]], none⟩]) (by kernel_rfl) (by kernel_rfl) ?_
   rw [List.drop_zero, tkE (by simp [hql])]; exact tail3 m p q x t b h hm hp h8 hb hh hz (by rw [hq, hnx])
theorem u64_nat (x : Int) : IntKind.u64.wrap x = ((IntKind.u64.wrap x).toNat : Int) := by
 have : 0 <= IntKind.u64.wrap x := by
   show 0 <= (let m := x % (2 ^ 64 : Int); if (false && decide (m >= (2 ^ 63 : Int))) then m - (2 ^ 64 : Int) else m); simp only [Bool.false_and, Bool.false_eq_true, if_false]; exact Int.emod_nonneg _ (by decide)
 omega
end
abbrev h3_0 (sd : StandD) : List AV := [.agg [.q sd.real.at_.x 300, .q sd.real.at_.z 300, .q sd.real.turn 300, .list 3 (sd.real.joints.map (unQ 300))], .agg [.rq sd.real.at_.x sd.real.at_.x.den 300, .rq sd.real.at_.z sd.real.at_.z.den 300, .rq sd.real.turn sd.real.turn.den 300, .list 4 (sd.real.joints.map (unRQ 300))]]
abbrev h3_1 (sd : StandD) : ABlk := ⟨61, 10, false, [[.q sd.real.at_.x 300, .q sd.real.at_.z 300, .q sd.real.turn 300, .list 3 (sd.real.joints.map (unQ 300))]], none⟩
abbrev h3_5 (r : RigD) : List AV := [.agg (unMach 300 r.real), .agg (unRMach 300 r.real)]
abbrev h3_6 (r : RigD) : ABlk := ⟨41, 6, false, [(unMach 300 r.real)], none⟩
theorem hinges_true (r : RigD) (sd : StandD) (hi bd : Int) (xs : SpotD) (ts : NumD) (hr : r.ok) (hs : sd.ok) (hx : xs.ok) (ht : ts.ok) :
   AFun Tryz.prog 3 [.agg (unRig r), .agg (unStand sd), .i6 hi, .i6 bd, .agg (unSpot xs), .agg (unNum ts)] (.bool true) := by
 refine af Tryz.f3 fun S w0 => ?_
 have a0 : Ref (AV.tup [(AV.agg (unMach 300 (reRig (unRig r)).real)), (AV.agg (unRMach 300 (reRig (unRig r)).real))]) (AV.tup [AV.agg (unMach 300 r.real), AV.agg (unRMach 300 r.real)]) := Ref.eq (by rw [reRig_un]); have a1 : unRig r = unRig (reRig (unRig r)) := by rw [reRig_un]
 have a2 : (reRig (unRig r)).ok := by rw [reRig_un]; exact hr
 have a3 : Ref (AV.tup [(AV.agg [(AV.q sd.at_.x.val 300), (AV.q sd.at_.z.val 300), (AV.q sd.turn.val 300), (AV.list 3 (numsP ((sd.joints.map unNum).map reNum)))]), (AV.agg [(AV.rq sd.at_.x.val sd.at_.x.val.den 300), (AV.rq sd.at_.z.val sd.at_.z.val.den 300), (AV.rq sd.turn.val sd.turn.val.den 300), (AV.list 4 (numsR ((sd.joints.map unNum).map reNum)))])]) (AV.tup [AV.agg (unPose 300 sd.real), AV.agg (unRPose 300 sd.real)]) := Ref.eq (by rw [reNum_un]; rfl); obtain ⟨s1, s2, s3, s4⟩ := hs; have a4 : sd.joints.map unNum = ((sd.joints.map unNum).map reNum).map unNum := by rw [reNum_un]
 have a5 : ∀ s ∈ (sd.joints.map unNum).map reNum, s.ok := by rw [reNum_un]; exact s3
 have a6 : (sd.joints.map unNum).length * 128 <= 140737488355328 := by rw [lmE]; exact s4
 have a7 : Ref (AV.bool (reRig (unRig r)).small) (AV.bool r.small) := Ref.eq (by rw [reRig_un]); have hms := real_small hr; have hjl : sd.real.joints.length = sd.joints.length := by simp [StandD.real]
 have a8 : Ref (AV.int .i64 (poseE (reMach (Mx r.real)) (sd.real.joints.map (unQ 300)).length)) (AV.int .i64 (poseE r.real sd.real.joints.length)) := Ref.eq (by rw [Mx_re, lmE]); have a9 : Mx r.real = unMach 300 (reMach (Mx r.real)) := by rw [Mx_re]; rfl
 have a10 : (reMach (Mx r.real)).small := by rw [Mx_re]; exact hms
 have a11 : (sd.real.joints.map (unQ 300)).length <= 4611686018427387904 := by rw [lmE, hjl]; omega
 have a12 : (r.real.bodies.map (unBody 300)).length <= 4611686018427387904 := by rw [lmE]; exact hms.1
 cases h1 : r.small with
 | false => exact p3_0_0 r sd hi bd xs ts r.real sd.real xs.pt ts.val (by rw [h1]; rfl) ⟨a0, a1, a2, a3, s1.1, s1.2, s2, a4, a5, a6, a7⟩ (fin3 rfl)
 | true =>
   have h1' : (!(r.small)) = false := by rw [h1]; rfl
   have v0 : Ref (.bool (!(r.small))) (.bool false) := Ref.bool h1'
   by_cases h2 : (9 : Int) < (((sd.joints.map unNum).length : Nat) : Int)
   · exact rR KT3_ok [(38, .tup (h3_5 r)), (43, .tup (h3_0 sd)), (47, .bool (r.small)), (49, ff), (55, tt)] (.c6 a0 a1 a2 a3 s1.1 s1.2 (.c6 s2 a4 a5 a6 a7 a1 (.a3 a2 v0 (iT h2))))
   · by_cases h3 : (poseE r.real sd.real.joints.length) = (0 : Int)
     · by_cases h4 : (((r.real.bodies.map (unBody 300)).length : Nat) : Int) < (2 : Int)
       · exact rR KT3_ok [(38, .tup (h3_5 r)), (43, .tup (h3_0 sd)), (47, .bool (r.small)), (49, ff), (55, ff), (58, .i6 (poseE r.real sd.real.joints.length)), (61, ff), (66, tt)] (.c6 a0 a1 a2 a3 s1.1 s1.2 (.c6 s2 a4 a5 a6 a7 a1 (.c6 a2 v0 (iF h2) a8 a9 a10 (.a4 a11 a12 (jF h3) (iT h4)))))
       · refine gR KT3_ok (some 7) [2, 3, 12, 13, 15, 17, 19, 21] [5, 8, 13, 16] [(38, .tup (h3_5 r)), (43, .tup (h3_0 sd)), (47, .bool (r.small)), (49, ff), (55, ff), (58, .i6 (poseE r.real sd.real.joints.length)), (61, ff), (66, ff), (70, .tup [.agg [.q xs.pt.x 300, .q xs.pt.z 300], .agg (unRP 300 xs.pt)]), (75, .tup [.agg [.q ts.val 300], .agg [.rq ts.val ts.val.den 300]])] (.c6 a0 a1 a2 a3 s1.1 s1.2 (.c6 s2 a4 a5 a6 a7 a1 (.c6 a2 v0 (iF h2) a8 a9 a10 (.c6 a11 a12 (jF h3) (iF h4) (show Ref (.tup [.agg [.q (numV xs.x.n xs.x.d xs.x.p) 300, .q (numV xs.z.n xs.z.d xs.z.p) 300], .agg [.rq (numV xs.x.n xs.x.d xs.x.p) ((numV xs.x.n xs.x.d xs.x.p).den) 300, .rq (numV xs.z.n xs.z.d xs.z.p) ((numV xs.z.n xs.z.d xs.z.p).den) 300]]) (.tup [.agg [.q xs.pt.x 300, .q xs.pt.z 300], .agg (unRP 300 xs.pt)]) from rr) hx.1 (.a3 hx.2 (show Ref (.tup [.agg [.q (numV ts.n ts.d ts.p) 300], .agg [.rq (numV ts.n ts.d ts.p) ((numV ts.n ts.d ts.p).den) 300]]) (.tup [.agg [.q ts.val 300], .agg [.rq ts.val ts.val.den 300]]) from rr) ht))))) (t := [.code (nav [1, 1, 1, 1, 1, 1, 0] (bodyOf Tryz.f3)), .code (nav [1, 1, 1, 1, 1, 1, 1] (bodyOf Tryz.f3))]) (σ := slots 258 [(2, .i6 hi), (3, .i6 bd), (12, .bool false), (13, .ptr 0 6 0 0), (15, .ptr 1 10 0 0), (17, .ptr 2 6 0 0), (19, .ptr 3 3 0 0)]) (h := [some (h3_6 r), some (h3_1 sd), some ⟨58, 6, false, [[.q xs.pt.x 300, .q xs.pt.z 300]], none⟩, some ⟨56, 3, false, [[.q ts.val 300]], none⟩]) ?_
         have h8 : r.real.bodies.length <= 8 := by rw [real_len]; exact rig_le8 h1
         simp only [lmE] at h4; have n2 : 2 <= r.real.bodies.length := by omega
         generalize hn : r.real.bodies.length = n at *; obtain ⟨bw, hbw⟩ : ∃ bw, bw = (IntKind.u64.wrap bd).toNat := ⟨_, rfl⟩; obtain ⟨hw, hhw⟩ : ∃ hw, hw = (IntKind.u64.wrap hi).toNat := ⟨_, rfl⟩; have lb : bw % n < n := Nat.mod_lt _ (by omega); have lh : hw % (n - 1) < n - 1 := Nat.mod_lt _ (by omega); have lI : ∀ y : Int, -9223372036854775808 <= y -> y <= 9223372036854775807 -> IntKind.i64.wrap y = y := fun y g1 g2 => wrap_id ⟨g1, g2⟩
         have eb : IntKind.i64.wrap ((bw % n : Nat) : Int) = ((bw % n : Nat) : Int) := lI _ (by omega) (by omega)
         have eh : IntKind.i64.wrap (((hw : Nat) : Int).tmod (((n : Nat) : Int) - (1 : Int))) = ((hw % (n - 1) : Nat) : Int) := by
           have e1 : ((n : Nat) : Int) - (1 : Int) = ((n - 1 : Nat) : Int) := by omega
           rw [e1, <- Int.ofNat_tmod]; exact lI _ (by omega) (by omega)
         exact gS KT3_ok (some 9) [2, 3, 13, 15, 17, 19] [(79, .int .u64 (bw : Int)), (83, .int .u64 ((r.real.bodies.map (unBody 300)).length : Int)), (84, .int .u64 ((bw % ((r.real.bodies.map (unBody 300)).length) : Nat) : Int)), (85, .i6 (((bw % n) : Nat) : Int)), (87, .int .u64 (hw : Int)), (91, .i6 ((((r.real.bodies.map (unBody 300)).length : Nat) : Int) - (1 : Int))), (92, .int .u64 ((((r.real.bodies.map (unBody 300)).length : Nat) : Int) - (1 : Int))), (94, .i6 (((hw % (n - 1)) : Nat) : Int)), (95, .i6 (((hw % (n - 1)) + 1 : Nat) : Int))] (.c6 (show Ref (.int .u64 (IntKind.u64.wrap bd)) (.int .u64 (bw : Int)) from Ref.int (by rw [hbw]; exact u64_nat _)) (wU ((r.real.bodies.map (unBody 300)).length : Int) ((r.real.bodies.map (unBody 300)).length : Int) (by simp only [lmE, hn]; omega)) (show Ref (.int .u64 ((bw : Int).tmod ((r.real.bodies.map (unBody 300)).length : Int))) (.int .u64 ((bw % ((r.real.bodies.map (unBody 300)).length) : Nat) : Int)) from Ref.rem (a := bw) (b := (r.real.bodies.map (unBody 300)).length) rfl rfl) (show ((r.real.bodies.map (unBody 300)).length : Int) ≠ 0 by simp only [lmE, hn]; omega) (show Ref (.i6 (IntKind.i64.wrap ((bw % ((r.real.bodies.map (unBody 300)).length) : Nat) : Int))) (.i6 (((bw % n) : Nat) : Int)) from Ref.int (by simp only [lmE, hn]; exact eb)) (show Ref (.int .u64 (IntKind.u64.wrap hi)) (.int .u64 (hw : Int)) from Ref.int (by rw [hhw]; exact u64_nat _)) (.a5 (wI ((((r.real.bodies.map (unBody 300)).length : Nat) : Int) - (1 : Int)) ((((r.real.bodies.map (unBody 300)).length : Nat) : Int) - (1 : Int)) (by simp only [lmE, hn]; omega)) (wU ((((r.real.bodies.map (unBody 300)).length : Nat) : Int) - (1 : Int)) ((((r.real.bodies.map (unBody 300)).length : Nat) : Int) - (1 : Int)) (by simp only [lmE, hn]; omega)) (show ((((r.real.bodies.map (unBody 300)).length : Nat) : Int) - (1 : Int)) ≠ 0 by simp only [lmE, hn]; omega) (show Ref (.i6 (IntKind.i64.wrap ((hw : Int).tmod ((((r.real.bodies.map (unBody 300)).length : Nat) : Int) - (1 : Int))))) (.i6 (((hw % (n - 1)) : Nat) : Int)) from Ref.int (by simp only [lmE, hn]; exact eh)) (show Ref (.i6 (IntKind.i64.wrap ((1 : Int) + (((hw % (n - 1)) : Nat) : Int)))) (.i6 (((hw % (n - 1)) + 1 : Nat) : Int)) from Ref.int (by rw [lI _ (by omega) (by omega)]; omega)))) (mid3 r.real sd.real xs.pt ts.val (bw % n) (hw % (n - 1)) hms h3 (by omega) (by omega) (by omega))
     · exact rR KT3_ok [(38, .tup (h3_5 r)), (43, .tup (h3_0 sd)), (47, .bool (r.small)), (49, ff), (55, ff), (58, .i6 (poseE r.real sd.real.joints.length)), (61, tt)] (.c6 a0 a1 a2 a3 s1.1 s1.2 (.c6 s2 a4 a5 a6 a7 a1 (.c6 a2 v0 (iF h2) a8 a9 a10 (.a3 a11 a12 (jT h3)))))
end Go.Av
namespace Go.Av
open Go.Proofs Go.RowKit Go.Proofs.YtbdhgnlabjmnoaaGreat
abbrev bulk {H : Type} (d : DataW H) : Nat := Rows.uptoBulk d
theorem bulk_one {H : Type} (d : DataW H) : 1 <= bulk d := by
 cases d with
 | lit l => cases l <;> simp [bulk, Rows.uptoBulk]
 | nil => simp [bulk, Rows.uptoBulk]
 | ptr d => simp [bulk, Rows.uptoBulk]
 | slice elems spare => simp [bulk, Rows.uptoBulk]
 | agg parts => simp [bulk, Rows.uptoBulk]
 | iface t d => simp [bulk, Rows.uptoBulk]
 | map entries => simp [bulk, Rows.uptoBulk]
 | held h => simp [bulk, Rows.uptoBulk]
theorem bulk_part {H : Type} {d : DataW H} {l : List (DataW H)} (h : d ∈ l) : bulk d <= Rows.uptoBulkAll l := by
 induction l with
 | nil => cases h
 | cons x r ih =>
   simp only [Rows.uptoBulkAll]; cases List.mem_cons.1 h with
   | inl e => subst e; unfold bulk; omega
   | inr e => have := ih e; omega
theorem bulk_len {H : Type} (l : List (DataW H)) : l.length <= Rows.uptoBulkAll l := by
 induction l with
 | nil => simp [Rows.uptoBulkAll]
 | cons x r ih => have := bulk_one x; unfold bulk at this; simp only [Rows.uptoBulkAll, List.length_cons]; omega
theorem cell_lt {w : World} {a : Addr} {v : Value} (h : w.cell? a = some v) : a.block < w.heap.size := by
 unfold World.cell? at h; rcases Nat.lt_or_ge a.block w.heap.size with h1 | h1
 · exact h1
 · rw [Array.getElem?_eq_none h1] at h; simp at h
section
variable {H : Type} (enc : TypeId × Value -> H) (P : Program) (w : World) (base : Nat) (sp : Nat -> Bool) (hd : Bool)
def Opn (t : TypeId) (R : List AV -> Prop) : Prop := ∀ fuel cs d ps, DataW.trod enc P w base sp hd fuel t cs = some (d, ps) -> bulk d <= 1048576 -> ∃ ch, R ch /\ RelCs ρ0 No w No ch cs
end
section
variable {H : Type} {enc : TypeId × Value -> H} {P : Program} {w : World} {base : Nat} {sp : Nat -> Bool} {hd : Bool}
theorem Opn.mono {t : TypeId} {R R' : List AV -> Prop} (h : Opn enc P w base sp hd t R) (hr : ∀ ch, R ch -> R' ch) : Opn enc P w base sp hd t R' := fun fuel cs d ps h1 h2 => by
 obtain ⟨ch, g1, g2⟩ := h fuel cs d ps h1 h2; exact ⟨ch, hr _ g1, g2⟩
theorem opn_int {t : TypeId} {k : IntKind} (ht : P.underlying t = some (.int k)) : Opn enc P w base sp hd t (fun ch => ∃ n, ch = [.int k n] /\ (Lit.int k n).wf = true) := fun fuel cs d ps h1 h2 => by
 obtain ⟨n, rfl, _, hw⟩ := DataW.trod_int ht h1; exact ⟨_, ⟨n, rfl, hw⟩, .int .done⟩
def AllR : List (List AV -> Prop) -> List (List AV) -> Prop
 | [], [] => True
 | R :: Rs, c :: cs => R c /\ AllR Rs cs
 | _, _ => False
theorem opn_fields {n : Nat} {cs : List Value} : ∀ (fl : List Field) (Rs : List (List AV -> Prop)) (xl : List (DataW H × List MemPlace)) (off : Nat), Rs.length = fl.length -> xl.length = fl.length ->
   (∀ (i : Nat) (f : Field), fl[i]? = some f -> f.offset = off + ((fl.take i).map fun f => P.cellsOf f.type).sum) -> (cs.drop off).length = (fl.map fun f => P.cellsOf f.type).sum ->
   (∀ (i : Nat) (f : Field), fl[i]? = some f -> DataW.trod enc P w base sp hd n f.type ((cs.drop f.offset).take (P.cellsOf f.type)) = xl[i]?) -> (∀ x ∈ xl, bulk x.1 <= 1048576) ->
   (∀ (i : Nat) (f : Field) (R : List AV -> Prop), fl[i]? = some f -> Rs[i]? = some R -> Opn enc P w base sp hd f.type R) -> ∃ css, AllR Rs css /\ RelCs ρ0 No w No css.flatten (cs.drop off)
 | [], [], [], off, _, _, _, hlen, _, _, _ => by
   refine ⟨[], trivial, ?_⟩; simp only [List.map_nil, List.sum_nil] at hlen; rw [List.length_eq_zero_iff.1 hlen]; exact .done
 | f :: fl, R :: Rs, x :: xl, off, h1, h2, hoff, hlen, ht, hb, ho => by
   have e0 : f.offset = off := by simpa using hoff 0 f rfl
   have t0 := ht 0 f rfl; rw [e0] at t0; simp only [List.getElem?_cons_zero] at t0; obtain ⟨xd, xp⟩ := x; obtain ⟨ch, g1, g2⟩ := ho 0 f R rfl rfl n _ xd xp t0 (hb (xd, xp) (by simp)); simp only [List.map_cons, List.sum_cons] at hlen
   obtain ⟨css, k1, k2⟩ := opn_fields (n := n) (cs := cs) fl Rs xl (off + P.cellsOf f.type) (by simpa using h1) (by simpa using h2)
     (fun i f' hf => by have := hoff (i + 1) f' (by simpa using hf); simp only [List.take_succ_cons, List.map_cons, List.sum_cons] at this; omega)
     (by simp only [List.length_drop] at hlen ⊢; omega) (fun i f' hf => by simpa using ht (i + 1) f' (by simpa using hf)) (fun y hy => hb y (by simp [hy])) (fun i f' R' hf hR => ho (i + 1) f' R' (by simpa using hf) (by simpa using hR))
   refine ⟨ch :: css, ⟨g1, k1⟩, ?_⟩; rw [List.flatten_cons]
   have : cs.drop off = (cs.drop off).take (P.cellsOf f.type) ++ cs.drop (off + P.cellsOf f.type) := by
     rw [<- List.drop_drop]; exact (List.take_append_drop _ _).symm
   rw [this]; exact g2.app k2
 | [], _ :: _, _, _, h1, _, _, _, _, _, _ => by simp at h1
 | _ :: _, [], _, _, h1, _, _, _, _, _, _ => by simp at h1
 | [], [], _ :: _, _, _, h2, _, _, _, _, _ => by simp at h2
 | _ :: _, _ :: _, [], _, _, h2, _, _, _, _, _ => by simp at h2
theorem opn_struct {T : TypeId -> Prop} (K : Kids P T) {t : TypeId} (hT : T t) {fs : Array Field} (ht : P.underlying t = some (.struct fs)) {Rs : List (List AV -> Prop)} (hl : Rs.length = fs.toList.length)
   (ho : ∀ (i : Nat) (f : Field) (R : List AV -> Prop), fs.toList[i]? = some f -> Rs[i]? = some R -> Opn enc P w base sp hd f.type R) :
   Opn enc P w base sp hd t (fun ch => ∃ css, AllR Rs css /\ ch = css.flatten) := fun fuel cs d ps h1 h2 => by
 obtain ⟨xs, n, _, he, hlen, hxl, hf⟩ := DataW.trod_struct ht h1; obtain ⟨_, ksz, koff⟩ := K.struct hT ht; injection he with he1 he2; subst he1
 have hb : ∀ x ∈ xs, bulk x.1 <= 1048576 := by
   intro x hx; have h3 := bulk_part (List.mem_map.2 ⟨x, hx, rfl⟩ : x.1 ∈ xs.map (·.1)); simp only [bulk, Rows.uptoBulk] at h2 h3 ⊢; omega
 obtain ⟨css, g1, g2⟩ := opn_fields (enc := enc) (P := P) (w := w) (base := base) (sp := sp) (hd := hd) (n := n) (cs := cs) fs.toList Rs xs 0 hl (by simpa using hxl) (fun i f hf' => by rw [koff i f hf']; omega) (by rw [List.drop_zero, hlen, ksz]) (fun i f hf' => hf i f (by simpa using hf')) hb ho; exact ⟨css.flatten, ⟨css, g1, rfl⟩, by simpa using g2⟩
theorem opn_slice {t e : TypeId} (ht : P.underlying t = some (.slice e)) {R : List AV -> Prop} (hz : 0 < P.cellsOf e) (ho : Opn enc P w base sp hd e R) :
   Opn enc P w base sp hd t (fun ch => ∃ l : List (List AV), (∀ c ∈ l, R c) /\ l.length <= 1048576 /\ ch = [.list (P.cellsOf e) l]) := fun fuel cs d ps h1 h2 => by
 rcases Deep.open_slice ht h1 with ⟨rfl, _⟩ | ⟨a, len, cap, m, n, D, Pl, rfl, hb, hl, hm, hmm, he, hx⟩
 · exact ⟨[.list (P.cellsOf e) []], ⟨[], by simp, by simp, rfl⟩, .list (xs := []) (fun _ => []) (by simp) (by simp [big]) (by simp) (by simp) (by simp) .done⟩
 · injection he with he1 he2
   subst he1
   have hlb : Rows.uptoBulkAll ((List.range len).map D) <= 1048575 := by
     simp only [bulk, Rows.uptoBulk] at h2; omega
   have hlen : len <= 1048575 := by
     have := bulk_len ((List.range len).map D); simp at this; omega
   have hlm : len <= m := by rw [hmm]; split <;> omega
   have key : ∀ i, ∃ c : List AV × List Value, i < len -> R c.1 /\ RelCs ρ0 No w No c.1 c.2 /\ w.cells? base (a.add (i * P.cellsOf e)) (P.cellsOf e) = some c.2 := by
     intro i
     by_cases hi : i < len
     · obtain ⟨cs', hc, ht'⟩ := hx i (by omega)
       have hbi : bulk (D i) <= 1048576 := by
         have := bulk_part (List.mem_map.2 ⟨i, List.mem_range.2 hi, rfl⟩ : D i ∈ (List.range len).map D); omega
       obtain ⟨ch, g1, g2⟩ := ho n cs' (D i) (Pl i) ht' hbi; exact ⟨(ch, cs'), fun _ => ⟨g1, g2, hc⟩⟩
     · exact ⟨([], []), fun h => absurd h hi⟩
   let f : Nat -> List AV × List Value := fun i => Classical.choose (key i)
   have hf : ∀ i, i < len -> R (f i).1 /\ RelCs ρ0 No w No (f i).1 (f i).2 /\ w.cells? base (a.add (i * P.cellsOf e)) (P.cellsOf e) = some (f i).2 := fun i => Classical.choose_spec (key i)
   refine ⟨[.list (P.cellsOf e) ((List.range len).map fun i => (f i).1)], ⟨(List.range len).map fun i => (f i).1, ?_, by simp; omega, rfl⟩, ?_⟩
   · intro c hc
     obtain ⟨i, hi, rfl⟩ := List.mem_map.1 hc; exact (hf i (List.mem_range.1 hi)).1
   · have hcell : ∀ i, i < len -> (f i).2.length = P.cellsOf e /\ ∀ j v, (f i).2[j]? = some v -> w.cell? ((a.add (i * P.cellsOf e)).add j) = some v := by
       intro i hi; have h3 := (hf i hi).2.2; unfold World.cells? at h3
       split at h3
       · have hl3 := mapM_some_length h3
         refine ⟨by simpa using hl3, fun j v hv => ?_⟩
         have hj : j < P.cellsOf e := by
           have := (List.getElem?_eq_some_iff.1 hv).1; rw [show (f i).2.length = P.cellsOf e by simpa using hl3] at this; exact this
         have := mapM_some_get h3 j j (by simp [hj]); rw [this]; exact hv
       · cases h3
     have e1 : len = ((List.range len).map fun i => (f i).1).length := by simp
     have key2 : RelCs ρ0 No w No [.list (P.cellsOf e) ((List.range len).map fun i => (f i).1)] [.slice (some a) ((List.range len).map fun i => (f i).1).length cap] := by
       refine .list (fun i => (f i).2) (by simpa using hl) (Nat.le_trans hm (by decide)) (fun i hi => (hcell i (by simpa using hi)).1) (fun i el he => ?_) (fun hp => ?_) .done
       · rw [List.getElem?_map] at he
         have hi : i < len := by
           rcases Nat.lt_or_ge i len with h | h
           · exact h
           · simp [h] at he
         rw [List.getElem?_range hi] at he; injection he with he; subst he; exact (hf i hi).2.1
       · have hp' : 0 < len := by simpa using hp
         refine ⟨a, rfl, ?_, fun h => h, fun i hi => (hcell i (by simpa using hi)).2⟩; obtain ⟨l0, c0⟩ := hcell 0 hp'; have : ∃ v, (f 0).2[0]? = some v := ⟨(f 0).2[0]'(by omega), by simp [l0, hz]⟩; obtain ⟨v, hv⟩ := this; have h5 := c0 0 v hv; have hblk := cell_lt h5; simpa [block_add] using hblk
     rw [<- e1] at key2; exact key2
end
def structTs (P : Program) (t : TypeId) : Option (List TypeId) := match P.underlying t with
 | some (.struct fs) => some (fs.toList.map (·.type))
 | _ => none
theorem kidsT : Kids Tryz.prog (· < Tryz.prog.types.size) := kids_rows (by kernel_rfl) (by kernel_rfl)
section
variable {H : Type} {enc : TypeId × Value -> H} {w : World} {base : Nat} {sp : Nat -> Bool} {hd : Bool}
abbrev OpnT (enc : TypeId × Value -> H) (w : World) (base : Nat) (sp : Nat -> Bool) (hd : Bool) (t : TypeId) (R : List AV -> Prop) : Prop := Opn enc Tryz.prog w base sp hd t R
theorem opn_structT {t : TypeId} {ts : List TypeId} (hs : structTs Tryz.prog t = some ts) (hlt : Nat.ble (t + 1) Tryz.prog.types.size = true) {Rs : List (List AV -> Prop)} (hl : Rs.length = ts.length)
   (ho : ∀ (i : Nat) (u : TypeId) (R : List AV -> Prop), ts[i]? = some u -> Rs[i]? = some R -> OpnT enc w base sp hd u R) :
   OpnT enc w base sp hd t (fun ch => ∃ css, AllR Rs css /\ ch = css.flatten) := by
 unfold structTs at hs
 split at hs
 · rename_i fs ht
   injection hs with hs; subst hs; exact opn_struct kidsT (Nat.le_of_ble_eq_true hlt) ht (by simpa using hl) fun i f R hf hR => ho i f.type R (by rw [List.getElem?_map, hf]; rfl) hR
 · cases hs
theorem AllR.cons {R : List AV -> Prop} {Rs : List (List AV -> Prop)} : ∀ {css : List (List AV)}, AllR (R :: Rs) css -> ∃ c cs, css = c :: cs /\ R c /\ AllR Rs cs
 | [], h => h.elim
 | c :: cs, h => ⟨c, cs, rfl, h.1, h.2⟩
theorem AllR.nil : ∀ {css : List (List AV)}, AllR [] css -> css = []
 | [], _ => rfl
 | _ :: _, h => h.elim
theorem wf_i64 {n : Int} (h : (Lit.int .i64 n).wf = true) : (-9223372036854775808 : Int) <= n /\ n <= (9223372036854775807 : Int) := by
 simpa [Lit.wf, IntKind.min, IntKind.max, IntKind.signed, IntKind.bits] using h
theorem wf_u8 {n : Int} (h : (Lit.int .u8 n).wf = true) : 0 <= n /\ n <= 255 := by
 simpa [Lit.wf, IntKind.min, IntKind.max, IntKind.signed, IntKind.bits] using h
abbrev isI (ch : List AV) : Prop := ∃ n, ch = [.int .i64 n] /\ (Lit.int .i64 n).wf = true
abbrev isB (ch : List AV) : Prop := ∃ n, ch = [.int .u8 n] /\ (Lit.int .u8 n).wf = true
abbrev isNum (ch : List AV) : Prop := ∃ a : NumD, ch = unNum a /\ a.ok
abbrev isSpot (ch : List AV) : Prop := ∃ a : SpotD, ch = unSpot a /\ a.ok
theorem opn2 : OpnT enc w base sp hd 2 isI := opn_int (by kernel_rfl)
theorem opn3 : OpnT enc w base sp hd 3 isI := opn_int (by kernel_rfl)
theorem opn5 : OpnT enc w base sp hd 5 isB := opn_int (by kernel_rfl)
theorem pick3 {A B C : List AV -> Prop} {a b c : TypeId} (hA : OpnT enc w base sp hd a A) (hB : OpnT enc w base sp hd b B) (hC : OpnT enc w base sp hd c C) :
   ∀ (i : Nat) (u : TypeId) (R : List AV -> Prop), [a, b, c][i]? = some u -> [A, B, C][i]? = some R -> OpnT enc w base sp hd u R
 | 0, u, R, h1, h2 => by simp at h1 h2; subst h1; subst h2; exact hA
 | 1, u, R, h1, h2 => by simp at h1 h2; subst h1; subst h2; exact hB
 | 2, u, R, h1, h2 => by simp at h1 h2; subst h1; subst h2; exact hC
 | i + 3, u, R, h1, h2 => by simp at h1
theorem pickL {L : List (TypeId × (List AV -> Prop))} (h : ∀ p ∈ L, OpnT enc w base sp hd p.1 p.2) : ∀ (i : Nat) (u : TypeId) (R : List AV -> Prop), (L.map (·.1))[i]? = some u -> (L.map (·.2))[i]? = some R -> OpnT enc w base sp hd u R := by
 intro i u R h1 h2; rw [List.getElem?_map] at h1 h2; cases hp : L[i]? with
 | none => rw [hp] at h1; cases h1
 | some p =>
   rw [hp] at h1 h2; simp at h1 h2; subst h1; subst h2; exact h p (List.mem_of_getElem? hp)
theorem opn29 : OpnT enc w base sp hd 29 isNum := by
 refine (opn_structT (ts := [2, 2, 5]) (Rs := [isI, isI, isB]) (by kernel_rfl) (by kernel_rfl) rfl (pick3 opn2 opn2 opn5)).mono ?_; rintro ch ⟨css, h, rfl⟩; obtain ⟨_, css1, rfl, ⟨n, rfl, h1⟩, kk1⟩ := h.cons; obtain ⟨_, css2, rfl, ⟨d, rfl, h2⟩, kk2⟩ := kk1.cons; obtain ⟨_, css3, rfl, ⟨p, rfl, h3⟩, kk3⟩ := kk2.cons; obtain rfl := kk3.nil; exact ⟨⟨n, d, p⟩, rfl, (wf_i64 h1).1, (wf_i64 h1).2, (wf_i64 h2).1, (wf_i64 h2).2, wf_u8 h3⟩
theorem opn31 : OpnT enc w base sp hd 31 isSpot := by
 refine (opn_structT (ts := [29, 29]) (Rs := [isNum, isNum]) (by kernel_rfl) (by kernel_rfl) rfl (pickL (L := [(29, isNum), (29, isNum)]) (by intro p hp; simp at hp; subst hp; exact opn29))).mono ?_; rintro ch ⟨css, h, rfl⟩; obtain ⟨_, css1, rfl, ⟨x, rfl, h1⟩, kk1⟩ := h.cons; obtain ⟨_, css2, rfl, ⟨z, rfl, h2⟩, kk2⟩ := kk1.cons; obtain rfl := kk2.nil; exact ⟨⟨x, z⟩, rfl, h1, h2⟩
theorem lst_of {α : Type} {un : α -> List AV} {ok : α -> Prop} : ∀ (l : List (List AV)), (∀ c ∈ l, ∃ a, c = un a /\ ok a) -> ∃ xs : List α, l = xs.map un /\ ∀ a ∈ xs, ok a
 | [], _ => ⟨[], rfl, by simp⟩
 | c :: l, h => by
   obtain ⟨a, rfl, ha⟩ := h c (by simp); obtain ⟨xs, rfl, hx⟩ := lst_of l fun c hc => h c (by simp [hc])
   exact ⟨a :: xs, rfl, by simpa using ⟨ha, hx⟩⟩
theorem opn_list {t e : TypeId} {n : Nat} {α : Type} {un : α -> List AV} {ok : α -> Prop} (ht : Tryz.prog.underlying t = some (.slice e)) (hn : Tryz.prog.cellsOf e = n) (hz : 0 < n) (ho : OpnT enc w base sp hd e (fun ch => ∃ a, ch = un a /\ ok a)) :
   OpnT enc w base sp hd t (fun ch => ∃ xs : List α, ch = [.list n (xs.map un)] /\ (∀ a ∈ xs, ok a) /\ xs.length <= 1048576) := by
 refine (opn_slice ht (by rw [hn]; exact hz) ho).mono ?_; rintro ch ⟨l, h1, h2, rfl⟩; obtain ⟨xs, rfl, hx⟩ := lst_of l h1; exact ⟨xs, by rw [hn], hx, by simpa using h2⟩
abbrev isL {α : Type} (n : Nat) (un : α -> List AV) (ok : α -> Prop) (ch : List AV) : Prop := ∃ xs : List α, ch = [.list n (xs.map un)] /\ (∀ a ∈ xs, ok a) /\ xs.length <= 1048576
abbrev isSpots (ch : List AV) : Prop := ∃ xs : List SpotD, ch = [.list 6 (xs.map unSpot)] /\ (∀ a ∈ xs, a.ok) /\ xs.length <= 1048576
abbrev isNums (ch : List AV) : Prop := ∃ xs : List NumD, ch = [.list 3 (xs.map unNum)] /\ (∀ a ∈ xs, a.ok) /\ xs.length <= 1048576
theorem opn137 : OpnT enc w base sp hd 137 isSpots := opn_list (by kernel_rfl) (by kernel_rfl) (by decide) opn31
theorem opn32 : OpnT enc w base sp hd 32 isNums := opn_list (by kernel_rfl) (by kernel_rfl) (by decide) opn29
theorem opn224 : OpnT enc w base sp hd 224 (fun ch => ∃ a : LimbD, ch = unLimb a /\ a.ok) := by
 refine (opn_structT (ts := [3, 31, 31, 29, 29, 29, 29, 137]) (Rs := [isI, isSpot, isSpot, isNum, isNum, isNum, isNum, isSpots]) (by kernel_rfl) (by kernel_rfl) rfl
   (pickL (L := [(3, isI), (31, isSpot), (31, isSpot), (29, isNum), (29, isNum), (29, isNum), (29, isNum), (137, isSpots)]) (by intro p hp; simp at hp; rcases hp with rfl | rfl | rfl | rfl <;> first | exact opn3 | exact opn31 | exact opn29 | exact opn137))).mono ?_
 rintro ch ⟨css, h, rfl⟩; obtain ⟨_, css1, rfl, ⟨a, rfl, _⟩, kk1⟩ := h.cons; obtain ⟨_, css2, rfl, ⟨b, rfl, h2⟩, kk2⟩ := kk1.cons; obtain ⟨_, css3, rfl, ⟨c, rfl, h3⟩, kk3⟩ := kk2.cons; obtain ⟨_, css4, rfl, ⟨d, rfl, h4⟩, kk4⟩ := kk3.cons; obtain ⟨_, css5, rfl, ⟨e, rfl, h5⟩, kk5⟩ := kk4.cons; obtain ⟨_, css6, rfl, ⟨f, rfl, h6⟩, kk6⟩ := kk5.cons; obtain ⟨_, css7, rfl, ⟨g, rfl, h7⟩, kk7⟩ := kk6.cons; obtain ⟨_, css8, rfl, ⟨l, rfl, h8, h9⟩, kk8⟩ := kk7.cons; obtain rfl := kk8.nil; exact ⟨⟨a, b, c, d, e, f, g, l⟩, rfl, h2, h3, h4, h5, h6, h7, h8, by simp only; omega⟩
theorem opn227 : OpnT enc w base sp hd 227 (fun ch => ∃ a : CordD, ch = unCord a /\ a.ok) := by
 refine (opn_structT (ts := [3, 3, 31, 31, 29]) (Rs := [isI, isI, isSpot, isSpot, isNum]) (by kernel_rfl) (by kernel_rfl) rfl
   (pickL (L := [(3, isI), (3, isI), (31, isSpot), (31, isSpot), (29, isNum)]) (by intro p hp; simp at hp; rcases hp with rfl | rfl | rfl <;> first | exact opn3 | exact opn31 | exact opn29))).mono ?_
 rintro ch ⟨css, h, rfl⟩; obtain ⟨_, css1, rfl, ⟨a, rfl, _⟩, kk1⟩ := h.cons; obtain ⟨_, css2, rfl, ⟨b, rfl, _⟩, kk2⟩ := kk1.cons; obtain ⟨_, css3, rfl, ⟨c, rfl, h3⟩, kk3⟩ := kk2.cons; obtain ⟨_, css4, rfl, ⟨d, rfl, h4⟩, kk4⟩ := kk3.cons; obtain ⟨_, css5, rfl, ⟨e, rfl, h5⟩, kk5⟩ := kk4.cons; obtain rfl := kk5.nil; exact ⟨⟨a, b, c, d, e⟩, rfl, h3, h4, h5⟩
theorem opn237 : OpnT enc w base sp hd 237 (fun ch => ∃ a : DriveD, ch = unDrive a /\ a.ok) := by
 refine (opn_structT (ts := [3, 29, 29, 29, 29]) (Rs := [isI, isNum, isNum, isNum, isNum]) (by kernel_rfl) (by kernel_rfl) rfl
   (pickL (L := [(3, isI), (29, isNum), (29, isNum), (29, isNum), (29, isNum)]) (by intro p hp; simp at hp; rcases hp with rfl | rfl <;> first | exact opn3 | exact opn29))).mono ?_
 rintro ch ⟨css, h, rfl⟩; obtain ⟨_, css1, rfl, ⟨a, rfl, _⟩, kk1⟩ := h.cons; obtain ⟨_, css2, rfl, ⟨b, rfl, h2⟩, kk2⟩ := kk1.cons; obtain ⟨_, css3, rfl, ⟨c, rfl, h3⟩, kk3⟩ := kk2.cons; obtain ⟨_, css4, rfl, ⟨d, rfl, h4⟩, kk4⟩ := kk3.cons; obtain ⟨_, css5, rfl, ⟨e, rfl, h5⟩, kk5⟩ := kk4.cons; obtain rfl := kk5.nil; exact ⟨⟨a, b, c, d, e⟩, rfl, h2, h3, h4, h5⟩
theorem opn243 : OpnT enc w base sp hd 243 (fun ch => ∃ a : SoleD, ch = unSole a /\ a.ok) := by
 refine (opn_structT (ts := [3, 137, 29]) (Rs := [isI, isSpots, isNum]) (by kernel_rfl) (by kernel_rfl) rfl (pick3 opn3 opn137 opn29)).mono ?_; rintro ch ⟨css, h, rfl⟩; obtain ⟨_, css1, rfl, ⟨a, rfl, _⟩, kk1⟩ := h.cons; obtain ⟨_, css2, rfl, ⟨l, rfl, h2, h3⟩, kk2⟩ := kk1.cons; obtain ⟨_, css3, rfl, ⟨c, rfl, h4⟩, kk3⟩ := kk2.cons; obtain rfl := kk3.nil; exact ⟨⟨a, l, c⟩, rfl, h2, by simp only; omega, h4⟩
theorem opn27 : OpnT enc w base sp hd 27 (fun ch => ∃ r : RigD, ch = unRig r /\ r.ok) := by
 have h22 : OpnT enc w base sp hd 22 (isL 26 unLimb LimbD.ok) := opn_list (n := 26) (by kernel_rfl) (by kernel_rfl) (by decide) opn224; have h23 : OpnT enc w base sp hd 23 (isL 17 unCord CordD.ok) := opn_list (n := 17) (by kernel_rfl) (by kernel_rfl) (by decide) opn227; have h24 : OpnT enc w base sp hd 24 (isL 13 unDrive DriveD.ok) := opn_list (n := 13) (by kernel_rfl) (by kernel_rfl) (by decide) opn237; have h25 : OpnT enc w base sp hd 25 (isL 5 unSole SoleD.ok) := opn_list (n := 5) (by kernel_rfl) (by kernel_rfl) (by decide) opn243; refine (opn_structT (ts := [22, 23, 23, 24, 25]) (Rs := [isL 26 unLimb LimbD.ok, isL 17 unCord CordD.ok, isL 17 unCord CordD.ok, isL 13 unDrive DriveD.ok, isL 5 unSole SoleD.ok]) (by kernel_rfl) (by kernel_rfl) rfl (pickL (L := [(22, isL 26 unLimb LimbD.ok), (23, isL 17 unCord CordD.ok), (23, isL 17 unCord CordD.ok), (24, isL 13 unDrive DriveD.ok), (25, isL 5 unSole SoleD.ok)]) (by intro p hp; simp at hp; rcases hp with rfl | rfl | rfl | rfl <;> first | exact h22 | exact h23 | exact h24 | exact h25))).mono ?_; rintro ch ⟨css, h, rfl⟩; obtain ⟨_, css1, rfl, ⟨a, rfl, h1, g1⟩, kk1⟩ := h.cons; obtain ⟨_, css2, rfl, ⟨b, rfl, h2, g2⟩, kk2⟩ := kk1.cons; obtain ⟨_, css3, rfl, ⟨c, rfl, h3, g3⟩, kk3⟩ := kk2.cons; obtain ⟨_, css4, rfl, ⟨d, rfl, h4, g4⟩, kk4⟩ := kk3.cons; obtain ⟨_, css5, rfl, ⟨e, rfl, h5, g5⟩, kk5⟩ := kk4.cons; obtain rfl := kk5.nil; exact ⟨⟨a, b, c, d, e⟩, rfl, h1, h2, h3, h4, h5, by simp only; omega, by simp only; omega, by simp only; omega, by simp only; omega, by simp only; omega⟩
theorem opn34 : OpnT enc w base sp hd 34 (fun ch => ∃ s : StandD, ch = unStand s /\ s.ok) := by
 refine (opn_structT (ts := [31, 29, 32]) (Rs := [isSpot, isNum, isNums]) (by kernel_rfl) (by kernel_rfl) rfl (pick3 opn31 opn29 opn32)).mono ?_; rintro ch ⟨css, h, rfl⟩; obtain ⟨_, css1, rfl, ⟨a, rfl, h1⟩, kk1⟩ := h.cons; obtain ⟨_, css2, rfl, ⟨b, rfl, h2⟩, kk2⟩ := kk1.cons; obtain ⟨_, css3, rfl, ⟨c, rfl, h3, h4⟩, kk3⟩ := kk2.cons; obtain rfl := kk3.nil; exact ⟨⟨a, b, c⟩, rfl, h1, h2, h3, by simp only; omega⟩
theorem opn_arg {t : TypeId} {fs : Array Field} {R : List AV -> Prop} {r : Reach} {b0 : Nat} {v : Value} {d : DataW H} {ps : List MemPlace} (ho : OpnT enc w base sp hd t R) (ht : Tryz.prog.underlying t = some (.struct fs)) (hval : Value.okWide Tryz.prog w r b0 t v)
   (h : DataW.Trod enc Tryz.prog w base sp hd t v d ps) (hb : bulk d <= 1048576) : ∃ ch, R ch /\ RelV0 ρ0 No w No (.agg ch) v := by
 obtain ⟨n, hn⟩ := h; obtain ⟨cs, rfl, _⟩ := WideShapes.okWide_struct ht hval; obtain ⟨ch, g1, g2⟩ := ho n _ d ps hn hb; exact ⟨ch, g1, cs.toList, by simp, by simpa [Value.cells] using g2⟩
end
end Go.Av
namespace Go.Proofs.YtbdhgnlabjmnoaaGreat.poseHinges
open Go.ChangeShapes Go.WideShapes Go.ChangeAt Go.RowKit Go.Av
theorem own : ownKnob Tryz.prog.godebug = none := by kernel_rfl
theorem slices : ∀ t e, t < Tryz.prog.types.size -> Tryz.prog.underlying t = some (.slice e) -> 0 < Tryz.prog.cellsOf e := slices_full_of Tryz.prog (by kernel_rfl)
theorem params3 : Tryz.f3.params = #[27, 34, 3, 3, 31, 29] := by kernel_rfl
theorem und4 : Tryz.prog.underlying 4 = some .bool := by kernel_rfl
theorem und3 : Tryz.prog.underlying 3 = some (.int .i64) := by kernel_rfl
def isStruct (P : Program) (t : TypeId) : Bool := match P.underlying t with
 | some (.struct _) => true
 | _ => false
theorem struct_of {P : Program} {t : TypeId} (h : isStruct P t = true) : ∃ fs, P.underlying t = some (.struct fs) := by
 unfold isStruct at h
 split at h
 · exact ⟨_, by assumption⟩
 · cases h
theorem trodAll_up {H : Type} {enc : TypeId × Value -> H} {P : Program} {W W' : World} {base : Nat} {sp : Nat -> Bool} {hd : Bool} (hB : Below W.heap.size W W') : ∀ {ts : List TypeId} {vs : List Value} {ds : List (DataW H)} {ps : List MemPlace},
   DataW.TrodAll enc P W base sp hd ts vs ds ps -> DataW.TrodAll enc P W' base sp hd ts vs ds ps
 | [], [], [], _, h => h
 | _ :: _, _ :: _, _ :: _, _, ⟨p, q, ⟨n, h1⟩, h2, e⟩ => ⟨p, q, ⟨n, DataW.trod_carry n _ _ _ h1 fun p hp => hB.same (DataW.trod_lt n _ _ _ h1 p hp)⟩, trodAll_up hB h2, e⟩
def wargs : Array Value := #[.agg #[.slice none 0 0, .slice none 0 0, .slice none 0 0, .slice none 0 0, .slice none 0 0], .agg #[.int .i64 0, .int .i64 0, .int .u8 0, .int .i64 0, .int .i64 0, .int .u8 0, .int .i64 0, .int .i64 0, .int .u8 0, .slice none 0 0], .int .i64 0, .int .i64 0, .agg #[.int .i64 0, .int .i64 0, .int .u8 0, .int .i64 0, .int .i64 0, .int .u8 0], .agg #[.int .i64 0, .int .i64 0, .int .u8 0]]
def wnum {H : Type} : DataW H := .agg [.lit (.int .i64 0), .lit (.int .i64 0), .lit (.int .u8 0)]
def wdata {H : Type} : List (DataW H) := [.agg [.nil, .nil, .nil, .nil, .nil], .agg [.agg [wnum, wnum], wnum, .nil], .lit (.int .i64 0), .lit (.int .i64 0), .agg [wnum, wnum], wnum]
theorem contract (H : Type) (enc : TypeId × Value -> H) (W : World) (base : Nat) (args : Array Value) (ds gs : List (DataW H)) (before : List MemPlace)
   (hval : ∀ (j : Nat) t v, Tryz.f3.params[j]? = some t -> args[j]? = some v -> Value.okWide Tryz.prog W .any base t v)
   (hW : DataW.Whole enc Tryz.prog Tryz.f3.params.toList Rows.poseHingesSpec.vars false W args.toList ds gs before) (hk : Rows.uptoSmall H (ds ++ gs) = true) :
   Calls Tryz.prog 3 args W fun e W' => ∃ v, e = .returned v /\ Rows.poseHingesSpec.post enc Tryz.prog Tryz.f3 false true false false W args v W' := by
 have hW' := hW; obtain ⟨p, q, hA0, hV, rfl, hfz, hnd⟩ := hW; have hA : DataW.TrodAll enc Tryz.prog W 0 (fun _ => true) true Tryz.f3.params.toList args.toList ds p := hA0; rw [params3] at hA hval; obtain ⟨rfl, rfl⟩ := trodVars_none hV; have hAll := hA; obtain ⟨v0, vs0, d0, ds0, p0, q0, hargs, rfl, rfl, h0, r0⟩ := trodAll_cons hA; obtain ⟨v1, vs1, d1, ds1, p1, q1, rfl, rfl, rfl, h1, r1⟩ := trodAll_cons r0; obtain ⟨v2, vs2, d2, ds2, p2, q2, rfl, rfl, rfl, h2, r2⟩ := trodAll_cons r1; obtain ⟨v3, vs3, d3, ds3, p3, q3, rfl, rfl, rfl, h3, r3⟩ := trodAll_cons r2; obtain ⟨v4, vs4, d4, ds4, p4, q4, rfl, rfl, rfl, h4, r4⟩ := trodAll_cons r3; obtain ⟨v5, vs5, d5, ds5, p5, q5, rfl, rfl, rfl, h5, r5⟩ := trodAll_cons r4; obtain ⟨rfl, rfl, rfl⟩ := trodAll_nil r5; obtain rfl : args = #[v0, v1, v2, v3, v4, v5] := by cases args; simp_all
 have hb : Rows.uptoBulkAll ([d0, d1, d2, d3, d4, d5] ++ ([] : List (DataW H))) <= 1048576 := of_decide_eq_true hk; have hbd : ∀ d ∈ [d0, d1, d2, d3, d4, d5], bulk d <= 1048576 := fun d hd => Nat.le_trans (bulk_part (by simpa using hd)) hb
 obtain ⟨f27, t27⟩ := struct_of (P := Tryz.prog) (t := 27) (by kernel_rfl); obtain ⟨f34, t34⟩ := struct_of (P := Tryz.prog) (t := 34) (by kernel_rfl); obtain ⟨f31, t31⟩ := struct_of (P := Tryz.prog) (t := 31) (by kernel_rfl); obtain ⟨f29, t29⟩ := struct_of (P := Tryz.prog) (t := 29) (by kernel_rfl); obtain ⟨_, ⟨r, rfl, hr⟩, g0⟩ := opn_arg opn27 t27 (hval 0 27 v0 rfl rfl) h0 (hbd d0 (by simp)); obtain ⟨_, ⟨s, rfl, hs⟩, g1⟩ := opn_arg opn34 t34 (hval 1 34 v1 rfl rfl) h1 (hbd d1 (by simp)); obtain ⟨hi, rfl, rfl, rfl, w2⟩ := open_int und3 (hval 2 3 v2 rfl rfl) h2; obtain ⟨bd, rfl, rfl, rfl, w3⟩ := open_int und3 (hval 3 3 v3 rfl rfl) h3; obtain ⟨_, ⟨x, rfl, hx⟩, g4⟩ := opn_arg opn31 t31 (hval 4 31 v4 rfl rfl) h4 (hbd d4 (by simp)); obtain ⟨_, ⟨t, rfl, ht⟩, g5⟩ := opn_arg opn29 t29 (hval 5 29 v5 rfl rfl) h5 (hbd d5 (by simp)); have hF := (hinges_true r s hi bd x t hr hs hx ht).2 No W [v0, v1, .int .i64 hi, .int .i64 bd, v4, v5] (fun _ h => h.elim) ⟨g0, g1, RelCs.int .done, RelCs.int .done, g4, g5, trivial⟩; refine hF.mono ?_; rintro e W' ⟨v, rfl, hv, hch⟩; have hvb : v = .bool true := RelV.bool_inv hv; subst hvb; have hB : Below W.heap.size W W' := hch.below; have hlt : ∀ t ∈ [27, 34, 3, 3, 31, 29], t < Tryz.prog.types.size := fun t ht => Nat.lt_of_lt_of_le (show t < 300 by simp at ht; omega) (Nat.le_of_ble_eq_true (by kernel_rfl))
 have h6 := DataW.TrodAll.respare (spare' := fun b => decide (b < W.heap.size)) kidsT slices hlt hAll (fun p hp => by
   have := hW'.lt p (by simpa using hp)
   simpa using this)
 have h7 : DataW.TrodAll enc Tryz.prog W' 0 (fun b => decide (b < W.heap.size)) true Tryz.f3.params.toList [v0, v1, .int .i64 hi, .int .i64 bd, v4, v5] [d0, d1, .lit (.int .i64 hi), .lit (.int .i64 bd), d4, d5] (p0 ++ (p1 ++ ([] ++ ([] ++ (p4 ++ (p5 ++ [])))))) := by rw [params3]; exact trodAll_up hB h6
 exact ⟨_, rfl, _, _, _, [], _, [], hW', trodAll_cons_mk (shut_bool und4 _) trodAll_mk0, h7, rfl, hB.frame _, fun h => by cases h⟩
section
variable (os : Os) {H : Type} (enc : TypeId × Value -> H)
abbrev inp : Input := ⟨#[], wargs, []⟩
theorem w1 : (World.plainHolding Tryz.prog os inp).variablesB Tryz.prog = true := by kernel_rfl
theorem w2 : ((World.plainHolding Tryz.prog os inp).heap.toList.drop Tryz.prog.globals.size).take ((begin Tryz.prog (fun _ _ => 0) default).world.heap.size - Tryz.prog.globals.size) =
     (begin Tryz.prog (fun _ _ => 0) default).world.heap.toList.drop Tryz.prog.globals.size := by kernel_rfl
theorem w3 : Input.okWideB Tryz.prog (World.plainHolding Tryz.prog os inp) 3 ⟨#[], wargs, []⟩ = true := by kernel_rfl
theorem w4 : DataW.whole enc Tryz.prog (World.plainHolding Tryz.prog os inp).memory Tryz.f3.params.toList [] false wargs.toList 8 = some (wdata, [], []) := by kernel_rfl
theorem w5 : Rows.uptoSmall H (wdata ++ []) = true := by kernel_rfl
end
theorem w6 : Tryz.prog.inits.idxOf? 3 = none := by kernel_rfl
theorem func3 : Tryz.prog.funcs[3]? = some Tryz.f3 := by kernel_rfl
theorem w7 (os : Os) {H : Type} (enc : TypeId × Value -> H) : (Rows.OpenSpec.upto Rows.poseHingesSpec).bare.sizedB enc Tryz.prog Tryz.f3 false (World.plainHolding Tryz.prog os inp).memory wargs 8 = true := by kernel_rfl
theorem lifted (os : Os) (started : os.Started) (H : Type) (enc : TypeId × Value -> H) (F : Stop.Interp) :
   ReturnsInHanded {} Tryz.checked os 3 .any ((Rows.OpenSpec.upto Rows.poseHingesSpec).pre6 enc Tryz.prog Tryz.f3 Rows.poseHingesUptoRow.domain false) (((Rows.OpenSpec.upto Rows.poseHingesSpec).at F).post enc Tryz.prog Tryz.f3 false true false false) := by
 refine returnsInHanded_of_cond (C := Tryz.checked) (s := Rows.OpenSpec.upto Rows.poseHingesSpec) (k := Rows.uptoSmall) rfl own started w6 (fn := Tryz.f3) func3
   (OpenSpec.witness (enc := enc) (C := Tryz.checked) (s := Rows.OpenSpec.upto Rows.poseHingesSpec) (k := Rows.uptoSmall) rfl false inp 8 (w1 os) (w2 os) (w3 os) (x := (wdata, [], [])) (w4 os enc) rfl w5 (w7 os enc)) ?_
 intro W base args ds gs before hval hW _ hk _; exact contract H enc W base args ds gs before hval hW hk
theorem c1 : Tryz.checked.prog.funcNamed "amble/amblelaw04.PoseHinges" = some 3 := by kernel_rfl
theorem c3 : Tryz.f3.isInstance Tryz.checked.prog Rows.poseHingesUptoRow.origin Rows.poseHingesUptoRow.targs := of_decide_eq_true (by kernel_rfl)
theorem c4 : Tryz.f3.isWrapper Tryz.checked.prog Rows.poseHingesUptoRow.wrapper Rows.poseHingesUptoRow.mainSum := by
 unfold Func.isWrapper; first | (rw [if_pos (by decide +kernel)]; kernel_rfl) | (rw [if_neg (by decide +kernel)]; exact ⟨rfl, rfl⟩)
theorem proved : Rows.PoseHingesUptoSaid :=
 OpenClaim.holds_of_cond 3 Tryz.f3 rfl rfl rfl rfl rfl rfl rfl ⟨rfl, rfl, rfl, rfl, rfl⟩ rfl rfl rfl rfl rfl c1 func3 facts c3 c4
   (fun os started H enc _ F => lifted os started H enc F)
end Go.Proofs.YtbdhgnlabjmnoaaGreat.poseHinges
